import Derived.Test.YtblcgjadhemlbaaGreatTWalk10
namespace Go.Proofs.YtblcgjadhemlbaaGreat
open Go.RowKit
set_option linter.unusedVariables false
set_option linter.unusedSimpArgs false
set_option maxRecDepth 10000
set_option maxHeartbeats 2000000
variable {N:Nat}{S:Nat→Prop}{L:List HP}{h:Aw}
theorem QK (hs:St S L h) {g:Value}{d:(List Int)}(c:Sl S h AN.int g d) {j:Int}(y:AE j) {r:(List Int)×(List Int)}(E:J3 N d j=some r):
 CL Tryz.prog 90 #[g,vI j] S h (λv S' h'=>∃I J:Value,v= .tuple #[I,J]∧St S' (OS AN.int 3 I r.1::OS AN.int 3 J r.2::L) h'):=by
 refine BF (l:=[g,vI j]) 39 Tryz.func90 O Tryz.ntmps90 O λB=>?_
 rw[J3] at E
 refine AH (AY O (AL O (kp [0,1] O) (WF.sl (AI 2 (AA O (Ak O c BR O λb1=>AG ?_))))))
 obtain⟨ak,E⟩:=MU E
 refine JD (r:=AN.int) (zx:=0) FJ O ⟨O,by unfold AE;omega⟩ O O ak O O hs λv3 h4 K M=>AI 1 (AY O (AG (AZ (kp [4,0,1] O) (AC (AC (Bt (.inl O) K (AA O (Bk O (AA O (AV 4 17 (.bool ((decide (0<j))&&(decide ((↑d.length:Int)≤64)))) ?_ ?_))))))))))
 ·cases c7:(decide (0<j))
  ·exact Aa O O
  exact AB O (AA O (AB O (Ak O (c.mono' M) BR O λb9=>AB O (Fv O (AJ O (AU O))))))
 refine AA O ?_
 obtain⟨al,i,E⟩:=bd E
 refine AV 3 21 (.bool al) ?_ ?_
 ·cases Q:((decide (0<j))&&(decide ((↑d.length:Int)≤64)))
  ·have i:=GM Q i
   cases i
   exact Aa O O
  have i:=GL Q i
  refine AB O (AA O (AB O ?_))
  obtain⟨a1,U,i⟩:=bd i
  refine A5 O O O ZT O (λh' o=>MO (St.all h') ((c.mono' M).mono' (o.all K.1)) U) (AJ O ?_)
  cases i
  exact AU O
 refine BQ (kp [21,4,0,1] O) λV u G=>Ga (λa w=>∃(H:List Int),IV B S V (39,[]) a w [(4,v3),(0,g)] (OS AN.int 3 v3 H::L) λ_ _=>GA N d H=some r) ?_ ?_
 ·refine AX O E (λam E=>?_) (λam E=>?_)
  ·refine WF.sl (AI 2 (AA O (AA O (AG ?_))))
   obtain⟨a2,W,E⟩:=bd E
   refine Bf O O O NG O u (Ek (St.all _) ((c.mono' (M.trans G)).mono (λb hb=>u.1 b hb) (λ_ _=>rfl)) W) λa3 a4 a5 x X a6 p=>?_
   obtain⟨rfl,an,ay⟩:=p
   refine AI 2 (NT O O O (AA O (AG ?_)))
   obtain⟨Y,Z,E⟩:=bd E
   refine Bf O O O aX O x (O0 (St.all _) (Kb y an) ((c.mono' (M.trans (G.trans X))).mono (λb hb=>x.1 b hb) (λ_ _=>rfl)) Z) λa7 a8 ab az ao ap p=>?_
   obtain⟨a9,rfl,ac⟩:=p
   have s:=x.join ap ac ⟨OS.flat (λ{_ _ _ _ _ _} k=>k),trivial⟩
   simp only[List.cons_append,List.nil_append] at s
   refine AI 5 (AA O (Bo O (Bo O (AY O (AY O (AG (AZ (kp [7,6,4,0] O) (AH (AA O (AM (kp [31,6,4,0] O) (Ga (λa w=>∃(z:List Int),IV B S ab (39,[]) a w [(4,v3),(0,g)] (OS AN.int 3 v3 z::L) λ_ _=>IX N (GA N d) z=some r) ?_ ?_)))))))))))
   ·refine AX O E (λaq E=>?_) (λaq E=>?_)
    ·refine EX (AI 2 (AA O (AA O (AG (SB (r:=AN.int) (l:=(List.replicate ((↑d.length:Int):Int).toNat (0:Int))) (xs:=Y.1) O O BR (St.src s mh) O s (.tail .head) λba ad ar=>AZ (kp [4,0] O) (WF.nil (λA C m n=>?_)))))))
     have ae:=ad.sel [1] 1 O
     exact⟨(Mw (List.replicate ((↑d.length:Int):Int).toNat (0:Int)) Y.1),_,_,m.sub (kp [4,0] O),n,ae,ar,E⟩
    refine AO (WF.nil (λA C m n=>?_))
    have af:=s.sel [1] 1 O
    exact⟨(List.replicate ((↑d.length:Int):Int).toNat (0:Int)),_,_,m.sub (kp [4,0] O),n,af,(B9.refl S ab),E⟩
   rintro A C ⟨z,bb,bc,m,n,ag,au,E⟩
   refine Ac ?_ m n
   clear m n C A
   rw[IX] at E
   refine WF.nil (λA C m n=>?_)
   exact⟨z,_,_,m.sub (kp [4,0] O),n,ag,(X.trans (ao.trans au)),E⟩
  refine AO (WF.nil (λA C m n=>?_))
  exact⟨(List.replicate ((↑d.length:Int):Int).toNat (0:Int)),_,_,m.sub (kp [4,0] O),n,u,(B9.refl S V),E⟩
 rintro A C ⟨H,be,bf,m,n,t,av,E⟩
 refine Ac ?_ m n
 clear m n C A
 rw[GA] at E
 refine WF.sl (AI 3 (AA O (AA O (AA O (AG ?_)))))
 have D:=M.trans (G.trans av)
 obtain⟨bg,ah,E⟩:=bd E
 refine Bf O O O ZP O t (LN (St.all _) ((c.mono' D).mono (λb hb=>t.1 b hb) (λ_ _=>rfl)) (t.oslAll mh) ah) λbh bi bj a0 aw ax p=>?_
 have ai:=p
 have F:=t.join ax ai ⟨OS.flat (λ{_ _ _ _ _ _} k=>k),trivial⟩
 simp only[List.cons_append,List.nil_append] at F
 refine AI 2 (AY O (AY O (AG (AZ (kp [5,4] O) (Ad (λA C m n=>?_))))))
 have aj:=F.sel [1,0] 0 O
 cases E
 exact KD m O n (IF (Ir m (v:=_) O) (IF (Ir m (v:=_) O) KC)) O (D.trans aw) ⟨_,_,O,aj⟩
theorem HX (hs:St S L h) {a:Value}{c:(List Int)}(d:Sl S h AN.int a c) {g:Value}{c1_:Int}(j:Pt S h AN.int g c1_) {r:(List Int)×(List Int)}(E:Ab N c1_ c=some r):
 CL Tryz.prog 89 #[a,g] S h (λv S' h'=>∃m n:Value,v= .tuple #[m,n]∧St S' (OS AN.int 3 m r.1::OS AN.int 3 n r.2::L) h'):=by
 refine BF (l:=[a,g]) 10 Tryz.func89 O Tryz.ntmps89 O λB=>?_
 rw[Ab] at E
 refine AH (AY O (AL O (kp [0,1] O) (WF.sl (AI 2 (AA O (Ag A6 hs.1 O j Ae O λw=>AG ?_))))))
 obtain⟨A,s,E⟩:=bd E
 refine Bf O O O eW O hs (QK (St.all _) (d.mono (λb hb=>hs.1 b hb) (λ_ _=>rfl)) w s) λC D F x y t p=>?_
 obtain⟨G,H,rfl,o⟩:=p
 have i:=hs.join t o ⟨OS.flat (λ{_ _ _ _ _ _} k=>k),⟨OS.flat (λ{_ _ _ _ _ _} k=>k),trivial⟩⟩
 simp only[List.cons_append,List.nil_append] at i
 refine AI 4 (Bo O (Bo O (AY O (AY O (AG (AZ (kp [4,3] O) (Ad (λI J u z=>?_))))))))
 cases E
 exact KD u O z (IF (Ir u (v:=_) O) (IF (Ir u (v:=_) O) KC)) O y ⟨_,_,O,i⟩
theorem NE (hs:St S L h) {c:Int}(i:AE c) {a:Int}(d:AE a) {b:Int}(g:AE b) {r:Int}(E:JE N c a b=some r):
 CL Tryz.prog 98 #[vI c,vI a,vI b] S h (λv S' h'=>v=vI r∧AE r∧St S' (L) h'):=by
 refine BF (l:=[vI c,vI a,vI b]) 21 Tryz.func98 O Tryz.ntmps98 O λB=>?_
 rw[JE] at E
 refine AH (AL O (kp [0,1,2] O) (AC (Bt (.inl O) hs (AA O (AA O (AA O ?_))))))
 obtain⟨j,m,E⟩:=bd E
 refine IC (v:= .tuple #[vI j.1,vI j.2.1,.bool j.2.2]) (Ψ:=AE j.1∧AE j.2.1) O O O TI O (λh' o=>(IB (St.all h') i d g m).mono λ_ _ _ _ p=>⟨p.1,⟨p.2.1,p.2.2.1⟩⟩) λu=>?_
 obtain⟨w,A⟩:=u
 refine AA O (Bo O (Bo O (Bo O (AY O (AY O (AY O (BQ (kp [9,7] O) λC k t=>AC (AH (AA O (BZ O (AM (kp [19,7] O) (AX O E (λx E=>?_) (λx E=>?_)))))))))))))
 ·refine AH (AL O (kp [6] O) (Ad (λy z q s=>?_)))
  cases E
  exact Dr q s O O t ⟨O,(iq (n:=0) O),k⟩
 refine AO (AH (AA O (AL O (kp [6] O) (Ad (λy z q s=>?_)))))
 cases E
 exact Dr q s O O t ⟨O,w,k⟩
theorem Nd (hs:St S L h) {b:Value}{k:A4}(j:Rd S h Bv b k) {a:Int}(d:AE a) {c:Int}(i:AE c) {r:Int}(E:Je N k a c=some r):
 CL Tryz.prog 86 #[b,vI a,vI c] S h (λv S' h'=>v=vI r∧AE r∧St S' (L) h'):=by
 refine BF (l:=[b,vI a,vI c]) 23 Tryz.func86 O Tryz.ntmps86 O λB=>?_
 rw[Je] at E
 refine WF.sl (B3 O j (λe=>by cases e) O hs λq1 S2 h3 g M m=>AI 1 (AY O (AG (AZ (kp [3,1,2] O) (AC (AH (Af O m A4.f_Kind GF O λq7 Q=>Ag A6 g.1 O Q Ae O λr9=>Bl O (AM (kp [9,3,1,2] O) (AX O E (λu E=>?_) (λu E=>?_))))))))))
 ·refine AH (AL O (kp [6] O) (Ad (λU V w x=>?_)))
  cases E
  exact Dr w x O O M ⟨O,(iq (n:=0) O),g⟩
 refine AO (AC (Bt (.inr ⟨mo,by kernel_rfl⟩) g (AA O (Af O m A4.f_Num IT O λW y=>Ag Bg g.1 O y Ae O λz=>Af O m A4.f_Den JK O λX A=>Ag Bg g.1 O A Ae O λC=>?_))))
 obtain⟨Y,p,E⟩:=bd E
 refine CX O O O ZO O (λh' o=>NE (St.all h') d z C p) λD=>?_
 have Z:=D
 refine AA O (Af O m IE Kl O λab F=>Ag Bg g.1 O F Ae O λG=>Af O m G7 J1 O λac H=>Ag Bg g.1 O H Ae O λI=>?_)
 obtain⟨ad,s,E⟩:=bd E
 refine CX O O O ZO O (λh' o=>NE (St.all h') i G I s) λJ=>?_
 have ae:=J
 refine Cz O (AY O (BQ (kp [6] O) λaf t K=>Ad (λU V w x=>?_)))
 cases E
 exact Dr w x O O (M.trans K) ⟨O,(BG _),t⟩
theorem M6 {j:Nat}{p0_w:An}{X:Value}{Y:Value}{H:Value}{Z:Value}{ab:Value}{ac:Value}{ae:Value}{af:Value}{J:Value}{K:Value}{M:Value}{Q:Value}{U:Value}{u:Value}{z:Value}{A:Value}{k:Value}{C:Value}{D:Value}{F:Value}{d:Value}{G:Value}(hs:St S (Bx j 84 [.string p0_w.b.Name,X,vI p0_w.b.Cells,Y,H,Z,ab,ac,ae,af,vI p0_w.b.Err,J,K,M,Q,U,vI p0_w.s.Hour,u,z,A,k,C,D,F,d,G]::OS (AN.sl AN.int) 29 u p0_w.s.Own::OS AN.int 3 z p0_w.s.Rem::OS Ar 60 A p0_w.s.Queue::OS BE 69 k p0_w.s.Gates::OS AN.int 3 C p0_w.s.In::OS AN.int 3 D p0_w.s.Out::OS BJ 50 F p0_w.moves::OS AN.int 3 d p0_w.peaks::OS Ar 60 G p0_w.sent::L) h) (ej:p0_w.b.Name.size≤maxLen) (ek:Sl S h AN.str X p0_w.b.Owners) (el:AE p0_w.b.Cells) (em:Sl S h B1 Y p0_w.b.Places) (an:Sl S h Bv H p0_w.b.Links) (en:Sl S h GQ Z p0_w.b.Towns) (eo:Sl S h EV ab p0_w.b.Gauges) (ep:Sl S h Fp ac p0_w.b.Roads) (eq:Sl S h Cx ae p0_w.b.Shelters) (er:Sl S h AN.int af p0_w.b.Room) (ce:AE p0_w.b.Err) (cf:Sl S h AN.int J p0_w.in_.Rain) (cg:Sl S h FM K p0_w.in_.Faults) (ch:Sl S h Ic M p0_w.in_.Cmds) (ci:Sl S h FO Q p0_w.in_.Takes) (cj:Sl S h GC U p0_w.in_.Swaps) (ck:AE p0_w.s.Hour) {I:Int}(ao:AE I) {r:(List AK)}(E:HG N p0_w I=some r):
 CL Tryz.prog 63 #[vP j 0,vI I] S h (λv S' h'=>St S' (OS Au 111 v r::Bx j 84 [.string p0_w.b.Name,X,vI p0_w.b.Cells,Y,H,Z,ab,ac,ae,af,vI p0_w.b.Err,J,K,M,Q,U,vI p0_w.s.Hour,u,z,A,k,C,D,F,d,G]::OS (AN.sl AN.int) 29 u p0_w.s.Own::OS AN.int 3 z p0_w.s.Rem::OS Ar 60 A p0_w.s.Queue::OS BE 69 k p0_w.s.Gates::OS AN.int 3 C p0_w.s.In::OS AN.int 3 D p0_w.s.Out::OS BJ 50 F p0_w.moves::OS AN.int 3 d p0_w.peaks::OS Ar 60 G p0_w.sent::L) h'):=by
 refine BF (l:=[vP j 0,vI I]) 141 Tryz.func63 O Tryz.ntmps63 O λB=>?_
 rw[HG] at E
 refine AH (AL O (kp [0,1] O) (AH (AL O (kp [5,0,1] O) (AC (AH (AA O (CN O O (AD GE O (AD HA O (AT A6 hs O mh O Jv O (Ak O an H6 O λb1=>AA O (AM (kp [15,14,13,5,0,1] O) (Aj (λa w=>∃(v2:Value) (l3:List AK),IV B S h (141,[]) a w [(5,v2)] (OS Au 111 v2 l3::Bx j 84 [.string p0_w.b.Name,X,vI p0_w.b.Cells,Y,H,Z,ab,ac,ae,af,vI p0_w.b.Err,J,K,M,Q,U,vI p0_w.s.Hour,u,z,A,k,C,D,F,d,G]::OS (AN.sl AN.int) 29 u p0_w.s.Own::OS AN.int 3 z p0_w.s.Rem::OS Ar 60 A p0_w.s.Queue::OS BE 69 k p0_w.s.Gates::OS AN.int 3 C p0_w.s.In::OS AN.int 3 D p0_w.s.Out::OS BJ 50 F p0_w.moves::OS AN.int 3 d p0_w.peaks::OS Ar 60 G p0_w.sent::L) λ_ _=>Ch N l3=some r) ?_ ?_)))))))))))))
 ·refine A3 (λn1=>λa w=>∃(v8:Value) (l9:List AK) (t:Int),IV B S h (141,[]) a w [(14,vI (↑p0_w.b.Links.length:Int)),(13,H),(0,vP j 0),(1,vI I),(5,v8),(15,vI t)] (OS Au 111 v8 l9::Bx j 84 [.string p0_w.b.Name,X,vI p0_w.b.Cells,Y,H,Z,ab,ac,ae,af,vI p0_w.b.Err,J,K,M,Q,U,vI p0_w.s.Hour,u,z,A,k,C,D,F,d,G]::OS (AN.sl AN.int) 29 u p0_w.s.Own::OS AN.int 3 z p0_w.s.Rem::OS Ar 60 A p0_w.s.Queue::OS BE 69 k p0_w.s.Gates::OS AN.int 3 C p0_w.s.In::OS AN.int 3 D p0_w.s.Out::OS BJ 50 F p0_w.moves::OS AN.int 3 d p0_w.peaks::OS Ar 60 G p0_w.sent::L) λ_ _=>AE t∧Be N p0_w I (Ch N) n1 l9 t=some r) N ?_ ?_ ?_
  ·intro aa ww hf hw
   have es:=hs.nil Au 111
   exact⟨(vN),([]:List AK),0,_,_,hf.sub (kp [14,13,0,1,5,15] O),hw,es,(B9.refl S h),(iq (n:=0) O),E⟩
  ·rintro aa ww ⟨_,_,_,_,_,_,_,_,_,_,E⟩
   rw[Be] at E;cases E
  rintro n1 aa ww ⟨v8,l9,t,am,le,hf,hw,a4,cl,bl,E⟩
  refine Ac ?_ hf hw
  clear hf hw ww aa
  rw[Be] at E
  refine AH (Ao O (AM (kp [16,14,13,0,1,5,15] O) (AC (AX O E (λlf E=>?_) (λlf E=>?_)))))
  ·refine AO (AC (Aj (λa w=>∃(bm:Value) (bn:List AK),IV B am le (141,[]) a w [(14,vI (↑p0_w.b.Links.length:Int)),(13,H),(0,vP j 0),(1,vI I),(15,vI t),(5,bm)] (OS Au 111 bm bn::Bx j 84 [.string p0_w.b.Name,X,vI p0_w.b.Cells,Y,H,Z,ab,ac,ae,af,vI p0_w.b.Err,J,K,M,Q,U,vI p0_w.s.Hour,u,z,A,k,C,D,F,d,G]::OS (AN.sl AN.int) 29 u p0_w.s.Own::OS AN.int 3 z p0_w.s.Rem::OS Ar 60 A p0_w.s.Queue::OS BE 69 k p0_w.s.Gates::OS AN.int 3 C p0_w.s.In::OS AN.int 3 D p0_w.s.Out::OS BJ 50 F p0_w.moves::OS AN.int 3 d p0_w.peaks::OS Ar 60 G p0_w.sent::L) λ_ _=>C5 N t (Be N p0_w I (Ch N) n1) bn=some r) ?_ ?_))
   ·refine WF.sl (AI 3 (AA O ?_))
    obtain⟨c,et,E⟩:=bd E
    refine A9 O O (an.mono' cl) H6 et O λpf lg=>B6 A6 a4.1 O lg HW (λe=>by cases e) O λpg lh=>AG (Cn OQ O a4 λai ph eu a5=>AI 1 (AY O (AG ?_)))
    obtain⟨ap,aq,ar,rfl,cm,cn,a6,a2,bo,bp,bq,co,cp,cq,cr,ct,cu,cv,cw,cx,cy,a3⟩:=Bv.ex (lh.mono a5)
    refine HM (vs:=[.string c.Name,vI c.Kind,vI c.From,vI c.To,ap,aq,ar,vI c.Positions,vI c.Speed,vI c.Leak,vI c.Crest,vI c.Num,vI c.Den,vI c.Prime,vI c.Break,vI c.BackNum,vI c.BackDen,vI c.Delay]) (cs':=[.string c.Name,vI c.Kind,vI c.From,vI c.To,ap,aq,ar,vI c.Positions,vI c.Speed,vI c.Leak,vI c.Crest,vI c.Num,vI c.Den,vI c.Prime,vI c.Break,vI c.BackNum,vI c.BackDen,vI c.Delay]) O O O (AF O (AF O (AF O (AF O (AF bo.one (AF bp.one (AF bq.one (AF O (AF O (AF O (AF O (AF O (AF O (AF O (AF O (AF O (AF O (AF O EG)))))))))))))))))) HW O eu .head O O λau g ak=>AZ (kp [6,7,14,13,0,1,5,15] O) (A8 (AH (AD JJ O (AT A6 g O mh O Ae O (AA O (BK O (AA O (AV 4 29 (.bool ((decide (c.From=I))&&(decide (c.Kind≠4)))) ?_ ?_))))))))
    ·cases pi:(decide (c.From=I))
     ·exact Aa O O
     exact AB O (AD GF O (AB O (AT A6 g O mh O Ae O (AB O (Bl O (AJ O (AU O)))))))
    refine AL O (kp [20,6,7,14,13,0,1,5,15] O) (AX O E (λli E=>?_) (λli E=>?_))
    ·refine AH (AL O (kp [8,6,7,14,13,0,1,5,15] O) (AC (AH (AD Ht O (AT A6 g O mh O Ae O (Bl O (AM (kp [32,8,6,7,14,13,0,1,5,15] O) (Ga (λa w=>∃(aw:Int),IV B am au (141,[]) a w [(6,vI t),(7,vP ai 0),(14,vI (↑p0_w.b.Links.length:Int)),(13,H),(0,vP j 0),(1,vI I),(5,v8),(15,vI t),(8,vI aw)] (Bx ai 67 [.string c.Name,vI c.Kind,vI c.From,vI c.To,ap,aq,ar,vI c.Positions,vI c.Speed,vI c.Leak,vI c.Crest,vI c.Num,vI c.Den,vI c.Prime,vI c.Break,vI c.BackNum,vI c.BackDen,vI c.Delay]::OS Au 111 v8 l9::Bx j 84 [.string p0_w.b.Name,X,vI p0_w.b.Cells,Y,H,Z,ab,ac,ae,af,vI p0_w.b.Err,J,K,M,Q,U,vI p0_w.s.Hour,u,z,A,k,C,D,F,d,G]::OS (AN.sl AN.int) 29 u p0_w.s.Own::OS AN.int 3 z p0_w.s.Rem::OS Ar 60 A p0_w.s.Queue::OS BE 69 k p0_w.s.Gates::OS AN.int 3 C p0_w.s.In::OS AN.int 3 D p0_w.s.Out::OS BJ 50 F p0_w.moves::OS AN.int 3 d p0_w.peaks::OS Ar 60 G p0_w.sent::L) λ_ _=>AE aw∧F8 N p0_w I l9 t c (C5 N t (Be N p0_w I (Ch N) n1)) aw=some r) ?_ ?_))))))))
     ·refine AX O E (λlj E=>?_) (λlj E=>?_)
      ·refine BY (.inr ⟨mo,by kernel_rfl⟩) (AA O (CN O O (AD Jl O (AT A6 g O (mt (mt mh)) O BX O (AD Ht O (AT A6 g O mh O Ae O ?_))))))
       obtain⟨pj,ev,E⟩:=bd E
       refine A0 g (mt (mt (mt (mt (mt (mt (mt (mt (mt (mt mh)))))))))) O O BR ev O λpk ew=>?_
       obtain⟨ll,ey,E⟩:=bd E
       have lm:=g.epAt (mt (mt (mt (mt (mt (mt (mt (mt (mt (mt mh)))))))))) ey FL.id ew
       refine Ag A6 (λ_ x=>x) O lm Ae O λlo=>AL O (kp [8,6,7,14,13,0,1,5,15] O) (WF.nil (λaa ww hf hw=>?_))
       exact⟨ll,_,_,hf.sub (kp [6,7,14,13,0,1,5,15,8] O),hw,g,(B9.refl am au),lo,E⟩
      refine AO (WF.nil (λaa ww hf hw=>?_))
      exact⟨0,_,_,hf.sub (kp [6,7,14,13,0,1,5,15,8] O),hw,g,(B9.refl am au),(iq (n:=0) O),E⟩
     rintro aa ww ⟨aw,a7,br,hf,hw,V,ez,lp,E⟩
     refine Ac ?_ hf hw
     clear hf hw ww aa
     rw[F8] at E
     obtain⟨pl,e0,E⟩:=bd E
     obtain⟨e1,e2,E⟩:=bd E
     obtain⟨pm,e3,E⟩:=bd E
     obtain⟨e4,e5,E⟩:=bd E
     obtain⟨e6,e7,E⟩:=bd E
     obtain⟨aj,e8,E⟩:=bd E
     refine NH (m:=[(6,vI t),(7,vP ai 0),(14,vI (↑p0_w.b.Links.length:Int)),(13,H),(0,vP j 0),(1,vI I),(5,v8),(15,vI t),(8,vI aw)]) 27 (λi v hh=>match i with|0=>v=v8|1=>v=vP ai 3|2=>v=vI c.To∧AE c.To|3=>v=vP ai 17|4=>v=vI c.Delay∧AE c.Delay|5=>v=vI t∧AE t|6=>v= .agg #[.string c.Name,vI c.Kind,vI c.From,vI c.To,ap,aq,ar,vI c.Positions,vI c.Speed,vI c.Leak,vI c.Crest,vI c.Num,vI c.Den,vI c.Prime,vI c.Break,vI c.BackNum,vI c.BackDen,vI c.Delay]∧c.Name.size≤maxLen∧AE c.Kind∧AE c.From∧AE c.To∧AE c.Positions∧AE c.Speed∧AE c.Leak∧AE c.Crest∧AE c.Num∧AE c.Den∧AE c.Prime∧AE c.Break∧AE c.BackNum∧AE c.BackDen∧AE c.Delay|7=>v=vP j 0|8=>v=vP j 0|9=>v=vP j 16|10=>v=vP j 20|11=>v=k|12=>v=vI t∧AE t|13=>EP k (t.toNat*(BE).sz+0) v|14=>Rd a7 hh BE v e1|15=>v=vP j 0|16=>v=vP j 0|17=>v=vP j 24|18=>v=d|19=>v=vI I∧AE I|20=>EP d (I.toNat*(AN.int).sz+0) v|21=>v=vI e4∧AE e4|22=>v=vI aw∧AE aw|23=>v=vI e6∧AE e6|24=>Rd (SN a7 br hh) hh (AN.fnr Tryz.prog (λS h vs (x:(List Int))=>∃W:Value,vs=[W]∧Sl S h AN.int W x) (λS h v (y:((List Int)×(List Int)))=>∃W w1:Value,v= .tuple #[W,w1]∧Sl S h AN.int W y.1∧Sl S h AN.int w1 y.2)) v (λx=>Ab N aj x)|25=>Rd (SN a7 br hh) hh Au v (⟨c.To,c.Delay,t,(λx=>Ab N aj x)⟩:AK)|26=>Sl (SN a7 br hh) hh Au v ([(⟨c.To,c.Delay,t,(λx=>Ab N aj x)⟩:AK)]:List AK)∧∃ad,v= .slice (some ad) 1 1|_=>False) [[],[],[(1,42)],[],[(3,44)],[],[],[],[(7,48)],[(8,49)],[(9,50)],[(10,51)],[],[(11,52),(12,53)],[(13,54)],[],[(15,56)],[(16,57)],[(17,58)],[],[(18,59),(19,60)],[(20,61)],[],[(6,47),(14,55),(21,62),(22,63)],[(23,64)],[(2,43),(4,45),(5,46),(24,65)],[(25,66)]] [(0,41),(26,67)] mo (by kernel_rfl) [6,7,14,13,0,1,5,15,8] O (by kernel_rfl) (by kernel_rfl) (by kernel_rfl) (kp [6,7,14,13,0,1,5,15,8] O) (λi v h1 h2 o1 o2 hr=>?_) ?_ ?_
     ·match i,hr with
       |0,hr|1,hr|2,hr|3,hr|4,hr|5,hr|6,hr|7,hr|8,hr|9,hr|10,hr|11,hr|12,hr|13,hr|15,hr|16,hr|17,hr|18,hr|19,hr|20,hr|21,hr|22,hr|23,hr=>exact hr
       |14,hr=>exact Rd.mono hr (o2.ext λb hb=>Nat.lt_of_lt_of_le (V.1 b hb) o1.siz)
       |24,hr|25,hr=>exact Rd.mono hr (SN.mono V.1 o1 o2)
       |26,hr=>exact⟨Sl.mono' hr.1 (SN.mono V.1 o1 o2),hr.2⟩
       |_+27,hr=>exact hr.elim
     ·refine A7.cons O (λ_ _ _=>AI 1 (AA O (AQ O))) (A7.cons O (λ_ _ _=>AI 1 (AD Ht O (AQ O))) (A7.cons O (λ_ _ o _ e9=>by cases e9;exact AI 1 (AT A6 (o.st V) O mh O Ae O (AQ ⟨O,a2⟩))) (A7.cons O (λ_ _ _=>AI 1 (AD Ns O (AQ O))) (A7.cons O (λ_ _ o _ fa=>by cases fa;exact AI 1 (AT A6 (o.st V) O mh O Ae O (AQ ⟨O,a3⟩))) (A7.cons O (λ_ _ _=>AI 1 (AA O (AQ ⟨O,bl⟩))) (A7.cons O (λ_ _ o=>AI 1 (Dk (vs:=[.string c.Name,vI c.Kind,vI c.From,vI c.To,ap,aq,ar,vI c.Positions,vI c.Speed,vI c.Leak,vI c.Crest,vI c.Num,vI c.Den,vI c.Prime,vI c.Break,vI c.BackNum,vI c.BackDen,vI c.Delay]) A6 (o.st V) O mh O O HW O O (AQ ⟨O,cm,cn,a6,a2,co,cp,cq,cr,ct,cu,cv,cw,cx,cy,a3⟩))) (A7.cons O (λ_ _ _=>AI 1 (AA O (AQ O))) (A7.cons O (λ_ _ _ _ fb=>by cases fb;exact AI 1 (CN O O (AQ O))) (A7.cons O (λ_ _ _ _ fc=>by cases fc;exact AI 1 (AD CZ O (AQ O))) (A7.cons O (λ_ _ _ _ fd=>by cases fd;exact AI 1 (AD Hw O (AQ O))) (A7.cons O (λ_ _ o _ fe=>by cases fe;exact AI 1 (AT A6 (o.st V) O (mt (mt mh)) O Ke O (AQ O))) ?_)))))))))))
      refine A7.cons O (λ_ _ _=>AI 1 (AA O (AQ ⟨O,bl⟩))) (A7.cons O (λ_ _ o=>by intro l8 ff ma fg;cases ff;obtain ⟨rfl,mb⟩:=fg;exact AI 1 (A0 (o.st V) (mt (mt (mt (mt (mt (mt mh)))))) O O KJ e0 O λmc cz=>AQ cz)) ?_)
      refine A7.cons O ?_ ?_
      ·intro mq hh o
       intro md fh
       have hsN:=o.st V
       refine AI 1 ?_
       have fi:=hsN.epAt (mt (mt (mt (mt (mt (mt mh)))))) e2 FL.id fh
       exact B6 A6 (λ_ x=>x) O fi Gn (λe=>by cases e) O λme fj=>AQ fj
      refine A7.cons O (λ_ _ _=>AI 1 (AA O (AQ O))) (A7.cons O (λ_ _ _ _ fk=>by cases fk;exact AI 1 (CN O O (AQ O))) (A7.cons O (λ_ _ _ _ fl=>by cases fl;exact AI 1 (AD Jl O (AQ O))) (A7.cons O (λ_ _ o _ fm=>by cases fm;exact AI 1 (AT A6 (o.st V) O (mt (mt mh)) O BX O (AQ O))) (A7.cons O (λ_ _ _=>AI 1 (AA O (AQ ⟨O,ao⟩))) (A7.cons O (λ_ _ o=>by intro mf fn mg fo;cases fn;obtain ⟨rfl,mi⟩:=fo;exact AI 1 (A0 (o.st V) (mt (mt (mt (mt (mt (mt (mt (mt (mt (mt mh)))))))))) O O BR e3 O λmj c0=>AQ c0)) ?_)))))
      refine A7.cons O ?_ ?_
      ·intro mq hh o
       intro ml fp
       have hsN:=o.st V
       refine AI 1 ?_
       have fq:=hsN.epAt (mt (mt (mt (mt (mt (mt (mt (mt (mt (mt mh)))))))))) e5 FL.id fp
       exact Ag A6 (λ_ x=>x) O fq Ae O λfr=>AQ ⟨O,fr⟩
      refine A7.cons O (λ_ _ _=>AI 1 (AA O (AQ ⟨O,lp⟩))) ?_
      refine A7.cons O ?_ ?_
      ·intro mq hh o
       intro mm fs ft av mn fu mp fv
       have hsN:=SN.st V o
       obtain⟨rfl,fw,fx,fy,f0,f1,f2,f3,f4,f5,f6,f7,f8,f9,ga,gb⟩:=fs
       have av:=Rd.mono (S':=(SN a7 br hh)) av ⟨λb hb=> .inl hb,λ_ _=>rfl,Nat.le_refl _⟩
       have av:Rd _ _ BE ft e1:=av
       obtain⟨rfl,gc⟩:=fu
       obtain⟨rfl,gd⟩:=fv
       have ax:=ak.trans (ez.trans (SN.ext V.1 o))
       refine Bf O O O eY O hsN (Rc (St.all _) (Bv.mk (x:=c) fw fx fy f0 ((bo.mono' ax).mono (λb hb=>hsN.1 b hb) (λ_ _=>rfl)) ((bp.mono' ax).mono (λb hb=>hsN.1 b hb) (λ_ _=>rfl)) ((bq.mono' ax).mono (λb hb=>hsN.1 b hb) (λ_ _=>rfl)) f1 f2 f3 f4 f5 f6 f7 f8 f9 ga gb) (av.mono ⟨λb hb=>hsN.1 b hb,λ_ _=>rfl,Nat.le_refl _⟩) gc gd e7) λmr ms mu lq mv bs p=>?_
       obtain⟨rfl,ge,lr⟩:=p
       exact C1 ⟨bs.siz,λb hb=>bs.same b hb⟩ ⟨O,ge⟩
      refine A7.cons O ?_ ?_
      ·intro mq hh o
       intro mw gf
       have hsN:=SN.st V o
       obtain⟨rfl,gg⟩:=gf
       have hsF:=hsN.fz
       refine Ct O O O TJ O (IS hsF gg e8) λmx gh gi gj p=>?_
       obtain⟨bt,rfl,gk,c1⟩:=p
       have c2:Rd gh gi (AN.fnr Tryz.prog (λS h vs (x:(List Int))=>∃W:Value,vs=[W]∧Sl S h AN.int W x) (λS h v (y:((List Int)×(List Int)))=>∃W w1:Value,v= .tuple #[W,w1]∧Sl S h AN.int W y.1∧Sl S h AN.int w1 y.2)) (.func (.func 89) #[] #[bt]) (λx=>Ab N aj x):=J9 89 #[bt] TH λS' h' s' e' L hs x y vs h1 h2=>by obtain⟨W,rfl,a0⟩:=h1;exact Ml (HX hs a0 (gk.mono'' s' e') h2)
       have a8:=Fz.done o gj c1
       exact C1 a8.1 (Rd.mono c2 a8.2)
      refine A7.cons O ?_ ?_
      ·intro mq hh o
       intro my gl mz gm m0 gn gp ay
       have hsN:=SN.st V o
       obtain⟨rfl,gq⟩:=gl
       obtain⟨rfl,gr⟩:=gm
       obtain⟨rfl,gs⟩:=gn
       have ay:Rd _ _ (AN.fnr Tryz.prog (λS h vs (x:(List Int))=>∃W:Value,vs=[W]∧Sl S h AN.int W x) (λS h v (y:((List Int)×(List Int)))=>∃W w1:Value,v= .tuple #[W,w1]∧Sl S h AN.int W y.1∧Sl S h AN.int w1 y.2)) gp (λx=>Ab N aj x):=ay
       refine AI 1 ?_
       obtain⟨c3,c4,rfl,ls,lt⟩:=ay.fnr
       exact H1 (cs:=[vI c.To,vI c.Delay,vI t,(.func (.func c3) #[] c4)]) OD O O O (AQ (Au.mk (x:=(⟨c.To,c.Delay,t,(λx=>Ab N aj x)⟩:AK)) gq gr gs ay))
      refine A7.cons O ?_ ?_
      ·intro mq hh o
       intro gt a9
       have hsN:=SN.st V o
       have a9:Rd _ _ Au gt (⟨c.To,c.Delay,t,(λx=>Ab N aj x)⟩:AK):=a9
       have hsF:=hsN.fz
       obtain⟨gu,rfl,gv,gw,gx,gy⟩:=Au.ex a9
       refine D0 (cs:=[vI ((⟨c.To,c.Delay,t,(λx=>Ab N aj x)⟩:AK).to_),vI ((⟨c.To,c.Delay,t,(λx=>Ab N aj x)⟩:AK).delay),vI ((⟨c.To,c.Delay,t,(λx=>Ab N aj x)⟩:AK).way),gu]) LC O O O O O O O hsF λm1 m2 c5 bu=>?_
       have gz:=gy.mono bu
       have c6:=c5.bxos (r:=Au) (l:=([(⟨c.To,c.Delay,t,(λx=>Ab N aj x)⟩:AK)]:List AK)) .head ⟨_,_,O,⟨_,O,gv,gw,gx,gz⟩,O⟩ (by simp [maxLen])
       obtain⟨m3,c7,g0,g1⟩:=c6.pubs .head
       have ba:=Fz.done o (bu.trans g0) c7
       exact C1 ba.1 ⟨Sl.mono' g1 ba.2,_,O⟩
      exact trivial
     intro m4 bv m5 g2 m6 bb
     have c8:=SN.st V bv
     cases g2
     obtain⟨bb,lu,rfl⟩:=bb
     obtain⟨c9,E⟩:=MU E
     refine JT (r:=Au) (l:=l9) (xs:=([(⟨c.To,c.Delay,t,(λx=>Ab N aj x)⟩:AK)]:List AK)) O O LC O (Sl.src bb) O c9 O c8 (λ_=>(.tail .head)) λg3 m7 da g4=>AI 1 (AY O (AG (AZ (kp [5,14,13,0,1,15] O) (BP (WF.nil (λaa ww hf hw=>?_))))))
     have db:=da.sel [1,1,1,1,1,1,1,1,1,1,1] 1 O
     exact⟨g3,(l9++([(⟨c.To,c.Delay,t,(λx=>Ab N aj x)⟩:AK)]:List AK)),_,_,hf.sub (kp [14,13,0,1,15,5] O),hw,db,(a5.trans (ak.trans (ez.trans ((SN.ext V.1 bv).trans g4)))),E⟩
    refine AH (AD JJ O (AT A6 g O mh O Ae O (AA O (BK O (AL O (kp [69,6,7,14,13,0,1,5,15] O) (AX O E (λg5 E=>?_) (λg5 E=>?_)))))))
    ·obtain ⟨m8,dc,E⟩:=bd E
     obtain⟨bw,dd,E⟩:=bd E
     obtain⟨m9,de,E⟩:=bd E
     obtain⟨bx,df,E⟩:=bd E
     obtain⟨bz,dg,E⟩:=bd E
     obtain⟨ag,dh,E⟩:=bd E
     refine NH (m:=[(6,vI t),(7,vP ai 0),(14,vI (↑p0_w.b.Links.length:Int)),(13,H),(0,vP j 0),(1,vI I),(5,v8),(15,vI t)]) 26 (λi v hh=>match i with|0=>v=v8|1=>v=vP ai 3|2=>v=vI c.To∧AE c.To|3=>v=vP ai 17|4=>v=vI c.Delay∧AE c.Delay|5=>v=vI t∧AE t|6=>v= .agg #[.string c.Name,vI c.Kind,vI c.From,vI c.To,ap,aq,ar,vI c.Positions,vI c.Speed,vI c.Leak,vI c.Crest,vI c.Num,vI c.Den,vI c.Prime,vI c.Break,vI c.BackNum,vI c.BackDen,vI c.Delay]∧c.Name.size≤maxLen∧AE c.Kind∧AE c.From∧AE c.To∧AE c.Positions∧AE c.Speed∧AE c.Leak∧AE c.Crest∧AE c.Num∧AE c.Den∧AE c.Prime∧AE c.Break∧AE c.BackNum∧AE c.BackDen∧AE c.Delay|7=>v=vP j 0|8=>v=vP j 0|9=>v=vP j 24|10=>v=d|11=>v=vI I∧AE I|12=>EP d (I.toNat*(AN.int).sz+0) v|13=>v=vI bw∧AE bw|14=>v=vP j 0|15=>v=vP j 0|16=>v=vP j 24|17=>v=d|18=>v=vP ai 3|19=>v=vI c.To∧AE c.To|20=>EP d (c.To.toNat*(AN.int).sz+0) v|21=>v=vI bx∧AE bx|22=>v=vI bz∧AE bz|23=>Rd (SN am au hh) hh (AN.fnr Tryz.prog (λS h vs (x:(List Int))=>∃W:Value,vs=[W]∧Sl S h AN.int W x) (λS h v (y:((List Int)×(List Int)))=>∃W w1:Value,v= .tuple #[W,w1]∧Sl S h AN.int W y.1∧Sl S h AN.int w1 y.2)) v (λx=>Ab N ag x)|24=>Rd (SN am au hh) hh Au v (⟨c.To,c.Delay,t,(λx=>Ab N ag x)⟩:AK)|25=>Sl (SN am au hh) hh Au v ([(⟨c.To,c.Delay,t,(λx=>Ab N ag x)⟩:AK)]:List AK)∧∃ad,v= .slice (some ad) 1 1|_=>False) [[],[],[(1,75)],[],[(3,77)],[],[],[],[(7,81)],[(8,82)],[(9,83)],[],[(10,84),(11,85)],[(12,86)],[],[(14,88)],[(15,89)],[(16,90)],[],[(18,92)],[(17,91),(19,93)],[(20,94)],[(6,80),(13,87),(21,95)],[(22,96)],[(2,76),(4,78),(5,79),(23,97)],[(24,98)]] [(0,74),(25,99)] mo (by kernel_rfl) [6,7,14,13,0,1,5,15] O (by kernel_rfl) (by kernel_rfl) (by kernel_rfl) (kp [6,7,14,13,0,1,5,15] O) (λi v h1 h2 o1 o2 hr=>?_) ?_ ?_
     ·match i,hr with
       |0,hr|1,hr|2,hr|3,hr|4,hr|5,hr|6,hr|7,hr|8,hr|9,hr|10,hr|11,hr|12,hr|13,hr|14,hr|15,hr|16,hr|17,hr|18,hr|19,hr|20,hr|21,hr|22,hr=>exact hr
       |23,hr|24,hr=>exact Rd.mono hr (SN.mono g.1 o1 o2)
       |25,hr=>exact⟨Sl.mono' hr.1 (SN.mono g.1 o1 o2),hr.2⟩
       |_+26,hr=>exact hr.elim
     ·refine A7.cons O (λ_ _ _=>AI 1 (AA O (AQ O))) (A7.cons O (λ_ _ _=>AI 1 (AD Ht O (AQ O))) (A7.cons O (λ_ _ o _ g6=>by cases g6;exact AI 1 (AT A6 (o.st g) O mh O Ae O (AQ ⟨O,a2⟩))) (A7.cons O (λ_ _ _=>AI 1 (AD Ns O (AQ O))) (A7.cons O (λ_ _ o _ g7=>by cases g7;exact AI 1 (AT A6 (o.st g) O mh O Ae O (AQ ⟨O,a3⟩))) (A7.cons O (λ_ _ _=>AI 1 (AA O (AQ ⟨O,bl⟩))) (A7.cons O (λ_ _ o=>AI 1 (Dk (vs:=[.string c.Name,vI c.Kind,vI c.From,vI c.To,ap,aq,ar,vI c.Positions,vI c.Speed,vI c.Leak,vI c.Crest,vI c.Num,vI c.Den,vI c.Prime,vI c.Break,vI c.BackNum,vI c.BackDen,vI c.Delay]) A6 (o.st g) O mh O O HW O O (AQ ⟨O,cm,cn,a6,a2,co,cp,cq,cr,ct,cu,cv,cw,cx,cy,a3⟩))) (A7.cons O (λ_ _ _=>AI 1 (AA O (AQ O))) (A7.cons O (λ_ _ _ _ g8=>by cases g8;exact AI 1 (CN O O (AQ O))) (A7.cons O (λ_ _ _ _ g9=>by cases g9;exact AI 1 (AD Jl O (AQ O))) (A7.cons O (λ_ _ o _ ha=>by cases ha;exact AI 1 (AT A6 (o.st g) O (mt (mt mh)) O BX O (AQ O))) (A7.cons O (λ_ _ _=>AI 1 (AA O (AQ ⟨O,ao⟩))) ?_)))))))))))
      refine A7.cons O (λ_ _ o=>by intro na hc nb hd;cases hc;obtain ⟨rfl,nd⟩:=hd;exact AI 1 (A0 (o.st g) (mt (mt (mt (mt (mt (mt (mt (mt (mt (mt mh)))))))))) O O BR dc O λne di=>AQ di)) ?_
      refine A7.cons O ?_ ?_
      ·intro mq hh o
       intro nf he
       have hsN:=o.st g
       refine AI 1 ?_
       have hg:=hsN.epAt (mt (mt (mt (mt (mt (mt (mt (mt (mt (mt mh)))))))))) dd FL.id he
       exact Ag A6 (λ_ x=>x) O hg Ae O λhi=>AQ ⟨O,hi⟩
      refine A7.cons O (λ_ _ _=>AI 1 (AA O (AQ O))) (A7.cons O (λ_ _ _ _ hj=>by cases hj;exact AI 1 (CN O O (AQ O))) (A7.cons O (λ_ _ _ _ hk=>by cases hk;exact AI 1 (AD Jl O (AQ O))) (A7.cons O (λ_ _ o _ hl=>by cases hl;exact AI 1 (AT A6 (o.st g) O (mt (mt mh)) O BX O (AQ O))) (A7.cons O (λ_ _ _=>AI 1 (AD Ht O (AQ O))) (A7.cons O (λ_ _ o _ hm=>by cases hm;exact AI 1 (AT A6 (o.st g) O mh O Ae O (AQ ⟨O,a2⟩))) (A7.cons O (λ_ _ o=>by intro ng hn nh ho;cases hn;obtain ⟨rfl,ni⟩:=ho;exact AI 1 (A0 (o.st g) (mt (mt (mt (mt (mt (mt (mt (mt (mt (mt mh)))))))))) O O BR de O λnj dj=>AQ dj)) ?_))))))
      refine A7.cons O ?_ ?_
      ·intro mq hh o
       intro nk hp
       have hsN:=o.st g
       refine AI 1 ?_
       have hq:=hsN.epAt (mt (mt (mt (mt (mt (mt (mt (mt (mt (mt mh)))))))))) df FL.id hp
       exact Ag A6 (λ_ x=>x) O hq Ae O λht=>AQ ⟨O,ht⟩
      refine A7.cons O ?_ ?_
      ·intro mq hh o
       intro nl hu nm hv nn hx
       have hsN:=SN.st g o
       obtain⟨rfl,hy,hz,h0,h3,h4,h5,h6,h7,h8,h9,ia,ib,ic,ie,ig⟩:=hu
       obtain⟨rfl,ih⟩:=hv
       obtain⟨rfl,ii⟩:=hx
       refine Bf O O O ZU O hsN (Nd (St.all _) (Bv.mk (x:=c) hy hz h0 h3 ((bo.mono' (ak.trans (SN.ext g.1 o))).mono (λb hb=>hsN.1 b hb) (λ_ _=>rfl)) ((bp.mono' (ak.trans (SN.ext g.1 o))).mono (λb hb=>hsN.1 b hb) (λ_ _=>rfl)) ((bq.mono' (ak.trans (SN.ext g.1 o))).mono (λb hb=>hsN.1 b hb) (λ_ _=>rfl)) h4 h5 h6 h7 h8 h9 ia ib ic ie ig) ih ii dg) λno np nq lv nr b0 p=>?_
       obtain⟨rfl,ij,lw⟩:=p
       exact C1 ⟨b0.siz,λb hb=>b0.same b hb⟩ ⟨O,ij⟩
      refine A7.cons O ?_ ?_
      ·intro mq hh o
       intro ns ik
       have hsN:=SN.st g o
       obtain⟨rfl,il⟩:=ik
       have hsF:=hsN.fz
       refine Ct O O O TJ O (IS hsF il dh) λnt im io ip p=>?_
       obtain⟨b2,rfl,ir,dk⟩:=p
       have dl:Rd im io (AN.fnr Tryz.prog (λS h vs (x:(List Int))=>∃W:Value,vs=[W]∧Sl S h AN.int W x) (λS h v (y:((List Int)×(List Int)))=>∃W w1:Value,v= .tuple #[W,w1]∧Sl S h AN.int W y.1∧Sl S h AN.int w1 y.2)) (.func (.func 89) #[] #[b2]) (λx=>Ab N ag x):=J9 89 #[b2] TH λS' h' s' e' L hs x y vs h1 h2=>by obtain⟨W,rfl,a0⟩:=h1;exact Ml (HX hs a0 (ir.mono'' s' e') h2)
       have bc:=Fz.done o ip dk
       exact C1 bc.1 (Rd.mono dl bc.2)
      refine A7.cons O ?_ ?_
      ·intro mq hh o
       intro nu it nv iu nw iv iw az
       have hsN:=SN.st g o
       obtain⟨rfl,iy⟩:=it
       obtain⟨rfl,iz⟩:=iu
       obtain⟨rfl,i0⟩:=iv
       have az:Rd _ _ (AN.fnr Tryz.prog (λS h vs (x:(List Int))=>∃W:Value,vs=[W]∧Sl S h AN.int W x) (λS h v (y:((List Int)×(List Int)))=>∃W w1:Value,v= .tuple #[W,w1]∧Sl S h AN.int W y.1∧Sl S h AN.int w1 y.2)) iw (λx=>Ab N ag x):=az
       refine AI 1 ?_
       obtain⟨dm,dn,rfl,lx,ly⟩:=az.fnr
       exact H1 (cs:=[vI c.To,vI c.Delay,vI t,(.func (.func dm) #[] dn)]) OD O O O (AQ (Au.mk (x:=(⟨c.To,c.Delay,t,(λx=>Ab N ag x)⟩:AK)) iy iz i0 az))
      refine A7.cons O ?_ ?_
      ·intro mq hh o
       intro i1 be
       have hsN:=SN.st g o
       have be:Rd _ _ Au i1 (⟨c.To,c.Delay,t,(λx=>Ab N ag x)⟩:AK):=be
       have hsF:=hsN.fz
       obtain⟨i2,rfl,i3,i4,i5,i6⟩:=Au.ex be
       refine D0 (cs:=[vI ((⟨c.To,c.Delay,t,(λx=>Ab N ag x)⟩:AK).to_),vI ((⟨c.To,c.Delay,t,(λx=>Ab N ag x)⟩:AK).delay),vI ((⟨c.To,c.Delay,t,(λx=>Ab N ag x)⟩:AK).way),i2]) LC O O O O O O O hsF λnx ny dp b3=>?_
       have i7:=i6.mono b3
       have dq:=dp.bxos (r:=Au) (l:=([(⟨c.To,c.Delay,t,(λx=>Ab N ag x)⟩:AK)]:List AK)) .head ⟨_,_,O,⟨_,O,i3,i4,i5,i7⟩,O⟩ (by simp [maxLen])
       obtain⟨nz,dr,i8,i9⟩:=dq.pubs .head
       have bf:=Fz.done o (b3.trans i8) dr
       exact C1 bf.1 ⟨Sl.mono' i9 bf.2,_,O⟩
      exact trivial
     intro n0 b4 n2 ja n3 bg
     have ds:=SN.st g b4
     cases ja
     obtain⟨bg,lz,rfl⟩:=bg
     obtain⟨dt,E⟩:=MU E
     refine JT (r:=Au) (l:=l9) (xs:=([(⟨c.To,c.Delay,t,(λx=>Ab N ag x)⟩:AK)]:List AK)) O O LC O (Sl.src bg) O dt O ds (λ_=>(.tail .head)) λjb n4 du jc=>AI 1 (AY O (AG (AZ (kp [5,14,13,0,1,15] O) (BP (WF.nil (λaa ww hf hw=>?_))))))
     have dv:=du.sel [1,1,1,1,1,1,1,1,1,1,1] 1 O
     exact⟨jb,(l9++([(⟨c.To,c.Delay,t,(λx=>Ab N ag x)⟩:AK)]:List AK)),_,_,hf.sub (kp [14,13,0,1,15,5] O),hw,dv,(a5.trans (ak.trans ((SN.ext g.1 b4).trans jc))),E⟩
    refine AH (AD Ht O (AT A6 g O mh O Ae O (AA O (BK O (AA O (AV 4 110 (.bool ((decide (c.To=I))&&(decide (c.Kind=4)))) ?_ ?_))))))
    ·cases n5:(decide (c.To=I))
     ·exact Aa O O
     exact AB O (AD GF O (AB O (AT A6 g O mh O Ae O (AB O (BK O (AJ O (AU O)))))))
    refine AL O (kp [101,6,7,14,13,0,1,5,15] O) (AX O E (λjd E=>?_) (λjd E=>?_))
    ·obtain ⟨n6,dw,E⟩:=bd E
     obtain⟨b5,dx,E⟩:=bd E
     obtain⟨n7,dy,E⟩:=bd E
     obtain⟨b6,dz,E⟩:=bd E
     obtain⟨b7,d0,E⟩:=bd E
     obtain⟨b8,d1,E⟩:=bd E
     obtain⟨ah,d2,E⟩:=bd E
     refine NH (m:=[(6,vI t),(7,vP ai 0),(14,vI (↑p0_w.b.Links.length:Int)),(13,H),(0,vP j 0),(1,vI I),(5,v8),(15,vI t)]) 27 (λi v hh=>match i with|0=>v=v8|1=>v=vP ai 2|2=>v=vI c.From∧AE c.From|3=>v=vP ai 17|4=>v=vI c.Delay∧AE c.Delay|5=>v=vI t∧AE t|6=>v= .agg #[.string c.Name,vI c.Kind,vI c.From,vI c.To,ap,aq,ar,vI c.Positions,vI c.Speed,vI c.Leak,vI c.Crest,vI c.Num,vI c.Den,vI c.Prime,vI c.Break,vI c.BackNum,vI c.BackDen,vI c.Delay]∧c.Name.size≤maxLen∧AE c.Kind∧AE c.From∧AE c.To∧AE c.Positions∧AE c.Speed∧AE c.Leak∧AE c.Crest∧AE c.Num∧AE c.Den∧AE c.Prime∧AE c.Break∧AE c.BackNum∧AE c.BackDen∧AE c.Delay|7=>v=vP j 0|8=>v=vP j 0|9=>v=vP j 24|10=>v=d|11=>v=vP ai 2|12=>v=vI c.From∧AE c.From|13=>EP d (c.From.toNat*(AN.int).sz+0) v|14=>v=vI b5∧AE b5|15=>v=vP j 0|16=>v=vP j 0|17=>v=vP j 24|18=>v=d|19=>v=vI I∧AE I|20=>EP d (I.toNat*(AN.int).sz+0) v|21=>v=vI b6∧AE b6|22=>v=vI b7∧AE b7|23=>v=vI b8∧AE b8|24=>Rd (SN am au hh) hh (AN.fnr Tryz.prog (λS h vs (x:(List Int))=>∃W:Value,vs=[W]∧Sl S h AN.int W x) (λS h v (y:((List Int)×(List Int)))=>∃W w1:Value,v= .tuple #[W,w1]∧Sl S h AN.int W y.1∧Sl S h AN.int w1 y.2)) v (λx=>Ab N ah x)|25=>Rd (SN am au hh) hh Au v (⟨c.From,c.Delay,t,(λx=>Ab N ah x)⟩:AK)|26=>Sl (SN am au hh) hh Au v ([(⟨c.From,c.Delay,t,(λx=>Ab N ah x)⟩:AK)]:List AK)∧∃ad,v= .slice (some ad) 1 1|_=>False) [[],[],[(1,112)],[],[(3,114)],[],[],[],[(7,118)],[(8,119)],[(9,120)],[],[(11,122)],[(10,121),(12,123)],[(13,124)],[],[(15,126)],[(16,127)],[(17,128)],[],[(18,129),(19,130)],[(20,131)],[(6,117),(14,125),(21,132)],[(22,133)],[(23,134)],[(2,113),(4,115),(5,116),(24,135)],[(25,136)]] [(0,111),(26,137)] mo (by kernel_rfl) [6,7,14,13,0,1,5,15] O (by kernel_rfl) (by kernel_rfl) (by kernel_rfl) (kp [6,7,14,13,0,1,5,15] O) (λi v h1 h2 o1 o2 hr=>?_) ?_ ?_
     ·match i,hr with
       |0,hr|1,hr|2,hr|3,hr|4,hr|5,hr|6,hr|7,hr|8,hr|9,hr|10,hr|11,hr|12,hr|13,hr|14,hr|15,hr|16,hr|17,hr|18,hr|19,hr|20,hr|21,hr|22,hr|23,hr=>exact hr
       |24,hr|25,hr=>exact Rd.mono hr (SN.mono g.1 o1 o2)
       |26,hr=>exact⟨Sl.mono' hr.1 (SN.mono g.1 o1 o2),hr.2⟩
       |_+27,hr=>exact hr.elim
     ·refine A7.cons O (λ_ _ _=>AI 1 (AA O (AQ O))) (A7.cons O (λ_ _ _=>AI 1 (AD JJ O (AQ O))) (A7.cons O (λ_ _ o _ je=>by cases je;exact AI 1 (AT A6 (o.st g) O mh O Ae O (AQ ⟨O,a6⟩))) (A7.cons O (λ_ _ _=>AI 1 (AD Ns O (AQ O))) (A7.cons O (λ_ _ o _ jf=>by cases jf;exact AI 1 (AT A6 (o.st g) O mh O Ae O (AQ ⟨O,a3⟩))) (A7.cons O (λ_ _ _=>AI 1 (AA O (AQ ⟨O,bl⟩))) (A7.cons O (λ_ _ o=>AI 1 (Dk (vs:=[.string c.Name,vI c.Kind,vI c.From,vI c.To,ap,aq,ar,vI c.Positions,vI c.Speed,vI c.Leak,vI c.Crest,vI c.Num,vI c.Den,vI c.Prime,vI c.Break,vI c.BackNum,vI c.BackDen,vI c.Delay]) A6 (o.st g) O mh O O HW O O (AQ ⟨O,cm,cn,a6,a2,co,cp,cq,cr,ct,cu,cv,cw,cx,cy,a3⟩))) (A7.cons O (λ_ _ _=>AI 1 (AA O (AQ O))) (A7.cons O (λ_ _ _ _ jg=>by cases jg;exact AI 1 (CN O O (AQ O))) (A7.cons O (λ_ _ _ _ jh=>by cases jh;exact AI 1 (AD Jl O (AQ O))) (A7.cons O (λ_ _ o _ ji=>by cases ji;exact AI 1 (AT A6 (o.st g) O (mt (mt mh)) O BX O (AQ O))) (A7.cons O (λ_ _ _=>AI 1 (AD JJ O (AQ O))) ?_)))))))))))
      refine A7.cons O (λ_ _ o _ jj=>by cases jj;exact AI 1 (AT A6 (o.st g) O mh O Ae O (AQ ⟨O,a6⟩))) (A7.cons O (λ_ _ o=>by intro n8 jk n9 jl;cases jk;obtain ⟨rfl,oa⟩:=jl;exact AI 1 (A0 (o.st g) (mt (mt (mt (mt (mt (mt (mt (mt (mt (mt mh)))))))))) O O BR dw O λob d3=>AQ d3)) ?_)
      refine A7.cons O ?_ ?_
      ·intro mq hh o
       intro oc jm
       have hsN:=o.st g
       refine AI 1 ?_
       have jn:=hsN.epAt (mt (mt (mt (mt (mt (mt (mt (mt (mt (mt mh)))))))))) dx FL.id jm
       exact Ag A6 (λ_ x=>x) O jn Ae O λjo=>AQ ⟨O,jo⟩
      refine A7.cons O (λ_ _ _=>AI 1 (AA O (AQ O))) (A7.cons O (λ_ _ _ _ jp=>by cases jp;exact AI 1 (CN O O (AQ O))) (A7.cons O (λ_ _ _ _ jq=>by cases jq;exact AI 1 (AD Jl O (AQ O))) (A7.cons O (λ_ _ o _ jr=>by cases jr;exact AI 1 (AT A6 (o.st g) O (mt (mt mh)) O BX O (AQ O))) (A7.cons O (λ_ _ _=>AI 1 (AA O (AQ ⟨O,ao⟩))) (A7.cons O (λ_ _ o=>by intro od js oe jt;cases js;obtain ⟨rfl,og⟩:=jt;exact AI 1 (A0 (o.st g) (mt (mt (mt (mt (mt (mt (mt (mt (mt (mt mh)))))))))) O O BR dy O λoh d4=>AQ d4)) ?_)))))
      refine A7.cons O ?_ ?_
      ·intro mq hh o
       intro oi ju
       have hsN:=o.st g
       refine AI 1 ?_
       have jv:=hsN.epAt (mt (mt (mt (mt (mt (mt (mt (mt (mt (mt mh)))))))))) dz FL.id ju
       exact Ag A6 (λ_ x=>x) O jv Ae O λjw=>AQ ⟨O,jw⟩
      refine A7.cons O ?_ ?_
      ·intro mq hh o
       intro oj jx ok jy ol jz
       have hsN:=SN.st g o
       obtain⟨rfl,j0,j1,j2,j3,j4,j5,j6,j7,j8,j9,ka,kb,kc,kd,ke⟩:=jx
       obtain⟨rfl,kf⟩:=jy
       obtain⟨rfl,kg⟩:=jz
       refine Bf O O O ZU O hsN (Nd (St.all _) (Bv.mk (x:=c) j0 j1 j2 j3 ((bo.mono' (ak.trans (SN.ext g.1 o))).mono (λb hb=>hsN.1 b hb) (λ_ _=>rfl)) ((bp.mono' (ak.trans (SN.ext g.1 o))).mono (λb hb=>hsN.1 b hb) (λ_ _=>rfl)) ((bq.mono' (ak.trans (SN.ext g.1 o))).mono (λb hb=>hsN.1 b hb) (λ_ _=>rfl)) j4 j5 j6 j7 j8 j9 ka kb kc kd ke) kf kg d0) λom oo op l0 oq b9 p=>?_
       obtain⟨rfl,kh,l1⟩:=p
       exact C1 ⟨b9.siz,λb hb=>b9.same b hb⟩ ⟨O,kh⟩
      refine A7.cons O ?_ ?_
      ·intro mq hh o
       intro os ki
       have hsN:=SN.st g o
       obtain⟨rfl,kj⟩:=ki
       refine Bf O O O TK O hsN (Iz (St.all _) (iq (n:=0) O) kj d1) λot ou ov l2 ow ca p=>?_
       obtain⟨rfl,kk,l4⟩:=p
       exact C1 ⟨ca.siz,λb hb=>ca.same b hb⟩ ⟨O,kk⟩
      refine A7.cons O ?_ ?_
      ·intro mq hh o
       intro ox kl
       have hsN:=SN.st g o
       obtain⟨rfl,km⟩:=kl
       have hsF:=hsN.fz
       refine Ct O O O TJ O (IS hsF km d2) λoy kn ko kq p=>?_
       obtain⟨cb,rfl,kr,d5⟩:=p
       have d6:Rd kn ko (AN.fnr Tryz.prog (λS h vs (x:(List Int))=>∃W:Value,vs=[W]∧Sl S h AN.int W x) (λS h v (y:((List Int)×(List Int)))=>∃W w1:Value,v= .tuple #[W,w1]∧Sl S h AN.int W y.1∧Sl S h AN.int w1 y.2)) (.func (.func 89) #[] #[cb]) (λx=>Ab N ah x):=J9 89 #[cb] TH λS' h' s' e' L hs x y vs h1 h2=>by obtain⟨W,rfl,a0⟩:=h1;exact Ml (HX hs a0 (kr.mono'' s' e') h2)
       have bh:=Fz.done o kq d5
       exact C1 bh.1 (Rd.mono d6 bh.2)
      refine A7.cons O ?_ ?_
      ·intro mq hh o
       intro oz ks o0 kt o3 ku kv a1
       have hsN:=SN.st g o
       obtain⟨rfl,kw⟩:=ks
       obtain⟨rfl,kx⟩:=kt
       obtain⟨rfl,ky⟩:=ku
       have a1:Rd _ _ (AN.fnr Tryz.prog (λS h vs (x:(List Int))=>∃W:Value,vs=[W]∧Sl S h AN.int W x) (λS h v (y:((List Int)×(List Int)))=>∃W w1:Value,v= .tuple #[W,w1]∧Sl S h AN.int W y.1∧Sl S h AN.int w1 y.2)) kv (λx=>Ab N ah x):=a1
       refine AI 1 ?_
       obtain⟨d7,d8,rfl,l5,l6⟩:=a1.fnr
       exact H1 (cs:=[vI c.From,vI c.Delay,vI t,(.func (.func d7) #[] d8)]) OD O O O (AQ (Au.mk (x:=(⟨c.From,c.Delay,t,(λx=>Ab N ah x)⟩:AK)) kw kx ky a1))
      refine A7.cons O ?_ ?_
      ·intro mq hh o
       intro kz bi
       have hsN:=SN.st g o
       have bi:Rd _ _ Au kz (⟨c.From,c.Delay,t,(λx=>Ab N ah x)⟩:AK):=bi
       have hsF:=hsN.fz
       obtain⟨k0,rfl,k1,k2,k3,k4⟩:=Au.ex bi
       refine D0 (cs:=[vI ((⟨c.From,c.Delay,t,(λx=>Ab N ah x)⟩:AK).to_),vI ((⟨c.From,c.Delay,t,(λx=>Ab N ah x)⟩:AK).delay),vI ((⟨c.From,c.Delay,t,(λx=>Ab N ah x)⟩:AK).way),k0]) LC O O O O O O O hsF λo4 o5 d9 cc=>?_
       have k5:=k4.mono cc
       have ea:=d9.bxos (r:=Au) (l:=([(⟨c.From,c.Delay,t,(λx=>Ab N ah x)⟩:AK)]:List AK)) .head ⟨_,_,O,⟨_,O,k1,k2,k3,k5⟩,O⟩ (by simp [maxLen])
       obtain⟨o6,eb,k6,k7⟩:=ea.pubs .head
       have bj:=Fz.done o (cc.trans k6) eb
       exact C1 bj.1 ⟨Sl.mono' k7 bj.2,_,O⟩
      exact trivial
     intro o7 cd o8 k8 o9 bk
     have ec:=SN.st g cd
     cases k8
     obtain⟨bk,l7,rfl⟩:=bk
     obtain⟨ed,E⟩:=MU E
     refine JT (r:=Au) (l:=l9) (xs:=([(⟨c.From,c.Delay,t,(λx=>Ab N ah x)⟩:AK)]:List AK)) O O LC O (Sl.src bk) O ed O ec (λ_=>(.tail .head)) λk9 pa ee la=>AI 1 (AY O (AG (AZ (kp [5,14,13,0,1,15] O) (BP (WF.nil (λaa ww hf hw=>?_))))))
     have ef:=ee.sel [1,1,1,1,1,1,1,1,1,1,1] 1 O
     exact⟨k9,(l9++([(⟨c.From,c.Delay,t,(λx=>Ab N ah x)⟩:AK)]:List AK)),_,_,hf.sub (kp [14,13,0,1,15,5] O),hw,ef,(a5.trans (ak.trans ((SN.ext g.1 cd).trans la))),E⟩
    refine AO (BP (WF.nil (λaa ww hf hw=>?_)))
    have eg:=g.sel [1,1,1,1,1,1,1,1,1,1,1] 1 O
    exact⟨v8,l9,_,_,hf.sub (kp [14,13,0,1,15,5] O),hw,eg,(a5.trans ak),E⟩
   rintro aa ww ⟨bm,bn,pb,pc,hf,hw,eh,lb,E⟩
   refine Ac ?_ hf hw
   clear hf hw ww aa
   rw[C5] at E
   refine BY (.inl O) (Ai O (AA O (AM (kp [15,14,13,0,1,5] O) (WF.nil (λaa ww hf hw=>?_)))))
   exact⟨bm,bn,(BM (t+1)),_,_,hf.sub (kp [14,13,0,1,5,15] O),hw,eh,(cl.trans lb),(BG _),E⟩
  refine BA O (λaa ww hf hw=>?_)
  exact⟨v8,l9,_,_,hf.sub (kp [5] O),hw,a4,cl,E⟩
 rintro aa ww ⟨v2,l3,pd,pe,hf,hw,ei,lc,E⟩
 refine Ac ?_ hf hw
 clear hf hw ww aa
 rw[Ch] at E
 refine AH (AA O (AL O (kp [4] O) (Ad (λaa ww hf hw=>?_))))
 cases E
 exact Dr hf hw O O lc ei
end Go.Proofs.YtblcgjadhemlbaaGreat
