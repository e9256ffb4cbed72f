import Derived.Test.YtblcgjadhemlbaaGreatRWalk10
namespace Go.Proofs.YtblcgjadhemlbaaGreat
open Go.RowKit
set_option linter.unusedVariables false
set_option linter.unusedSimpArgs false
set_option maxRecDepth 10000
set_option maxHeartbeats 2000000
variable {N:Nat}{S:Nat→Prop}{L:List HP}{h:Aw}
theorem QL (hs:St S L h) {g:Value}{d:(List Int)}(c:Sl S h AM.int g d) {j:Int}(y:AH j) {r:(List Int)×(List Int)}(E:J8 N d j=some r):
 CL Tryz.prog 90 #[g,vI j] S h (λv S' h'=>∃I J:Value,v= .tuple #[I,J]∧St S' (OS AM.int 3 I r.1::OS AM.int 3 J r.2::L) h'):=by
 refine BG (l:=[g,vI j]) 39 Tryz.func90 O Tryz.ntmps90 O λB=>?_
 rw[J8] at E
 refine AI (AY O (AK O (kp [0,1] O) (WF.sl (AG 2 (AA O (An O c BQ O λb1=>AF ?_))))))
 obtain⟨ak,E⟩:=Lr E
 refine JO (r:=AM.int) (zx:=0) Ef O ⟨O,by unfold AH;omega⟩ O O ak O O hs λv3 h4 K M=>AG 1 (AY O (AF (AZ (kp [4,0,1] O) (AC (AC (Bq (.inl O) K (AA O (Bf O (AA O (AV 4 17 (.bool ((decide (0<j))&&(decide ((↑d.length:Int)≤64)))) ?_ ?_))))))))))
 ·cases c7:(decide (0<j))
  ·exact Aa O O
  exact AB O (AA O (AB O (An O (c.mono' M) BQ O λb9=>AB O (GQ O (AJ O (AU O))))))
 refine AA O ?_
 obtain⟨al,i,E⟩:=bd E
 refine AV 3 21 (.bool al) ?_ ?_
 ·cases Q:((decide (0<j))&&(decide ((↑d.length:Int)≤64)))
  ·have i:=F5 Q i
   cases i
   exact Aa O O
  have i:=Fy Q i
  refine AB O (AA O (AB O ?_))
  obtain⟨a1,U,i⟩:=bd i
  refine A6 O O O Y9 O (λh' o=>MV (St.all h') ((c.mono' M).mono' (o.all K.1)) U) (AJ O ?_)
  cases i
  exact AU O
 refine BM (kp [21,4,0,1] O) λV u G=>Ge (λa w=>∃(H:List Int),IV B S V (39,[]) a w [(4,v3),(0,g)] (OS AM.int 3 v3 H::L) λ_ _=>GF N d H=some r) ?_ ?_
 ·refine AW O E (λam E=>?_) (λam E=>?_)
  ·refine WF.sl (AG 2 (AA O (AA O (AF ?_))))
   obtain⟨a2,W,E⟩:=bd E
   refine BX O O O NO O u (Ew (St.all _) ((c.mono' (M.trans G)).mono (λb hb=>u.1 b hb) (λ_ _=>rfl)) W) λa3 a4 a5 x X a6 p=>?_
   obtain⟨rfl,an,ay⟩:=p
   refine AG 2 (Ry O O O (AA O (AF ?_)))
   obtain⟨Y,Z,E⟩:=bd E
   refine BX O O O aF O x (O3 (St.all _) (LR y an) ((c.mono' (M.trans (G.trans X))).mono (λb hb=>x.1 b hb) (λ_ _=>rfl)) Z) λa7 a8 ab az ao ap p=>?_
   obtain⟨a9,rfl,ac⟩:=p
   have s:=x.join ap ac ⟨OS.flat (λ{_ _ _ _ _ _} k=>k),trivial⟩
   simp only[List.cons_append,List.nil_append] at s
   refine AG 5 (AA O (Bo O (Bo O (AY O (AY O (AF (AZ (kp [7,6,4,0] O) (AI (AA O (AN (kp [31,6,4,0] O) (Ge (λa w=>∃(z:List Int),IV B S ab (39,[]) a w [(4,v3),(0,g)] (OS AM.int 3 v3 z::L) λ_ _=>If N (GF N d) z=some r) ?_ ?_)))))))))))
   ·refine AW O E (λaq E=>?_) (λaq E=>?_)
    ·refine D3 (AG 2 (AA O (AA O (AF (R3 (r:=AM.int) (l:=(List.replicate ((↑d.length:Int):Int).toNat (0:Int))) (xs:=Y.1) O O BQ (St.src s mh) O s (.tail .head) λba ad ar=>AZ (kp [4,0] O) (WF.nil (λA C m n=>?_)))))))
     have ae:=ad.sel [1] 1 O
     exact⟨(M3 (List.replicate ((↑d.length:Int):Int).toNat (0:Int)) Y.1),_,_,m.sub (kp [4,0] O),n,ae,ar,E⟩
    refine AQ (WF.nil (λA C m n=>?_))
    have af:=s.sel [1] 1 O
    exact⟨(List.replicate ((↑d.length:Int):Int).toNat (0:Int)),_,_,m.sub (kp [4,0] O),n,af,(CA.refl S ab),E⟩
   rintro A C ⟨z,bb,bc,m,n,ag,au,E⟩
   refine Ac ?_ m n
   clear m n C A
   rw[If] at E
   refine WF.nil (λA C m n=>?_)
   exact⟨z,_,_,m.sub (kp [4,0] O),n,ag,(X.trans (ao.trans au)),E⟩
  refine AQ (WF.nil (λA C m n=>?_))
  exact⟨(List.replicate ((↑d.length:Int):Int).toNat (0:Int)),_,_,m.sub (kp [4,0] O),n,u,(CA.refl S V),E⟩
 rintro A C ⟨H,be,bf,m,n,t,av,E⟩
 refine Ac ?_ m n
 clear m n C A
 rw[GF] at E
 refine WF.sl (AG 3 (AA O (AA O (AA O (AF ?_)))))
 have D:=M.trans (G.trans av)
 obtain⟨bg,ah,E⟩:=bd E
 refine BX O O O Y5 O t (LO (St.all _) ((c.mono' D).mono (λb hb=>t.1 b hb) (λ_ _=>rfl)) (t.oslAll mh) ah) λbh bi bj a0 aw ax p=>?_
 have ai:=p
 have F:=t.join ax ai ⟨OS.flat (λ{_ _ _ _ _ _} k=>k),trivial⟩
 simp only[List.cons_append,List.nil_append] at F
 refine AG 2 (AY O (AY O (AF (AZ (kp [5,4] O) (Ad (λA C m n=>?_))))))
 have aj:=F.sel [1,0] 0 O
 cases E
 exact KH m O n (IK (I1 m (v:=_) O) (IK (I1 m (v:=_) O) KG)) O (D.trans aw) ⟨_,_,O,aj⟩
theorem He (hs:St S L h) {a:Value}{c:(List Int)}(d:Sl S h AM.int a c) {g:Value}{c1_:Int}(j:Pt S h AM.int g c1_) {r:(List Int)×(List Int)}(E:Ab N c1_ c=some r):
 CL Tryz.prog 89 #[a,g] S h (λv S' h'=>∃m n:Value,v= .tuple #[m,n]∧St S' (OS AM.int 3 m r.1::OS AM.int 3 n r.2::L) h'):=by
 refine BG (l:=[a,g]) 10 Tryz.func89 O Tryz.ntmps89 O λB=>?_
 rw[Ab] at E
 refine AI (AY O (AK O (kp [0,1] O) (WF.sl (AG 2 (AA O (Af A9 hs.1 O j Ag O λw=>AF ?_))))))
 obtain⟨A,s,E⟩:=bd E
 refine BX O O O eG O hs (QL (St.all _) (d.mono (λb hb=>hs.1 b hb) (λ_ _=>rfl)) w s) λC D F x y t p=>?_
 obtain⟨G,H,rfl,o⟩:=p
 have i:=hs.join t o ⟨OS.flat (λ{_ _ _ _ _ _} k=>k),⟨OS.flat (λ{_ _ _ _ _ _} k=>k),trivial⟩⟩
 simp only[List.cons_append,List.nil_append] at i
 refine AG 4 (Bo O (Bo O (AY O (AY O (AF (AZ (kp [4,3] O) (Ad (λI J u z=>?_))))))))
 cases E
 exact KH u O z (IK (I1 u (v:=_) O) (IK (I1 u (v:=_) O) KG)) O y ⟨_,_,O,i⟩
theorem NK (hs:St S L h) {c:Int}(i:AH c) {a:Int}(d:AH a) {b:Int}(g:AH b) {r:Int}(E:JP N c a b=some r):
 CL Tryz.prog 98 #[vI c,vI a,vI b] S h (λv S' h'=>v=vI r∧AH r∧St S' (L) h'):=by
 refine BG (l:=[vI c,vI a,vI b]) 21 Tryz.func98 O Tryz.ntmps98 O λB=>?_
 rw[JP] at E
 refine AI (AK O (kp [0,1,2] O) (AC (Bq (.inl O) hs (AA O (AA O (AA O ?_))))))
 obtain⟨j,m,E⟩:=bd E
 refine IF (v:= .tuple #[vI j.1,vI j.2.1,.bool j.2.2]) (Ψ:=AH j.1∧AH j.2.1) O O O Sz O (λh' o=>(IE (St.all h') i d g m).mono λ_ _ _ _ p=>⟨p.1,⟨p.2.1,p.2.2.1⟩⟩) λu=>?_
 obtain⟨w,A⟩:=u
 refine AA O (Bo O (Bo O (Bo O (AY O (AY O (AY O (BM (kp [9,7] O) λC k t=>AC (AI (AA O (BY O (AN (kp [19,7] O) (AW O E (λx E=>?_) (λx E=>?_)))))))))))))
 ·refine AI (AK O (kp [6] O) (Ad (λy z q s=>?_)))
  cases E
  exact Dx q s O O t ⟨O,(iq (n:=0) O),k⟩
 refine AQ (AI (AA O (AK O (kp [6] O) (Ad (λy z q s=>?_)))))
 cases E
 exact Dx q s O O t ⟨O,w,k⟩
theorem Nj (hs:St S L h) {b:Value}{k:A7}(j:Rd S h Bu b k) {a:Int}(d:AH a) {c:Int}(i:AH c) {r:Int}(E:Jp N k a c=some r):
 CL Tryz.prog 86 #[b,vI a,vI c] S h (λv S' h'=>v=vI r∧AH r∧St S' (L) h'):=by
 refine BG (l:=[b,vI a,vI c]) 23 Tryz.func86 O Tryz.ntmps86 O λB=>?_
 rw[Jp] at E
 refine WF.sl (B4 O j (λe=>by cases e) O hs λq1 S2 h3 g M m=>AG 1 (AY O (AF (AZ (kp [3,1,2] O) (AC (AI (Ae O m A7.f_Kind GK O λq7 Q=>Af A9 g.1 O Q Ag O λr9=>Bt O (AN (kp [9,3,1,2] O) (AW O E (λu E=>?_) (λu E=>?_))))))))))
 ·refine AI (AK O (kp [6] O) (Ad (λU V w x=>?_)))
  cases E
  exact Dx w x O O M ⟨O,(iq (n:=0) O),g⟩
 refine AQ (AC (Bq (.inr ⟨mo,by kernel_rfl⟩) g (AA O (Ae O m A7.f_Num Ib O λW y=>Af Bd g.1 O y Ag O λz=>Ae O m A7.f_Den JX O λX A=>Af Bd g.1 O A Ag O λC=>?_))))
 obtain⟨Y,p,E⟩:=bd E
 refine CY O O O Y4 O (λh' o=>NK (St.all h') d z C p) λD=>?_
 have Z:=D
 refine AA O (Ae O m II Kq O λab F=>Af Bd g.1 O F Ag O λG=>Ae O m HG J6 O λac H=>Af Bd g.1 O H Ag O λI=>?_)
 obtain⟨ad,s,E⟩:=bd E
 refine CY O O O Y4 O (λh' o=>NK (St.all h') i G I s) λJ=>?_
 have ae:=J
 refine Ck O (AY O (BM (kp [6] O) λaf t K=>Ad (λU V w x=>?_)))
 cases E
 exact Dx w x O O (M.trans K) ⟨O,(BK _),t⟩
theorem ND {j:Nat}{p0_w:Aq}{X:Value}{Y:Value}{H:Value}{Z:Value}{ab:Value}{ac:Value}{ae:Value}{af:Value}{J:Value}{K:Value}{M:Value}{Q:Value}{U:Value}{u:Value}{z:Value}{A:Value}{k:Value}{C:Value}{D:Value}{F:Value}{d:Value}{G:Value}(hs:St S (Bx j 84 [.string p0_w.b.Name,X,vI p0_w.b.Cells,Y,H,Z,ab,ac,ae,af,vI p0_w.b.Err,J,K,M,Q,U,vI p0_w.s.Hour,u,z,A,k,C,D,F,d,G]::OS (AM.sl AM.int) 29 u p0_w.s.Own::OS AM.int 3 z p0_w.s.Rem::OS Ap 60 A p0_w.s.Queue::OS BJ 69 k p0_w.s.Gates::OS AM.int 3 C p0_w.s.In::OS AM.int 3 D p0_w.s.Out::OS BH 50 F p0_w.moves::OS AM.int 3 d p0_w.peaks::OS Ap 60 G p0_w.sent::L) h) (ej:p0_w.b.Name.size≤maxLen) (ek:Sl S h AM.str X p0_w.b.Owners) (el:AH p0_w.b.Cells) (em:Sl S h B0 Y p0_w.b.Places) (an:Sl S h Bu H p0_w.b.Links) (en:Sl S h GT Z p0_w.b.Towns) (eo:Sl S h Ed ab p0_w.b.Gauges) (ep:Sl S h Fv ac p0_w.b.Roads) (eq:Sl S h Cz ae p0_w.b.Shelters) (er:Sl S h AM.int af p0_w.b.Room) (ce:AH p0_w.b.Err) (cf:Sl S h AM.int J p0_w.in_.Rain) (cg:Sl S h FT K p0_w.in_.Faults) (ch:Sl S h Ik M p0_w.in_.Cmds) (ci:Sl S h Fd Q p0_w.in_.Takes) (cj:Sl S h GH U p0_w.in_.Swaps) (ck:AH p0_w.s.Hour) {I:Int}(ao:AH I) {r:(List AL)}(E:HR N p0_w I=some r):
 CL Tryz.prog 63 #[vP j 0,vI I] S h (λv S' h'=>St S' (OS Av 111 v r::Bx j 84 [.string p0_w.b.Name,X,vI p0_w.b.Cells,Y,H,Z,ab,ac,ae,af,vI p0_w.b.Err,J,K,M,Q,U,vI p0_w.s.Hour,u,z,A,k,C,D,F,d,G]::OS (AM.sl AM.int) 29 u p0_w.s.Own::OS AM.int 3 z p0_w.s.Rem::OS Ap 60 A p0_w.s.Queue::OS BJ 69 k p0_w.s.Gates::OS AM.int 3 C p0_w.s.In::OS AM.int 3 D p0_w.s.Out::OS BH 50 F p0_w.moves::OS AM.int 3 d p0_w.peaks::OS Ap 60 G p0_w.sent::L) h'):=by
 refine BG (l:=[vP j 0,vI I]) 141 Tryz.func63 O Tryz.ntmps63 O λB=>?_
 rw[HR] at E
 refine AI (AK O (kp [0,1] O) (AI (AK O (kp [5,0,1] O) (AC (AI (AA O (CP O O (AD GJ O (AD Gc O (AS A9 hs O mh O JR O (An O an Hf O λb1=>AA O (AN (kp [15,14,13,5,0,1] O) (Am (λa w=>∃(v2:Value) (l3:List AL),IV B S h (141,[]) a w [(5,v2)] (OS Av 111 v2 l3::Bx j 84 [.string p0_w.b.Name,X,vI p0_w.b.Cells,Y,H,Z,ab,ac,ae,af,vI p0_w.b.Err,J,K,M,Q,U,vI p0_w.s.Hour,u,z,A,k,C,D,F,d,G]::OS (AM.sl AM.int) 29 u p0_w.s.Own::OS AM.int 3 z p0_w.s.Rem::OS Ap 60 A p0_w.s.Queue::OS BJ 69 k p0_w.s.Gates::OS AM.int 3 C p0_w.s.In::OS AM.int 3 D p0_w.s.Out::OS BH 50 F p0_w.moves::OS AM.int 3 d p0_w.peaks::OS Ap 60 G p0_w.sent::L) λ_ _=>Ci N l3=some r) ?_ ?_)))))))))))))
 ·refine A5 (λn1=>λa w=>∃(v8:Value) (l9:List AL) (t:Int),IV B S h (141,[]) a w [(14,vI (↑p0_w.b.Links.length:Int)),(13,H),(0,vP j 0),(1,vI I),(5,v8),(15,vI t)] (OS Av 111 v8 l9::Bx j 84 [.string p0_w.b.Name,X,vI p0_w.b.Cells,Y,H,Z,ab,ac,ae,af,vI p0_w.b.Err,J,K,M,Q,U,vI p0_w.s.Hour,u,z,A,k,C,D,F,d,G]::OS (AM.sl AM.int) 29 u p0_w.s.Own::OS AM.int 3 z p0_w.s.Rem::OS Ap 60 A p0_w.s.Queue::OS BJ 69 k p0_w.s.Gates::OS AM.int 3 C p0_w.s.In::OS AM.int 3 D p0_w.s.Out::OS BH 50 F p0_w.moves::OS AM.int 3 d p0_w.peaks::OS Ap 60 G p0_w.sent::L) λ_ _=>AH t∧Be N p0_w I (Ci N) n1 l9 t=some r) N ?_ ?_ ?_
  ·intro aa ww hf hw
   have es:=hs.nil Av 111
   exact⟨(vN),([]:List AL),0,_,_,hf.sub (kp [14,13,0,1,5,15] O),hw,es,(CA.refl S h),(iq (n:=0) O),E⟩
  ·rintro aa ww ⟨_,_,_,_,_,_,_,_,_,_,E⟩
   rw[Be] at E;cases E
  rintro n1 aa ww ⟨v8,l9,t,am,le,hf,hw,a4,cl,bl,E⟩
  refine Ac ?_ hf hw
  clear hf hw ww aa
  rw[Be] at E
  refine AI (Ar O (AN (kp [16,14,13,0,1,5,15] O) (AC (AW O E (λlf E=>?_) (λlf E=>?_)))))
  ·refine AQ (AC (Am (λa w=>∃(bm:Value) (bn:List AL),IV B am le (141,[]) a w [(14,vI (↑p0_w.b.Links.length:Int)),(13,H),(0,vP j 0),(1,vI I),(15,vI t),(5,bm)] (OS Av 111 bm bn::Bx j 84 [.string p0_w.b.Name,X,vI p0_w.b.Cells,Y,H,Z,ab,ac,ae,af,vI p0_w.b.Err,J,K,M,Q,U,vI p0_w.s.Hour,u,z,A,k,C,D,F,d,G]::OS (AM.sl AM.int) 29 u p0_w.s.Own::OS AM.int 3 z p0_w.s.Rem::OS Ap 60 A p0_w.s.Queue::OS BJ 69 k p0_w.s.Gates::OS AM.int 3 C p0_w.s.In::OS AM.int 3 D p0_w.s.Out::OS BH 50 F p0_w.moves::OS AM.int 3 d p0_w.peaks::OS Ap 60 G p0_w.sent::L) λ_ _=>C4 N t (Be N p0_w I (Ci N) n1) bn=some r) ?_ ?_))
   ·refine WF.sl (AG 3 (AA O ?_))
    obtain⟨c,et,E⟩:=bd E
    refine BE O O (an.mono' cl) Hf et O λpf lg=>B8 A9 a4.1 O lg Hd (λe=>by cases e) O λpg lh=>AF (Cp OY O a4 λai ph eu a5=>AG 1 (AY O (AF ?_)))
    obtain⟨ap,aq,ar,rfl,cm,cn,a6,a2,bo,bp,bq,co,cp,cq,cr,ct,cu,cv,cw,cx,cy,a3⟩:=Bu.ex (lh.mono a5)
    refine G7 (vs:=[.string c.Name,vI c.Kind,vI c.From,vI c.To,ap,aq,ar,vI c.Positions,vI c.Speed,vI c.Leak,vI c.Crest,vI c.Num,vI c.Den,vI c.Prime,vI c.Break,vI c.BackNum,vI c.BackDen,vI c.Delay]) (cs':=[.string c.Name,vI c.Kind,vI c.From,vI c.To,ap,aq,ar,vI c.Positions,vI c.Speed,vI c.Leak,vI c.Crest,vI c.Num,vI c.Den,vI c.Prime,vI c.Break,vI c.BackNum,vI c.BackDen,vI c.Delay]) O O O (AE O (AE O (AE O (AE O (AE bo.one (AE bp.one (AE bq.one (AE O (AE O (AE O (AE O (AE O (AE O (AE O (AE O (AE O (AE O (AE O EH)))))))))))))))))) Hd O eu .head O O λau g ak=>AZ (kp [6,7,14,13,0,1,5,15] O) (BB (AI (AD JW O (AS A9 g O mh O Ag O (AA O (BL O (AA O (AV 4 29 (.bool ((decide (c.From=I))&&(decide (c.Kind≠4)))) ?_ ?_))))))))
    ·cases pi:(decide (c.From=I))
     ·exact Aa O O
     exact AB O (AD GK O (AB O (AS A9 g O mh O Ag O (AB O (Bt O (AJ O (AU O)))))))
    refine AK O (kp [20,6,7,14,13,0,1,5,15] O) (AW O E (λli E=>?_) (λli E=>?_))
    ·refine AI (AK O (kp [8,6,7,14,13,0,1,5,15] O) (AC (AI (AD Hz O (AS A9 g O mh O Ag O (Bt O (AN (kp [32,8,6,7,14,13,0,1,5,15] O) (Ge (λa w=>∃(aw:Int),IV B am au (141,[]) a w [(6,vI t),(7,vP ai 0),(14,vI (↑p0_w.b.Links.length:Int)),(13,H),(0,vP j 0),(1,vI I),(5,v8),(15,vI t),(8,vI aw)] (Bx ai 67 [.string c.Name,vI c.Kind,vI c.From,vI c.To,ap,aq,ar,vI c.Positions,vI c.Speed,vI c.Leak,vI c.Crest,vI c.Num,vI c.Den,vI c.Prime,vI c.Break,vI c.BackNum,vI c.BackDen,vI c.Delay]::OS Av 111 v8 l9::Bx j 84 [.string p0_w.b.Name,X,vI p0_w.b.Cells,Y,H,Z,ab,ac,ae,af,vI p0_w.b.Err,J,K,M,Q,U,vI p0_w.s.Hour,u,z,A,k,C,D,F,d,G]::OS (AM.sl AM.int) 29 u p0_w.s.Own::OS AM.int 3 z p0_w.s.Rem::OS Ap 60 A p0_w.s.Queue::OS BJ 69 k p0_w.s.Gates::OS AM.int 3 C p0_w.s.In::OS AM.int 3 D p0_w.s.Out::OS BH 50 F p0_w.moves::OS AM.int 3 d p0_w.peaks::OS Ap 60 G p0_w.sent::L) λ_ _=>AH aw∧GD N p0_w I l9 t c (C4 N t (Be N p0_w I (Ci N) n1)) aw=some r) ?_ ?_))))))))
     ·refine AW O E (λlj E=>?_) (λlj E=>?_)
      ·refine BZ (.inr ⟨mo,by kernel_rfl⟩) (AA O (CP O O (AD Jx O (AS A9 g O (mt (mt mh)) O BW O (AD Hz O (AS A9 g O mh O Ag O ?_))))))
       obtain⟨pj,ev,E⟩:=bd E
       refine A8 g (mt (mt (mt (mt (mt (mt (mt (mt (mt (mt mh)))))))))) O O BQ ev O λpk ew=>?_
       obtain⟨ll,ey,E⟩:=bd E
       have lm:=g.epAt (mt (mt (mt (mt (mt (mt (mt (mt (mt (mt mh)))))))))) ey E9.id ew
       refine Af A9 (λ_ x=>x) O lm Ag O λlo=>AK O (kp [8,6,7,14,13,0,1,5,15] O) (WF.nil (λaa ww hf hw=>?_))
       exact⟨ll,_,_,hf.sub (kp [6,7,14,13,0,1,5,15,8] O),hw,g,(CA.refl am au),lo,E⟩
      refine AQ (WF.nil (λaa ww hf hw=>?_))
      exact⟨0,_,_,hf.sub (kp [6,7,14,13,0,1,5,15,8] O),hw,g,(CA.refl am au),(iq (n:=0) O),E⟩
     rintro aa ww ⟨aw,a7,br,hf,hw,V,ez,lp,E⟩
     refine Ac ?_ hf hw
     clear hf hw ww aa
     rw[GD] at E
     obtain⟨pl,e0,E⟩:=bd E
     obtain⟨e1,e2,E⟩:=bd E
     obtain⟨pm,e3,E⟩:=bd E
     obtain⟨e4,e5,E⟩:=bd E
     obtain⟨e6,e7,E⟩:=bd E
     obtain⟨aj,e8,E⟩:=bd E
     refine Mk (m:=[(6,vI t),(7,vP ai 0),(14,vI (↑p0_w.b.Links.length:Int)),(13,H),(0,vP j 0),(1,vI I),(5,v8),(15,vI t),(8,vI aw)]) 27 (λi v hh=>match i with|0=>v=v8|1=>v=vP ai 3|2=>v=vI c.To∧AH c.To|3=>v=vP ai 17|4=>v=vI c.Delay∧AH c.Delay|5=>v=vI t∧AH t|6=>v= .agg #[.string c.Name,vI c.Kind,vI c.From,vI c.To,ap,aq,ar,vI c.Positions,vI c.Speed,vI c.Leak,vI c.Crest,vI c.Num,vI c.Den,vI c.Prime,vI c.Break,vI c.BackNum,vI c.BackDen,vI c.Delay]∧c.Name.size≤maxLen∧AH c.Kind∧AH c.From∧AH c.To∧AH c.Positions∧AH c.Speed∧AH c.Leak∧AH c.Crest∧AH c.Num∧AH c.Den∧AH c.Prime∧AH c.Break∧AH c.BackNum∧AH c.BackDen∧AH c.Delay|7=>v=vP j 0|8=>v=vP j 0|9=>v=vP j 16|10=>v=vP j 20|11=>v=k|12=>v=vI t∧AH t|13=>EP k (t.toNat*(BJ).sz+0) v|14=>Rd a7 hh BJ v e1|15=>v=vP j 0|16=>v=vP j 0|17=>v=vP j 24|18=>v=d|19=>v=vI I∧AH I|20=>EP d (I.toNat*(AM.int).sz+0) v|21=>v=vI e4∧AH e4|22=>v=vI aw∧AH aw|23=>v=vI e6∧AH e6|24=>Rd (SN a7 br hh) hh (AM.fnr Tryz.prog (λS h vs (x:(List Int))=>∃W:Value,vs=[W]∧Sl S h AM.int W x) (λS h v (y:((List Int)×(List Int)))=>∃W w1:Value,v= .tuple #[W,w1]∧Sl S h AM.int W y.1∧Sl S h AM.int w1 y.2)) v (λx=>Ab N aj x)|25=>Rd (SN a7 br hh) hh Av v (⟨c.To,c.Delay,t,(λx=>Ab N aj x)⟩:AL)|26=>Sl (SN a7 br hh) hh Av v ([(⟨c.To,c.Delay,t,(λx=>Ab N aj x)⟩:AL)]:List AL)∧∃ad,v= .slice (some ad) 1 1|_=>False) [[],[],[(1,42)],[],[(3,44)],[],[],[],[(7,48)],[(8,49)],[(9,50)],[(10,51)],[],[(11,52),(12,53)],[(13,54)],[],[(15,56)],[(16,57)],[(17,58)],[],[(18,59),(19,60)],[(20,61)],[],[(6,47),(14,55),(21,62),(22,63)],[(23,64)],[(2,43),(4,45),(5,46),(24,65)],[(25,66)]] [(0,41),(26,67)] mo (by kernel_rfl) [6,7,14,13,0,1,5,15,8] O (by kernel_rfl) (by kernel_rfl) (by kernel_rfl) (kp [6,7,14,13,0,1,5,15,8] O) (λi v h1 h2 o1 o2 hr=>?_) ?_ ?_
     ·match i,hr with
       |0,hr|1,hr|2,hr|3,hr|4,hr|5,hr|6,hr|7,hr|8,hr|9,hr|10,hr|11,hr|12,hr|13,hr|15,hr|16,hr|17,hr|18,hr|19,hr|20,hr|21,hr|22,hr|23,hr=>exact hr
       |14,hr=>exact Rd.mono hr (o2.ext λb hb=>Nat.lt_of_lt_of_le (V.1 b hb) o1.siz)
       |24,hr|25,hr=>exact Rd.mono hr (SN.mono V.1 o1 o2)
       |26,hr=>exact⟨Sl.mono' hr.1 (SN.mono V.1 o1 o2),hr.2⟩
       |_+27,hr=>exact hr.elim
     ·refine A3.cons O (λ_ _ _=>AG 1 (AA O (AO O))) (A3.cons O (λ_ _ _=>AG 1 (AD Hz O (AO O))) (A3.cons O (λ_ _ o _ e9=>by cases e9;exact AG 1 (AS A9 (o.st V) O mh O Ag O (AO ⟨O,a2⟩))) (A3.cons O (λ_ _ _=>AG 1 (AD MZ O (AO O))) (A3.cons O (λ_ _ o _ fa=>by cases fa;exact AG 1 (AS A9 (o.st V) O mh O Ag O (AO ⟨O,a3⟩))) (A3.cons O (λ_ _ _=>AG 1 (AA O (AO ⟨O,bl⟩))) (A3.cons O (λ_ _ o=>AG 1 (Db (vs:=[.string c.Name,vI c.Kind,vI c.From,vI c.To,ap,aq,ar,vI c.Positions,vI c.Speed,vI c.Leak,vI c.Crest,vI c.Num,vI c.Den,vI c.Prime,vI c.Break,vI c.BackNum,vI c.BackDen,vI c.Delay]) A9 (o.st V) O mh O O Hd O O (AO ⟨O,cm,cn,a6,a2,co,cp,cq,cr,ct,cu,cv,cw,cx,cy,a3⟩))) (A3.cons O (λ_ _ _=>AG 1 (AA O (AO O))) (A3.cons O (λ_ _ _ _ fb=>by cases fb;exact AG 1 (CP O O (AO O))) (A3.cons O (λ_ _ _ _ fc=>by cases fc;exact AG 1 (AD Cb O (AO O))) (A3.cons O (λ_ _ _ _ fd=>by cases fd;exact AG 1 (AD H0 O (AO O))) (A3.cons O (λ_ _ o _ fe=>by cases fe;exact AG 1 (AS A9 (o.st V) O (mt (mt mh)) O Ki O (AO O))) ?_)))))))))))
      refine A3.cons O (λ_ _ _=>AG 1 (AA O (AO ⟨O,bl⟩))) (A3.cons O (λ_ _ o=>by intro l8 ff ma fg;cases ff;obtain ⟨rfl,mb⟩:=fg;exact AG 1 (A8 (o.st V) (mt (mt (mt (mt (mt (mt mh)))))) O O KM e0 O λmc cz=>AO cz)) ?_)
      refine A3.cons O ?_ ?_
      ·intro mq hh o
       intro md fh
       have hsN:=o.st V
       refine AG 1 ?_
       have fi:=hsN.epAt (mt (mt (mt (mt (mt (mt mh)))))) e2 E9.id fh
       exact B8 A9 (λ_ x=>x) O fi Gt (λe=>by cases e) O λme fj=>AO fj
      refine A3.cons O (λ_ _ _=>AG 1 (AA O (AO O))) (A3.cons O (λ_ _ _ _ fk=>by cases fk;exact AG 1 (CP O O (AO O))) (A3.cons O (λ_ _ _ _ fl=>by cases fl;exact AG 1 (AD Jx O (AO O))) (A3.cons O (λ_ _ o _ fm=>by cases fm;exact AG 1 (AS A9 (o.st V) O (mt (mt mh)) O BW O (AO O))) (A3.cons O (λ_ _ _=>AG 1 (AA O (AO ⟨O,ao⟩))) (A3.cons O (λ_ _ o=>by intro mf fn mg fo;cases fn;obtain ⟨rfl,mi⟩:=fo;exact AG 1 (A8 (o.st V) (mt (mt (mt (mt (mt (mt (mt (mt (mt (mt mh)))))))))) O O BQ e3 O λmj c0=>AO c0)) ?_)))))
      refine A3.cons O ?_ ?_
      ·intro mq hh o
       intro ml fp
       have hsN:=o.st V
       refine AG 1 ?_
       have fq:=hsN.epAt (mt (mt (mt (mt (mt (mt (mt (mt (mt (mt mh)))))))))) e5 E9.id fp
       exact Af A9 (λ_ x=>x) O fq Ag O λfr=>AO ⟨O,fr⟩
      refine A3.cons O (λ_ _ _=>AG 1 (AA O (AO ⟨O,lp⟩))) ?_
      refine A3.cons O ?_ ?_
      ·intro mq hh o
       intro mm fs ft av mn fu mp fv
       have hsN:=SN.st V o
       obtain⟨rfl,fw,fx,fy,f0,f1,f2,f3,f4,f5,f6,f7,f8,f9,ga,gb⟩:=fs
       have av:=Rd.mono (S':=(SN a7 br hh)) av ⟨λb hb=> .inl hb,λ_ _=>rfl,Nat.le_refl _⟩
       have av:Rd _ _ BJ ft e1:=av
       obtain⟨rfl,gc⟩:=fu
       obtain⟨rfl,gd⟩:=fv
       have ax:=ak.trans (ez.trans (SN.ext V.1 o))
       refine BX O O O eI O hsN (RW (St.all _) (Bu.mk (x:=c) fw fx fy f0 ((bo.mono' ax).mono (λb hb=>hsN.1 b hb) (λ_ _=>rfl)) ((bp.mono' ax).mono (λb hb=>hsN.1 b hb) (λ_ _=>rfl)) ((bq.mono' ax).mono (λb hb=>hsN.1 b hb) (λ_ _=>rfl)) f1 f2 f3 f4 f5 f6 f7 f8 f9 ga gb) (av.mono ⟨λb hb=>hsN.1 b hb,λ_ _=>rfl,Nat.le_refl _⟩) gc gd e7) λmr ms mu lq mv bs p=>?_
       obtain⟨rfl,ge,lr⟩:=p
       exact Cm ⟨bs.siz,λb hb=>bs.same b hb⟩ ⟨O,ge⟩
      refine A3.cons O ?_ ?_
      ·intro mq hh o
       intro mw gf
       have hsN:=SN.st V o
       obtain⟨rfl,gg⟩:=gf
       have hsF:=hsN.fz
       refine Cv O O O S5 O (IZ hsF gg e8) λmx gh gi gj p=>?_
       obtain⟨bt,rfl,gk,c1⟩:=p
       have c2:Rd gh gi (AM.fnr Tryz.prog (λS h vs (x:(List Int))=>∃W:Value,vs=[W]∧Sl S h AM.int W x) (λS h v (y:((List Int)×(List Int)))=>∃W w1:Value,v= .tuple #[W,w1]∧Sl S h AM.int W y.1∧Sl S h AM.int w1 y.2)) (.func (.func 89) #[] #[bt]) (λx=>Ab N aj x):=KD 89 #[bt] Sy λS' h' s' e' L hs x y vs h1 h2=>by obtain⟨W,rfl,a0⟩:=h1;exact Mt (He hs a0 (gk.mono'' s' e') h2)
       have a8:=Fz.done o gj c1
       exact Cm a8.1 (Rd.mono c2 a8.2)
      refine A3.cons O ?_ ?_
      ·intro mq hh o
       intro my gl mz gm m0 gn gp ay
       have hsN:=SN.st V o
       obtain⟨rfl,gq⟩:=gl
       obtain⟨rfl,gr⟩:=gm
       obtain⟨rfl,gs⟩:=gn
       have ay:Rd _ _ (AM.fnr Tryz.prog (λS h vs (x:(List Int))=>∃W:Value,vs=[W]∧Sl S h AM.int W x) (λS h v (y:((List Int)×(List Int)))=>∃W w1:Value,v= .tuple #[W,w1]∧Sl S h AM.int W y.1∧Sl S h AM.int w1 y.2)) gp (λx=>Ab N aj x):=ay
       refine AG 1 ?_
       obtain⟨c3,c4,rfl,ls,lt⟩:=ay.fnr
       exact HA (cs:=[vI c.To,vI c.Delay,vI t,(.func (.func c3) #[] c4)]) OH O O O (AO (Av.mk (x:=(⟨c.To,c.Delay,t,(λx=>Ab N aj x)⟩:AL)) gq gr gs ay))
      refine A3.cons O ?_ ?_
      ·intro mq hh o
       intro gt a9
       have hsN:=SN.st V o
       have a9:Rd _ _ Av gt (⟨c.To,c.Delay,t,(λx=>Ab N aj x)⟩:AL):=a9
       have hsF:=hsN.fz
       obtain⟨gu,rfl,gv,gw,gx,gy⟩:=Av.ex a9
       refine DY (cs:=[vI ((⟨c.To,c.Delay,t,(λx=>Ab N aj x)⟩:AL).to_),vI ((⟨c.To,c.Delay,t,(λx=>Ab N aj x)⟩:AL).delay),vI ((⟨c.To,c.Delay,t,(λx=>Ab N aj x)⟩:AL).way),gu]) LD O O O O O O O hsF λm1 m2 c5 bu=>?_
       have gz:=gy.mono bu
       have c6:=c5.bxos (r:=Av) (l:=([(⟨c.To,c.Delay,t,(λx=>Ab N aj x)⟩:AL)]:List AL)) .head ⟨_,_,O,⟨_,O,gv,gw,gx,gz⟩,O⟩ (by simp [maxLen])
       obtain⟨m3,c7,g0,g1⟩:=c6.pubs .head
       have ba:=Fz.done o (bu.trans g0) c7
       exact Cm ba.1 ⟨Sl.mono' g1 ba.2,_,O⟩
      exact trivial
     intro m4 bv m5 g2 m6 bb
     have c8:=SN.st V bv
     cases g2
     obtain⟨bb,lu,rfl⟩:=bb
     obtain⟨c9,E⟩:=Lr E
     refine JJ (r:=Av) (l:=l9) (xs:=([(⟨c.To,c.Delay,t,(λx=>Ab N aj x)⟩:AL)]:List AL)) O O LD O (Sl.src bb) O c9 O c8 (λ_=>(.tail .head)) λg3 m7 da g4=>AG 1 (AY O (AF (AZ (kp [5,14,13,0,1,15] O) (BO (WF.nil (λaa ww hf hw=>?_))))))
     have db:=da.sel [1,1,1,1,1,1,1,1,1,1,1] 1 O
     exact⟨g3,(l9++([(⟨c.To,c.Delay,t,(λx=>Ab N aj x)⟩:AL)]:List AL)),_,_,hf.sub (kp [14,13,0,1,15,5] O),hw,db,(a5.trans (ak.trans (ez.trans ((SN.ext V.1 bv).trans g4)))),E⟩
    refine AI (AD JW O (AS A9 g O mh O Ag O (AA O (BL O (AK O (kp [69,6,7,14,13,0,1,5,15] O) (AW O E (λg5 E=>?_) (λg5 E=>?_)))))))
    ·obtain ⟨m8,dc,E⟩:=bd E
     obtain⟨bw,dd,E⟩:=bd E
     obtain⟨m9,de,E⟩:=bd E
     obtain⟨bx,df,E⟩:=bd E
     obtain⟨bz,dg,E⟩:=bd E
     obtain⟨ag,dh,E⟩:=bd E
     refine Mk (m:=[(6,vI t),(7,vP ai 0),(14,vI (↑p0_w.b.Links.length:Int)),(13,H),(0,vP j 0),(1,vI I),(5,v8),(15,vI t)]) 26 (λi v hh=>match i with|0=>v=v8|1=>v=vP ai 3|2=>v=vI c.To∧AH c.To|3=>v=vP ai 17|4=>v=vI c.Delay∧AH c.Delay|5=>v=vI t∧AH t|6=>v= .agg #[.string c.Name,vI c.Kind,vI c.From,vI c.To,ap,aq,ar,vI c.Positions,vI c.Speed,vI c.Leak,vI c.Crest,vI c.Num,vI c.Den,vI c.Prime,vI c.Break,vI c.BackNum,vI c.BackDen,vI c.Delay]∧c.Name.size≤maxLen∧AH c.Kind∧AH c.From∧AH c.To∧AH c.Positions∧AH c.Speed∧AH c.Leak∧AH c.Crest∧AH c.Num∧AH c.Den∧AH c.Prime∧AH c.Break∧AH c.BackNum∧AH c.BackDen∧AH c.Delay|7=>v=vP j 0|8=>v=vP j 0|9=>v=vP j 24|10=>v=d|11=>v=vI I∧AH I|12=>EP d (I.toNat*(AM.int).sz+0) v|13=>v=vI bw∧AH bw|14=>v=vP j 0|15=>v=vP j 0|16=>v=vP j 24|17=>v=d|18=>v=vP ai 3|19=>v=vI c.To∧AH c.To|20=>EP d (c.To.toNat*(AM.int).sz+0) v|21=>v=vI bx∧AH bx|22=>v=vI bz∧AH bz|23=>Rd (SN am au hh) hh (AM.fnr Tryz.prog (λS h vs (x:(List Int))=>∃W:Value,vs=[W]∧Sl S h AM.int W x) (λS h v (y:((List Int)×(List Int)))=>∃W w1:Value,v= .tuple #[W,w1]∧Sl S h AM.int W y.1∧Sl S h AM.int w1 y.2)) v (λx=>Ab N ag x)|24=>Rd (SN am au hh) hh Av v (⟨c.To,c.Delay,t,(λx=>Ab N ag x)⟩:AL)|25=>Sl (SN am au hh) hh Av v ([(⟨c.To,c.Delay,t,(λx=>Ab N ag x)⟩:AL)]:List AL)∧∃ad,v= .slice (some ad) 1 1|_=>False) [[],[],[(1,75)],[],[(3,77)],[],[],[],[(7,81)],[(8,82)],[(9,83)],[],[(10,84),(11,85)],[(12,86)],[],[(14,88)],[(15,89)],[(16,90)],[],[(18,92)],[(17,91),(19,93)],[(20,94)],[(6,80),(13,87),(21,95)],[(22,96)],[(2,76),(4,78),(5,79),(23,97)],[(24,98)]] [(0,74),(25,99)] mo (by kernel_rfl) [6,7,14,13,0,1,5,15] O (by kernel_rfl) (by kernel_rfl) (by kernel_rfl) (kp [6,7,14,13,0,1,5,15] O) (λi v h1 h2 o1 o2 hr=>?_) ?_ ?_
     ·match i,hr with
       |0,hr|1,hr|2,hr|3,hr|4,hr|5,hr|6,hr|7,hr|8,hr|9,hr|10,hr|11,hr|12,hr|13,hr|14,hr|15,hr|16,hr|17,hr|18,hr|19,hr|20,hr|21,hr|22,hr=>exact hr
       |23,hr|24,hr=>exact Rd.mono hr (SN.mono g.1 o1 o2)
       |25,hr=>exact⟨Sl.mono' hr.1 (SN.mono g.1 o1 o2),hr.2⟩
       |_+26,hr=>exact hr.elim
     ·refine A3.cons O (λ_ _ _=>AG 1 (AA O (AO O))) (A3.cons O (λ_ _ _=>AG 1 (AD Hz O (AO O))) (A3.cons O (λ_ _ o _ g6=>by cases g6;exact AG 1 (AS A9 (o.st g) O mh O Ag O (AO ⟨O,a2⟩))) (A3.cons O (λ_ _ _=>AG 1 (AD MZ O (AO O))) (A3.cons O (λ_ _ o _ g7=>by cases g7;exact AG 1 (AS A9 (o.st g) O mh O Ag O (AO ⟨O,a3⟩))) (A3.cons O (λ_ _ _=>AG 1 (AA O (AO ⟨O,bl⟩))) (A3.cons O (λ_ _ o=>AG 1 (Db (vs:=[.string c.Name,vI c.Kind,vI c.From,vI c.To,ap,aq,ar,vI c.Positions,vI c.Speed,vI c.Leak,vI c.Crest,vI c.Num,vI c.Den,vI c.Prime,vI c.Break,vI c.BackNum,vI c.BackDen,vI c.Delay]) A9 (o.st g) O mh O O Hd O O (AO ⟨O,cm,cn,a6,a2,co,cp,cq,cr,ct,cu,cv,cw,cx,cy,a3⟩))) (A3.cons O (λ_ _ _=>AG 1 (AA O (AO O))) (A3.cons O (λ_ _ _ _ g8=>by cases g8;exact AG 1 (CP O O (AO O))) (A3.cons O (λ_ _ _ _ g9=>by cases g9;exact AG 1 (AD Jx O (AO O))) (A3.cons O (λ_ _ o _ ha=>by cases ha;exact AG 1 (AS A9 (o.st g) O (mt (mt mh)) O BW O (AO O))) (A3.cons O (λ_ _ _=>AG 1 (AA O (AO ⟨O,ao⟩))) ?_)))))))))))
      refine A3.cons O (λ_ _ o=>by intro na hc nb hd;cases hc;obtain ⟨rfl,nd⟩:=hd;exact AG 1 (A8 (o.st g) (mt (mt (mt (mt (mt (mt (mt (mt (mt (mt mh)))))))))) O O BQ dc O λne di=>AO di)) ?_
      refine A3.cons O ?_ ?_
      ·intro mq hh o
       intro nf he
       have hsN:=o.st g
       refine AG 1 ?_
       have hg:=hsN.epAt (mt (mt (mt (mt (mt (mt (mt (mt (mt (mt mh)))))))))) dd E9.id he
       exact Af A9 (λ_ x=>x) O hg Ag O λhi=>AO ⟨O,hi⟩
      refine A3.cons O (λ_ _ _=>AG 1 (AA O (AO O))) (A3.cons O (λ_ _ _ _ hj=>by cases hj;exact AG 1 (CP O O (AO O))) (A3.cons O (λ_ _ _ _ hk=>by cases hk;exact AG 1 (AD Jx O (AO O))) (A3.cons O (λ_ _ o _ hl=>by cases hl;exact AG 1 (AS A9 (o.st g) O (mt (mt mh)) O BW O (AO O))) (A3.cons O (λ_ _ _=>AG 1 (AD Hz O (AO O))) (A3.cons O (λ_ _ o _ hm=>by cases hm;exact AG 1 (AS A9 (o.st g) O mh O Ag O (AO ⟨O,a2⟩))) (A3.cons O (λ_ _ o=>by intro ng hn nh ho;cases hn;obtain ⟨rfl,ni⟩:=ho;exact AG 1 (A8 (o.st g) (mt (mt (mt (mt (mt (mt (mt (mt (mt (mt mh)))))))))) O O BQ de O λnj dj=>AO dj)) ?_))))))
      refine A3.cons O ?_ ?_
      ·intro mq hh o
       intro nk hp
       have hsN:=o.st g
       refine AG 1 ?_
       have hq:=hsN.epAt (mt (mt (mt (mt (mt (mt (mt (mt (mt (mt mh)))))))))) df E9.id hp
       exact Af A9 (λ_ x=>x) O hq Ag O λht=>AO ⟨O,ht⟩
      refine A3.cons O ?_ ?_
      ·intro mq hh o
       intro nl hu nm hv nn hx
       have hsN:=SN.st g o
       obtain⟨rfl,hy,hz,h0,h3,h4,h5,h6,h7,h8,h9,ia,ib,ic,ie,ig⟩:=hu
       obtain⟨rfl,ih⟩:=hv
       obtain⟨rfl,ii⟩:=hx
       refine BX O O O ZA O hsN (Nj (St.all _) (Bu.mk (x:=c) hy hz h0 h3 ((bo.mono' (ak.trans (SN.ext g.1 o))).mono (λb hb=>hsN.1 b hb) (λ_ _=>rfl)) ((bp.mono' (ak.trans (SN.ext g.1 o))).mono (λb hb=>hsN.1 b hb) (λ_ _=>rfl)) ((bq.mono' (ak.trans (SN.ext g.1 o))).mono (λb hb=>hsN.1 b hb) (λ_ _=>rfl)) h4 h5 h6 h7 h8 h9 ia ib ic ie ig) ih ii dg) λno np nq lv nr b0 p=>?_
       obtain⟨rfl,ij,lw⟩:=p
       exact Cm ⟨b0.siz,λb hb=>b0.same b hb⟩ ⟨O,ij⟩
      refine A3.cons O ?_ ?_
      ·intro mq hh o
       intro ns ik
       have hsN:=SN.st g o
       obtain⟨rfl,il⟩:=ik
       have hsF:=hsN.fz
       refine Cv O O O S5 O (IZ hsF il dh) λnt im io ip p=>?_
       obtain⟨b2,rfl,ir,dk⟩:=p
       have dl:Rd im io (AM.fnr Tryz.prog (λS h vs (x:(List Int))=>∃W:Value,vs=[W]∧Sl S h AM.int W x) (λS h v (y:((List Int)×(List Int)))=>∃W w1:Value,v= .tuple #[W,w1]∧Sl S h AM.int W y.1∧Sl S h AM.int w1 y.2)) (.func (.func 89) #[] #[b2]) (λx=>Ab N ag x):=KD 89 #[b2] Sy λS' h' s' e' L hs x y vs h1 h2=>by obtain⟨W,rfl,a0⟩:=h1;exact Mt (He hs a0 (ir.mono'' s' e') h2)
       have bc:=Fz.done o ip dk
       exact Cm bc.1 (Rd.mono dl bc.2)
      refine A3.cons O ?_ ?_
      ·intro mq hh o
       intro nu it nv iu nw iv iw az
       have hsN:=SN.st g o
       obtain⟨rfl,iy⟩:=it
       obtain⟨rfl,iz⟩:=iu
       obtain⟨rfl,i0⟩:=iv
       have az:Rd _ _ (AM.fnr Tryz.prog (λS h vs (x:(List Int))=>∃W:Value,vs=[W]∧Sl S h AM.int W x) (λS h v (y:((List Int)×(List Int)))=>∃W w1:Value,v= .tuple #[W,w1]∧Sl S h AM.int W y.1∧Sl S h AM.int w1 y.2)) iw (λx=>Ab N ag x):=az
       refine AG 1 ?_
       obtain⟨dm,dn,rfl,lx,ly⟩:=az.fnr
       exact HA (cs:=[vI c.To,vI c.Delay,vI t,(.func (.func dm) #[] dn)]) OH O O O (AO (Av.mk (x:=(⟨c.To,c.Delay,t,(λx=>Ab N ag x)⟩:AL)) iy iz i0 az))
      refine A3.cons O ?_ ?_
      ·intro mq hh o
       intro i1 be
       have hsN:=SN.st g o
       have be:Rd _ _ Av i1 (⟨c.To,c.Delay,t,(λx=>Ab N ag x)⟩:AL):=be
       have hsF:=hsN.fz
       obtain⟨i2,rfl,i3,i4,i5,i6⟩:=Av.ex be
       refine DY (cs:=[vI ((⟨c.To,c.Delay,t,(λx=>Ab N ag x)⟩:AL).to_),vI ((⟨c.To,c.Delay,t,(λx=>Ab N ag x)⟩:AL).delay),vI ((⟨c.To,c.Delay,t,(λx=>Ab N ag x)⟩:AL).way),i2]) LD O O O O O O O hsF λnx ny dp b3=>?_
       have i7:=i6.mono b3
       have dq:=dp.bxos (r:=Av) (l:=([(⟨c.To,c.Delay,t,(λx=>Ab N ag x)⟩:AL)]:List AL)) .head ⟨_,_,O,⟨_,O,i3,i4,i5,i7⟩,O⟩ (by simp [maxLen])
       obtain⟨nz,dr,i8,i9⟩:=dq.pubs .head
       have bf:=Fz.done o (b3.trans i8) dr
       exact Cm bf.1 ⟨Sl.mono' i9 bf.2,_,O⟩
      exact trivial
     intro n0 b4 n2 ja n3 bg
     have ds:=SN.st g b4
     cases ja
     obtain⟨bg,lz,rfl⟩:=bg
     obtain⟨dt,E⟩:=Lr E
     refine JJ (r:=Av) (l:=l9) (xs:=([(⟨c.To,c.Delay,t,(λx=>Ab N ag x)⟩:AL)]:List AL)) O O LD O (Sl.src bg) O dt O ds (λ_=>(.tail .head)) λjb n4 du jc=>AG 1 (AY O (AF (AZ (kp [5,14,13,0,1,15] O) (BO (WF.nil (λaa ww hf hw=>?_))))))
     have dv:=du.sel [1,1,1,1,1,1,1,1,1,1,1] 1 O
     exact⟨jb,(l9++([(⟨c.To,c.Delay,t,(λx=>Ab N ag x)⟩:AL)]:List AL)),_,_,hf.sub (kp [14,13,0,1,15,5] O),hw,dv,(a5.trans (ak.trans ((SN.ext g.1 b4).trans jc))),E⟩
    refine AI (AD Hz O (AS A9 g O mh O Ag O (AA O (BL O (AA O (AV 4 110 (.bool ((decide (c.To=I))&&(decide (c.Kind=4)))) ?_ ?_))))))
    ·cases n5:(decide (c.To=I))
     ·exact Aa O O
     exact AB O (AD GK O (AB O (AS A9 g O mh O Ag O (AB O (BL O (AJ O (AU O)))))))
    refine AK O (kp [101,6,7,14,13,0,1,5,15] O) (AW O E (λjd E=>?_) (λjd E=>?_))
    ·obtain ⟨n6,dw,E⟩:=bd E
     obtain⟨b5,dx,E⟩:=bd E
     obtain⟨n7,dy,E⟩:=bd E
     obtain⟨b6,dz,E⟩:=bd E
     obtain⟨b7,d0,E⟩:=bd E
     obtain⟨b8,d1,E⟩:=bd E
     obtain⟨ah,d2,E⟩:=bd E
     refine Mk (m:=[(6,vI t),(7,vP ai 0),(14,vI (↑p0_w.b.Links.length:Int)),(13,H),(0,vP j 0),(1,vI I),(5,v8),(15,vI t)]) 27 (λi v hh=>match i with|0=>v=v8|1=>v=vP ai 2|2=>v=vI c.From∧AH c.From|3=>v=vP ai 17|4=>v=vI c.Delay∧AH c.Delay|5=>v=vI t∧AH t|6=>v= .agg #[.string c.Name,vI c.Kind,vI c.From,vI c.To,ap,aq,ar,vI c.Positions,vI c.Speed,vI c.Leak,vI c.Crest,vI c.Num,vI c.Den,vI c.Prime,vI c.Break,vI c.BackNum,vI c.BackDen,vI c.Delay]∧c.Name.size≤maxLen∧AH c.Kind∧AH c.From∧AH c.To∧AH c.Positions∧AH c.Speed∧AH c.Leak∧AH c.Crest∧AH c.Num∧AH c.Den∧AH c.Prime∧AH c.Break∧AH c.BackNum∧AH c.BackDen∧AH c.Delay|7=>v=vP j 0|8=>v=vP j 0|9=>v=vP j 24|10=>v=d|11=>v=vP ai 2|12=>v=vI c.From∧AH c.From|13=>EP d (c.From.toNat*(AM.int).sz+0) v|14=>v=vI b5∧AH b5|15=>v=vP j 0|16=>v=vP j 0|17=>v=vP j 24|18=>v=d|19=>v=vI I∧AH I|20=>EP d (I.toNat*(AM.int).sz+0) v|21=>v=vI b6∧AH b6|22=>v=vI b7∧AH b7|23=>v=vI b8∧AH b8|24=>Rd (SN am au hh) hh (AM.fnr Tryz.prog (λS h vs (x:(List Int))=>∃W:Value,vs=[W]∧Sl S h AM.int W x) (λS h v (y:((List Int)×(List Int)))=>∃W w1:Value,v= .tuple #[W,w1]∧Sl S h AM.int W y.1∧Sl S h AM.int w1 y.2)) v (λx=>Ab N ah x)|25=>Rd (SN am au hh) hh Av v (⟨c.From,c.Delay,t,(λx=>Ab N ah x)⟩:AL)|26=>Sl (SN am au hh) hh Av v ([(⟨c.From,c.Delay,t,(λx=>Ab N ah x)⟩:AL)]:List AL)∧∃ad,v= .slice (some ad) 1 1|_=>False) [[],[],[(1,112)],[],[(3,114)],[],[],[],[(7,118)],[(8,119)],[(9,120)],[],[(11,122)],[(10,121),(12,123)],[(13,124)],[],[(15,126)],[(16,127)],[(17,128)],[],[(18,129),(19,130)],[(20,131)],[(6,117),(14,125),(21,132)],[(22,133)],[(23,134)],[(2,113),(4,115),(5,116),(24,135)],[(25,136)]] [(0,111),(26,137)] mo (by kernel_rfl) [6,7,14,13,0,1,5,15] O (by kernel_rfl) (by kernel_rfl) (by kernel_rfl) (kp [6,7,14,13,0,1,5,15] O) (λi v h1 h2 o1 o2 hr=>?_) ?_ ?_
     ·match i,hr with
       |0,hr|1,hr|2,hr|3,hr|4,hr|5,hr|6,hr|7,hr|8,hr|9,hr|10,hr|11,hr|12,hr|13,hr|14,hr|15,hr|16,hr|17,hr|18,hr|19,hr|20,hr|21,hr|22,hr|23,hr=>exact hr
       |24,hr|25,hr=>exact Rd.mono hr (SN.mono g.1 o1 o2)
       |26,hr=>exact⟨Sl.mono' hr.1 (SN.mono g.1 o1 o2),hr.2⟩
       |_+27,hr=>exact hr.elim
     ·refine A3.cons O (λ_ _ _=>AG 1 (AA O (AO O))) (A3.cons O (λ_ _ _=>AG 1 (AD JW O (AO O))) (A3.cons O (λ_ _ o _ je=>by cases je;exact AG 1 (AS A9 (o.st g) O mh O Ag O (AO ⟨O,a6⟩))) (A3.cons O (λ_ _ _=>AG 1 (AD MZ O (AO O))) (A3.cons O (λ_ _ o _ jf=>by cases jf;exact AG 1 (AS A9 (o.st g) O mh O Ag O (AO ⟨O,a3⟩))) (A3.cons O (λ_ _ _=>AG 1 (AA O (AO ⟨O,bl⟩))) (A3.cons O (λ_ _ o=>AG 1 (Db (vs:=[.string c.Name,vI c.Kind,vI c.From,vI c.To,ap,aq,ar,vI c.Positions,vI c.Speed,vI c.Leak,vI c.Crest,vI c.Num,vI c.Den,vI c.Prime,vI c.Break,vI c.BackNum,vI c.BackDen,vI c.Delay]) A9 (o.st g) O mh O O Hd O O (AO ⟨O,cm,cn,a6,a2,co,cp,cq,cr,ct,cu,cv,cw,cx,cy,a3⟩))) (A3.cons O (λ_ _ _=>AG 1 (AA O (AO O))) (A3.cons O (λ_ _ _ _ jg=>by cases jg;exact AG 1 (CP O O (AO O))) (A3.cons O (λ_ _ _ _ jh=>by cases jh;exact AG 1 (AD Jx O (AO O))) (A3.cons O (λ_ _ o _ ji=>by cases ji;exact AG 1 (AS A9 (o.st g) O (mt (mt mh)) O BW O (AO O))) (A3.cons O (λ_ _ _=>AG 1 (AD JW O (AO O))) ?_)))))))))))
      refine A3.cons O (λ_ _ o _ jj=>by cases jj;exact AG 1 (AS A9 (o.st g) O mh O Ag O (AO ⟨O,a6⟩))) (A3.cons O (λ_ _ o=>by intro n8 jk n9 jl;cases jk;obtain ⟨rfl,oa⟩:=jl;exact AG 1 (A8 (o.st g) (mt (mt (mt (mt (mt (mt (mt (mt (mt (mt mh)))))))))) O O BQ dw O λob d3=>AO d3)) ?_)
      refine A3.cons O ?_ ?_
      ·intro mq hh o
       intro oc jm
       have hsN:=o.st g
       refine AG 1 ?_
       have jn:=hsN.epAt (mt (mt (mt (mt (mt (mt (mt (mt (mt (mt mh)))))))))) dx E9.id jm
       exact Af A9 (λ_ x=>x) O jn Ag O λjo=>AO ⟨O,jo⟩
      refine A3.cons O (λ_ _ _=>AG 1 (AA O (AO O))) (A3.cons O (λ_ _ _ _ jp=>by cases jp;exact AG 1 (CP O O (AO O))) (A3.cons O (λ_ _ _ _ jq=>by cases jq;exact AG 1 (AD Jx O (AO O))) (A3.cons O (λ_ _ o _ jr=>by cases jr;exact AG 1 (AS A9 (o.st g) O (mt (mt mh)) O BW O (AO O))) (A3.cons O (λ_ _ _=>AG 1 (AA O (AO ⟨O,ao⟩))) (A3.cons O (λ_ _ o=>by intro od js oe jt;cases js;obtain ⟨rfl,og⟩:=jt;exact AG 1 (A8 (o.st g) (mt (mt (mt (mt (mt (mt (mt (mt (mt (mt mh)))))))))) O O BQ dy O λoh d4=>AO d4)) ?_)))))
      refine A3.cons O ?_ ?_
      ·intro mq hh o
       intro oi ju
       have hsN:=o.st g
       refine AG 1 ?_
       have jv:=hsN.epAt (mt (mt (mt (mt (mt (mt (mt (mt (mt (mt mh)))))))))) dz E9.id ju
       exact Af A9 (λ_ x=>x) O jv Ag O λjw=>AO ⟨O,jw⟩
      refine A3.cons O ?_ ?_
      ·intro mq hh o
       intro oj jx ok jy ol jz
       have hsN:=SN.st g o
       obtain⟨rfl,j0,j1,j2,j3,j4,j5,j6,j7,j8,j9,ka,kb,kc,kd,ke⟩:=jx
       obtain⟨rfl,kf⟩:=jy
       obtain⟨rfl,kg⟩:=jz
       refine BX O O O ZA O hsN (Nj (St.all _) (Bu.mk (x:=c) j0 j1 j2 j3 ((bo.mono' (ak.trans (SN.ext g.1 o))).mono (λb hb=>hsN.1 b hb) (λ_ _=>rfl)) ((bp.mono' (ak.trans (SN.ext g.1 o))).mono (λb hb=>hsN.1 b hb) (λ_ _=>rfl)) ((bq.mono' (ak.trans (SN.ext g.1 o))).mono (λb hb=>hsN.1 b hb) (λ_ _=>rfl)) j4 j5 j6 j7 j8 j9 ka kb kc kd ke) kf kg d0) λom oo op l0 oq b9 p=>?_
       obtain⟨rfl,kh,l1⟩:=p
       exact Cm ⟨b9.siz,λb hb=>b9.same b hb⟩ ⟨O,kh⟩
      refine A3.cons O ?_ ?_
      ·intro mq hh o
       intro os ki
       have hsN:=SN.st g o
       obtain⟨rfl,kj⟩:=ki
       refine BX O O O S7 O hsN (JB (St.all _) (iq (n:=0) O) kj d1) λot ou ov l2 ow ca p=>?_
       obtain⟨rfl,kk,l4⟩:=p
       exact Cm ⟨ca.siz,λb hb=>ca.same b hb⟩ ⟨O,kk⟩
      refine A3.cons O ?_ ?_
      ·intro mq hh o
       intro ox kl
       have hsN:=SN.st g o
       obtain⟨rfl,km⟩:=kl
       have hsF:=hsN.fz
       refine Cv O O O S5 O (IZ hsF km d2) λoy kn ko kq p=>?_
       obtain⟨cb,rfl,kr,d5⟩:=p
       have d6:Rd kn ko (AM.fnr Tryz.prog (λS h vs (x:(List Int))=>∃W:Value,vs=[W]∧Sl S h AM.int W x) (λS h v (y:((List Int)×(List Int)))=>∃W w1:Value,v= .tuple #[W,w1]∧Sl S h AM.int W y.1∧Sl S h AM.int w1 y.2)) (.func (.func 89) #[] #[cb]) (λx=>Ab N ah x):=KD 89 #[cb] Sy λS' h' s' e' L hs x y vs h1 h2=>by obtain⟨W,rfl,a0⟩:=h1;exact Mt (He hs a0 (kr.mono'' s' e') h2)
       have bh:=Fz.done o kq d5
       exact Cm bh.1 (Rd.mono d6 bh.2)
      refine A3.cons O ?_ ?_
      ·intro mq hh o
       intro oz ks o0 kt o3 ku kv a1
       have hsN:=SN.st g o
       obtain⟨rfl,kw⟩:=ks
       obtain⟨rfl,kx⟩:=kt
       obtain⟨rfl,ky⟩:=ku
       have a1:Rd _ _ (AM.fnr Tryz.prog (λS h vs (x:(List Int))=>∃W:Value,vs=[W]∧Sl S h AM.int W x) (λS h v (y:((List Int)×(List Int)))=>∃W w1:Value,v= .tuple #[W,w1]∧Sl S h AM.int W y.1∧Sl S h AM.int w1 y.2)) kv (λx=>Ab N ah x):=a1
       refine AG 1 ?_
       obtain⟨d7,d8,rfl,l5,l6⟩:=a1.fnr
       exact HA (cs:=[vI c.From,vI c.Delay,vI t,(.func (.func d7) #[] d8)]) OH O O O (AO (Av.mk (x:=(⟨c.From,c.Delay,t,(λx=>Ab N ah x)⟩:AL)) kw kx ky a1))
      refine A3.cons O ?_ ?_
      ·intro mq hh o
       intro kz bi
       have hsN:=SN.st g o
       have bi:Rd _ _ Av kz (⟨c.From,c.Delay,t,(λx=>Ab N ah x)⟩:AL):=bi
       have hsF:=hsN.fz
       obtain⟨k0,rfl,k1,k2,k3,k4⟩:=Av.ex bi
       refine DY (cs:=[vI ((⟨c.From,c.Delay,t,(λx=>Ab N ah x)⟩:AL).to_),vI ((⟨c.From,c.Delay,t,(λx=>Ab N ah x)⟩:AL).delay),vI ((⟨c.From,c.Delay,t,(λx=>Ab N ah x)⟩:AL).way),k0]) LD O O O O O O O hsF λo4 o5 d9 cc=>?_
       have k5:=k4.mono cc
       have ea:=d9.bxos (r:=Av) (l:=([(⟨c.From,c.Delay,t,(λx=>Ab N ah x)⟩:AL)]:List AL)) .head ⟨_,_,O,⟨_,O,k1,k2,k3,k5⟩,O⟩ (by simp [maxLen])
       obtain⟨o6,eb,k6,k7⟩:=ea.pubs .head
       have bj:=Fz.done o (cc.trans k6) eb
       exact Cm bj.1 ⟨Sl.mono' k7 bj.2,_,O⟩
      exact trivial
     intro o7 cd o8 k8 o9 bk
     have ec:=SN.st g cd
     cases k8
     obtain⟨bk,l7,rfl⟩:=bk
     obtain⟨ed,E⟩:=Lr E
     refine JJ (r:=Av) (l:=l9) (xs:=([(⟨c.From,c.Delay,t,(λx=>Ab N ah x)⟩:AL)]:List AL)) O O LD O (Sl.src bk) O ed O ec (λ_=>(.tail .head)) λk9 pa ee la=>AG 1 (AY O (AF (AZ (kp [5,14,13,0,1,15] O) (BO (WF.nil (λaa ww hf hw=>?_))))))
     have ef:=ee.sel [1,1,1,1,1,1,1,1,1,1,1] 1 O
     exact⟨k9,(l9++([(⟨c.From,c.Delay,t,(λx=>Ab N ah x)⟩:AL)]:List AL)),_,_,hf.sub (kp [14,13,0,1,15,5] O),hw,ef,(a5.trans (ak.trans ((SN.ext g.1 cd).trans la))),E⟩
    refine AQ (BO (WF.nil (λaa ww hf hw=>?_)))
    have eg:=g.sel [1,1,1,1,1,1,1,1,1,1,1] 1 O
    exact⟨v8,l9,_,_,hf.sub (kp [14,13,0,1,15,5] O),hw,eg,(a5.trans ak),E⟩
   rintro aa ww ⟨bm,bn,pb,pc,hf,hw,eh,lb,E⟩
   refine Ac ?_ hf hw
   clear hf hw ww aa
   rw[C4] at E
   refine BZ (.inl O) (Ai O (AA O (AN (kp [15,14,13,0,1,5] O) (WF.nil (λaa ww hf hw=>?_)))))
   exact⟨bm,bn,(BD (t+1)),_,_,hf.sub (kp [14,13,0,1,5,15] O),hw,eh,(cl.trans lb),(BK _),E⟩
  refine BC O (λaa ww hf hw=>?_)
  exact⟨v8,l9,_,_,hf.sub (kp [5] O),hw,a4,cl,E⟩
 rintro aa ww ⟨v2,l3,pd,pe,hf,hw,ei,lc,E⟩
 refine Ac ?_ hf hw
 clear hf hw ww aa
 rw[Ci] at E
 refine AI (AA O (AK O (kp [4] O) (Ad (λaa ww hf hw=>?_))))
 cases E
 exact Dx hf hw O O lc ei
end Go.Proofs.YtblcgjadhemlbaaGreat
