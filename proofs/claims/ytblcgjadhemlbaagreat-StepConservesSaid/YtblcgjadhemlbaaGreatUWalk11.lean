import Derived.Test.YtblcgjadhemlbaaGreatUWalk10
namespace Go.Proofs.YtblcgjadhemlbaaGreat
open Go.RowKit
set_option linter.unusedVariables false
set_option linter.unusedSimpArgs false
set_option maxRecDepth 10000
set_option maxHeartbeats 2000000
variable {N:Nat}{S:Nat→Prop}{L:List HP}{h:Av}
theorem QH (hs:St S L h) {g:Value}{d:(List Int)}(c:Sl S h AM.int g d) {j:Int}(y:AG j) {r:(List Int)×(List Int)}(E:Jz N d j=some r):
 CG Tryz.prog 90 #[g,vI j] S h (λv S' h'=>∃I J:Value,v= .tuple #[I,J]∧St S' (OS AM.int 3 I r.1::OS AM.int 3 J r.2::L) h'):=by
 refine BB (l:=[g,vI j]) 39 Tryz.func90 O Tryz.ntmps90 O λB=>?_
 rw[Jz] at E
 refine AI (AY O (AL O (kp [0,1] O) (WF.sl (AH 2 (AA O (Al O c BG O λb1=>AF ?_))))))
 obtain⟨ak,E⟩:=MR E
 refine I9 (r:=AM.int) (zx:=0) FJ O ⟨O,by unfold AG;omega⟩ O O ak O O hs λv3 h4 K M=>AH 1 (AY O (AF (AZ (kp [4,0,1] O) (AD (AD (Bl (.inl O) K (AA O (Bh O (AA O (AV 4 17 (.bool ((decide (0<j))&&(decide ((↑d.length:Int)≤64)))) ?_ ?_))))))))))
 ·cases c7:(decide (0<j))
  ·exact Aa O O
  exact AB O (AA O (AB O (Al O (c.mono' M) BG O λb9=>AB O (Ft O (AJ O (AU O))))))
 refine AA O ?_
 obtain⟨al,i,E⟩:=bd E
 refine AV 3 21 (.bool al) ?_ ?_
 ·cases Q:((decide (0<j))&&(decide ((↑d.length:Int)≤64)))
  ·have i:=GB Q i
   cases i
   exact Aa O O
  have i:=GA Q i
  refine AB O (AA O (AB O ?_))
  obtain⟨a1,U,i⟩:=bd i
  refine Az O O O ZZ O (λh' o=>ML (St.all h') ((c.mono' M).mono' (o.all K.1)) U) (AJ O ?_)
  cases i
  exact AU O
 refine BJ (kp [21,4,0,1] O) λV u G=>Gs (λa w=>∃(H:List Int),IV B S V (39,[]) a w [(4,v3),(0,g)] (OS AM.int 3 v3 H::L) λ_ _=>F6 N d H=some r) ?_ ?_
 ·refine AX O E (λam E=>?_) (λam E=>?_)
  ·refine WF.sl (AH 2 (AA O (AA O (AF ?_))))
   obtain⟨a2,W,E⟩:=bd E
   refine BZ O O O NC O u (Ef (St.all _) ((c.mono' (M.trans G)).mono (λb hb=>u.1 b hb) (λ_ _=>rfl)) W) λa3 a4 a5 x X a6 p=>?_
   obtain⟨rfl,an,ay⟩:=p
   refine AH 2 (P2 O O O (AA O (AF ?_)))
   obtain⟨Y,Z,E⟩:=bd E
   refine BZ O O O bE O x (Oz (St.all _) (LQ y an) ((c.mono' (M.trans (G.trans X))).mono (λb hb=>x.1 b hb) (λ_ _=>rfl)) Z) λa7 a8 ab az ao ap p=>?_
   obtain⟨a9,rfl,ac⟩:=p
   have s:=x.join ap ac ⟨OS.flat (λ{_ _ _ _ _ _} k=>k),trivial⟩
   simp only[List.cons_append,List.nil_append] at s
   refine AH 5 (AA O (Bi O (Bi O (AY O (AY O (AF (AZ (kp [7,6,4,0] O) (AI (AA O (AN (kp [31,6,4,0] O) (Gs (λa w=>∃(z:List Int),IV B S ab (39,[]) a w [(4,v3),(0,g)] (OS AM.int 3 v3 z::L) λ_ _=>IR N (F6 N d) z=some r) ?_ ?_)))))))))))
   ·refine AX O E (λaq E=>?_) (λaq E=>?_)
    ·refine EQ (AH 2 (AA O (AA O (AF (R6 (r:=AM.int) (l:=(List.replicate ((↑d.length:Int):Int).toNat (0:Int))) (xs:=Y.1) O O BG (St.src s mh) O s (.tail .head) λba ad ar=>AZ (kp [4,0] O) (WF.nil (λA C m n=>?_)))))))
     have ae:=ad.sel [1] 1 O
     exact⟨(Ms (List.replicate ((↑d.length:Int):Int).toNat (0:Int)) Y.1),_,_,m.sub (kp [4,0] O),n,ae,ar,E⟩
    refine AT (WF.nil (λA C m n=>?_))
    have af:=s.sel [1] 1 O
    exact⟨(List.replicate ((↑d.length:Int):Int).toNat (0:Int)),_,_,m.sub (kp [4,0] O),n,af,(B9.refl S ab),E⟩
   rintro A C ⟨z,bb,bc,m,n,ag,au,E⟩
   refine Ad ?_ m n
   clear m n C A
   rw[IR] at E
   refine WF.nil (λA C m n=>?_)
   exact⟨z,_,_,m.sub (kp [4,0] O),n,ag,(X.trans (ao.trans au)),E⟩
  refine AT (WF.nil (λA C m n=>?_))
  exact⟨(List.replicate ((↑d.length:Int):Int).toNat (0:Int)),_,_,m.sub (kp [4,0] O),n,u,(B9.refl S V),E⟩
 rintro A C ⟨H,be,bf,m,n,t,av,E⟩
 refine Ad ?_ m n
 clear m n C A
 rw[F6] at E
 refine WF.sl (AH 3 (AA O (AA O (AA O (AF ?_)))))
 have D:=M.trans (G.trans av)
 obtain⟨bg,ah,E⟩:=bd E
 refine BZ O O O ZV O t (LN (St.all _) ((c.mono' D).mono (λb hb=>t.1 b hb) (λ_ _=>rfl)) (t.oslAll mh) ah) λbh bi bj a0 aw ax p=>?_
 have ai:=p
 have F:=t.join ax ai ⟨OS.flat (λ{_ _ _ _ _ _} k=>k),trivial⟩
 simp only[List.cons_append,List.nil_append] at F
 refine AH 2 (AY O (AY O (AF (AZ (kp [5,4] O) (Ac (λA C m n=>?_))))))
 have aj:=F.sel [1,0] 0 O
 cases E
 exact J9 m O n (IC (Im m (v:=_) O) (IC (Im m (v:=_) O) J8)) O (D.trans aw) ⟨_,_,O,aj⟩
theorem HW (hs:St S L h) {a:Value}{c:(List Int)}(d:Sl S h AM.int a c) {g:Value}{c1_:Int}(j:Pt S h AM.int g c1_) {r:(List Int)×(List Int)}(E:Ab N c1_ c=some r):
 CG Tryz.prog 89 #[a,g] S h (λv S' h'=>∃m n:Value,v= .tuple #[m,n]∧St S' (OS AM.int 3 m r.1::OS AM.int 3 n r.2::L) h'):=by
 refine BB (l:=[a,g]) 10 Tryz.func89 O Tryz.ntmps89 O λB=>?_
 rw[Ab] at E
 refine AI (AY O (AL O (kp [0,1] O) (WF.sl (AH 2 (AA O (Ah A6 hs.1 O j Ag O λw=>AF ?_))))))
 obtain⟨A,s,E⟩:=bd E
 refine BZ O O O fG O hs (QH (St.all _) (d.mono (λb hb=>hs.1 b hb) (λ_ _=>rfl)) w s) λC D F x y t p=>?_
 obtain⟨G,H,rfl,o⟩:=p
 have i:=hs.join t o ⟨OS.flat (λ{_ _ _ _ _ _} k=>k),⟨OS.flat (λ{_ _ _ _ _ _} k=>k),trivial⟩⟩
 simp only[List.cons_append,List.nil_append] at i
 refine AH 4 (Bi O (Bi O (AY O (AY O (AF (AZ (kp [4,3] O) (Ac (λI J u z=>?_))))))))
 cases E
 exact J9 u O z (IC (Im u (v:=_) O) (IC (Im u (v:=_) O) J8)) O y ⟨_,_,O,i⟩
theorem NA (hs:St S L h) {c:Int}(i:AG c) {a:Int}(d:AG a) {b:Int}(g:AG b) {r:Int}(E:JA N c a b=some r):
 CG Tryz.prog 98 #[vI c,vI a,vI b] S h (λv S' h'=>v=vI r∧AG r∧St S' (L) h'):=by
 refine BB (l:=[vI c,vI a,vI b]) 21 Tryz.func98 O Tryz.ntmps98 O λB=>?_
 rw[JA] at E
 refine AI (AL O (kp [0,1,2] O) (AD (Bl (.inl O) hs (AA O (AA O (AA O ?_))))))
 obtain⟨j,m,E⟩:=bd E
 refine H8 (v:= .tuple #[vI j.1,vI j.2.1,.bool j.2.2]) (Ψ:=AG j.1∧AG j.2.1) O O O TD O (λh' o=>(H7 (St.all h') i d g m).mono λ_ _ _ _ p=>⟨p.1,⟨p.2.1,p.2.2.1⟩⟩) λu=>?_
 obtain⟨w,A⟩:=u
 refine AA O (Bi O (Bi O (Bi O (AY O (AY O (AY O (BJ (kp [9,7] O) λC k t=>AD (AI (AA O (BV O (AN (kp [19,7] O) (AX O E (λx E=>?_) (λx E=>?_)))))))))))))
 ·refine AI (AL O (kp [6] O) (Ac (λy z q s=>?_)))
  cases E
  exact Dm q s O O t ⟨O,(iq (n:=0) O),k⟩
 refine AT (AI (AA O (AL O (kp [6] O) (Ac (λy z q s=>?_)))))
 cases E
 exact Dm q s O O t ⟨O,w,k⟩
theorem NY (hs:St S L h) {b:Value}{k:Ay}(j:Rd S h Bu b k) {a:Int}(d:AG a) {c:Int}(i:AG c) {r:Int}(E:Je N k a c=some r):
 CG Tryz.prog 86 #[b,vI a,vI c] S h (λv S' h'=>v=vI r∧AG r∧St S' (L) h'):=by
 refine BB (l:=[b,vI a,vI c]) 23 Tryz.func86 O Tryz.ntmps86 O λB=>?_
 rw[Je] at E
 refine WF.sl (B5 O j (λe=>by cases e) O hs λq1 S2 h3 g M m=>AH 1 (AY O (AF (AZ (kp [3,1,2] O) (AD (AI (Ai O m Ay.f_Kind GD O λq7 Q=>Ah A6 g.1 O Q Ag O λr9=>Bc O (AN (kp [9,3,1,2] O) (AX O E (λu E=>?_) (λu E=>?_))))))))))
 ·refine AI (AL O (kp [6] O) (Ac (λU V w x=>?_)))
  cases E
  exact Dm w x O O M ⟨O,(iq (n:=0) O),g⟩
 refine AT (AD (Bl (.inr ⟨mo,by kernel_rfl⟩) g (AA O (Ai O m Ay.f_Num IP O λW y=>Ah Bb g.1 O y Ag O λz=>Ai O m Ay.f_Den JH O λX A=>Ah Bb g.1 O A Ag O λC=>?_))))
 obtain⟨Y,p,E⟩:=bd E
 refine CE O O O ZU O (λh' o=>NA (St.all h') d z C p) λD=>?_
 have Z:=D
 refine AA O (Ai O m IB Kj O λab F=>Ah Bb g.1 O F Ag O λG=>Ai O m G7 Jx O λac H=>Ah Bb g.1 O H Ag O λI=>?_)
 obtain⟨ad,s,E⟩:=bd E
 refine CE O O O ZU O (λh' o=>NA (St.all h') i G I s) λJ=>?_
 have ae:=J
 refine Cg O (AY O (BJ (kp [6] O) λaf t K=>Ac (λU V w x=>?_)))
 cases E
 exact Dm w x O O (M.trans K) ⟨O,(BI _),t⟩
theorem M2 {j:Nat}{p0_w:Aj}{X:Value}{Y:Value}{H:Value}{Z:Value}{ab:Value}{ac:Value}{ae:Value}{af:Value}{J:Value}{K:Value}{M:Value}{Q:Value}{U:Value}{u:Value}{z:Value}{A:Value}{k:Value}{C:Value}{D:Value}{F:Value}{d:Value}{G:Value}(hs:St S (Bx j 84 [.string p0_w.b.Name,X,vI p0_w.b.Cells,Y,H,Z,ab,ac,ae,af,vI p0_w.b.Err,J,K,M,Q,U,vI p0_w.s.Hour,u,z,A,k,C,D,F,d,G]::OS (AM.sl AM.int) 29 u p0_w.s.Own::OS AM.int 3 z p0_w.s.Rem::OS Ap 60 A p0_w.s.Queue::OS A8 69 k p0_w.s.Gates::OS AM.int 3 C p0_w.s.In::OS AM.int 3 D p0_w.s.Out::OS BT 50 F p0_w.moves::OS AM.int 3 d p0_w.peaks::OS Ap 60 G p0_w.sent::L) h) (ej:p0_w.b.Name.size≤maxLen) (ek:Sl S h AM.str X p0_w.b.Owners) (el:AG p0_w.b.Cells) (em:Sl S h Bw Y p0_w.b.Places) (an:Sl S h Bu H p0_w.b.Links) (en:Sl S h GL Z p0_w.b.Towns) (eo:Sl S h EN ab p0_w.b.Gauges) (ep:Sl S h F8 ac p0_w.b.Roads) (eq:Sl S h Cr ae p0_w.b.Shelters) (er:Sl S h AM.int af p0_w.b.Room) (ce:AG p0_w.b.Err) (cf:Sl S h AM.int J p0_w.in_.Rain) (cg:Sl S h FL K p0_w.in_.Faults) (ch:Sl S h IX M p0_w.in_.Cmds) (ci:Sl S h FX Q p0_w.in_.Takes) (cj:Sl S h GM U p0_w.in_.Swaps) (ck:AG p0_w.s.Hour) {I:Int}(ao:AG I) {r:(List AK)}(E:HD N p0_w I=some r):
 CG Tryz.prog 63 #[vP j 0,vI I] S h (λv S' h'=>St S' (OS Ar 111 v r::Bx j 84 [.string p0_w.b.Name,X,vI p0_w.b.Cells,Y,H,Z,ab,ac,ae,af,vI p0_w.b.Err,J,K,M,Q,U,vI p0_w.s.Hour,u,z,A,k,C,D,F,d,G]::OS (AM.sl AM.int) 29 u p0_w.s.Own::OS AM.int 3 z p0_w.s.Rem::OS Ap 60 A p0_w.s.Queue::OS A8 69 k p0_w.s.Gates::OS AM.int 3 C p0_w.s.In::OS AM.int 3 D p0_w.s.Out::OS BT 50 F p0_w.moves::OS AM.int 3 d p0_w.peaks::OS Ap 60 G p0_w.sent::L) h'):=by
 refine BB (l:=[vP j 0,vI I]) 141 Tryz.func63 O Tryz.ntmps63 O λB=>?_
 rw[HD] at E
 refine AI (AL O (kp [0,1] O) (AI (AL O (kp [5,0,1] O) (AD (AI (AA O (CI O O (AC GC O (AC HA O (AS A6 hs O mh O Ju O (Al O an H4 O λb1=>AA O (AN (kp [15,14,13,5,0,1] O) (Am (λa w=>∃(v2:Value) (l3:List AK),IV B S h (141,[]) a w [(5,v2)] (OS Ar 111 v2 l3::Bx j 84 [.string p0_w.b.Name,X,vI p0_w.b.Cells,Y,H,Z,ab,ac,ae,af,vI p0_w.b.Err,J,K,M,Q,U,vI p0_w.s.Hour,u,z,A,k,C,D,F,d,G]::OS (AM.sl AM.int) 29 u p0_w.s.Own::OS AM.int 3 z p0_w.s.Rem::OS Ap 60 A p0_w.s.Queue::OS A8 69 k p0_w.s.Gates::OS AM.int 3 C p0_w.s.In::OS AM.int 3 D p0_w.s.Out::OS BT 50 F p0_w.moves::OS AM.int 3 d p0_w.peaks::OS Ap 60 G p0_w.sent::L) λ_ _=>Cc N l3=some r) ?_ ?_)))))))))))))
 ·refine A3 (λn1=>λa w=>∃(v8:Value) (l9:List AK) (t:Int),IV B S h (141,[]) a w [(14,vI (↑p0_w.b.Links.length:Int)),(13,H),(0,vP j 0),(1,vI I),(5,v8),(15,vI t)] (OS Ar 111 v8 l9::Bx j 84 [.string p0_w.b.Name,X,vI p0_w.b.Cells,Y,H,Z,ab,ac,ae,af,vI p0_w.b.Err,J,K,M,Q,U,vI p0_w.s.Hour,u,z,A,k,C,D,F,d,G]::OS (AM.sl AM.int) 29 u p0_w.s.Own::OS AM.int 3 z p0_w.s.Rem::OS Ap 60 A p0_w.s.Queue::OS A8 69 k p0_w.s.Gates::OS AM.int 3 C p0_w.s.In::OS AM.int 3 D p0_w.s.Out::OS BT 50 F p0_w.moves::OS AM.int 3 d p0_w.peaks::OS Ap 60 G p0_w.sent::L) λ_ _=>AG t∧Ba N p0_w I (Cc N) n1 l9 t=some r) N ?_ ?_ ?_
  ·intro aa ww hf hw
   have es:=hs.nil Ar 111
   exact⟨(vN),([]:List AK),0,_,_,hf.sub (kp [14,13,0,1,5,15] O),hw,es,(B9.refl S h),(iq (n:=0) O),E⟩
  ·rintro aa ww ⟨_,_,_,_,_,_,_,_,_,_,E⟩
   rw[Ba] at E;cases E
  rintro n1 aa ww ⟨v8,l9,t,am,lf,hf,hw,a4,cl,bl,E⟩
  refine Ad ?_ hf hw
  clear hf hw ww aa
  rw[Ba] at E
  refine AI (Aq O (AN (kp [16,14,13,0,1,5,15] O) (AD (AX O E (λlg E=>?_) (λlg E=>?_)))))
  ·refine AT (AD (Am (λa w=>∃(bm:Value) (bn:List AK),IV B am lf (141,[]) a w [(14,vI (↑p0_w.b.Links.length:Int)),(13,H),(0,vP j 0),(1,vI I),(15,vI t),(5,bm)] (OS Ar 111 bm bn::Bx j 84 [.string p0_w.b.Name,X,vI p0_w.b.Cells,Y,H,Z,ab,ac,ae,af,vI p0_w.b.Err,J,K,M,Q,U,vI p0_w.s.Hour,u,z,A,k,C,D,F,d,G]::OS (AM.sl AM.int) 29 u p0_w.s.Own::OS AM.int 3 z p0_w.s.Rem::OS Ap 60 A p0_w.s.Queue::OS A8 69 k p0_w.s.Gates::OS AM.int 3 C p0_w.s.In::OS AM.int 3 D p0_w.s.Out::OS BT 50 F p0_w.moves::OS AM.int 3 d p0_w.peaks::OS Ap 60 G p0_w.sent::L) λ_ _=>Cz N t (Ba N p0_w I (Cc N) n1) bn=some r) ?_ ?_))
   ·refine WF.sl (AH 3 (AA O ?_))
    obtain⟨c,et,E⟩:=bd E
    refine BD O O (an.mono' cl) H4 et O λpg lh=>B4 A6 a4.1 O lh HV (λe=>by cases e) O λph li=>AF (Cs OQ O a4 λai pi eu a5=>AH 1 (AY O (AF ?_)))
    obtain⟨ap,aq,ar,rfl,cm,cn,a6,a2,bo,bp,bq,co,cp,cq,cr,ct,cu,cv,cw,cx,cy,a3⟩:=Bu.ex (li.mono a5)
    refine HJ (vs:=[.string c.Name,vI c.Kind,vI c.From,vI c.To,ap,aq,ar,vI c.Positions,vI c.Speed,vI c.Leak,vI c.Crest,vI c.Num,vI c.Den,vI c.Prime,vI c.Break,vI c.BackNum,vI c.BackDen,vI c.Delay]) (cs':=[.string c.Name,vI c.Kind,vI c.From,vI c.To,ap,aq,ar,vI c.Positions,vI c.Speed,vI c.Leak,vI c.Crest,vI c.Num,vI c.Den,vI c.Prime,vI c.Break,vI c.BackNum,vI c.BackDen,vI c.Delay]) O O O (AE O (AE O (AE O (AE O (AE bo.one (AE bp.one (AE bq.one (AE O (AE O (AE O (AE O (AE O (AE O (AE O (AE O (AE O (AE O (AE O EA)))))))))))))))))) HV O eu .head O O λau g ak=>AZ (kp [6,7,14,13,0,1,5,15] O) (A5 (AI (AC JG O (AS A6 g O mh O Ag O (AA O (BH O (AA O (AV 4 29 (.bool ((decide (c.From=I))&&(decide (c.Kind≠4)))) ?_ ?_))))))))
    ·cases pj:(decide (c.From=I))
     ·exact Aa O O
     exact AB O (AC GD O (AB O (AS A6 g O mh O Ag O (AB O (Bc O (AJ O (AU O)))))))
    refine AL O (kp [20,6,7,14,13,0,1,5,15] O) (AX O E (λlj E=>?_) (λlj E=>?_))
    ·refine AI (AL O (kp [8,6,7,14,13,0,1,5,15] O) (AD (AI (AC Hs O (AS A6 g O mh O Ag O (Bc O (AN (kp [32,8,6,7,14,13,0,1,5,15] O) (Gs (λa w=>∃(aw:Int),IV B am au (141,[]) a w [(6,vI t),(7,vP ai 0),(14,vI (↑p0_w.b.Links.length:Int)),(13,H),(0,vP j 0),(1,vI I),(5,v8),(15,vI t),(8,vI aw)] (Bx ai 67 [.string c.Name,vI c.Kind,vI c.From,vI c.To,ap,aq,ar,vI c.Positions,vI c.Speed,vI c.Leak,vI c.Crest,vI c.Num,vI c.Den,vI c.Prime,vI c.Break,vI c.BackNum,vI c.BackDen,vI c.Delay]::OS Ar 111 v8 l9::Bx j 84 [.string p0_w.b.Name,X,vI p0_w.b.Cells,Y,H,Z,ab,ac,ae,af,vI p0_w.b.Err,J,K,M,Q,U,vI p0_w.s.Hour,u,z,A,k,C,D,F,d,G]::OS (AM.sl AM.int) 29 u p0_w.s.Own::OS AM.int 3 z p0_w.s.Rem::OS Ap 60 A p0_w.s.Queue::OS A8 69 k p0_w.s.Gates::OS AM.int 3 C p0_w.s.In::OS AM.int 3 D p0_w.s.Out::OS BT 50 F p0_w.moves::OS AM.int 3 d p0_w.peaks::OS Ap 60 G p0_w.sent::L) λ_ _=>AG aw∧F5 N p0_w I l9 t c (Cz N t (Ba N p0_w I (Cc N) n1)) aw=some r) ?_ ?_))))))))
     ·refine AX O E (λll E=>?_) (λll E=>?_)
      ·refine BY (.inr ⟨mo,by kernel_rfl⟩) (AA O (CI O O (AC Jk O (AS A6 g O (mt (mt mh)) O BP O (AC Hs O (AS A6 g O mh O Ag O ?_))))))
       obtain⟨pk,ev,E⟩:=bd E
       refine A4 g (mt (mt (mt (mt (mt (mt (mt (mt (mt (mt mh)))))))))) O O BG ev O λpl ew=>?_
       obtain⟨lm,ey,E⟩:=bd E
       have lo:=g.epAt (mt (mt (mt (mt (mt (mt (mt (mt (mt (mt mh)))))))))) ey FM.id ew
       refine Ah A6 (λ_ x=>x) O lo Ag O λlp=>AL O (kp [8,6,7,14,13,0,1,5,15] O) (WF.nil (λaa ww hf hw=>?_))
       exact⟨lm,_,_,hf.sub (kp [6,7,14,13,0,1,5,15,8] O),hw,g,(B9.refl am au),lp,E⟩
      refine AT (WF.nil (λaa ww hf hw=>?_))
      exact⟨0,_,_,hf.sub (kp [6,7,14,13,0,1,5,15,8] O),hw,g,(B9.refl am au),(iq (n:=0) O),E⟩
     rintro aa ww ⟨aw,a7,br,hf,hw,V,ez,lq,E⟩
     refine Ad ?_ hf hw
     clear hf hw ww aa
     rw[F5] at E
     obtain⟨pm,e0,E⟩:=bd E
     obtain⟨e1,e2,E⟩:=bd E
     obtain⟨pn,e3,E⟩:=bd E
     obtain⟨e4,e5,E⟩:=bd E
     obtain⟨e6,e7,E⟩:=bd E
     obtain⟨aj,e8,E⟩:=bd E
     refine ND (m:=[(6,vI t),(7,vP ai 0),(14,vI (↑p0_w.b.Links.length:Int)),(13,H),(0,vP j 0),(1,vI I),(5,v8),(15,vI t),(8,vI aw)]) 27 (λi v hh=>match i with|0=>v=v8|1=>v=vP ai 3|2=>v=vI c.To∧AG c.To|3=>v=vP ai 17|4=>v=vI c.Delay∧AG c.Delay|5=>v=vI t∧AG t|6=>v= .agg #[.string c.Name,vI c.Kind,vI c.From,vI c.To,ap,aq,ar,vI c.Positions,vI c.Speed,vI c.Leak,vI c.Crest,vI c.Num,vI c.Den,vI c.Prime,vI c.Break,vI c.BackNum,vI c.BackDen,vI c.Delay]∧c.Name.size≤maxLen∧AG c.Kind∧AG c.From∧AG c.To∧AG c.Positions∧AG c.Speed∧AG c.Leak∧AG c.Crest∧AG c.Num∧AG c.Den∧AG c.Prime∧AG c.Break∧AG c.BackNum∧AG c.BackDen∧AG c.Delay|7=>v=vP j 0|8=>v=vP j 0|9=>v=vP j 16|10=>v=vP j 20|11=>v=k|12=>v=vI t∧AG t|13=>EP k (t.toNat*(A8).sz+0) v|14=>Rd a7 hh A8 v e1|15=>v=vP j 0|16=>v=vP j 0|17=>v=vP j 24|18=>v=d|19=>v=vI I∧AG I|20=>EP d (I.toNat*(AM.int).sz+0) v|21=>v=vI e4∧AG e4|22=>v=vI aw∧AG aw|23=>v=vI e6∧AG e6|24=>Rd (SN a7 br hh) hh (AM.fnr Tryz.prog (λS h vs (x:(List Int))=>∃W:Value,vs=[W]∧Sl S h AM.int W x) (λS h v (y:((List Int)×(List Int)))=>∃W w1:Value,v= .tuple #[W,w1]∧Sl S h AM.int W y.1∧Sl S h AM.int w1 y.2)) v (λx=>Ab N aj x)|25=>Rd (SN a7 br hh) hh Ar v (⟨c.To,c.Delay,t,(λx=>Ab N aj x)⟩:AK)|26=>Sl (SN a7 br hh) hh Ar v ([(⟨c.To,c.Delay,t,(λx=>Ab N aj x)⟩:AK)]:List AK)∧∃ad,v= .slice (some ad) 1 1|_=>False) [[],[],[(1,42)],[],[(3,44)],[],[],[],[(7,48)],[(8,49)],[(9,50)],[(10,51)],[],[(11,52),(12,53)],[(13,54)],[],[(15,56)],[(16,57)],[(17,58)],[],[(18,59),(19,60)],[(20,61)],[],[(6,47),(14,55),(21,62),(22,63)],[(23,64)],[(2,43),(4,45),(5,46),(24,65)],[(25,66)]] [(0,41),(26,67)] mo (by kernel_rfl) [6,7,14,13,0,1,5,15,8] O (by kernel_rfl) (by kernel_rfl) (by kernel_rfl) (kp [6,7,14,13,0,1,5,15,8] O) (λi v h1 h2 o1 o2 hr=>?_) ?_ ?_
     ·match i,hr with
       |0,hr|1,hr|2,hr|3,hr|4,hr|5,hr|6,hr|7,hr|8,hr|9,hr|10,hr|11,hr|12,hr|13,hr|15,hr|16,hr|17,hr|18,hr|19,hr|20,hr|21,hr|22,hr|23,hr=>exact hr
       |14,hr=>exact Rd.mono hr (o2.ext λb hb=>Nat.lt_of_lt_of_le (V.1 b hb) o1.siz)
       |24,hr|25,hr=>exact Rd.mono hr (SN.mono V.1 o1 o2)
       |26,hr=>exact⟨Sl.mono' hr.1 (SN.mono V.1 o1 o2),hr.2⟩
       |_+27,hr=>exact hr.elim
     ·refine A0.cons O (λ_ _ _=>AH 1 (AA O (AO O))) (A0.cons O (λ_ _ _=>AH 1 (AC Hs O (AO O))) (A0.cons O (λ_ _ o _ e9=>by cases e9;exact AH 1 (AS A6 (o.st V) O mh O Ag O (AO ⟨O,a2⟩))) (A0.cons O (λ_ _ _=>AH 1 (AC Nq O (AO O))) (A0.cons O (λ_ _ o _ fa=>by cases fa;exact AH 1 (AS A6 (o.st V) O mh O Ag O (AO ⟨O,a3⟩))) (A0.cons O (λ_ _ _=>AH 1 (AA O (AO ⟨O,bl⟩))) (A0.cons O (λ_ _ o=>AH 1 (DT (vs:=[.string c.Name,vI c.Kind,vI c.From,vI c.To,ap,aq,ar,vI c.Positions,vI c.Speed,vI c.Leak,vI c.Crest,vI c.Num,vI c.Den,vI c.Prime,vI c.Break,vI c.BackNum,vI c.BackDen,vI c.Delay]) A6 (o.st V) O mh O O HV O O (AO ⟨O,cm,cn,a6,a2,co,cp,cq,cr,ct,cu,cv,cw,cx,cy,a3⟩))) (A0.cons O (λ_ _ _=>AH 1 (AA O (AO O))) (A0.cons O (λ_ _ _ _ fb=>by cases fb;exact AH 1 (CI O O (AO O))) (A0.cons O (λ_ _ _ _ fc=>by cases fc;exact AH 1 (AC CU O (AO O))) (A0.cons O (λ_ _ _ _ fd=>by cases fd;exact AH 1 (AC Ht O (AO O))) (A0.cons O (λ_ _ o _ fe=>by cases fe;exact AH 1 (AS A6 (o.st V) O (mt (mt mh)) O KX O (AO O))) ?_)))))))))))
      refine A0.cons O (λ_ _ _=>AH 1 (AA O (AO ⟨O,bl⟩))) (A0.cons O (λ_ _ o=>by intro ma ff mb fg;cases ff;obtain ⟨rfl,mc⟩:=fg;exact AH 1 (A4 (o.st V) (mt (mt (mt (mt (mt (mt mh)))))) O O KF e0 O λmd cz=>AO cz)) ?_)
      refine A0.cons O ?_ ?_
      ·intro mq hh o
       intro me fh
       have hsN:=o.st V
       refine AH 1 ?_
       have fi:=hsN.epAt (mt (mt (mt (mt (mt (mt mh)))))) e2 FM.id fh
       exact B4 A6 (λ_ x=>x) O fi Gi (λe=>by cases e) O λmf fj=>AO fj
      refine A0.cons O (λ_ _ _=>AH 1 (AA O (AO O))) (A0.cons O (λ_ _ _ _ fk=>by cases fk;exact AH 1 (CI O O (AO O))) (A0.cons O (λ_ _ _ _ fl=>by cases fl;exact AH 1 (AC Jk O (AO O))) (A0.cons O (λ_ _ o _ fm=>by cases fm;exact AH 1 (AS A6 (o.st V) O (mt (mt mh)) O BP O (AO O))) (A0.cons O (λ_ _ _=>AH 1 (AA O (AO ⟨O,ao⟩))) (A0.cons O (λ_ _ o=>by intro mg fn mi fo;cases fn;obtain ⟨rfl,mj⟩:=fo;exact AH 1 (A4 (o.st V) (mt (mt (mt (mt (mt (mt (mt (mt (mt (mt mh)))))))))) O O BG e3 O λml c0=>AO c0)) ?_)))))
      refine A0.cons O ?_ ?_
      ·intro mq hh o
       intro mm fp
       have hsN:=o.st V
       refine AH 1 ?_
       have fq:=hsN.epAt (mt (mt (mt (mt (mt (mt (mt (mt (mt (mt mh)))))))))) e5 FM.id fp
       exact Ah A6 (λ_ x=>x) O fq Ag O λfr=>AO ⟨O,fr⟩
      refine A0.cons O (λ_ _ _=>AH 1 (AA O (AO ⟨O,lq⟩))) ?_
      refine A0.cons O ?_ ?_
      ·intro mq hh o
       intro mn fs ft av mp fu mr fv
       have hsN:=SN.st V o
       obtain⟨rfl,fw,fx,fy,f0,f1,f2,f3,f4,f5,f6,f7,f8,f9,ga,gb⟩:=fs
       have av:=Rd.mono (S':=(SN a7 br hh)) av ⟨λb hb=> .inl hb,λ_ _=>rfl,Nat.le_refl _⟩
       have av:Rd _ _ A8 ft e1:=av
       obtain⟨rfl,gc⟩:=fu
       obtain⟨rfl,gd⟩:=fv
       have ax:=ak.trans (ez.trans (SN.ext V.1 o))
       refine BZ O O O fI O hsN (RX (St.all _) (Bu.mk (x:=c) fw fx fy f0 ((bo.mono' ax).mono (λb hb=>hsN.1 b hb) (λ_ _=>rfl)) ((bp.mono' ax).mono (λb hb=>hsN.1 b hb) (λ_ _=>rfl)) ((bq.mono' ax).mono (λb hb=>hsN.1 b hb) (λ_ _=>rfl)) f1 f2 f3 f4 f5 f6 f7 f8 f9 ga gb) (av.mono ⟨λb hb=>hsN.1 b hb,λ_ _=>rfl,Nat.le_refl _⟩) gc gd e7) λms mu mv lr mw bs p=>?_
       obtain⟨rfl,ge,ls⟩:=p
       exact Cv ⟨bs.siz,λb hb=>bs.same b hb⟩ ⟨O,ge⟩
      refine A0.cons O ?_ ?_
      ·intro mq hh o
       intro mx gf
       have hsN:=SN.st V o
       obtain⟨rfl,gg⟩:=gf
       have hsF:=hsN.fz
       refine Cn O O O TE O (qQ hsF gg e8) λmy gh gi gj p=>?_
       obtain⟨bt,rfl,gl,c1⟩:=p
       have c2:Rd gh gi (AM.fnr Tryz.prog (λS h vs (x:(List Int))=>∃W:Value,vs=[W]∧Sl S h AM.int W x) (λS h v (y:((List Int)×(List Int)))=>∃W w1:Value,v= .tuple #[W,w1]∧Sl S h AM.int W y.1∧Sl S h AM.int w1 y.2)) (.func (.func 89) #[] #[bt]) (λx=>Ab N aj x):=J6 89 #[bt] TC λS' h' s' e' L hs x y vs h1 h2=>by obtain⟨W,rfl,a0⟩:=h1;exact Mg (HW hs a0 (gl.mono'' s' e') h2)
       have a8:=Fz.done o gj c1
       exact Cv a8.1 (Rd.mono c2 a8.2)
      refine A0.cons O ?_ ?_
      ·intro mq hh o
       intro mz gm m0 gn m1 gp gq ay
       have hsN:=SN.st V o
       obtain⟨rfl,gr⟩:=gm
       obtain⟨rfl,gs⟩:=gn
       obtain⟨rfl,gt⟩:=gp
       have ay:Rd _ _ (AM.fnr Tryz.prog (λS h vs (x:(List Int))=>∃W:Value,vs=[W]∧Sl S h AM.int W x) (λS h v (y:((List Int)×(List Int)))=>∃W w1:Value,v= .tuple #[W,w1]∧Sl S h AM.int W y.1∧Sl S h AM.int w1 y.2)) gq (λx=>Ab N aj x):=ay
       refine AH 1 ?_
       obtain⟨c3,c4,rfl,lt,lu⟩:=ay.fnr
       exact Hy (cs:=[vI c.To,vI c.Delay,vI t,(.func (.func c3) #[] c4)]) OC O O O (AO (Ar.mk (x:=(⟨c.To,c.Delay,t,(λx=>Ab N aj x)⟩:AK)) gr gs gt ay))
      refine A0.cons O ?_ ?_
      ·intro mq hh o
       intro gu a9
       have hsN:=SN.st V o
       have a9:Rd _ _ Ar gu (⟨c.To,c.Delay,t,(λx=>Ab N aj x)⟩:AK):=a9
       have hsF:=hsN.fz
       obtain⟨gv,rfl,gw,gx,gy,gz⟩:=Ar.ex a9
       refine Dw (cs:=[vI ((⟨c.To,c.Delay,t,(λx=>Ab N aj x)⟩:AK).to_),vI ((⟨c.To,c.Delay,t,(λx=>Ab N aj x)⟩:AK).delay),vI ((⟨c.To,c.Delay,t,(λx=>Ab N aj x)⟩:AK).way),gv]) K9 O O O O O O O hsF λm2 m3 c5 bu=>?_
       have g0:=gz.mono bu
       have c6:=c5.bxos (r:=Ar) (l:=([(⟨c.To,c.Delay,t,(λx=>Ab N aj x)⟩:AK)]:List AK)) .head ⟨_,_,O,⟨_,O,gw,gx,gy,g0⟩,O⟩ (by simp [maxLen])
       obtain⟨m4,c7,g1,g2⟩:=c6.pubs .head
       have ba:=Fz.done o (bu.trans g1) c7
       exact Cv ba.1 ⟨Sl.mono' g2 ba.2,_,O⟩
      exact trivial
     intro m5 bv m6 g3 m7 bb
     have c8:=SN.st V bv
     cases g3
     obtain⟨bb,lv,rfl⟩:=bb
     obtain⟨c9,E⟩:=MR E
     refine JQ (r:=Ar) (l:=l9) (xs:=([(⟨c.To,c.Delay,t,(λx=>Ab N aj x)⟩:AK)]:List AK)) O O K9 O (Sl.src bb) O c9 O c8 (λ_=>(.tail .head)) λg4 m8 da g5=>AH 1 (AY O (AF (AZ (kp [5,14,13,0,1,15] O) (BK (WF.nil (λaa ww hf hw=>?_))))))
     have db:=da.sel [1,1,1,1,1,1,1,1,1,1,1] 1 O
     exact⟨g4,(l9++([(⟨c.To,c.Delay,t,(λx=>Ab N aj x)⟩:AK)]:List AK)),_,_,hf.sub (kp [14,13,0,1,15,5] O),hw,db,(a5.trans (ak.trans (ez.trans ((SN.ext V.1 bv).trans g5)))),E⟩
    refine AI (AC JG O (AS A6 g O mh O Ag O (AA O (BH O (AL O (kp [69,6,7,14,13,0,1,5,15] O) (AX O E (λg6 E=>?_) (λg6 E=>?_)))))))
    ·obtain ⟨m9,dc,E⟩:=bd E
     obtain⟨bw,dd,E⟩:=bd E
     obtain⟨na,de,E⟩:=bd E
     obtain⟨bx,df,E⟩:=bd E
     obtain⟨bz,dg,E⟩:=bd E
     obtain⟨ag,dh,E⟩:=bd E
     refine ND (m:=[(6,vI t),(7,vP ai 0),(14,vI (↑p0_w.b.Links.length:Int)),(13,H),(0,vP j 0),(1,vI I),(5,v8),(15,vI t)]) 26 (λi v hh=>match i with|0=>v=v8|1=>v=vP ai 3|2=>v=vI c.To∧AG c.To|3=>v=vP ai 17|4=>v=vI c.Delay∧AG c.Delay|5=>v=vI t∧AG t|6=>v= .agg #[.string c.Name,vI c.Kind,vI c.From,vI c.To,ap,aq,ar,vI c.Positions,vI c.Speed,vI c.Leak,vI c.Crest,vI c.Num,vI c.Den,vI c.Prime,vI c.Break,vI c.BackNum,vI c.BackDen,vI c.Delay]∧c.Name.size≤maxLen∧AG c.Kind∧AG c.From∧AG c.To∧AG c.Positions∧AG c.Speed∧AG c.Leak∧AG c.Crest∧AG c.Num∧AG c.Den∧AG c.Prime∧AG c.Break∧AG c.BackNum∧AG c.BackDen∧AG c.Delay|7=>v=vP j 0|8=>v=vP j 0|9=>v=vP j 24|10=>v=d|11=>v=vI I∧AG I|12=>EP d (I.toNat*(AM.int).sz+0) v|13=>v=vI bw∧AG bw|14=>v=vP j 0|15=>v=vP j 0|16=>v=vP j 24|17=>v=d|18=>v=vP ai 3|19=>v=vI c.To∧AG c.To|20=>EP d (c.To.toNat*(AM.int).sz+0) v|21=>v=vI bx∧AG bx|22=>v=vI bz∧AG bz|23=>Rd (SN am au hh) hh (AM.fnr Tryz.prog (λS h vs (x:(List Int))=>∃W:Value,vs=[W]∧Sl S h AM.int W x) (λS h v (y:((List Int)×(List Int)))=>∃W w1:Value,v= .tuple #[W,w1]∧Sl S h AM.int W y.1∧Sl S h AM.int w1 y.2)) v (λx=>Ab N ag x)|24=>Rd (SN am au hh) hh Ar v (⟨c.To,c.Delay,t,(λx=>Ab N ag x)⟩:AK)|25=>Sl (SN am au hh) hh Ar v ([(⟨c.To,c.Delay,t,(λx=>Ab N ag x)⟩:AK)]:List AK)∧∃ad,v= .slice (some ad) 1 1|_=>False) [[],[],[(1,75)],[],[(3,77)],[],[],[],[(7,81)],[(8,82)],[(9,83)],[],[(10,84),(11,85)],[(12,86)],[],[(14,88)],[(15,89)],[(16,90)],[],[(18,92)],[(17,91),(19,93)],[(20,94)],[(6,80),(13,87),(21,95)],[(22,96)],[(2,76),(4,78),(5,79),(23,97)],[(24,98)]] [(0,74),(25,99)] mo (by kernel_rfl) [6,7,14,13,0,1,5,15] O (by kernel_rfl) (by kernel_rfl) (by kernel_rfl) (kp [6,7,14,13,0,1,5,15] O) (λi v h1 h2 o1 o2 hr=>?_) ?_ ?_
     ·match i,hr with
       |0,hr|1,hr|2,hr|3,hr|4,hr|5,hr|6,hr|7,hr|8,hr|9,hr|10,hr|11,hr|12,hr|13,hr|14,hr|15,hr|16,hr|17,hr|18,hr|19,hr|20,hr|21,hr|22,hr=>exact hr
       |23,hr|24,hr=>exact Rd.mono hr (SN.mono g.1 o1 o2)
       |25,hr=>exact⟨Sl.mono' hr.1 (SN.mono g.1 o1 o2),hr.2⟩
       |_+26,hr=>exact hr.elim
     ·refine A0.cons O (λ_ _ _=>AH 1 (AA O (AO O))) (A0.cons O (λ_ _ _=>AH 1 (AC Hs O (AO O))) (A0.cons O (λ_ _ o _ g7=>by cases g7;exact AH 1 (AS A6 (o.st g) O mh O Ag O (AO ⟨O,a2⟩))) (A0.cons O (λ_ _ _=>AH 1 (AC Nq O (AO O))) (A0.cons O (λ_ _ o _ g8=>by cases g8;exact AH 1 (AS A6 (o.st g) O mh O Ag O (AO ⟨O,a3⟩))) (A0.cons O (λ_ _ _=>AH 1 (AA O (AO ⟨O,bl⟩))) (A0.cons O (λ_ _ o=>AH 1 (DT (vs:=[.string c.Name,vI c.Kind,vI c.From,vI c.To,ap,aq,ar,vI c.Positions,vI c.Speed,vI c.Leak,vI c.Crest,vI c.Num,vI c.Den,vI c.Prime,vI c.Break,vI c.BackNum,vI c.BackDen,vI c.Delay]) A6 (o.st g) O mh O O HV O O (AO ⟨O,cm,cn,a6,a2,co,cp,cq,cr,ct,cu,cv,cw,cx,cy,a3⟩))) (A0.cons O (λ_ _ _=>AH 1 (AA O (AO O))) (A0.cons O (λ_ _ _ _ g9=>by cases g9;exact AH 1 (CI O O (AO O))) (A0.cons O (λ_ _ _ _ ha=>by cases ha;exact AH 1 (AC Jk O (AO O))) (A0.cons O (λ_ _ o _ hc=>by cases hc;exact AH 1 (AS A6 (o.st g) O (mt (mt mh)) O BP O (AO O))) (A0.cons O (λ_ _ _=>AH 1 (AA O (AO ⟨O,ao⟩))) ?_)))))))))))
      refine A0.cons O (λ_ _ o=>by intro nb hd nd he;cases hd;obtain ⟨rfl,ne⟩:=he;exact AH 1 (A4 (o.st g) (mt (mt (mt (mt (mt (mt (mt (mt (mt (mt mh)))))))))) O O BG dc O λnf di=>AO di)) ?_
      refine A0.cons O ?_ ?_
      ·intro mq hh o
       intro ng hg
       have hsN:=o.st g
       refine AH 1 ?_
       have hi:=hsN.epAt (mt (mt (mt (mt (mt (mt (mt (mt (mt (mt mh)))))))))) dd FM.id hg
       exact Ah A6 (λ_ x=>x) O hi Ag O λhj=>AO ⟨O,hj⟩
      refine A0.cons O (λ_ _ _=>AH 1 (AA O (AO O))) (A0.cons O (λ_ _ _ _ hk=>by cases hk;exact AH 1 (CI O O (AO O))) (A0.cons O (λ_ _ _ _ hl=>by cases hl;exact AH 1 (AC Jk O (AO O))) (A0.cons O (λ_ _ o _ hm=>by cases hm;exact AH 1 (AS A6 (o.st g) O (mt (mt mh)) O BP O (AO O))) (A0.cons O (λ_ _ _=>AH 1 (AC Hs O (AO O))) (A0.cons O (λ_ _ o _ hn=>by cases hn;exact AH 1 (AS A6 (o.st g) O mh O Ag O (AO ⟨O,a2⟩))) (A0.cons O (λ_ _ o=>by intro nh ho ni hp;cases ho;obtain ⟨rfl,nj⟩:=hp;exact AH 1 (A4 (o.st g) (mt (mt (mt (mt (mt (mt (mt (mt (mt (mt mh)))))))))) O O BG de O λnk dj=>AO dj)) ?_))))))
      refine A0.cons O ?_ ?_
      ·intro mq hh o
       intro nl hq
       have hsN:=o.st g
       refine AH 1 ?_
       have ht:=hsN.epAt (mt (mt (mt (mt (mt (mt (mt (mt (mt (mt mh)))))))))) df FM.id hq
       exact Ah A6 (λ_ x=>x) O ht Ag O λhu=>AO ⟨O,hu⟩
      refine A0.cons O ?_ ?_
      ·intro mq hh o
       intro nm hv nn hx no hy
       have hsN:=SN.st g o
       obtain⟨rfl,hz,h0,h3,h4,h5,h6,h7,h8,h9,ia,ib,ic,ie,ig,ih⟩:=hv
       obtain⟨rfl,ii⟩:=hx
       obtain⟨rfl,ij⟩:=hy
       refine BZ O O O Za O hsN (NY (St.all _) (Bu.mk (x:=c) hz h0 h3 h4 ((bo.mono' (ak.trans (SN.ext g.1 o))).mono (λb hb=>hsN.1 b hb) (λ_ _=>rfl)) ((bp.mono' (ak.trans (SN.ext g.1 o))).mono (λb hb=>hsN.1 b hb) (λ_ _=>rfl)) ((bq.mono' (ak.trans (SN.ext g.1 o))).mono (λb hb=>hsN.1 b hb) (λ_ _=>rfl)) h5 h6 h7 h8 h9 ia ib ic ie ig ih) ii ij dg) λnp nq nr lw ns b0 p=>?_
       obtain⟨rfl,ik,lx⟩:=p
       exact Cv ⟨b0.siz,λb hb=>b0.same b hb⟩ ⟨O,ik⟩
      refine A0.cons O ?_ ?_
      ·intro mq hh o
       intro nt il
       have hsN:=SN.st g o
       obtain⟨rfl,im⟩:=il
       have hsF:=hsN.fz
       refine Cn O O O TE O (qQ hsF im dh) λnu io ip ir p=>?_
       obtain⟨b2,rfl,it,dk⟩:=p
       have dl:Rd io ip (AM.fnr Tryz.prog (λS h vs (x:(List Int))=>∃W:Value,vs=[W]∧Sl S h AM.int W x) (λS h v (y:((List Int)×(List Int)))=>∃W w1:Value,v= .tuple #[W,w1]∧Sl S h AM.int W y.1∧Sl S h AM.int w1 y.2)) (.func (.func 89) #[] #[b2]) (λx=>Ab N ag x):=J6 89 #[b2] TC λS' h' s' e' L hs x y vs h1 h2=>by obtain⟨W,rfl,a0⟩:=h1;exact Mg (HW hs a0 (it.mono'' s' e') h2)
       have bc:=Fz.done o ir dk
       exact Cv bc.1 (Rd.mono dl bc.2)
      refine A0.cons O ?_ ?_
      ·intro mq hh o
       intro nv iu nw iv nx iw iy az
       have hsN:=SN.st g o
       obtain⟨rfl,iz⟩:=iu
       obtain⟨rfl,i0⟩:=iv
       obtain⟨rfl,i1⟩:=iw
       have az:Rd _ _ (AM.fnr Tryz.prog (λS h vs (x:(List Int))=>∃W:Value,vs=[W]∧Sl S h AM.int W x) (λS h v (y:((List Int)×(List Int)))=>∃W w1:Value,v= .tuple #[W,w1]∧Sl S h AM.int W y.1∧Sl S h AM.int w1 y.2)) iy (λx=>Ab N ag x):=az
       refine AH 1 ?_
       obtain⟨dm,dn,rfl,ly,lz⟩:=az.fnr
       exact Hy (cs:=[vI c.To,vI c.Delay,vI t,(.func (.func dm) #[] dn)]) OC O O O (AO (Ar.mk (x:=(⟨c.To,c.Delay,t,(λx=>Ab N ag x)⟩:AK)) iz i0 i1 az))
      refine A0.cons O ?_ ?_
      ·intro mq hh o
       intro i2 be
       have hsN:=SN.st g o
       have be:Rd _ _ Ar i2 (⟨c.To,c.Delay,t,(λx=>Ab N ag x)⟩:AK):=be
       have hsF:=hsN.fz
       obtain⟨i3,rfl,i4,i5,i6,i7⟩:=Ar.ex be
       refine Dw (cs:=[vI ((⟨c.To,c.Delay,t,(λx=>Ab N ag x)⟩:AK).to_),vI ((⟨c.To,c.Delay,t,(λx=>Ab N ag x)⟩:AK).delay),vI ((⟨c.To,c.Delay,t,(λx=>Ab N ag x)⟩:AK).way),i3]) K9 O O O O O O O hsF λny nz dp b3=>?_
       have i8:=i7.mono b3
       have dq:=dp.bxos (r:=Ar) (l:=([(⟨c.To,c.Delay,t,(λx=>Ab N ag x)⟩:AK)]:List AK)) .head ⟨_,_,O,⟨_,O,i4,i5,i6,i8⟩,O⟩ (by simp [maxLen])
       obtain⟨n0,dr,i9,ja⟩:=dq.pubs .head
       have bf:=Fz.done o (b3.trans i9) dr
       exact Cv bf.1 ⟨Sl.mono' ja bf.2,_,O⟩
      exact trivial
     intro n2 b4 n3 jb n4 bg
     have ds:=SN.st g b4
     cases jb
     obtain⟨bg,l0,rfl⟩:=bg
     obtain⟨dt,E⟩:=MR E
     refine JQ (r:=Ar) (l:=l9) (xs:=([(⟨c.To,c.Delay,t,(λx=>Ab N ag x)⟩:AK)]:List AK)) O O K9 O (Sl.src bg) O dt O ds (λ_=>(.tail .head)) λjc n5 du jd=>AH 1 (AY O (AF (AZ (kp [5,14,13,0,1,15] O) (BK (WF.nil (λaa ww hf hw=>?_))))))
     have dv:=du.sel [1,1,1,1,1,1,1,1,1,1,1] 1 O
     exact⟨jc,(l9++([(⟨c.To,c.Delay,t,(λx=>Ab N ag x)⟩:AK)]:List AK)),_,_,hf.sub (kp [14,13,0,1,15,5] O),hw,dv,(a5.trans (ak.trans ((SN.ext g.1 b4).trans jd))),E⟩
    refine AI (AC Hs O (AS A6 g O mh O Ag O (AA O (BH O (AA O (AV 4 110 (.bool ((decide (c.To=I))&&(decide (c.Kind=4)))) ?_ ?_))))))
    ·cases n6:(decide (c.To=I))
     ·exact Aa O O
     exact AB O (AC GD O (AB O (AS A6 g O mh O Ag O (AB O (BH O (AJ O (AU O)))))))
    refine AL O (kp [101,6,7,14,13,0,1,5,15] O) (AX O E (λje E=>?_) (λje E=>?_))
    ·obtain ⟨n7,dw,E⟩:=bd E
     obtain⟨b5,dx,E⟩:=bd E
     obtain⟨n8,dy,E⟩:=bd E
     obtain⟨b6,dz,E⟩:=bd E
     obtain⟨b7,d0,E⟩:=bd E
     obtain⟨b8,d1,E⟩:=bd E
     obtain⟨ah,d2,E⟩:=bd E
     refine ND (m:=[(6,vI t),(7,vP ai 0),(14,vI (↑p0_w.b.Links.length:Int)),(13,H),(0,vP j 0),(1,vI I),(5,v8),(15,vI t)]) 27 (λi v hh=>match i with|0=>v=v8|1=>v=vP ai 2|2=>v=vI c.From∧AG c.From|3=>v=vP ai 17|4=>v=vI c.Delay∧AG c.Delay|5=>v=vI t∧AG t|6=>v= .agg #[.string c.Name,vI c.Kind,vI c.From,vI c.To,ap,aq,ar,vI c.Positions,vI c.Speed,vI c.Leak,vI c.Crest,vI c.Num,vI c.Den,vI c.Prime,vI c.Break,vI c.BackNum,vI c.BackDen,vI c.Delay]∧c.Name.size≤maxLen∧AG c.Kind∧AG c.From∧AG c.To∧AG c.Positions∧AG c.Speed∧AG c.Leak∧AG c.Crest∧AG c.Num∧AG c.Den∧AG c.Prime∧AG c.Break∧AG c.BackNum∧AG c.BackDen∧AG c.Delay|7=>v=vP j 0|8=>v=vP j 0|9=>v=vP j 24|10=>v=d|11=>v=vP ai 2|12=>v=vI c.From∧AG c.From|13=>EP d (c.From.toNat*(AM.int).sz+0) v|14=>v=vI b5∧AG b5|15=>v=vP j 0|16=>v=vP j 0|17=>v=vP j 24|18=>v=d|19=>v=vI I∧AG I|20=>EP d (I.toNat*(AM.int).sz+0) v|21=>v=vI b6∧AG b6|22=>v=vI b7∧AG b7|23=>v=vI b8∧AG b8|24=>Rd (SN am au hh) hh (AM.fnr Tryz.prog (λS h vs (x:(List Int))=>∃W:Value,vs=[W]∧Sl S h AM.int W x) (λS h v (y:((List Int)×(List Int)))=>∃W w1:Value,v= .tuple #[W,w1]∧Sl S h AM.int W y.1∧Sl S h AM.int w1 y.2)) v (λx=>Ab N ah x)|25=>Rd (SN am au hh) hh Ar v (⟨c.From,c.Delay,t,(λx=>Ab N ah x)⟩:AK)|26=>Sl (SN am au hh) hh Ar v ([(⟨c.From,c.Delay,t,(λx=>Ab N ah x)⟩:AK)]:List AK)∧∃ad,v= .slice (some ad) 1 1|_=>False) [[],[],[(1,112)],[],[(3,114)],[],[],[],[(7,118)],[(8,119)],[(9,120)],[],[(11,122)],[(10,121),(12,123)],[(13,124)],[],[(15,126)],[(16,127)],[(17,128)],[],[(18,129),(19,130)],[(20,131)],[(6,117),(14,125),(21,132)],[(22,133)],[(23,134)],[(2,113),(4,115),(5,116),(24,135)],[(25,136)]] [(0,111),(26,137)] mo (by kernel_rfl) [6,7,14,13,0,1,5,15] O (by kernel_rfl) (by kernel_rfl) (by kernel_rfl) (kp [6,7,14,13,0,1,5,15] O) (λi v h1 h2 o1 o2 hr=>?_) ?_ ?_
     ·match i,hr with
       |0,hr|1,hr|2,hr|3,hr|4,hr|5,hr|6,hr|7,hr|8,hr|9,hr|10,hr|11,hr|12,hr|13,hr|14,hr|15,hr|16,hr|17,hr|18,hr|19,hr|20,hr|21,hr|22,hr|23,hr=>exact hr
       |24,hr|25,hr=>exact Rd.mono hr (SN.mono g.1 o1 o2)
       |26,hr=>exact⟨Sl.mono' hr.1 (SN.mono g.1 o1 o2),hr.2⟩
       |_+27,hr=>exact hr.elim
     ·refine A0.cons O (λ_ _ _=>AH 1 (AA O (AO O))) (A0.cons O (λ_ _ _=>AH 1 (AC JG O (AO O))) (A0.cons O (λ_ _ o _ jf=>by cases jf;exact AH 1 (AS A6 (o.st g) O mh O Ag O (AO ⟨O,a6⟩))) (A0.cons O (λ_ _ _=>AH 1 (AC Nq O (AO O))) (A0.cons O (λ_ _ o _ jg=>by cases jg;exact AH 1 (AS A6 (o.st g) O mh O Ag O (AO ⟨O,a3⟩))) (A0.cons O (λ_ _ _=>AH 1 (AA O (AO ⟨O,bl⟩))) (A0.cons O (λ_ _ o=>AH 1 (DT (vs:=[.string c.Name,vI c.Kind,vI c.From,vI c.To,ap,aq,ar,vI c.Positions,vI c.Speed,vI c.Leak,vI c.Crest,vI c.Num,vI c.Den,vI c.Prime,vI c.Break,vI c.BackNum,vI c.BackDen,vI c.Delay]) A6 (o.st g) O mh O O HV O O (AO ⟨O,cm,cn,a6,a2,co,cp,cq,cr,ct,cu,cv,cw,cx,cy,a3⟩))) (A0.cons O (λ_ _ _=>AH 1 (AA O (AO O))) (A0.cons O (λ_ _ _ _ jh=>by cases jh;exact AH 1 (CI O O (AO O))) (A0.cons O (λ_ _ _ _ ji=>by cases ji;exact AH 1 (AC Jk O (AO O))) (A0.cons O (λ_ _ o _ jj=>by cases jj;exact AH 1 (AS A6 (o.st g) O (mt (mt mh)) O BP O (AO O))) (A0.cons O (λ_ _ _=>AH 1 (AC JG O (AO O))) ?_)))))))))))
      refine A0.cons O (λ_ _ o _ jk=>by cases jk;exact AH 1 (AS A6 (o.st g) O mh O Ag O (AO ⟨O,a6⟩))) (A0.cons O (λ_ _ o=>by intro n9 jl oa jm;cases jl;obtain ⟨rfl,ob⟩:=jm;exact AH 1 (A4 (o.st g) (mt (mt (mt (mt (mt (mt (mt (mt (mt (mt mh)))))))))) O O BG dw O λoc d3=>AO d3)) ?_)
      refine A0.cons O ?_ ?_
      ·intro mq hh o
       intro od jn
       have hsN:=o.st g
       refine AH 1 ?_
       have jo:=hsN.epAt (mt (mt (mt (mt (mt (mt (mt (mt (mt (mt mh)))))))))) dx FM.id jn
       exact Ah A6 (λ_ x=>x) O jo Ag O λjp=>AO ⟨O,jp⟩
      refine A0.cons O (λ_ _ _=>AH 1 (AA O (AO O))) (A0.cons O (λ_ _ _ _ jq=>by cases jq;exact AH 1 (CI O O (AO O))) (A0.cons O (λ_ _ _ _ jr=>by cases jr;exact AH 1 (AC Jk O (AO O))) (A0.cons O (λ_ _ o _ js=>by cases js;exact AH 1 (AS A6 (o.st g) O (mt (mt mh)) O BP O (AO O))) (A0.cons O (λ_ _ _=>AH 1 (AA O (AO ⟨O,ao⟩))) (A0.cons O (λ_ _ o=>by intro oe jt og ju;cases jt;obtain ⟨rfl,oh⟩:=ju;exact AH 1 (A4 (o.st g) (mt (mt (mt (mt (mt (mt (mt (mt (mt (mt mh)))))))))) O O BG dy O λoi d4=>AO d4)) ?_)))))
      refine A0.cons O ?_ ?_
      ·intro mq hh o
       intro oj jv
       have hsN:=o.st g
       refine AH 1 ?_
       have jw:=hsN.epAt (mt (mt (mt (mt (mt (mt (mt (mt (mt (mt mh)))))))))) dz FM.id jv
       exact Ah A6 (λ_ x=>x) O jw Ag O λjx=>AO ⟨O,jx⟩
      refine A0.cons O ?_ ?_
      ·intro mq hh o
       intro ok jy ol jz om j0
       have hsN:=SN.st g o
       obtain⟨rfl,j1,j2,j3,j4,j5,j6,j7,j8,j9,ka,kb,kc,kd,ke,kf⟩:=jy
       obtain⟨rfl,kg⟩:=jz
       obtain⟨rfl,kh⟩:=j0
       refine BZ O O O Za O hsN (NY (St.all _) (Bu.mk (x:=c) j1 j2 j3 j4 ((bo.mono' (ak.trans (SN.ext g.1 o))).mono (λb hb=>hsN.1 b hb) (λ_ _=>rfl)) ((bp.mono' (ak.trans (SN.ext g.1 o))).mono (λb hb=>hsN.1 b hb) (λ_ _=>rfl)) ((bq.mono' (ak.trans (SN.ext g.1 o))).mono (λb hb=>hsN.1 b hb) (λ_ _=>rfl)) j5 j6 j7 j8 j9 ka kb kc kd ke kf) kg kh d0) λoo op oq l1 os b9 p=>?_
       obtain⟨rfl,ki,l2⟩:=p
       exact Cv ⟨b9.siz,λb hb=>b9.same b hb⟩ ⟨O,ki⟩
      refine A0.cons O ?_ ?_
      ·intro mq hh o
       intro ot kj
       have hsN:=SN.st g o
       obtain⟨rfl,kk⟩:=kj
       refine BZ O O O TF O hsN (Iv (St.all _) (iq (n:=0) O) kk d1) λou ov ow l4 ox ca p=>?_
       obtain⟨rfl,kl,l5⟩:=p
       exact Cv ⟨ca.siz,λb hb=>ca.same b hb⟩ ⟨O,kl⟩
      refine A0.cons O ?_ ?_
      ·intro mq hh o
       intro oy km
       have hsN:=SN.st g o
       obtain⟨rfl,kn⟩:=km
       have hsF:=hsN.fz
       refine Cn O O O TE O (qQ hsF kn d2) λoz ko kq kr p=>?_
       obtain⟨cb,rfl,ks,d5⟩:=p
       have d6:Rd ko kq (AM.fnr Tryz.prog (λS h vs (x:(List Int))=>∃W:Value,vs=[W]∧Sl S h AM.int W x) (λS h v (y:((List Int)×(List Int)))=>∃W w1:Value,v= .tuple #[W,w1]∧Sl S h AM.int W y.1∧Sl S h AM.int w1 y.2)) (.func (.func 89) #[] #[cb]) (λx=>Ab N ah x):=J6 89 #[cb] TC λS' h' s' e' L hs x y vs h1 h2=>by obtain⟨W,rfl,a0⟩:=h1;exact Mg (HW hs a0 (ks.mono'' s' e') h2)
       have bh:=Fz.done o kr d5
       exact Cv bh.1 (Rd.mono d6 bh.2)
      refine A0.cons O ?_ ?_
      ·intro mq hh o
       intro o0 kt o3 ku o4 kv kw a1
       have hsN:=SN.st g o
       obtain⟨rfl,kx⟩:=kt
       obtain⟨rfl,ky⟩:=ku
       obtain⟨rfl,kz⟩:=kv
       have a1:Rd _ _ (AM.fnr Tryz.prog (λS h vs (x:(List Int))=>∃W:Value,vs=[W]∧Sl S h AM.int W x) (λS h v (y:((List Int)×(List Int)))=>∃W w1:Value,v= .tuple #[W,w1]∧Sl S h AM.int W y.1∧Sl S h AM.int w1 y.2)) kw (λx=>Ab N ah x):=a1
       refine AH 1 ?_
       obtain⟨d7,d8,rfl,l6,l7⟩:=a1.fnr
       exact Hy (cs:=[vI c.From,vI c.Delay,vI t,(.func (.func d7) #[] d8)]) OC O O O (AO (Ar.mk (x:=(⟨c.From,c.Delay,t,(λx=>Ab N ah x)⟩:AK)) kx ky kz a1))
      refine A0.cons O ?_ ?_
      ·intro mq hh o
       intro k0 bi
       have hsN:=SN.st g o
       have bi:Rd _ _ Ar k0 (⟨c.From,c.Delay,t,(λx=>Ab N ah x)⟩:AK):=bi
       have hsF:=hsN.fz
       obtain⟨k1,rfl,k2,k3,k4,k5⟩:=Ar.ex bi
       refine Dw (cs:=[vI ((⟨c.From,c.Delay,t,(λx=>Ab N ah x)⟩:AK).to_),vI ((⟨c.From,c.Delay,t,(λx=>Ab N ah x)⟩:AK).delay),vI ((⟨c.From,c.Delay,t,(λx=>Ab N ah x)⟩:AK).way),k1]) K9 O O O O O O O hsF λo5 o6 d9 cc=>?_
       have k6:=k5.mono cc
       have ea:=d9.bxos (r:=Ar) (l:=([(⟨c.From,c.Delay,t,(λx=>Ab N ah x)⟩:AK)]:List AK)) .head ⟨_,_,O,⟨_,O,k2,k3,k4,k6⟩,O⟩ (by simp [maxLen])
       obtain⟨o7,eb,k7,k8⟩:=ea.pubs .head
       have bj:=Fz.done o (cc.trans k7) eb
       exact Cv bj.1 ⟨Sl.mono' k8 bj.2,_,O⟩
      exact trivial
     intro o8 cd o9 k9 pa bk
     have ec:=SN.st g cd
     cases k9
     obtain⟨bk,l8,rfl⟩:=bk
     obtain⟨ed,E⟩:=MR E
     refine JQ (r:=Ar) (l:=l9) (xs:=([(⟨c.From,c.Delay,t,(λx=>Ab N ah x)⟩:AK)]:List AK)) O O K9 O (Sl.src bk) O ed O ec (λ_=>(.tail .head)) λla pb ee lb=>AH 1 (AY O (AF (AZ (kp [5,14,13,0,1,15] O) (BK (WF.nil (λaa ww hf hw=>?_))))))
     have ef:=ee.sel [1,1,1,1,1,1,1,1,1,1,1] 1 O
     exact⟨la,(l9++([(⟨c.From,c.Delay,t,(λx=>Ab N ah x)⟩:AK)]:List AK)),_,_,hf.sub (kp [14,13,0,1,15,5] O),hw,ef,(a5.trans (ak.trans ((SN.ext g.1 cd).trans lb))),E⟩
    refine AT (BK (WF.nil (λaa ww hf hw=>?_)))
    have eg:=g.sel [1,1,1,1,1,1,1,1,1,1,1] 1 O
    exact⟨v8,l9,_,_,hf.sub (kp [14,13,0,1,15,5] O),hw,eg,(a5.trans ak),E⟩
   rintro aa ww ⟨bm,bn,pc,pd,hf,hw,eh,lc,E⟩
   refine Ad ?_ hf hw
   clear hf hw ww aa
   rw[Cz] at E
   refine BY (.inl O) (Af O (AA O (AN (kp [15,14,13,0,1,5] O) (WF.nil (λaa ww hf hw=>?_)))))
   exact⟨bm,bn,(BC (t+1)),_,_,hf.sub (kp [14,13,0,1,5,15] O),hw,eh,(cl.trans lc),(BI _),E⟩
  refine A9 O (λaa ww hf hw=>?_)
  exact⟨v8,l9,_,_,hf.sub (kp [5] O),hw,a4,cl,E⟩
 rintro aa ww ⟨v2,l3,pe,pf,hf,hw,ei,le,E⟩
 refine Ad ?_ hf hw
 clear hf hw ww aa
 rw[Cc] at E
 refine AI (AA O (AL O (kp [4] O) (Ac (λaa ww hf hw=>?_))))
 cases E
 exact Dm hf hw O O le ei
end Go.Proofs.YtblcgjadhemlbaaGreat
