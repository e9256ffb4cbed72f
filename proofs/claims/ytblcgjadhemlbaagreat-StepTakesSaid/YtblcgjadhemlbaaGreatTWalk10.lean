import Derived.Test.YtblcgjadhemlbaaGreatTWalk9
import Derived.Test.YtblcgjadhemlbaaGreatTSort5
namespace Go.Proofs.YtblcgjadhemlbaaGreat
open Go.RowKit
set_option linter.unusedVariables false
set_option linter.unusedSimpArgs false
set_option maxRecDepth 10000
set_option maxHeartbeats 2000000
variable {N:Nat}{S:Nat→Prop}{L:List HP}{h:Aw}
theorem L4 (hs:St S L h) {a:Value}{c:(List Int)}(d:Sl S h AN.int a c) {g:Value}{c1_:FK}(i:Pt S h FO g c1_) {r:(List Int)×(List Int)}(E:CO N c1_ c=some r):
 CL Tryz.prog 83 #[a,g] S h (λv S' h'=>∃m n:Value,v= .tuple #[m,n]∧St S' (OS AN.int 3 m r.1::OS AN.int 3 n r.2::L) h'):=by
 refine BF (l:=[a,g]) 13 Tryz.func83 O Tryz.ntmps83 O λB=>?_
 rw[CO] at E
 refine AH (AY O (AL O (kp [0,1] O) (WF.sl (AI 5 (AA O (Af O i QU Ri O λI y=>Ag A6 hs.1 O y Ae O λz=>Af O i FK.f_Litres PH O λJ A=>Ag A6 hs.1 O A Ae O λC=>AG ?_))))))
 obtain⟨K,s,E⟩:=bd E
 refine Bf O O O eZ O hs (QM (St.all _) (d.mono (λb hb=>hs.1 b hb) (λ_ _=>rfl)) z C s) λM Q D x t u p=>?_
 obtain⟨F,G,rfl,o⟩:=p
 have j:=hs.join u o ⟨OS.flat (λ{_ _ _ _ _ _} k=>k),⟨OS.flat (λ{_ _ _ _ _ _} k=>k),trivial⟩⟩
 simp only[List.cons_append,List.nil_append] at j
 refine AI 4 (Bo O (Bo O (AY O (AY O (AG (AZ (kp [4,3] O) (Ad (λU V w H=>?_))))))))
 cases E
 exact KD w O H (IF (Ir w (v:=_) O) (IF (Ir w (v:=_) O) KC)) O t ⟨_,_,O,j⟩
theorem M2 {F:Nat}{p0_w:An}{G:Value}{H:Value}{I:Value}{J:Value}{K:Value}{M:Value}{Q:Value}{U:Value}{z:Value}{A:Value}{C:Value}{u:Value}{D:Value}{c:Value}{d:Value}{g:Value}{i:Value}{j:Value}{k:Value}{m:Value}{p:Value}{t:Value}(hs:St S (Bx F 84 [.string p0_w.b.Name,G,vI p0_w.b.Cells,H,I,J,K,M,Q,U,vI p0_w.b.Err,z,A,C,u,D,vI p0_w.s.Hour,c,d,g,i,j,k,m,p,t]::OS (AN.sl AN.int) 29 c p0_w.s.Own::OS AN.int 3 d p0_w.s.Rem::OS Ar 60 g p0_w.s.Queue::OS BE 69 i p0_w.s.Gates::OS AN.int 3 j p0_w.s.In::OS AN.int 3 k p0_w.s.Out::OS BJ 50 m p0_w.moves::OS AN.int 3 p p0_w.peaks::OS Ar 60 t p0_w.sent::L) h) (a5:p0_w.b.Name.size≤maxLen) (ah:Sl S h AN.str G p0_w.b.Owners) (a6:AE p0_w.b.Cells) (ab:Sl S h B1 H p0_w.b.Places) (a7:Sl S h Bv I p0_w.b.Links) (a8:Sl S h GQ J p0_w.b.Towns) (a9:Sl S h EV K p0_w.b.Gauges) (ba:Sl S h Fp M p0_w.b.Roads) (bb:Sl S h Cx Q p0_w.b.Shelters) (bc:Sl S h AN.int U p0_w.b.Room) (au:AE p0_w.b.Err) (av:Sl S h AN.int z p0_w.in_.Rain) (aw:Sl S h FM A p0_w.in_.Faults) (ax:Sl S h Ic C p0_w.in_.Cmds) (ad:Sl S h FO u p0_w.in_.Takes) (ay:Sl S h GC D p0_w.in_.Swaps) (az:AE p0_w.s.Hour) {Z:Int}(b3:AE Z) {r:(List AK)}(E:HB N p0_w Z=some r):
 CL Tryz.prog 62 #[vP F 0,vI Z] S h (λv S' h'=>St S' (OS Au 111 v r::Bx F 84 [.string p0_w.b.Name,G,vI p0_w.b.Cells,H,I,J,K,M,Q,U,vI p0_w.b.Err,z,A,C,u,D,vI p0_w.s.Hour,c,d,g,i,j,k,m,p,t]::OS (AN.sl AN.int) 29 c p0_w.s.Own::OS AN.int 3 d p0_w.s.Rem::OS Ar 60 g p0_w.s.Queue::OS BE 69 i p0_w.s.Gates::OS AN.int 3 j p0_w.s.In::OS AN.int 3 k p0_w.s.Out::OS BJ 50 m p0_w.moves::OS AN.int 3 p p0_w.peaks::OS Ar 60 t p0_w.sent::L) h'):=by
 refine BF (l:=[vP F 0,vI Z]) 85 Tryz.func62 O Tryz.ntmps62 O λB=>?_
 rw[HB] at E
 refine AH (AL O (kp [0,1] O) (AH (AL O (kp [5,0,1] O) (AC (AH (AA O (CN O O (AD Ms O (AD PO O (AT A6 hs O mh O UC O (Ak O ad SY O λb1=>AA O (AM (kp [14,13,12,5,0,1] O) (Aj (λa w=>∃(v2:Value) (l3:List AK),IV B S h (85,[]) a w [(5,v2)] (OS Au 111 v2 l3::Bx F 84 [.string p0_w.b.Name,G,vI p0_w.b.Cells,H,I,J,K,M,Q,U,vI p0_w.b.Err,z,A,C,u,D,vI p0_w.s.Hour,c,d,g,i,j,k,m,p,t]::OS (AN.sl AN.int) 29 c p0_w.s.Own::OS AN.int 3 d p0_w.s.Rem::OS Ar 60 g p0_w.s.Queue::OS BE 69 i p0_w.s.Gates::OS AN.int 3 j p0_w.s.In::OS AN.int 3 k p0_w.s.Out::OS BJ 50 m p0_w.moves::OS AN.int 3 p p0_w.peaks::OS Ar 60 t p0_w.sent::L) λ_ _=>Ce N l3=some r) ?_ ?_)))))))))))))
 ·refine A3 (λn1=>λa w=>∃(v8:Value) (l9:List AK) (af:Int),IV B S h (85,[]) a w [(13,vI (↑p0_w.in_.Takes.length:Int)),(12,u),(0,vP F 0),(1,vI Z),(5,v8),(14,vI af)] (OS Au 111 v8 l9::Bx F 84 [.string p0_w.b.Name,G,vI p0_w.b.Cells,H,I,J,K,M,Q,U,vI p0_w.b.Err,z,A,C,u,D,vI p0_w.s.Hour,c,d,g,i,j,k,m,p,t]::OS (AN.sl AN.int) 29 c p0_w.s.Own::OS AN.int 3 d p0_w.s.Rem::OS Ar 60 g p0_w.s.Queue::OS BE 69 i p0_w.s.Gates::OS AN.int 3 j p0_w.s.In::OS AN.int 3 k p0_w.s.Out::OS BJ 50 m p0_w.moves::OS AN.int 3 p p0_w.peaks::OS Ar 60 t p0_w.sent::L) λ_ _=>AE af∧Bw N p0_w Z (Ce N) n1 l9 af=some r) N ?_ ?_ ?_
  ·intro aa ww hf hw
   have be:=hs.nil Au 111
   exact⟨(vN),([]:List AK),0,_,_,hf.sub (kp [13,12,0,1,5,14] O),hw,be,(B9.refl S h),(iq (n:=0) O),E⟩
  ·rintro aa ww ⟨_,_,_,_,_,_,_,_,_,_,E⟩
   rw[Bw] at E;cases E
  rintro n1 aa ww ⟨v8,l9,af,b4,b5,hf,hw,ak,ai,cx,E⟩
  refine Ac ?_ hf hw
  clear hf hw ww aa
  rw[Bw] at E
  refine AH (Ao O (AM (kp [15,13,12,0,1,5,14] O) (AC (AX O E (λb6 E=>?_) (λb6 E=>?_)))))
  ·refine AO (AC (Aj (λa w=>∃(ao:Value) (ap:List AK),IV B b4 b5 (85,[]) a w [(13,vI (↑p0_w.in_.Takes.length:Int)),(12,u),(0,vP F 0),(1,vI Z),(14,vI af),(5,ao)] (OS Au 111 ao ap::Bx F 84 [.string p0_w.b.Name,G,vI p0_w.b.Cells,H,I,J,K,M,Q,U,vI p0_w.b.Err,z,A,C,u,D,vI p0_w.s.Hour,c,d,g,i,j,k,m,p,t]::OS (AN.sl AN.int) 29 c p0_w.s.Own::OS AN.int 3 d p0_w.s.Rem::OS Ar 60 g p0_w.s.Queue::OS BE 69 i p0_w.s.Gates::OS AN.int 3 j p0_w.s.In::OS AN.int 3 k p0_w.s.Out::OS BJ 50 m p0_w.moves::OS AN.int 3 p p0_w.peaks::OS Ar 60 t p0_w.sent::L) λ_ _=>E5 N af (Bw N p0_w Z (Ce N) n1) ap=some r) ?_ ?_))
   ·refine WF.sl (AI 2 ?_)
    obtain⟨Y,bf,E⟩:=bd E
    refine A9 O O (ad.mono' ai) SY bf O λcy b7=>B6 A6 ak.1 O b7 UB (λe=>by cases e) O λcz b8=>AG (Cn Y3 O ak λaq c0 bg ag=>?_)
    obtain⟨rfl,⟨b9,bh,ca,a1⟩⟩:=FO.ex (b8.mono ag)
    refine DW (vs:=[vI Y.Place,vI Y.Owner,vI Y.Litres,vI Y.To]) O O O O UB O bg .head O λc1 ae aj=>AZ (kp [7,13,12,0,1,5,14] O) (AC (AC (Bt (.inr ⟨mo,by kernel_rfl⟩) ae (AD Ui O (AT Bg ae O mh O Ae O (AA O (Bl O (AA O ?_))))))))
    obtain⟨a2,ac,E⟩:=bd E
    refine AV 11 33 (.bool a2) ?_ ?_
    ·cases bi:(decide (Y.Place≠Z))
     ·have ac:=GM bi ac
      refine AB O (AD Ri O (AB O (AT Bg ae O mh O Ae O (AB O (AA O (AB O (CN O O (AB O (AD GE O (AB O (AD HT O (AB O (AT Bg ae O (mt (mt mh)) O KI O (AB O (Ak O (ah.mono' (ai.trans (ag.trans aj))) Jx O λcb=>AB O ?_)))))))))))))))
      obtain⟨c2,bj,ac⟩:=bd ac
      refine A5 O O O Of O (λh' o=>Fx (St.all h') bh (JY cb) bj) (AB O (BZ O (AJ O ?_)))
      cases ac
      exact AU O
     have ac:=GL bi ac
     cases ac
     exact Aa O O
    refine AA O (AV 4 38 (.bool (a2||(decide (Y.Litres≤0)))) ?_ ?_)
    ·cases c3:a2
     ·exact AB O (AD PH O (AB O (AT Bg ae O mh O Ae O (AB O (Fv O (AJ O (AU O)))))))
     exact Aa O O
    refine BQ (kp [38,7,13,12,0,1,5,14] O) λc4 V am=>AX O E (λcc E=>?_) (λcc E=>?_)
    ·refine BA O (λaa ww hf hw=>?_)
     have bk:=V.sel [1,1,1,1,1,1,1,1,1,1,1] 1 O
     exact⟨v8,l9,_,_,hf.sub (kp [13,12,0,1,14,5] O),hw,bk,(ag.trans (aj.trans am)),E⟩
    refine AO (AC (AC (Bt (.inr ⟨mo,by kernel_rfl⟩) V (AD K1 O (AT Bg V O mh O Ae O (Bl O (AA O ?_)))))))
    obtain⟨cd,W,E⟩:=bd E
    refine AV 33 75 (.bool cd) ?_ ?_
    ·cases bl:(decide (Y.To≠(-1)))
     ·have W:=GM bl W
      cases W
      exact Aa O O
     have W:=GL bl W
     refine AB O (AD K1 O (AB O (AT Bg V O mh O Ae O (AB O (AA O (AB O (CN O O (AB O (AD GE O (AB O (AD C0 O (AB O (AT Bg V O (mt (mt mh)) O Fq O (AB O (Ak O (ab.mono' (ai.trans (ag.trans (aj.trans am)))) Ez O λce=>AB O ?_)))))))))))))))
     obtain⟨cf,bm,W⟩:=bd W
     refine A5 O O O Of O (λh' o=>Fx (St.all h') a1 (JY ce) bm) (AB O (BZ O (AB O (AA O ?_))))
     obtain⟨cg,X,W⟩:=bd W
     refine AV 21 74 (.bool cg) ?_ ?_
     ·cases bn:(!cf)
      ·have X:=GM bn X
       refine AB O (AA O (AB O (CN O O (AB O (AD GE O (AB O (AD C0 O (AB O (AT Bg V O (mt (mt mh)) O Fq O (AB O (AD K1 O (AB O (AT Bg V O mh O Ae O (AB O ?_))))))))))))))
       have ar:=ai.trans (ag.trans (aj.trans am))
       obtain⟨c5,bo,X⟩:=bd X
       refine A9 O O (ab.mono' ar) Ez bo O λc6 ch=>AB O (Af O ch GR KW O λc7 ci=>AB O (Ag Bg V.1 O ci Ae O λc8=>AB O (AA O (AB O (CN O O (AB O (AD GE O (AB O (AD C0 O (AB O (AT Bg V O (mt (mt mh)) O Fq O (AB O (AA O (AB O ?_))))))))))))))
       obtain⟨c9,bp,X⟩:=bd X
       refine A9 O O (ab.mono' ar) Ez bp O λda cj=>AB O (Af O cj GR KW O λdb ck=>AB O (Ag Bg V.1 O ck Ae O λdc=>AB O (Bl O (AB O (AJ O ?_)))))
       cases X
       exact AU O
      have X:=GL bn X
      cases X
      exact Aa O O
     refine AJ O ?_
     cases W
     exact AU O
    refine BQ (kp [75,7,13,12,0,1,5,14] O) λcl an bq=>AX O E (λcm E=>?_) (λcm E=>?_)
    ·refine BA O (λaa ww hf hw=>?_)
     have br:=an.sel [1,1,1,1,1,1,1,1,1,1,1] 1 O
     exact⟨v8,l9,_,_,hf.sub (kp [13,12,0,1,14,5] O),hw,br,(ag.trans (aj.trans (am.trans bq))),E⟩
    refine AO (EX (AI 5 (AA O (AD K1 O (AT A6 an O mh O Ae O (OM O O O (H1 (cs:=[vI Y.To,vI 0,vI (-3),.func (.func 83) #[] #[vP aq 0]]) OD O O O (AG ?_))))))))
    obtain⟨cn,bs,co,cp⟩:=an.pubb (r:=FO) (x:=Y) .head ⟨O,⟨b9,bh,ca,a1⟩⟩
    have bt:Rd cn cl (AN.fnr Tryz.prog (λS h vs (x:(List Int))=>∃w0:Value,vs=[w0]∧Sl S h AN.int w0 x) (λS h v (y:((List Int)×(List Int)))=>∃w0 w1:Value,v= .tuple #[w0,w1]∧Sl S h AN.int w0 y.1∧Sl S h AN.int w1 y.2)) (.func (.func 83) #[] #[(vP aq 0)]) (λx=>CO N Y x):=J9 83 #[(vP aq 0)] fA λS' h' s' e' L hs x y vs h1 h2=>by obtain⟨w0,rfl,a0⟩:=h1;exact Ml (L4 hs a0 (cp.mono'' s' e') h2)
    refine D0 (cs:=[vI Y.To,vI 0,vI (-3),(.func (.func 83) #[] #[(vP aq 0)])]) LC O O O O O O O bs λdd de bu bv=>?_
    obtain⟨bw,E⟩:=MU E
    refine U2 (r:=Au) (l:=l9) (xs:=([(⟨Y.To,0,(-3),(λx=>CO N Y x)⟩:AK)]:List AK)) O O LC O mh ⟨_,_,O,⟨_,O,a1,(iq (n:=0) O),(iq (n:=(-3)) O),(bt.mono bv)⟩,O⟩ O O bw O bu (λ_=>(.tail .head)) λcq df bx cr=>?_
    have bz:=bx.drop .head
    refine AI 1 (AY O (AG (AZ (kp [5,13,12,0,1,14] O) (WF.nil (λaa ww hf hw=>?_)))))
    exact⟨cq,(l9++([(⟨Y.To,0,(-3),(λx=>CO N Y x)⟩:AK)]:List AK)),_,_,hf.sub (kp [13,12,0,1,14,5] O),hw,bz,(ag.trans (aj.trans (am.trans (bq.trans (co.trans (bv.trans cr)))))),E⟩
   rintro aa ww ⟨ao,ap,ct,cu,hf,hw,a3,b0,E⟩
   refine Ac ?_ hf hw
   clear hf hw ww aa
   rw[E5] at E
   refine BY (.inl O) (Ai O (AA O (AM (kp [14,13,12,0,1,5] O) (WF.nil (λaa ww hf hw=>?_)))))
   exact⟨ao,ap,(BM (af+1)),_,_,hf.sub (kp [13,12,0,1,5,14] O),hw,a3,(ai.trans b0),(BG _),E⟩
  refine BA O (λaa ww hf hw=>?_)
  exact⟨v8,l9,_,_,hf.sub (kp [5] O),hw,ak,ai,E⟩
 rintro aa ww ⟨v2,l3,cv,cw,hf,hw,a4,b2,E⟩
 refine Ac ?_ hf hw
 clear hf hw ww aa
 rw[Ce] at E
 refine AH (AA O (AL O (kp [4] O) (Ad (λaa ww hf hw=>?_))))
 cases E
 exact Dr hf hw O O b2 a4
theorem It (hs:St S L h) {c:Int}(i:AE c) {a:Int}(d:AE a) {b:Int}(g:AE b) {r:Int}(E:Gd N c a b=some r):
 CL Tryz.prog 104 #[vI c,vI a,vI b] S h (λv S' h'=>v=vI r∧AE r∧St S' (L) h'):=by
 refine BF (l:=[vI c,vI a,vI b]) 21 Tryz.func104 O Tryz.ntmps104 O λB=>?_
 rw[Gd] at E
 refine AH (AL O (kp [0,1,2] O) (AC (Bt (.inl O) hs (AA O (AA O (AA O ?_))))))
 obtain⟨j,m,E⟩:=bd E
 refine IC (v:= .tuple #[vI j.1,vI j.2.1,.bool j.2.2]) (Ψ:=AE j.1∧AE j.2.1) O O O TI O (λh' o=>(IB (St.all h') i d g m).mono λ_ _ _ _ p=>⟨p.1,⟨p.2.1,p.2.2.1⟩⟩) λu=>?_
 obtain⟨w,A⟩:=u
 refine AA O (Bo O (Bo O (Bo O (AY O (AY O (AY O (BQ (kp [9,7] O) λC k t=>AC (AH (AA O (BZ O (AM (kp [19,7] O) (AX O E (λx E=>?_) (λx E=>?_)))))))))))))
 ·refine AH (AL O (kp [6] O) (Ad (λy z q s=>?_)))
  cases E
  exact Dr q s O O t ⟨O,(iq (n:=0) O),k⟩
 refine AO (AH (AA O (AL O (kp [6] O) (Ad (λy z q s=>?_)))))
 cases E
 exact Dr q s O O t ⟨O,w,k⟩
theorem QP (hs:St S L h) {c:Value}{k:A4}(j:Rd S h Bv c k) {a:Int}(b:AE a) {d:Int}(g:AE d) {r:Int}(E:J5 N k a d=some r):
 CL Tryz.prog 106 #[c,vI a,vI d] S h (λv S' h'=>v=vI r∧AE r∧St S' (L) h'):=by
 refine BF (l:=[c,vI a,vI d]) 20 Tryz.func106 O Tryz.ntmps106 O λB=>?_
 rw[J5] at E
 refine WF.sl (B3 O j (λe=>by cases e) O hs λZ S2 h3 i J t=>AI 1 (AY O (AG (AZ (kp [3,1,2] O) (AC (AH (Af O t A4.f_To Ht O λq7 K=>Ag A6 i.1 O K Ae O λr9=>BK O (AM (kp [9,3,1,2] O) (AX O E (λu E=>?_) (λu E=>?_))))))))))
 ·refine AH (AA O (AL O (kp [6] O) (Ad (λM Q w x=>?_))))
  cases E
  exact Dr w x O O J ⟨O,b,i⟩
 refine AO (AC (Bt (.inl O) i (AA O (AA O (Af O t IE Kl O λU y=>Ag Bg i.1 O y Ae O λz=>Af O t G7 J1 O λV A=>Ag Bg i.1 O A Ae O λC=>?_)))))
 obtain⟨W,m,E⟩:=bd E
 refine CX O O O P6 O (λh' o=>It (St.all h') g z C m) λD=>?_
 have F:=D
 obtain⟨X,p,E⟩:=bd E
 refine CX O O O TK O (λh' o=>Iz (St.all h') b F p) λG=>?_
 have H:=G
 refine P7 O O O (AY O (BQ (kp [6] O) λY s I=>Ad (λM Q w x=>?_)))
 cases E
 exact Dr w x O O (J.trans I) ⟨O,(OJ (iq (n:=0) O) H),s⟩
theorem Rx (hs:St S L h) {a:Value}{g:(List BT)}(b:Sl S h Bu a g) {c:Int}(d:AE c) {r:Int}(E:Ko N g c=some r):
 CL Tryz.prog 105 #[a,vI c] S h (λv S' h'=>v=vI r∧AE r∧St S' (L) h'):=by
 refine BF (l:=[a,vI c]) 17 Tryz.func105 O Tryz.ntmps105 O λB=>?_
 rw[Ko] at E
 refine AH (AL O (kp [0,1] O) (AC (AC (Bt (.inl O) hs (AA O ?_)))))
 obtain⟨C,k,E⟩:=bd E
 refine A5 O O O P3 O (λh' o=>GO (St.all h') (b.mono' (o.all hs.1)) k) (BZ O (BQ (kp [9,0,1] O) λD i m=>AX O E (λw E=>?_) (λw E=>?_)))
 ·refine AH (AL O (kp [4] O) (Ad (λx y p q=>?_)))
  cases E
  exact Dr p q O O m ⟨O,(iq (n:=0) O),i⟩
 refine AO (AC (Bt (.inl O) i (AA O (AA O ?_))))
 obtain⟨F,s,E⟩:=bd E
 refine CX O O O Tt O (λh' o=>KF (St.all h') ((b.mono' m).mono' (o.all i.1)) d s) λz=>?_
 have t:=z
 refine AA O (Bo O (Bo O (AY O (AY O (BQ (kp [5] O) λA j u=>AH (AA O (AL O (kp [4] O) (Ad (λx y p q=>?_)))))))))
 cases E
 exact Dr p q O O (m.trans u) ⟨O,t,j⟩
theorem QQ (hs:St S L h) {y:Value}{t:A4}(I:Rd S h Bv y t) {i:Int}(u:AE i) {c:Bool}{s:Value}{F:(List BT)}(J:Sl S h Bu s F) {b:Int}(j:AE b) {k:Int}(G:AE k) {r:Int}(E:J6 N t i c F b k=some r):
 CL Tryz.prog 97 #[y,vI i,.bool c,s,vI b,vI k] S h (λv S' h'=>v=vI r∧AE r∧St S' (L) h'):=by
 refine BF (l:=[y,vI i,.bool c,s,vI b,vI k]) 63 Tryz.func97 O Tryz.ntmps97 O λB=>?_
 rw[J6] at E
 refine WF.sl (B3 O I (λe=>by cases e) O hs λq1 S2 D z M k6=>AI 1 (AY O (AG (AZ (kp [6,1,2,3,4,5] O) (AC (AH (Af O k6 A4.f_Kind GF O λq7 k8=>Ag A6 z.1 O k8 Ae O λr9=>AM (kp [14,6,1,2,3,4,5] O) (Aj (λa w=>IV B S2 D (63,[]) a w [] (L) λ_ _=>Hj N=some r) ?_ ?_))))))))
 ·refine AC (Aj (λa w=>IV B S2 D (63,[]) a w [(6,q1),(4,vI b)] (L) λ_ _=>Hh N t b=some r) ?_ ?_)
  ·refine AC (Aj (λa w=>IV B S2 D (63,[]) a w [(6,q1),(2,.bool c),(4,vI b)] (L) λ_ _=>JS N c (Hh N t b)=some r) ?_ ?_)
   ·refine AC (Aj (λa w=>IV B S2 D (63,[]) a w [(6,q1),(2,.bool c),(4,vI b)] (L) λ_ _=>JR N t c b (Hj N)=some r) ?_ ?_)
    ·refine AC (Aj (λa w=>IV B S2 D (63,[]) a w [(6,q1),(1,vI i)] (L) λ_ _=>JQ N t i=some r) ?_ ?_)
     ·refine AC (Aj (λa w=>IV B S2 D (63,[]) a w [(6,q1),(1,vI i),(3,s),(4,vI b),(5,vI k)] (L) λ_ _=>JP N t i F b k=some r) ?_ ?_)
      ·refine AC (AC (AH (BK O (AL O (kp [15,14,6,1,2,3,4,5] O) (AX O E (λaz E=>?_) (λaz E=>?_))))))
       ·refine BA O (λm p d g=>?_)
        exact⟨_,_,d.sub (kp [6,1,3,4,5] O),g,z,(B9.refl S2 D),E⟩
       refine AO (AC (AH (BK O (AL O (kp [17,14,6,1,2,4] O) (AX O E (λa0 E=>?_) (λa0 E=>?_))))))
       ·refine BA O (λm p d g=>?_)
        exact⟨_,_,d.sub (kp [6,1] O),g,z,(B9.refl S2 D),E⟩
       refine AO (AC (AH (BK O (AL O (kp [19,14,6,2,4] O) (AX O E (λa1 E=>?_) (λa1 E=>?_))))))
       ·refine BA O (λm p d g=>?_)
        exact⟨_,_,d.sub (kp [6,2,4] O),g,z,(B9.refl S2 D),E⟩
       refine AO (AC (AH (BK O (AL O (kp [21,14,6,2,4] O) (AX O E (λa2 E=>?_) (λa2 E=>?_))))))
       ·refine BA O (λm p d g=>?_)
        exact⟨_,_,d.sub (kp [6,2,4] O),g,z,(B9.refl S2 D),E⟩
       refine AO (AH (BK O (AL O (kp [23,6,4] O) (AX O E (λa3 E=>?_) (λa3 E=>?_)))))
       ·refine BA O (λm p d g=>?_)
        exact⟨_,_,d.sub (kp [6,4] O),g,z,(B9.refl S2 D),E⟩
       refine AO (BA O (λm p d g=>?_))
       exact⟨_,_,d.sub Ov,g,z,(B9.refl S2 D),E⟩
      rintro m p ⟨ca,cb,d,g,x,Q,E⟩
      refine Ac ?_ d g
      clear d g p m
      rw[JP] at E
      refine AC (AC (Bt (.inr ⟨mo,by kernel_rfl⟩) x (AA O ?_)))
      have U:=k6.mono Q
      refine B6 Bg x.1 O U HW (λe=>by cases e) O λcc a4=>AA O (AA O ?_)
      obtain⟨cd,ab,E⟩:=bd E
      refine CX O O O aU O (λh' o=>QP (St.all h') (a4.mono (o.all x.1)) j G ab) λa5=>?_
      have a6:=a5
      obtain⟨ce,ac,E⟩:=bd E
      refine CX O O O aV O (λh' o=>Rx (St.all h') ((J.mono' (M.trans Q)).mono' (o.all x.1)) a6 ac) λa7=>?_
      have a8:=a7
      refine AA O (Af O U D5 JI O λcf a9=>Ag Bg x.1 O a9 Ae O λba=>?_)
      obtain⟨cg,ad,E⟩:=bd E
      refine CX O O O P6 O (λh' o=>It (St.all h') a8 u ba ad) λbb=>?_
      have bc:=bb
      refine Af O U Lu Rl O λch be=>Ag Bg x.1 O be Ae O λbf=>?_
      obtain⟨ci,ae,E⟩:=bd E
      refine CX O O O Qt O (λh' o=>IH (St.all h') bc bf ae) λbg=>?_
      have bh:=bg
      refine AY O (BQ (kp [12] O) λcj af bi=>Ad (λm p d g=>?_))
      cases E
      exact Dr d g O O (M.trans (Q.trans bi)) ⟨O,bh,af⟩
     rintro m p ⟨ck,cl,d,g,H,ag,E⟩
     refine Ac ?_ d g
     clear d g p m
     rw[JQ] at E
     refine AC (AC (Bt (.inl O) H ?_))
     have ah:=k6.mono ag
     refine Af O ah A4.f_Num IT O λcm bj=>Ag Bg H.1 O bj Ae O λbk=>AA O (Af O ah D5 JI O λcn bl=>Ag Bg H.1 O bl Ae O λbm=>?_)
     obtain⟨co,ai,E⟩:=bd E
     refine CX O O O P6 O (λh' o=>It (St.all h') bk u bm ai) λbn=>?_
     have bo:=bn
     refine AY O (BQ (kp [12] O) λcp aj bp=>Ad (λm p d g=>?_))
     cases E
     exact Dr d g O O (M.trans (ag.trans bp)) ⟨O,bo,aj⟩
    rintro m p ⟨cq,cr,d,g,A,V,E⟩
    refine Ac ?_ d g
    clear d g p m
    rw[JR] at E
    refine AC (AH (AA O (AM (kp [44,6,4] O) (AX O E (λbq E=>?_) (λbq E=>?_)))))
    ·refine AC (Bt (.inl O) A (AA O ?_))
     have ak:=k6.mono V
     refine Af O ak A4.f_Num IT O λcs br=>Ag Bg A.1 O br Ae O λbs=>Af O ak A4.f_Den JK O λct bt=>Ag Bg A.1 O bt Ae O λbu=>?_
     obtain⟨cu,al,E⟩:=bd E
     refine CX O O O P6 O (λh' o=>It (St.all h') j bs bu al) λbv=>?_
     have bw:=bv
     refine AY O (BQ (kp [12] O) λcv am bx=>Ad (λm p d g=>?_))
     cases E
     exact Dr d g O O (M.trans (V.trans bx)) ⟨O,bw,am⟩
    refine AO (BA O (λm p d g=>?_))
    exact⟨_,_,d.sub Ov,g,A,V,E⟩
   rintro m p ⟨cw,cx,d,g,K,an,E⟩
   refine Ac ?_ d g
   clear d g p m
   rw[JS] at E
   refine AH (AA O (BZ O (AM (kp [52,6,4] O) (AX O E (λbz E=>?_) (λbz E=>?_)))))
   ·refine AH (AL O (kp [12] O) (Ad (λm p d g=>?_)))
    cases E
    exact Dr d g O O (M.trans an) ⟨O,(iq (n:=0) O),K⟩
   refine AO (WF.nil (λm p d g=>?_))
   exact⟨_,_,d.sub (kp [6,4] O),g,K,an,E⟩
  rintro m p ⟨cy,cz,d,g,C,ao,E⟩
  refine Ac ?_ d g
  clear d g p m
  rw[Hh] at E
  refine AC (AC (Bt (.inr ⟨mo,by kernel_rfl⟩) C (AA O ?_)))
  have W:=k6.mono ao
  refine Af O W LG Rk O λc0 b0=>Ag Bg C.1 O b0 Ae O λb1=>?_
  obtain⟨c1,ap,E⟩:=bd E
  refine CX O O O TK O (λh' o=>Iz (St.all h') j b1 ap) λb2=>?_
  have b3:=b2
  refine P7 O O O (Af O W A4.f_Num IT O λc2 b4=>Ag Bg C.1 O b4 Ae O λaq=>Af O W A4.f_Den JK O λb5 ar=>Ag Bg C.1 O ar Ae O λau=>?_)
  obtain⟨b6,X,E⟩:=bd E
  refine CX O O O P6 O (λh' o=>It (St.all h') (OJ (iq (n:=0) O) b3) aq au X) λav=>?_
  have aw:=av
  refine AY O (BQ (kp [12] O) λb7 Y ax=>Ad (λm p d g=>?_))
  cases E
  exact Dr d g O O (M.trans (ao.trans ax)) ⟨O,aw,Y⟩
 rintro m p ⟨b8,b9,d,g,Z,ay,E⟩
 refine Ac ?_ d g
 clear d g p m
 rw[Hj] at E
 refine AH (AL O (kp [12] O) (Ad (λm p d g=>?_)))
 cases E
 exact Dr d g O O (M.trans ay) ⟨O,(iq (n:=0) O),Z⟩
theorem Rc (hs:St S L h) {c:Value}{n:A4}(k:Rd S h Bv c n) {d:Value}{p:Ax}(m:Rd S h BE d p) {a:Int}(i:AE a) {g:Int}(j:AE g) {r:Int}(E:Kn N n p a g=some r):
 CL Tryz.prog 85 #[c,d,vI a,vI g] S h (λv S' h'=>v=vI r∧AE r∧St S' (L) h'):=by
 refine BF (l:=[c,d,vI a,vI g]) 19 Tryz.func85 O Tryz.ntmps85 O λB=>?_
 rw[Kn] at E
 refine WF.sl (B3 O k (λe=>by cases e) O hs λq1 S2 h3 y K M=>B3 O (m.mono K) (λe=>by cases e) O y λq8 S9 Q b s t=>AI 1 (AY O (AG (AZ (kp [5,4,2,3] O) (AC (Bt (.inl O) b ?_))))))
 have u:=M.mono s
 refine B6 Bg b.1 O u HW (λe=>by cases e) O λU z=>Af O t TS Mt O λV A=>Ag Bg b.1 O A Ae O λC=>Af O t SC Nq O λW D=>bO Bg b.1 O D Ol O (Af O u JW Mu O λX F=>Al Bg b.1 O F IQ O λY G=>AA O (AA O ?_))
 obtain⟨Z,w,E⟩:=bd E
 refine CX O O O eU O (λh' o=>QQ (St.all h') (z.mono (o.all b.1)) C (G.mono' (o.all b.1)) i j w) λH=>?_
 have I:=H
 refine AY O (BQ (kp [8] O) λab x J=>Ad (λaa ww hf hw=>?_))
 cases E
 exact Dr hf hw O O (K.trans (s.trans J)) ⟨O,I,x⟩
theorem IS (hs:St S L h) {a:Int}(b:AE a) {r:Int}(E:Fu N a=some r):
 CL Tryz.prog 66 #[vI a] S h (λv S' h'=>∃c:Value,v= .func (.func 89) #[] #[c]∧Pt S' h' AN.int c r∧St S' (L) h'):=by
 refine BF (l:=[vI a]) 4 Tryz.func66 O Tryz.ntmps66 O λB=>?_
 rw[Fu] at E
 refine WF.sl (B3 O (⟨_,O,O,b⟩:Rd _ _ AN.int _ a) (λ_=>rfl) O hs λm S2 n d g i=>AI 1 (AY O (AG (AZ (kp [1] O) (AH (OM O O O (AL O (kp [2] O) (Ad (λo p j k=>?_)))))))))
 cases E
 exact Dr j k O O g ⟨_,O,i,d⟩
theorem O0 (hs:St S L h) {c:Int}(G:AE c) {j:Value}{b:(List Int)}(k:Sl S h AN.int j b) {r:(List Int)×Bool}(E:Ix N c b=some r):
 CL Tryz.prog 101 #[vI c,j] S h (λv S' h'=>∃bx:Value,v= .tuple #[bx,.bool r.2]∧St S' (OS AN.int 3 bx r.1::L) h'):=by
 refine BF (l:=[vI c,j]) 112 Tryz.func101 O Tryz.ntmps101 O λB=>?_
 rw[Ix] at E
 refine AH (AY O (AL O (kp [0,1] O) (AC (AH (AA O (Ak O k BR O λb1=>Bk O (AM (kp [22,0,1] O) (AX O E (λc2 E=>?_) (λc2 E=>?_)))))))))
 ·refine AH (AY O (AL O (kp [5,4] O) (Ad (λy z m d=>?_))))
  have c7:=hs.nil AN.int 3
  cases E
  exact KD m O d (IF (Ir m (v:=_) O) (IF (Ir m (v:=_) O) KC)) O (B9.refl S h) ⟨_,O,c7⟩
 refine AO (AH (AL O (kp [6,0,1] O) (AC (AH (AA O (Ak O k BR O λb4=>AA O (AM (kp [25,24,23,6,0,1] O) (Aj (λa w=>∃(i5:Int),IV B S h (112,[]) a w [(0,vI c),(1,j),(6,vI i5)] (L) λ_ _=>AE i5∧EQ N c b i5=some r) ?_ ?_))))))))
 ·refine A3 (λn1=>λa w=>∃(Q:Int) (ad:Int),IV B S h (112,[]) a w [(24,vI (↑b.length:Int)),(23,j),(0,vI c),(1,j),(6,vI Q),(25,vI ad)] (L) λ_ _=>AE Q∧AE ad∧EN N b (EQ N c b) n1 Q ad=some r) N ?_ ?_ ?_
  ·intro y z m d
   exact⟨0,0,_,_,m.sub (kp [24,23,0,1,6,25] O),d,hs,(B9.refl S h),(iq (n:=0) O),(iq (n:=0) O),E⟩
  ·rintro y z ⟨_,_,_,_,_,_,_,_,_,_,E⟩
   rw[EN] at E;cases E
  rintro n1 y z ⟨Q,ad,ee,ef,m,d,Z,ao,c8,eg,E⟩
  refine Ac ?_ m d
  clear m d z y
  rw[EN] at E
  refine AH (Ao O (AM (kp [26,24,23,0,1,6,25] O) (AC (AX O E (λc9 E=>?_) (λc9 E=>?_)))))
  ·refine AO (AC (A8 (AH ?_)))
   obtain⟨ap,bz,E⟩:=bd E
   refine A9 O O (k.mono' ao) BR bz O λeh da=>Ag A6 Z.1 O da Ae O λei=>AL O (kp [8,24,23,0,1,6,25] O) (AC (AH (AA O (Ao O (AA O (AV 5 36 (.bool ((decide (ap<0))||(decide ((BM (1125899906842624-Q))<ap)))) ?_ ?_))))))
   ·cases ej:(decide (ap<0))
    ·exact AB O (AA O (AB O (AA O (AB O (Cz O (AB O (Bk O (AJ O (AU O)))))))))
    exact Aa O O
   refine AM (kp [36,8,24,23,0,1,6,25] O) (AX O E (λdb E=>?_) (λdb E=>?_))
   ·refine AH (AY O (AL O (kp [5,4] O) (Ad (λy z m d=>?_))))
    have b0:=Z.nil AN.int 3
    cases E
    exact KD m O d (IF (Ir m (v:=_) O) (IF (Ir m (v:=_) O) KC)) O ao ⟨_,O,b0⟩
   refine AO (BY (.inl O) (AA O (AA O (Ai O (AL O (kp [6,24,23,0,1,25] O) (BP (BY (.inl O) (Ai O (AA O (AM (kp [25,6,24,23,0,1] O) (WF.nil (λy z m d=>?_))))))))))))
   exact⟨(BM (Q+ap)),(BM (ad+1)),_,_,m.sub (kp [24,23,0,1,6,25] O),d,Z,ao,(BG _),(BG _),E⟩
  refine BA O (λy z m d=>?_)
  exact⟨Q,_,_,m.sub (kp [0,1,6] O),d,Z,ao,c8,E⟩
 rintro y z ⟨i5,a4,ek,m,d,av,ab,r6,E⟩
 refine Ac ?_ m d
 clear m d z y
 rw[EQ] at E
 refine AC (AH (AA O (Ao O (AA O (AV 4 47 (.bool ((decide (c<0))||(decide (i5<c)))) ?_ ?_)))))
 ·cases el:(decide (c<0))
  ·exact AB O (AA O (AB O (AA O (AB O (Bk O (AJ O (AU O)))))))
  exact Aa O O
 refine AM (kp [47,0,1,6] O) (AX O E (λdc E=>?_) (λdc E=>?_))
 ·refine AH (AY O (AL O (kp [5,4] O) (Ad (λy z m d=>?_))))
  have b2:=av.nil AN.int 3
  cases E
  exact KD m O d (IF (Ir m (v:=_) O) (IF (Ir m (v:=_) O) KC)) O ab ⟨_,O,b2⟩
 refine AO (WF.sl (AI 2 (AA O (Ak O (k.mono' ab) BR O λem=>AG ?_))))
 obtain⟨b3,E⟩:=MU E
 refine JD (r:=AN.int) (zx:=0) FJ O ⟨O,by unfold AE;omega⟩ O O b3 O O av λK en aw aq=>AI 1 (AY O (AG (AZ (kp [9,0,1,6] O) (AC (AH (AA O (BK O (AM (kp [52,9,0,1,6] O) (AX O E (λdd E=>?_) (λdd E=>?_))))))))))
 ·refine AH (AA O (AY O (AL O (kp [5,4] O) (Ad (λy z m d=>?_)))))
  cases E
  exact KD m O d (IF (Ir m (v:=_) O) (IF (Ir m (v:=_) O) KC)) O (ab.trans aq) ⟨_,O,aw⟩
 refine AO (WF.sl (AI 2 (AA O (Ak O (k.mono' (ab.trans aq)) BR O λeo=>AG ?_))))
 obtain⟨b5,E⟩:=MU E
 refine JD (r:=AN.int) (zx:=0) FJ O ⟨O,by unfold AE;omega⟩ O O b5 O O aw λep eq b6 b7=>Cn Vf O b6 λae er ax b8=>?_
 obtain⟨H,t,rfl,es⟩:=ax.oslen (mt mh)
 refine DW (vs:=[(.slice H (List.replicate ((↑b.length:Int):Int).toNat (0:Int)).length t)]) O O O O BX O ax .head O λet b9 ca=>AZ (kp [10,9,0,1,6] O) (WF.sl (AI 2 (AA O ?_)))
 have ay:=ab.trans (aq.trans (b7.trans (b8.trans ca)))
 refine Ak O (k.mono' ay) BR O λeu=>AG ?_
 obtain⟨cb,E⟩:=MU E
 refine JD (r:=AN.int) (zx:=0) FJ O ⟨O,by unfold AE;omega⟩ O O cb O O b9 λev ew cc cd=>Cn Vf O cc λaf ex az ce=>?_
 obtain⟨I,u,rfl,ey⟩:=az.oslen (mt mh)
 refine DW (vs:=[(.slice I (List.replicate ((↑b.length:Int):Int).toNat (0:Int)).length u)]) O O O O BX O az .head O λa5 cf cg=>AZ (kp [11,10,9,0,1,6] O) (AH (AA O (AL O (kp [12,11,10,9,0,1,6] O) (AC (AH (AA O ?_))))))
 have ch:=k.mono' (ay.trans (cd.trans (ce.trans cg)))
 refine Ak O ch BR O λez=>AA O (AM (kp [63,62,61,12,11,10,9,0,6] O) (Aj (λa w=>∃(ar:Int) (a6:List Int) (a7:List Int) (au:List Int),IV B a4 a5 (112,[]) a w [(11,vP af 0),(10,vP ae 0),(9,K),(12,vI ar)] (Bx af 29 [(.slice I (List.replicate ((↑b.length:Int):Int).toNat (0:Int)).length u)]::OS AN.int 3 (.slice I (List.replicate ((↑b.length:Int):Int).toNat (0:Int)).length u) a6::Bx ae 29 [(.slice H (List.replicate ((↑b.length:Int):Int).toNat (0:Int)).length t)]::OS AN.int 3 (.slice H (List.replicate ((↑b.length:Int):Int).toNat (0:Int)).length t) a7::OS AN.int 3 K au::L) λ_ _=>AE ar∧EO N ar a6 a7 au=some r) ?_ ?_))
 ·refine A3 (λn3=>λa w=>∃(ac:Int) (A:Int) (U:List Int) (V:List Int) (W:List Int),IV B a4 a5 (112,[]) a w [(62,vI (↑b.length:Int)),(61,j),(11,vP af 0),(10,vP ae 0),(9,K),(0,vI c),(6,vI i5),(12,vI ac),(63,vI A)] (Bx af 29 [(.slice I (List.replicate ((↑b.length:Int):Int).toNat (0:Int)).length u)]::OS AN.int 3 (.slice I (List.replicate ((↑b.length:Int):Int).toNat (0:Int)).length u) U::Bx ae 29 [(.slice H (List.replicate ((↑b.length:Int):Int).toNat (0:Int)).length t)]::OS AN.int 3 (.slice H (List.replicate ((↑b.length:Int):Int).toNat (0:Int)).length t) V::OS AN.int 3 K W::L) λ_ _=>AE ac∧AE A∧EM N c b i5 (EO N) n3 ac A U V W=some r) N ?_ ?_ ?_
  ·intro y z m d
   exact⟨c,0,(List.replicate ((↑b.length:Int):Int).toNat (0:Int)),(List.replicate ((↑b.length:Int):Int).toNat (0:Int)),(List.replicate ((↑b.length:Int):Int).toNat (0:Int)),_,_,m.sub (kp [62,61,11,10,9,0,6,12,63] O),d,cf,(B9.refl a4 a5),G,(iq (n:=0) O),E⟩
  ·rintro y z ⟨_,_,_,_,_,_,_,_,_,_,_,_,_,E⟩
   rw[EM] at E;cases E
  rintro n3 y z ⟨ac,A,U,V,W,dg,dh,m,d,X,ag,de,df,E⟩
  refine Ac ?_ m d
  clear m d z y
  rw[EM] at E
  refine AH (Ao O (AM (kp [64,62,61,11,10,9,0,6,12,63] O) (AC (AX O E (λci E=>?_) (λci E=>?_)))))
  ·refine AO (AC (A8 (AH (AA O ?_))))
   obtain⟨di,a8,E⟩:=bd E
   refine A9 O O (ch.mono' ag) BR a8 O λdj cj=>Ag A6 X.1 O cj Ae O λck=>AY O (AL O (kp [14,13,62,61,11,10,9,0,6,12,63] O) (AC (Bt (.inl O) X (AA O (AA O (AA O ?_))))))
   obtain⟨s,a9,E⟩:=bd E
   refine IC (v:= .tuple #[vI s.1,vI s.2.1,.bool s.2.2]) (Ψ:=AE s.1∧AE s.2.1) O O O TI O (λh' o=>(IB (St.all h') G ck r6 a9).mono λ_ _ _ _ p=>⟨p.1,⟨p.2.1,p.2.2.1⟩⟩) λcl=>?_
   obtain⟨cm,cn⟩:=cl
   refine AA O (Bo O (Bo O (Bo O (AY O (AY O (AY O (BQ (kp [16,15,13,62,61,11,10,9,0,6,12,63] O) λdk g co=>AC (Zd (λw=>w.heap[ae]? =some (.cells ([(.slice H (List.replicate ((↑b.length:Int):Int).toNat (0:Int)).length t)]:List Value).toArray 29 (0,0))∧w.heap[af]? =some (.cells ([(.slice I (List.replicate ((↑b.length:Int):Int).toNat (0:Int)).length u)]:List Value).toArray 29 (0,0))) mo (QA 0 O (by kernel_rfl) (λw d=>⟨g.bxW (mt (mt mh)) d,g.bxW mh d⟩) O O (QA 1 O (by kernel_rfl) (λw d=>⟨g.bxW (mt (mt mh)) d,g.bxW mh d⟩) O O (QB 2 (vs:=[(.slice H (List.replicate ((↑b.length:Int):Int).toNat (0:Int)).length t)]) O (by kernel_rfl) (λw d=>⟨g.bxW (mt (mt mh)) d,g.bxW mh d⟩) O (λw d=>d.1) O O BX O O (QA 3 O (by kernel_rfl) (λw d=>⟨g.bxW (mt (mt mh)) d,g.bxW mh d⟩) O O (QB 4 (vs:=[(.slice I (List.replicate ((↑b.length:Int):Int).toNat (0:Int)).length u)]) O (by kernel_rfl) (λw d=>⟨g.bxW (mt (mt mh)) d,g.bxW mh d⟩) O (λw d=>d.2) O O BX O O (QA 5 O (by kernel_rfl) (λw d=>⟨g.bxW (mt (mt mh)) d,g.bxW mh d⟩) O O (QA 6 O (by kernel_rfl) (λw d=>⟨g.bxW (mt (mt mh)) d,g.bxW mh d⟩) O O (QA 7 O (by kernel_rfl) (λw d=>⟨g.bxW (mt (mt mh)) d,g.bxW mh d⟩) O O (QA 8 O (by kernel_rfl) (λw d=>⟨g.bxW (mt (mt mh)) d,g.bxW mh d⟩) O O ?_)))))))))))))))))
   obtain⟨dl,ba,E⟩:=bd E
   refine Tz 9 (r:=AN.int) (xs:=W) O (by kernel_rfl) (λw d=>⟨g.bxW (mt (mt mh)) d,g.bxW mh d⟩) g (mt (mt (mt (mt mh)))) O O BR ba O λdm bb=>Y1 10 O O (by kernel_rfl) ?_
   obtain⟨cp,bc,E⟩:=bd E
   refine Er (r:=AN.int) (l:=W) (i:=A) (x:=cp) O O (⟨_,O,O,cm⟩:Rd _ _ AN.int _ s.1) bb bc Lr.id Ae (λ_=>rfl) g (.tail (.tail (.tail (.tail .head)))) λdn C cq=>U3 (λw d=>⟨C.bxW (mt (mt mh)) d,C.bxW mh d⟩) ?_
   obtain⟨dp,be,E⟩:=bd E
   refine Tz 11 (r:=AN.int) (xs:=V) O (by kernel_rfl) (λw d=>⟨C.bxW (mt (mt mh)) d,C.bxW mh d⟩) C (mt (mt (mt mh))) O O BR be O λdq bf=>Y1 12 O O (by kernel_rfl) ?_
   obtain⟨cr,bg,E⟩:=bd E
   refine Er (r:=AN.int) (l:=V) (i:=A) (x:=cr) O O (⟨_,O,O,cn⟩:Rd _ _ AN.int _ s.2.1) bf bg Lr.id Ae (λ_=>rfl) C (.tail (.tail (.tail .head))) λdr D cs=>U3 (λw d=>⟨D.bxW (mt (mt mh)) d,D.bxW mh d⟩) ?_
   obtain⟨ds,bh,E⟩:=bd E
   refine Tz 13 (r:=AN.int) (xs:=U) O (by kernel_rfl) (λw d=>⟨D.bxW (mt (mt mh)) d,D.bxW mh d⟩) D (mt mh) O O BR bh O λdt bi=>Y1 14 O O (by kernel_rfl) ?_
   obtain⟨ct,bj,E⟩:=bd E
   refine Er (r:=AN.int) (l:=U) (i:=A) (x:=ct) O O (⟨_,O,O,df⟩:Rd _ _ AN.int _ A) bi bj Lr.id Ae (λ_=>rfl) D (.tail .head) λdu Y cu=>U3 (λw d=>⟨Y.bxW (mt (mt mh)) d,Y.bxW mh d⟩) (U4 (by kernel_rfl) (kp [15,62,61,11,10,9,0,6,12,63] O) (BY (.inl O) (AA O (AA O (Cz O (AL O (kp [12,62,61,11,10,9,0,6,63] O) (BP (BY (.inl O) (Ai O (AA O (AM (kp [63,12,62,61,11,10,9,0,6] O) (WF.nil (λy z m d=>?_)))))))))))))
   exact⟨(BM (ac-s.1)),(BM (A+1)),(upd U A A),(upd V A s.2.1),(upd W A s.1),_,_,m.sub (kp [62,61,11,10,9,0,6,12,63] O),d,Y,(ag.trans (co.trans (cq.trans (cs.trans cu)))),(BG _),(BG _),E⟩
  refine BA O (λy z m d=>?_)
  exact⟨ac,U,V,W,_,_,m.sub (kp [11,10,9,12] O),d,X,ag,de,E⟩
 rintro y z ⟨ar,a6,a7,au,dv,dw,m,d,ah,cv,e0,E⟩
 refine Ac ?_ m d
 clear m d z y
 rw[EO] at E
 refine WF.sl (AI 3 (AT A6 ah O mh O BX O (Yo O eF O (OM O O O (AG ?_)))))
 obtain⟨dx,bk,E⟩:=bd E
 refine Ct O O O aS O (Te ah bk) λdy dz ai cw p=>?_
 obtain⟨rfl,bl⟩:=p
 refine AZ (kp [11,9,12] O) (AC (AC ?_))
 obtain⟨aj,ak,cx,cy⟩:=bl.pubs (.tail .head)
 refine BY (.inl O) (AT A6 ak O mh O BX O (AA O ?_))
 obtain⟨a0,bm,E⟩:=bd E
 refine Yk O O cy BR bm O λcz a1=>Ak O a1 BR O λd0=>AA O (AM (kp [100,99,98,9] O) (Aj (λa w=>∃(am:List Int),IV B aj ai (112,[]) a w [(9,K)] (OS AN.int 3 K am::L) λ_ _=>Fl N am=some r) ?_ ?_))
 ·refine A3 (λn5=>λa w=>∃(M:Int) (J:List Int),IV B aj ai (112,[]) a w [(99,vI (↑a0.length:Int)),(98,cz),(9,K),(100,vI M)] (OS AN.int 3 K J::L) λ_ _=>AE M∧EL N a0 (Fl N) n5 M J=some r) N ?_ ?_ ?_
  ·intro y z m d
   have bn:=ak.sel [3] 3 O
   exact⟨0,au,_,_,m.sub (kp [99,98,9,100] O),d,bn,(B9.refl aj ai),(iq (n:=0) O),E⟩
  ·rintro y z ⟨_,_,_,_,_,_,_,_,_,E⟩
   rw[EL] at E;cases E
  rintro n5 y z ⟨M,J,d1,d2,m,d,F,an,d3,E⟩
  refine Ac ?_ m d
  clear m d z y
  rw[EL] at E
  refine AH (Ao O (AM (kp [101,99,98,9,100] O) (AC (AX O E (λc0 E=>?_) (λc0 E=>?_)))))
  ·refine AO (AC (A8 (AH ?_)))
   obtain⟨a2,bo,E⟩:=bd E
   refine A9 O O (a1.mono' an) BR bo O λd4 c1=>Ag A6 F.1 O c1 Ae O λd5=>AL O (kp [19,99,98,9,100] O) (EX (AI 6 (AA O (AA O ?_))))
   obtain⟨d6,bp,E⟩:=bd E
   refine A0 F mh O O BR bp O λd7 bq=>?_
   obtain⟨a3,br,E⟩:=bd E
   have c3:=F.epAt mh br FL.id bq
   refine Ag A6 (λ_ x=>x) O c3 Ae O λd8=>Ai O ?_
   obtain⟨d9,bs,E⟩:=bd E
   refine A0 F mh O O BR bs O λea bt=>AG ?_
   obtain⟨c4,bu,E⟩:=bd E
   refine Er (r:=AN.int) (l:=J) (i:=a2) (x:=c4) O O (⟨_,O,O,(BG _)⟩:Rd _ _ AN.int _ (BM (a3+1))) bt bu Lr.id Ae (λ_=>rfl) F .head λeb bv c5=>AZ (kp [99,98,9,100] O) (BP (BY (.inl O) (Ai O (AA O (AM (kp [100,99,98,9] O) (WF.nil (λy z m d=>?_)))))))
   exact⟨(BM (M+1)),(upd J a2 (BM (a3+1))),_,_,m.sub (kp [99,98,9,100] O),d,bv,(an.trans c5),(BG _),E⟩
  refine BA O (λy z m d=>?_)
  exact⟨J,_,_,m.sub (kp [9] O),d,F,an,E⟩
 rintro y z ⟨am,ec,ed,m,d,bw,c6,E⟩
 refine Ac ?_ m d
 clear m d z y
 rw[Fl] at E
 refine AH (AA O (AY O (AL O (kp [5,4] O) (Ad (λy z m d=>?_)))))
 cases E
 exact KD m O d (IF (Ir m (v:=_) O) (IF (Ir m (v:=_) O) KC)) O (ab.trans (aq.trans (b7.trans (b8.trans (ca.trans (cd.trans (ce.trans (cg.trans (cv.trans (cw.trans (cx.trans c6))))))))))) ⟨_,O,bw⟩
end Go.Proofs.YtblcgjadhemlbaaGreat
