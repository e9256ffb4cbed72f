import Derived.Test.YtblcgjadhemlbaaGreatUWalk9
import Derived.Test.YtblcgjadhemlbaaGreatUSort5
namespace Go.Proofs.YtblcgjadhemlbaaGreat
open Go.RowKit
set_option linter.unusedVariables false
set_option linter.unusedSimpArgs false
set_option maxRecDepth 10000
set_option maxHeartbeats 2000000
variable {N:Nat}{S:Nat→Prop}{L:List HP}{h:Av}
theorem L3 (hs:St S L h) {a:Value}{c:(List Int)}(d:Sl S h AM.int a c) {g:Value}{c1_:Fj}(i:Pt S h FX g c1_) {r:(List Int)×(List Int)}(E:Cu N c1_ c=some r):
 CG Tryz.prog 83 #[a,g] S h (λv S' h'=>∃m n:Value,v= .tuple #[m,n]∧St S' (OS AM.int 3 m r.1::OS AM.int 3 n r.2::L) h'):=by
 refine BB (l:=[a,g]) 13 Tryz.func83 O Tryz.ntmps83 O λB=>?_
 rw[Cu] at E
 refine AI (AY O (AL O (kp [0,1] O) (WF.sl (AH 5 (AA O (Ai O i QR Ug O λI y=>Ah A6 hs.1 O y Ag O λz=>Ai O i Fj.f_Litres Uf O λJ A=>Ah A6 hs.1 O A Ag O λC=>AF ?_))))))
 obtain⟨K,s,E⟩:=bd E
 refine BZ O O O fJ O hs (QJ (St.all _) (d.mono (λb hb=>hs.1 b hb) (λ_ _=>rfl)) z C s) λM Q D x t u p=>?_
 obtain⟨F,G,rfl,o⟩:=p
 have j:=hs.join u o ⟨OS.flat (λ{_ _ _ _ _ _} k=>k),⟨OS.flat (λ{_ _ _ _ _ _} k=>k),trivial⟩⟩
 simp only[List.cons_append,List.nil_append] at j
 refine AH 4 (Bi O (Bi O (AY O (AY O (AF (AZ (kp [4,3] O) (Ac (λU V w H=>?_))))))))
 cases E
 exact J9 w O H (IC (Im w (v:=_) O) (IC (Im w (v:=_) O) J8)) O t ⟨_,_,O,j⟩
theorem My {F:Nat}{p0_w:Aj}{G:Value}{H:Value}{I:Value}{J:Value}{K:Value}{M:Value}{Q:Value}{U:Value}{z:Value}{A:Value}{C:Value}{u:Value}{D:Value}{c:Value}{d:Value}{g:Value}{i:Value}{j:Value}{k:Value}{m:Value}{p:Value}{t:Value}(hs:St S (Bx F 84 [.string p0_w.b.Name,G,vI p0_w.b.Cells,H,I,J,K,M,Q,U,vI p0_w.b.Err,z,A,C,u,D,vI p0_w.s.Hour,c,d,g,i,j,k,m,p,t]::OS (AM.sl AM.int) 29 c p0_w.s.Own::OS AM.int 3 d p0_w.s.Rem::OS Ap 60 g p0_w.s.Queue::OS A8 69 i p0_w.s.Gates::OS AM.int 3 j p0_w.s.In::OS AM.int 3 k p0_w.s.Out::OS BT 50 m p0_w.moves::OS AM.int 3 p p0_w.peaks::OS Ap 60 t p0_w.sent::L) h) (a5:p0_w.b.Name.size≤maxLen) (ah:Sl S h AM.str G p0_w.b.Owners) (a6:AG p0_w.b.Cells) (ab:Sl S h Bw H p0_w.b.Places) (a7:Sl S h Bu I p0_w.b.Links) (a8:Sl S h GL J p0_w.b.Towns) (a9:Sl S h EN K p0_w.b.Gauges) (ba:Sl S h F8 M p0_w.b.Roads) (bb:Sl S h Cr Q p0_w.b.Shelters) (bc:Sl S h AM.int U p0_w.b.Room) (au:AG p0_w.b.Err) (av:Sl S h AM.int z p0_w.in_.Rain) (aw:Sl S h FL A p0_w.in_.Faults) (ax:Sl S h IX C p0_w.in_.Cmds) (ad:Sl S h FX u p0_w.in_.Takes) (ay:Sl S h GM D p0_w.in_.Swaps) (az:AG p0_w.s.Hour) {Z:Int}(b3:AG Z) {r:(List AK)}(E:HB N p0_w Z=some r):
 CG Tryz.prog 62 #[vP F 0,vI Z] S h (λv S' h'=>St S' (OS Ar 111 v r::Bx F 84 [.string p0_w.b.Name,G,vI p0_w.b.Cells,H,I,J,K,M,Q,U,vI p0_w.b.Err,z,A,C,u,D,vI p0_w.s.Hour,c,d,g,i,j,k,m,p,t]::OS (AM.sl AM.int) 29 c p0_w.s.Own::OS AM.int 3 d p0_w.s.Rem::OS Ap 60 g p0_w.s.Queue::OS A8 69 i p0_w.s.Gates::OS AM.int 3 j p0_w.s.In::OS AM.int 3 k p0_w.s.Out::OS BT 50 m p0_w.moves::OS AM.int 3 p p0_w.peaks::OS Ap 60 t p0_w.sent::L) h'):=by
 refine BB (l:=[vP F 0,vI Z]) 85 Tryz.func62 O Tryz.ntmps62 O λB=>?_
 rw[HB] at E
 refine AI (AL O (kp [0,1] O) (AI (AL O (kp [5,0,1] O) (AD (AI (AA O (CI O O (AC Mp O (AC Ui O (AS A6 hs O mh O ZD O (Al O ad WA O λb1=>AA O (AN (kp [14,13,12,5,0,1] O) (Am (λa w=>∃(v2:Value) (l3:List AK),IV B S h (85,[]) a w [(5,v2)] (OS Ar 111 v2 l3::Bx F 84 [.string p0_w.b.Name,G,vI p0_w.b.Cells,H,I,J,K,M,Q,U,vI p0_w.b.Err,z,A,C,u,D,vI p0_w.s.Hour,c,d,g,i,j,k,m,p,t]::OS (AM.sl AM.int) 29 c p0_w.s.Own::OS AM.int 3 d p0_w.s.Rem::OS Ap 60 g p0_w.s.Queue::OS A8 69 i p0_w.s.Gates::OS AM.int 3 j p0_w.s.In::OS AM.int 3 k p0_w.s.Out::OS BT 50 m p0_w.moves::OS AM.int 3 p p0_w.peaks::OS Ap 60 t p0_w.sent::L) λ_ _=>CZ N l3=some r) ?_ ?_)))))))))))))
 ·refine A3 (λn1=>λa w=>∃(v8:Value) (l9:List AK) (af:Int),IV B S h (85,[]) a w [(13,vI (↑p0_w.in_.Takes.length:Int)),(12,u),(0,vP F 0),(1,vI Z),(5,v8),(14,vI af)] (OS Ar 111 v8 l9::Bx F 84 [.string p0_w.b.Name,G,vI p0_w.b.Cells,H,I,J,K,M,Q,U,vI p0_w.b.Err,z,A,C,u,D,vI p0_w.s.Hour,c,d,g,i,j,k,m,p,t]::OS (AM.sl AM.int) 29 c p0_w.s.Own::OS AM.int 3 d p0_w.s.Rem::OS Ap 60 g p0_w.s.Queue::OS A8 69 i p0_w.s.Gates::OS AM.int 3 j p0_w.s.In::OS AM.int 3 k p0_w.s.Out::OS BT 50 m p0_w.moves::OS AM.int 3 p p0_w.peaks::OS Ap 60 t p0_w.sent::L) λ_ _=>AG af∧Br N p0_w Z (CZ N) n1 l9 af=some r) N ?_ ?_ ?_
  ·intro aa ww hf hw
   have be:=hs.nil Ar 111
   exact⟨(vN),([]:List AK),0,_,_,hf.sub (kp [13,12,0,1,5,14] O),hw,be,(B9.refl S h),(iq (n:=0) O),E⟩
  ·rintro aa ww ⟨_,_,_,_,_,_,_,_,_,_,E⟩
   rw[Br] at E;cases E
  rintro n1 aa ww ⟨v8,l9,af,b4,b5,hf,hw,ak,ai,cx,E⟩
  refine Ad ?_ hf hw
  clear hf hw ww aa
  rw[Br] at E
  refine AI (Aq O (AN (kp [15,13,12,0,1,5,14] O) (AD (AX O E (λb6 E=>?_) (λb6 E=>?_)))))
  ·refine AT (AD (Am (λa w=>∃(ao:Value) (ap:List AK),IV B b4 b5 (85,[]) a w [(13,vI (↑p0_w.in_.Takes.length:Int)),(12,u),(0,vP F 0),(1,vI Z),(14,vI af),(5,ao)] (OS Ar 111 ao ap::Bx F 84 [.string p0_w.b.Name,G,vI p0_w.b.Cells,H,I,J,K,M,Q,U,vI p0_w.b.Err,z,A,C,u,D,vI p0_w.s.Hour,c,d,g,i,j,k,m,p,t]::OS (AM.sl AM.int) 29 c p0_w.s.Own::OS AM.int 3 d p0_w.s.Rem::OS Ap 60 g p0_w.s.Queue::OS A8 69 i p0_w.s.Gates::OS AM.int 3 j p0_w.s.In::OS AM.int 3 k p0_w.s.Out::OS BT 50 m p0_w.moves::OS AM.int 3 p p0_w.peaks::OS Ap 60 t p0_w.sent::L) λ_ _=>E3 N af (Br N p0_w Z (CZ N) n1) ap=some r) ?_ ?_))
   ·refine WF.sl (AH 2 ?_)
    obtain⟨Y,bf,E⟩:=bd E
    refine BD O O (ad.mono' ai) WA bf O λcy b7=>B4 A6 ak.1 O b7 Y9 (λe=>by cases e) O λcz b8=>AF (Cs cO O ak λaq c0 bg ag=>?_)
    obtain⟨rfl,⟨b9,bh,ca,a1⟩⟩:=FX.ex (b8.mono ag)
    refine Dh (vs:=[vI Y.Place,vI Y.Owner,vI Y.Litres,vI Y.To]) O O O O Y9 O bg .head O λc1 ae aj=>AZ (kp [7,13,12,0,1,5,14] O) (AD (AD (Bl (.inr ⟨mo,by kernel_rfl⟩) ae (AC YT O (AS Bb ae O mh O Ag O (AA O (Bc O (AA O ?_))))))))
    obtain⟨a2,ac,E⟩:=bd E
    refine AV 11 33 (.bool a2) ?_ ?_
    ·cases bi:(decide (Y.Place≠Z))
     ·have ac:=GB bi ac
      refine AB O (AC Ug O (AB O (AS Bb ae O mh O Ag O (AB O (AA O (AB O (CI O O (AB O (AC GC O (AB O (AC HS O (AB O (AS Bb ae O (mt (mt mh)) O KE O (AB O (Al O (ah.mono' (ai.trans (ag.trans aj))) Jv O λcb=>AB O ?_)))))))))))))))
      obtain⟨c2,bj,ac⟩:=bd ac
      refine Az O O O Oe O (λh' o=>Fv (St.all h') bh (JW cb) bj) (AB O (BV O (AJ O ?_)))
      cases ac
      exact AU O
     have ac:=GA bi ac
     cases ac
     exact Aa O O
    refine AA O (AV 4 38 (.bool (a2||(decide (Y.Litres≤0)))) ?_ ?_)
    ·cases c3:a2
     ·exact AB O (AC Uf O (AB O (AS Bb ae O mh O Ag O (AB O (Ft O (AJ O (AU O)))))))
     exact Aa O O
    refine BJ (kp [38,7,13,12,0,1,5,14] O) λc4 V am=>AX O E (λcc E=>?_) (λcc E=>?_)
    ·refine A9 O (λaa ww hf hw=>?_)
     have bk:=V.sel [1,1,1,1,1,1,1,1,1,1,1] 1 O
     exact⟨v8,l9,_,_,hf.sub (kp [13,12,0,1,14,5] O),hw,bk,(ag.trans (aj.trans am)),E⟩
    refine AT (AD (AD (Bl (.inr ⟨mo,by kernel_rfl⟩) V (AC PE O (AS Bb V O mh O Ag O (Bc O (AA O ?_)))))))
    obtain⟨cd,W,E⟩:=bd E
    refine AV 33 75 (.bool cd) ?_ ?_
    ·cases bl:(decide (Y.To≠(-1)))
     ·have W:=GB bl W
      cases W
      exact Aa O O
     have W:=GA bl W
     refine AB O (AC PE O (AB O (AS Bb V O mh O Ag O (AB O (AA O (AB O (CI O O (AB O (AC GC O (AB O (AC DI O (AB O (AS Bb V O (mt (mt mh)) O GO O (AB O (Al O (ab.mono' (ai.trans (ag.trans (aj.trans am)))) qZ O λce=>AB O ?_)))))))))))))))
     obtain⟨cf,bm,W⟩:=bd W
     refine Az O O O Oe O (λh' o=>Fv (St.all h') a1 (JW ce) bm) (AB O (BV O (AB O (AA O ?_))))
     obtain⟨cg,X,W⟩:=bd W
     refine AV 21 74 (.bool cg) ?_ ?_
     ·cases bn:(!cf)
      ·have X:=GB bn X
       refine AB O (AA O (AB O (CI O O (AB O (AC GC O (AB O (AC DI O (AB O (AS Bb V O (mt (mt mh)) O GO O (AB O (AC PE O (AB O (AS Bb V O mh O Ag O (AB O ?_))))))))))))))
       have ar:=ai.trans (ag.trans (aj.trans am))
       obtain⟨c5,bo,X⟩:=bd X
       refine BD O O (ab.mono' ar) qZ bo O λc6 ch=>AB O (Ai O ch IA Lj O λc7 ci=>AB O (Ah Bb V.1 O ci Ag O λc8=>AB O (AA O (AB O (CI O O (AB O (AC GC O (AB O (AC DI O (AB O (AS Bb V O (mt (mt mh)) O GO O (AB O (AA O (AB O ?_))))))))))))))
       obtain⟨c9,bp,X⟩:=bd X
       refine BD O O (ab.mono' ar) qZ bp O λda cj=>AB O (Ai O cj IA Lj O λdb ck=>AB O (Ah Bb V.1 O ck Ag O λdc=>AB O (Bc O (AB O (AJ O ?_)))))
       cases X
       exact AU O
      have X:=GA bn X
      cases X
      exact Aa O O
     refine AJ O ?_
     cases W
     exact AU O
    refine BJ (kp [75,7,13,12,0,1,5,14] O) λcl an bq=>AX O E (λcm E=>?_) (λcm E=>?_)
    ·refine A9 O (λaa ww hf hw=>?_)
     have br:=an.sel [1,1,1,1,1,1,1,1,1,1,1] 1 O
     exact⟨v8,l9,_,_,hf.sub (kp [13,12,0,1,14,5] O),hw,br,(ag.trans (aj.trans (am.trans bq))),E⟩
    refine AT (EQ (AH 5 (AA O (AC PE O (AS A6 an O mh O Ag O (OL O O O (Hy (cs:=[vI Y.To,vI 0,vI (-3),.func (.func 83) #[] #[vP aq 0]]) OC O O O (AF ?_))))))))
    obtain⟨cn,bs,co,cp⟩:=an.pubb (r:=FX) (x:=Y) .head ⟨O,⟨b9,bh,ca,a1⟩⟩
    have bt:Rd cn cl (AM.fnr Tryz.prog (λS h vs (x:(List Int))=>∃w0:Value,vs=[w0]∧Sl S h AM.int w0 x) (λS h v (y:((List Int)×(List Int)))=>∃w0 w1:Value,v= .tuple #[w0,w1]∧Sl S h AM.int w0 y.1∧Sl S h AM.int w1 y.2)) (.func (.func 83) #[] #[(vP aq 0)]) (λx=>Cu N Y x):=J6 83 #[(vP aq 0)] fK λS' h' s' e' L hs x y vs h1 h2=>by obtain⟨w0,rfl,a0⟩:=h1;exact Mg (L3 hs a0 (cp.mono'' s' e') h2)
    refine Dw (cs:=[vI Y.To,vI 0,vI (-3),(.func (.func 83) #[] #[(vP aq 0)])]) K9 O O O O O O O bs λdd de bu bv=>?_
    obtain⟨bw,E⟩:=MR E
    refine U1 (r:=Ar) (l:=l9) (xs:=([(⟨Y.To,0,(-3),(λx=>Cu N Y x)⟩:AK)]:List AK)) O O K9 O mh ⟨_,_,O,⟨_,O,a1,(iq (n:=0) O),(iq (n:=(-3)) O),(bt.mono bv)⟩,O⟩ O O bw O bu (λ_=>(.tail .head)) λcq df bx cr=>?_
    have bz:=bx.drop .head
    refine AH 1 (AY O (AF (AZ (kp [5,13,12,0,1,14] O) (WF.nil (λaa ww hf hw=>?_)))))
    exact⟨cq,(l9++([(⟨Y.To,0,(-3),(λx=>Cu N Y x)⟩:AK)]:List AK)),_,_,hf.sub (kp [13,12,0,1,14,5] O),hw,bz,(ag.trans (aj.trans (am.trans (bq.trans (co.trans (bv.trans cr)))))),E⟩
   rintro aa ww ⟨ao,ap,ct,cu,hf,hw,a3,b0,E⟩
   refine Ad ?_ hf hw
   clear hf hw ww aa
   rw[E3] at E
   refine BY (.inl O) (Af O (AA O (AN (kp [14,13,12,0,1,5] O) (WF.nil (λaa ww hf hw=>?_)))))
   exact⟨ao,ap,(BC (af+1)),_,_,hf.sub (kp [13,12,0,1,5,14] O),hw,a3,(ai.trans b0),(BI _),E⟩
  refine A9 O (λaa ww hf hw=>?_)
  exact⟨v8,l9,_,_,hf.sub (kp [5] O),hw,ak,ai,E⟩
 rintro aa ww ⟨v2,l3,cv,cw,hf,hw,a4,b2,E⟩
 refine Ad ?_ hf hw
 clear hf hw ww aa
 rw[CZ] at E
 refine AI (AA O (AL O (kp [4] O) (Ac (λaa ww hf hw=>?_))))
 cases E
 exact Dm hf hw O O b2 a4
theorem Ip (hs:St S L h) {c:Int}(i:AG c) {a:Int}(d:AG a) {b:Int}(g:AG b) {r:Int}(E:GY N c a b=some r):
 CG Tryz.prog 104 #[vI c,vI a,vI b] S h (λv S' h'=>v=vI r∧AG r∧St S' (L) h'):=by
 refine BB (l:=[vI c,vI a,vI b]) 21 Tryz.func104 O Tryz.ntmps104 O λB=>?_
 rw[GY] at E
 refine AI (AL O (kp [0,1,2] O) (AD (Bl (.inl O) hs (AA O (AA O (AA O ?_))))))
 obtain⟨j,m,E⟩:=bd E
 refine H8 (v:= .tuple #[vI j.1,vI j.2.1,.bool j.2.2]) (Ψ:=AG j.1∧AG j.2.1) O O O TD O (λh' o=>(H7 (St.all h') i d g m).mono λ_ _ _ _ p=>⟨p.1,⟨p.2.1,p.2.2.1⟩⟩) λu=>?_
 obtain⟨w,A⟩:=u
 refine AA O (Bi O (Bi O (Bi O (AY O (AY O (AY O (BJ (kp [9,7] O) λC k t=>AD (AI (AA O (BV O (AN (kp [19,7] O) (AX O E (λx E=>?_) (λx E=>?_)))))))))))))
 ·refine AI (AL O (kp [6] O) (Ac (λy z q s=>?_)))
  cases E
  exact Dm q s O O t ⟨O,(iq (n:=0) O),k⟩
 refine AT (AI (AA O (AL O (kp [6] O) (Ac (λy z q s=>?_)))))
 cases E
 exact Dm q s O O t ⟨O,w,k⟩
theorem QN (hs:St S L h) {c:Value}{k:Ay}(j:Rd S h Bu c k) {a:Int}(b:AG a) {d:Int}(g:AG d) {r:Int}(E:J2 N k a d=some r):
 CG Tryz.prog 106 #[c,vI a,vI d] S h (λv S' h'=>v=vI r∧AG r∧St S' (L) h'):=by
 refine BB (l:=[c,vI a,vI d]) 20 Tryz.func106 O Tryz.ntmps106 O λB=>?_
 rw[J2] at E
 refine WF.sl (B5 O j (λe=>by cases e) O hs λZ S2 h3 i J t=>AH 1 (AY O (AF (AZ (kp [3,1,2] O) (AD (AI (Ai O t Ay.f_To Hs O λq7 K=>Ah A6 i.1 O K Ag O λr9=>BH O (AN (kp [9,3,1,2] O) (AX O E (λu E=>?_) (λu E=>?_))))))))))
 ·refine AI (AA O (AL O (kp [6] O) (Ac (λM Q w x=>?_))))
  cases E
  exact Dm w x O O J ⟨O,b,i⟩
 refine AT (AD (Bl (.inl O) i (AA O (AA O (Ai O t IB Kj O λU y=>Ah Bb i.1 O y Ag O λz=>Ai O t G7 Jx O λV A=>Ah Bb i.1 O A Ag O λC=>?_)))))
 obtain⟨W,m,E⟩:=bd E
 refine CE O O O P1 O (λh' o=>Ip (St.all h') g z C m) λD=>?_
 have F:=D
 obtain⟨X,p,E⟩:=bd E
 refine CE O O O TF O (λh' o=>Iv (St.all h') b F p) λG=>?_
 have H:=G
 refine OM O O O (AY O (BJ (kp [6] O) λY s I=>Ac (λM Q w x=>?_)))
 cases E
 exact Dm w x O O (J.trans I) ⟨O,(OH (iq (n:=0) O) H),s⟩
theorem Rp (hs:St S L h) {a:Value}{g:(List BO)}(b:Sl S h Bq a g) {c:Int}(d:AG c) {r:Int}(E:Kl N g c=some r):
 CG Tryz.prog 105 #[a,vI c] S h (λv S' h'=>v=vI r∧AG r∧St S' (L) h'):=by
 refine BB (l:=[a,vI c]) 17 Tryz.func105 O Tryz.ntmps105 O λB=>?_
 rw[Kl] at E
 refine AI (AL O (kp [0,1] O) (AD (AD (Bl (.inl O) hs (AA O ?_)))))
 obtain⟨C,k,E⟩:=bd E
 refine Az O O O Py O (λh' o=>GJ (St.all h') (b.mono' (o.all hs.1)) k) (BV O (BJ (kp [9,0,1] O) λD i m=>AX O E (λw E=>?_) (λw E=>?_)))
 ·refine AI (AL O (kp [4] O) (Ac (λx y p q=>?_)))
  cases E
  exact Dm p q O O m ⟨O,(iq (n:=0) O),i⟩
 refine AT (AD (Bl (.inl O) i (AA O (AA O ?_))))
 obtain⟨F,s,E⟩:=bd E
 refine CE O O O Tn O (λh' o=>KB (St.all h') ((b.mono' m).mono' (o.all i.1)) d s) λz=>?_
 have t:=z
 refine AA O (Bi O (Bi O (AY O (AY O (BJ (kp [5] O) λA j u=>AI (AA O (AL O (kp [4] O) (Ac (λx y p q=>?_)))))))))
 cases E
 exact Dm p q O O (m.trans u) ⟨O,t,j⟩
theorem QO (hs:St S L h) {y:Value}{t:Ay}(I:Rd S h Bu y t) {i:Int}(u:AG i) {c:Bool}{s:Value}{F:(List BO)}(J:Sl S h Bq s F) {b:Int}(j:AG b) {k:Int}(G:AG k) {r:Int}(E:J3 N t i c F b k=some r):
 CG Tryz.prog 97 #[y,vI i,.bool c,s,vI b,vI k] S h (λv S' h'=>v=vI r∧AG r∧St S' (L) h'):=by
 refine BB (l:=[y,vI i,.bool c,s,vI b,vI k]) 63 Tryz.func97 O Tryz.ntmps97 O λB=>?_
 rw[J3] at E
 refine WF.sl (B5 O I (λe=>by cases e) O hs λq1 S2 D z M k6=>AH 1 (AY O (AF (AZ (kp [6,1,2,3,4,5] O) (AD (AI (Ai O k6 Ay.f_Kind GD O λq7 k8=>Ah A6 z.1 O k8 Ag O λr9=>AN (kp [14,6,1,2,3,4,5] O) (Am (λa w=>IV B S2 D (63,[]) a w [] (L) λ_ _=>Hj N=some r) ?_ ?_))))))))
 ·refine AD (Am (λa w=>IV B S2 D (63,[]) a w [(6,q1),(4,vI b)] (L) λ_ _=>Hh N t b=some r) ?_ ?_)
  ·refine AD (Am (λa w=>IV B S2 D (63,[]) a w [(6,q1),(2,.bool c),(4,vI b)] (L) λ_ _=>JN N c (Hh N t b)=some r) ?_ ?_)
   ·refine AD (Am (λa w=>IV B S2 D (63,[]) a w [(6,q1),(2,.bool c),(4,vI b)] (L) λ_ _=>JM N t c b (Hj N)=some r) ?_ ?_)
    ·refine AD (Am (λa w=>IV B S2 D (63,[]) a w [(6,q1),(1,vI i)] (L) λ_ _=>JL N t i=some r) ?_ ?_)
     ·refine AD (Am (λa w=>IV B S2 D (63,[]) a w [(6,q1),(1,vI i),(3,s),(4,vI b),(5,vI k)] (L) λ_ _=>JK N t i F b k=some r) ?_ ?_)
      ·refine AD (AD (AI (BH O (AL O (kp [15,14,6,1,2,3,4,5] O) (AX O E (λaz E=>?_) (λaz E=>?_))))))
       ·refine A9 O (λm p d g=>?_)
        exact⟨_,_,d.sub (kp [6,1,3,4,5] O),g,z,(B9.refl S2 D),E⟩
       refine AT (AD (AI (BH O (AL O (kp [17,14,6,1,2,4] O) (AX O E (λa0 E=>?_) (λa0 E=>?_))))))
       ·refine A9 O (λm p d g=>?_)
        exact⟨_,_,d.sub (kp [6,1] O),g,z,(B9.refl S2 D),E⟩
       refine AT (AD (AI (BH O (AL O (kp [19,14,6,2,4] O) (AX O E (λa1 E=>?_) (λa1 E=>?_))))))
       ·refine A9 O (λm p d g=>?_)
        exact⟨_,_,d.sub (kp [6,2,4] O),g,z,(B9.refl S2 D),E⟩
       refine AT (AD (AI (BH O (AL O (kp [21,14,6,2,4] O) (AX O E (λa2 E=>?_) (λa2 E=>?_))))))
       ·refine A9 O (λm p d g=>?_)
        exact⟨_,_,d.sub (kp [6,2,4] O),g,z,(B9.refl S2 D),E⟩
       refine AT (AI (BH O (AL O (kp [23,6,4] O) (AX O E (λa3 E=>?_) (λa3 E=>?_)))))
       ·refine A9 O (λm p d g=>?_)
        exact⟨_,_,d.sub (kp [6,4] O),g,z,(B9.refl S2 D),E⟩
       refine AT (A9 O (λm p d g=>?_))
       exact⟨_,_,d.sub Ou,g,z,(B9.refl S2 D),E⟩
      rintro m p ⟨ca,cb,d,g,x,Q,E⟩
      refine Ad ?_ d g
      clear d g p m
      rw[JK] at E
      refine AD (AD (Bl (.inr ⟨mo,by kernel_rfl⟩) x (AA O ?_)))
      have U:=k6.mono Q
      refine B4 Bb x.1 O U HV (λe=>by cases e) O λcc a4=>AA O (AA O ?_)
      obtain⟨cd,ab,E⟩:=bd E
      refine CE O O O bB O (λh' o=>QN (St.all h') (a4.mono (o.all x.1)) j G ab) λa5=>?_
      have a6:=a5
      obtain⟨ce,ac,E⟩:=bd E
      refine CE O O O bC O (λh' o=>Rp (St.all h') ((J.mono' (M.trans Q)).mono' (o.all x.1)) a6 ac) λa7=>?_
      have a8:=a7
      refine AA O (Ai O U D1 JF O λcf a9=>Ah Bb x.1 O a9 Ag O λba=>?_)
      obtain⟨cg,ad,E⟩:=bd E
      refine CE O O O P1 O (λh' o=>Ip (St.all h') a8 u ba ad) λbb=>?_
      have bc:=bb
      refine Ai O U Lt Rf O λch be=>Ah Bb x.1 O be Ag O λbf=>?_
      obtain⟨ci,ae,E⟩:=bd E
      refine CE O O O Qt O (λh' o=>IE (St.all h') bc bf ae) λbg=>?_
      have bh:=bg
      refine AY O (BJ (kp [12] O) λcj af bi=>Ac (λm p d g=>?_))
      cases E
      exact Dm d g O O (M.trans (Q.trans bi)) ⟨O,bh,af⟩
     rintro m p ⟨ck,cl,d,g,H,ag,E⟩
     refine Ad ?_ d g
     clear d g p m
     rw[JL] at E
     refine AD (AD (Bl (.inl O) H ?_))
     have ah:=k6.mono ag
     refine Ai O ah Ay.f_Num IP O λcm bj=>Ah Bb H.1 O bj Ag O λbk=>AA O (Ai O ah D1 JF O λcn bl=>Ah Bb H.1 O bl Ag O λbm=>?_)
     obtain⟨co,ai,E⟩:=bd E
     refine CE O O O P1 O (λh' o=>Ip (St.all h') bk u bm ai) λbn=>?_
     have bo:=bn
     refine AY O (BJ (kp [12] O) λcp aj bp=>Ac (λm p d g=>?_))
     cases E
     exact Dm d g O O (M.trans (ag.trans bp)) ⟨O,bo,aj⟩
    rintro m p ⟨cq,cr,d,g,A,V,E⟩
    refine Ad ?_ d g
    clear d g p m
    rw[JM] at E
    refine AD (AI (AA O (AN (kp [44,6,4] O) (AX O E (λbq E=>?_) (λbq E=>?_)))))
    ·refine AD (Bl (.inl O) A (AA O ?_))
     have ak:=k6.mono V
     refine Ai O ak Ay.f_Num IP O λcs br=>Ah Bb A.1 O br Ag O λbs=>Ai O ak Ay.f_Den JH O λct bt=>Ah Bb A.1 O bt Ag O λbu=>?_
     obtain⟨cu,al,E⟩:=bd E
     refine CE O O O P1 O (λh' o=>Ip (St.all h') j bs bu al) λbv=>?_
     have bw:=bv
     refine AY O (BJ (kp [12] O) λcv am bx=>Ac (λm p d g=>?_))
     cases E
     exact Dm d g O O (M.trans (V.trans bx)) ⟨O,bw,am⟩
    refine AT (A9 O (λm p d g=>?_))
    exact⟨_,_,d.sub Ou,g,A,V,E⟩
   rintro m p ⟨cw,cx,d,g,K,an,E⟩
   refine Ad ?_ d g
   clear d g p m
   rw[JN] at E
   refine AI (AA O (BV O (AN (kp [52,6,4] O) (AX O E (λbz E=>?_) (λbz E=>?_)))))
   ·refine AI (AL O (kp [12] O) (Ac (λm p d g=>?_)))
    cases E
    exact Dm d g O O (M.trans an) ⟨O,(iq (n:=0) O),K⟩
   refine AT (WF.nil (λm p d g=>?_))
   exact⟨_,_,d.sub (kp [6,4] O),g,K,an,E⟩
  rintro m p ⟨cy,cz,d,g,C,ao,E⟩
  refine Ad ?_ d g
  clear d g p m
  rw[Hh] at E
  refine AD (AD (Bl (.inr ⟨mo,by kernel_rfl⟩) C (AA O ?_)))
  have W:=k6.mono ao
  refine Ai O W LD Re O λc0 b0=>Ah Bb C.1 O b0 Ag O λb1=>?_
  obtain⟨c1,ap,E⟩:=bd E
  refine CE O O O TF O (λh' o=>Iv (St.all h') j b1 ap) λb2=>?_
  have b3:=b2
  refine OM O O O (Ai O W Ay.f_Num IP O λc2 b4=>Ah Bb C.1 O b4 Ag O λaq=>Ai O W Ay.f_Den JH O λb5 ar=>Ah Bb C.1 O ar Ag O λau=>?_)
  obtain⟨b6,X,E⟩:=bd E
  refine CE O O O P1 O (λh' o=>Ip (St.all h') (OH (iq (n:=0) O) b3) aq au X) λav=>?_
  have aw:=av
  refine AY O (BJ (kp [12] O) λb7 Y ax=>Ac (λm p d g=>?_))
  cases E
  exact Dm d g O O (M.trans (ao.trans ax)) ⟨O,aw,Y⟩
 rintro m p ⟨b8,b9,d,g,Z,ay,E⟩
 refine Ad ?_ d g
 clear d g p m
 rw[Hj] at E
 refine AI (AL O (kp [12] O) (Ac (λm p d g=>?_)))
 cases E
 exact Dm d g O O (M.trans ay) ⟨O,(iq (n:=0) O),Z⟩
theorem RX (hs:St S L h) {c:Value}{n:Ay}(k:Rd S h Bu c n) {d:Value}{p:Au}(m:Rd S h A8 d p) {a:Int}(i:AG a) {g:Int}(j:AG g) {r:Int}(E:Kk N n p a g=some r):
 CG Tryz.prog 85 #[c,d,vI a,vI g] S h (λv S' h'=>v=vI r∧AG r∧St S' (L) h'):=by
 refine BB (l:=[c,d,vI a,vI g]) 19 Tryz.func85 O Tryz.ntmps85 O λB=>?_
 rw[Kk] at E
 refine WF.sl (B5 O k (λe=>by cases e) O hs λq1 S2 h3 y K M=>B5 O (m.mono K) (λe=>by cases e) O y λq8 S9 Q b s t=>AH 1 (AY O (AF (AZ (kp [5,4,2,3] O) (AD (Bl (.inl O) b ?_))))))
 have u:=M.mono s
 refine B4 Bb b.1 O u HV (λe=>by cases e) O λU z=>Ai O t TL Mq O λV A=>Ah Bb b.1 O A Ag O λC=>Ai O t R7 No O λW D=>bV Bb b.1 O D Ol O (Ai O u JU Mr O λX F=>An Bb b.1 O F IL O λY G=>AA O (AA O ?_))
 obtain⟨Z,w,E⟩:=bd E
 refine CE O O O fE O (λh' o=>QO (St.all h') (z.mono (o.all b.1)) C (G.mono' (o.all b.1)) i j w) λH=>?_
 have I:=H
 refine AY O (BJ (kp [8] O) λab x J=>Ac (λaa ww hf hw=>?_))
 cases E
 exact Dm hf hw O O (K.trans (s.trans J)) ⟨O,I,x⟩
theorem qQ (hs:St S L h) {a:Int}(b:AG a) {r:Int}(E:Fs N a=some r):
 CG Tryz.prog 66 #[vI a] S h (λv S' h'=>∃c:Value,v= .func (.func 89) #[] #[c]∧Pt S' h' AM.int c r∧St S' (L) h'):=by
 refine BB (l:=[vI a]) 4 Tryz.func66 O Tryz.ntmps66 O λB=>?_
 rw[Fs] at E
 refine WF.sl (B5 O (⟨_,O,O,b⟩:Rd _ _ AM.int _ a) (λ_=>rfl) O hs λm S2 n d g i=>AH 1 (AY O (AF (AZ (kp [1] O) (AI (OL O O O (AL O (kp [2] O) (Ac (λo p j k=>?_)))))))))
 cases E
 exact Dm j k O O g ⟨_,O,i,d⟩
theorem Oz (hs:St S L h) {c:Int}(G:AG c) {j:Value}{b:(List Int)}(k:Sl S h AM.int j b) {r:(List Int)×Bool}(E:It N c b=some r):
 CG Tryz.prog 101 #[vI c,j] S h (λv S' h'=>∃bx:Value,v= .tuple #[bx,.bool r.2]∧St S' (OS AM.int 3 bx r.1::L) h'):=by
 refine BB (l:=[vI c,j]) 112 Tryz.func101 O Tryz.ntmps101 O λB=>?_
 rw[It] at E
 refine AI (AY O (AL O (kp [0,1] O) (AD (AI (AA O (Al O k BG O λb1=>Bh O (AN (kp [22,0,1] O) (AX O E (λc2 E=>?_) (λc2 E=>?_)))))))))
 ·refine AI (AY O (AL O (kp [5,4] O) (Ac (λy z m d=>?_))))
  have c7:=hs.nil AM.int 3
  cases E
  exact J9 m O d (IC (Im m (v:=_) O) (IC (Im m (v:=_) O) J8)) O (B9.refl S h) ⟨_,O,c7⟩
 refine AT (AI (AL O (kp [6,0,1] O) (AD (AI (AA O (Al O k BG O λb4=>AA O (AN (kp [25,24,23,6,0,1] O) (Am (λa w=>∃(i5:Int),IV B S h (112,[]) a w [(0,vI c),(1,j),(6,vI i5)] (L) λ_ _=>AG i5∧EJ N c b i5=some r) ?_ ?_))))))))
 ·refine A3 (λn1=>λa w=>∃(Q:Int) (ad:Int),IV B S h (112,[]) a w [(24,vI (↑b.length:Int)),(23,j),(0,vI c),(1,j),(6,vI Q),(25,vI ad)] (L) λ_ _=>AG Q∧AG ad∧EH N b (EJ N c b) n1 Q ad=some r) N ?_ ?_ ?_
  ·intro y z m d
   exact⟨0,0,_,_,m.sub (kp [24,23,0,1,6,25] O),d,hs,(B9.refl S h),(iq (n:=0) O),(iq (n:=0) O),E⟩
  ·rintro y z ⟨_,_,_,_,_,_,_,_,_,_,E⟩
   rw[EH] at E;cases E
  rintro n1 y z ⟨Q,ad,ee,ef,m,d,Z,ao,c8,eg,E⟩
  refine Ad ?_ m d
  clear m d z y
  rw[EH] at E
  refine AI (Aq O (AN (kp [26,24,23,0,1,6,25] O) (AD (AX O E (λc9 E=>?_) (λc9 E=>?_)))))
  ·refine AT (AD (A5 (AI ?_)))
   obtain⟨ap,bz,E⟩:=bd E
   refine BD O O (k.mono' ao) BG bz O λeh da=>Ah A6 Z.1 O da Ag O λei=>AL O (kp [8,24,23,0,1,6,25] O) (AD (AI (AA O (Aq O (AA O (AV 5 36 (.bool ((decide (ap<0))||(decide ((BC (1125899906842624-Q))<ap)))) ?_ ?_))))))
   ·cases ej:(decide (ap<0))
    ·exact AB O (AA O (AB O (AA O (AB O (Cg O (AB O (Bh O (AJ O (AU O)))))))))
    exact Aa O O
   refine AN (kp [36,8,24,23,0,1,6,25] O) (AX O E (λdb E=>?_) (λdb E=>?_))
   ·refine AI (AY O (AL O (kp [5,4] O) (Ac (λy z m d=>?_))))
    have b0:=Z.nil AM.int 3
    cases E
    exact J9 m O d (IC (Im m (v:=_) O) (IC (Im m (v:=_) O) J8)) O ao ⟨_,O,b0⟩
   refine AT (BY (.inl O) (AA O (AA O (Af O (AL O (kp [6,24,23,0,1,25] O) (BK (BY (.inl O) (Af O (AA O (AN (kp [25,6,24,23,0,1] O) (WF.nil (λy z m d=>?_))))))))))))
   exact⟨(BC (Q+ap)),(BC (ad+1)),_,_,m.sub (kp [24,23,0,1,6,25] O),d,Z,ao,(BI _),(BI _),E⟩
  refine A9 O (λy z m d=>?_)
  exact⟨Q,_,_,m.sub (kp [0,1,6] O),d,Z,ao,c8,E⟩
 rintro y z ⟨i5,a4,ek,m,d,av,ab,r6,E⟩
 refine Ad ?_ m d
 clear m d z y
 rw[EJ] at E
 refine AD (AI (AA O (Aq O (AA O (AV 4 47 (.bool ((decide (c<0))||(decide (i5<c)))) ?_ ?_)))))
 ·cases el:(decide (c<0))
  ·exact AB O (AA O (AB O (AA O (AB O (Bh O (AJ O (AU O)))))))
  exact Aa O O
 refine AN (kp [47,0,1,6] O) (AX O E (λdc E=>?_) (λdc E=>?_))
 ·refine AI (AY O (AL O (kp [5,4] O) (Ac (λy z m d=>?_))))
  have b2:=av.nil AM.int 3
  cases E
  exact J9 m O d (IC (Im m (v:=_) O) (IC (Im m (v:=_) O) J8)) O ab ⟨_,O,b2⟩
 refine AT (WF.sl (AH 2 (AA O (Al O (k.mono' ab) BG O λem=>AF ?_))))
 obtain⟨b3,E⟩:=MR E
 refine I9 (r:=AM.int) (zx:=0) FJ O ⟨O,by unfold AG;omega⟩ O O b3 O O av λK en aw aq=>AH 1 (AY O (AF (AZ (kp [9,0,1,6] O) (AD (AI (AA O (BH O (AN (kp [52,9,0,1,6] O) (AX O E (λdd E=>?_) (λdd E=>?_))))))))))
 ·refine AI (AA O (AY O (AL O (kp [5,4] O) (Ac (λy z m d=>?_)))))
  cases E
  exact J9 m O d (IC (Im m (v:=_) O) (IC (Im m (v:=_) O) J8)) O (ab.trans aq) ⟨_,O,aw⟩
 refine AT (WF.sl (AH 2 (AA O (Al O (k.mono' (ab.trans aq)) BG O λeo=>AF ?_))))
 obtain⟨b5,E⟩:=MR E
 refine I9 (r:=AM.int) (zx:=0) FJ O ⟨O,by unfold AG;omega⟩ O O b5 O O aw λep eq b6 b7=>Cs Vg O b6 λae er ax b8=>?_
 obtain⟨H,t,rfl,es⟩:=ax.oslen (mt mh)
 refine Dh (vs:=[(.slice H (List.replicate ((↑b.length:Int):Int).toNat (0:Int)).length t)]) O O O O BP O ax .head O λet b9 ca=>AZ (kp [10,9,0,1,6] O) (WF.sl (AH 2 (AA O ?_)))
 have ay:=ab.trans (aq.trans (b7.trans (b8.trans ca)))
 refine Al O (k.mono' ay) BG O λeu=>AF ?_
 obtain⟨cb,E⟩:=MR E
 refine I9 (r:=AM.int) (zx:=0) FJ O ⟨O,by unfold AG;omega⟩ O O cb O O b9 λev ew cc cd=>Cs Vg O cc λaf ex az ce=>?_
 obtain⟨I,u,rfl,ey⟩:=az.oslen (mt mh)
 refine Dh (vs:=[(.slice I (List.replicate ((↑b.length:Int):Int).toNat (0:Int)).length u)]) O O O O BP O az .head O λa5 cf cg=>AZ (kp [11,10,9,0,1,6] O) (AI (AA O (AL O (kp [12,11,10,9,0,1,6] O) (AD (AI (AA O ?_))))))
 have ch:=k.mono' (ay.trans (cd.trans (ce.trans cg)))
 refine Al O ch BG O λez=>AA O (AN (kp [63,62,61,12,11,10,9,0,6] O) (Am (λa w=>∃(ar:Int) (a6:List Int) (a7:List Int) (au:List Int),IV B a4 a5 (112,[]) a w [(11,vP af 0),(10,vP ae 0),(9,K),(12,vI ar)] (Bx af 29 [(.slice I (List.replicate ((↑b.length:Int):Int).toNat (0:Int)).length u)]::OS AM.int 3 (.slice I (List.replicate ((↑b.length:Int):Int).toNat (0:Int)).length u) a6::Bx ae 29 [(.slice H (List.replicate ((↑b.length:Int):Int).toNat (0:Int)).length t)]::OS AM.int 3 (.slice H (List.replicate ((↑b.length:Int):Int).toNat (0:Int)).length t) a7::OS AM.int 3 K au::L) λ_ _=>AG ar∧EI N ar a6 a7 au=some r) ?_ ?_))
 ·refine A3 (λn3=>λa w=>∃(ac:Int) (A:Int) (U:List Int) (V:List Int) (W:List Int),IV B a4 a5 (112,[]) a w [(62,vI (↑b.length:Int)),(61,j),(11,vP af 0),(10,vP ae 0),(9,K),(0,vI c),(6,vI i5),(12,vI ac),(63,vI A)] (Bx af 29 [(.slice I (List.replicate ((↑b.length:Int):Int).toNat (0:Int)).length u)]::OS AM.int 3 (.slice I (List.replicate ((↑b.length:Int):Int).toNat (0:Int)).length u) U::Bx ae 29 [(.slice H (List.replicate ((↑b.length:Int):Int).toNat (0:Int)).length t)]::OS AM.int 3 (.slice H (List.replicate ((↑b.length:Int):Int).toNat (0:Int)).length t) V::OS AM.int 3 K W::L) λ_ _=>AG ac∧AG A∧EG N c b i5 (EI N) n3 ac A U V W=some r) N ?_ ?_ ?_
  ·intro y z m d
   exact⟨c,0,(List.replicate ((↑b.length:Int):Int).toNat (0:Int)),(List.replicate ((↑b.length:Int):Int).toNat (0:Int)),(List.replicate ((↑b.length:Int):Int).toNat (0:Int)),_,_,m.sub (kp [62,61,11,10,9,0,6,12,63] O),d,cf,(B9.refl a4 a5),G,(iq (n:=0) O),E⟩
  ·rintro y z ⟨_,_,_,_,_,_,_,_,_,_,_,_,_,E⟩
   rw[EG] at E;cases E
  rintro n3 y z ⟨ac,A,U,V,W,dg,dh,m,d,X,ag,de,df,E⟩
  refine Ad ?_ m d
  clear m d z y
  rw[EG] at E
  refine AI (Aq O (AN (kp [64,62,61,11,10,9,0,6,12,63] O) (AD (AX O E (λci E=>?_) (λci E=>?_)))))
  ·refine AT (AD (A5 (AI (AA O ?_))))
   obtain⟨di,a8,E⟩:=bd E
   refine BD O O (ch.mono' ag) BG a8 O λdj cj=>Ah A6 X.1 O cj Ag O λck=>AY O (AL O (kp [14,13,62,61,11,10,9,0,6,12,63] O) (AD (Bl (.inl O) X (AA O (AA O (AA O ?_))))))
   obtain⟨s,a9,E⟩:=bd E
   refine H8 (v:= .tuple #[vI s.1,vI s.2.1,.bool s.2.2]) (Ψ:=AG s.1∧AG s.2.1) O O O TD O (λh' o=>(H7 (St.all h') G ck r6 a9).mono λ_ _ _ _ p=>⟨p.1,⟨p.2.1,p.2.2.1⟩⟩) λcl=>?_
   obtain⟨cm,cn⟩:=cl
   refine AA O (Bi O (Bi O (Bi O (AY O (AY O (AY O (BJ (kp [16,15,13,62,61,11,10,9,0,6,12,63] O) λdk g co=>AD (Zj (λw=>w.heap[ae]? =some (.cells ([(.slice H (List.replicate ((↑b.length:Int):Int).toNat (0:Int)).length t)]:List Value).toArray 29 (0,0))∧w.heap[af]? =some (.cells ([(.slice I (List.replicate ((↑b.length:Int):Int).toNat (0:Int)).length u)]:List Value).toArray 29 (0,0))) mo (P5 0 O (by kernel_rfl) (λw d=>⟨g.bxW (mt (mt mh)) d,g.bxW mh d⟩) O O (P5 1 O (by kernel_rfl) (λw d=>⟨g.bxW (mt (mt mh)) d,g.bxW mh d⟩) O O (P6 2 (vs:=[(.slice H (List.replicate ((↑b.length:Int):Int).toNat (0:Int)).length t)]) O (by kernel_rfl) (λw d=>⟨g.bxW (mt (mt mh)) d,g.bxW mh d⟩) O (λw d=>d.1) O O BP O O (P5 3 O (by kernel_rfl) (λw d=>⟨g.bxW (mt (mt mh)) d,g.bxW mh d⟩) O O (P6 4 (vs:=[(.slice I (List.replicate ((↑b.length:Int):Int).toNat (0:Int)).length u)]) O (by kernel_rfl) (λw d=>⟨g.bxW (mt (mt mh)) d,g.bxW mh d⟩) O (λw d=>d.2) O O BP O O (P5 5 O (by kernel_rfl) (λw d=>⟨g.bxW (mt (mt mh)) d,g.bxW mh d⟩) O O (P5 6 O (by kernel_rfl) (λw d=>⟨g.bxW (mt (mt mh)) d,g.bxW mh d⟩) O O (P5 7 O (by kernel_rfl) (λw d=>⟨g.bxW (mt (mt mh)) d,g.bxW mh d⟩) O O (P5 8 O (by kernel_rfl) (λw d=>⟨g.bxW (mt (mt mh)) d,g.bxW mh d⟩) O O ?_)))))))))))))))))
   obtain⟨dl,ba,E⟩:=bd E
   refine Tv 9 (r:=AM.int) (xs:=W) O (by kernel_rfl) (λw d=>⟨g.bxW (mt (mt mh)) d,g.bxW mh d⟩) g (mt (mt (mt (mt mh)))) O O BG ba O λdm bb=>Y5 10 O O (by kernel_rfl) ?_
   obtain⟨cp,bc,E⟩:=bd E
   refine En (r:=AM.int) (l:=W) (i:=A) (x:=cp) O O (⟨_,O,O,cm⟩:Rd _ _ AM.int _ s.1) bb bc Lq.id Ag (λ_=>rfl) g (.tail (.tail (.tail (.tail .head)))) λdn C cq=>U2 (λw d=>⟨C.bxW (mt (mt mh)) d,C.bxW mh d⟩) ?_
   obtain⟨dp,be,E⟩:=bd E
   refine Tv 11 (r:=AM.int) (xs:=V) O (by kernel_rfl) (λw d=>⟨C.bxW (mt (mt mh)) d,C.bxW mh d⟩) C (mt (mt (mt mh))) O O BG be O λdq bf=>Y5 12 O O (by kernel_rfl) ?_
   obtain⟨cr,bg,E⟩:=bd E
   refine En (r:=AM.int) (l:=V) (i:=A) (x:=cr) O O (⟨_,O,O,cn⟩:Rd _ _ AM.int _ s.2.1) bf bg Lq.id Ag (λ_=>rfl) C (.tail (.tail (.tail .head))) λdr D cs=>U2 (λw d=>⟨D.bxW (mt (mt mh)) d,D.bxW mh d⟩) ?_
   obtain⟨ds,bh,E⟩:=bd E
   refine Tv 13 (r:=AM.int) (xs:=U) O (by kernel_rfl) (λw d=>⟨D.bxW (mt (mt mh)) d,D.bxW mh d⟩) D (mt mh) O O BG bh O λdt bi=>Y5 14 O O (by kernel_rfl) ?_
   obtain⟨ct,bj,E⟩:=bd E
   refine En (r:=AM.int) (l:=U) (i:=A) (x:=ct) O O (⟨_,O,O,df⟩:Rd _ _ AM.int _ A) bi bj Lq.id Ag (λ_=>rfl) D (.tail .head) λdu Y cu=>U2 (λw d=>⟨Y.bxW (mt (mt mh)) d,Y.bxW mh d⟩) (U3 (by kernel_rfl) (kp [15,62,61,11,10,9,0,6,12,63] O) (BY (.inl O) (AA O (AA O (Cg O (AL O (kp [12,62,61,11,10,9,0,6,63] O) (BK (BY (.inl O) (Af O (AA O (AN (kp [63,12,62,61,11,10,9,0,6] O) (WF.nil (λy z m d=>?_)))))))))))))
   exact⟨(BC (ac-s.1)),(BC (A+1)),(upd U A A),(upd V A s.2.1),(upd W A s.1),_,_,m.sub (kp [62,61,11,10,9,0,6,12,63] O),d,Y,(ag.trans (co.trans (cq.trans (cs.trans cu)))),(BI _),(BI _),E⟩
  refine A9 O (λy z m d=>?_)
  exact⟨ac,U,V,W,_,_,m.sub (kp [11,10,9,12] O),d,X,ag,de,E⟩
 rintro y z ⟨ar,a6,a7,au,dv,dw,m,d,ah,cv,e0,E⟩
 refine Ad ?_ m d
 clear m d z y
 rw[EI] at E
 refine WF.sl (AH 3 (AS A6 ah O mh O BP O (Ys O eO O (OL O O O (AF ?_)))))
 obtain⟨dx,bk,E⟩:=bd E
 refine Cn O O O aZ O (TY ah bk) λdy dz ai cw p=>?_
 obtain⟨rfl,bl⟩:=p
 refine AZ (kp [11,9,12] O) (AD (AD ?_))
 obtain⟨aj,ak,cx,cy⟩:=bl.pubs (.tail .head)
 refine BY (.inl O) (AS A6 ak O mh O BP O (AA O ?_))
 obtain⟨a0,bm,E⟩:=bd E
 refine Yo O O cy BG bm O λcz a1=>Al O a1 BG O λd0=>AA O (AN (kp [100,99,98,9] O) (Am (λa w=>∃(am:List Int),IV B aj ai (112,[]) a w [(9,K)] (OS AM.int 3 K am::L) λ_ _=>Fm N am=some r) ?_ ?_))
 ·refine A3 (λn5=>λa w=>∃(M:Int) (J:List Int),IV B aj ai (112,[]) a w [(99,vI (↑a0.length:Int)),(98,cz),(9,K),(100,vI M)] (OS AM.int 3 K J::L) λ_ _=>AG M∧EF N a0 (Fm N) n5 M J=some r) N ?_ ?_ ?_
  ·intro y z m d
   have bn:=ak.sel [3] 3 O
   exact⟨0,au,_,_,m.sub (kp [99,98,9,100] O),d,bn,(B9.refl aj ai),(iq (n:=0) O),E⟩
  ·rintro y z ⟨_,_,_,_,_,_,_,_,_,E⟩
   rw[EF] at E;cases E
  rintro n5 y z ⟨M,J,d1,d2,m,d,F,an,d3,E⟩
  refine Ad ?_ m d
  clear m d z y
  rw[EF] at E
  refine AI (Aq O (AN (kp [101,99,98,9,100] O) (AD (AX O E (λc0 E=>?_) (λc0 E=>?_)))))
  ·refine AT (AD (A5 (AI ?_)))
   obtain⟨a2,bo,E⟩:=bd E
   refine BD O O (a1.mono' an) BG bo O λd4 c1=>Ah A6 F.1 O c1 Ag O λd5=>AL O (kp [19,99,98,9,100] O) (EQ (AH 6 (AA O (AA O ?_))))
   obtain⟨d6,bp,E⟩:=bd E
   refine A4 F mh O O BG bp O λd7 bq=>?_
   obtain⟨a3,br,E⟩:=bd E
   have c3:=F.epAt mh br FM.id bq
   refine Ah A6 (λ_ x=>x) O c3 Ag O λd8=>Af O ?_
   obtain⟨d9,bs,E⟩:=bd E
   refine A4 F mh O O BG bs O λea bt=>AF ?_
   obtain⟨c4,bu,E⟩:=bd E
   refine En (r:=AM.int) (l:=J) (i:=a2) (x:=c4) O O (⟨_,O,O,(BI _)⟩:Rd _ _ AM.int _ (BC (a3+1))) bt bu Lq.id Ag (λ_=>rfl) F .head λeb bv c5=>AZ (kp [99,98,9,100] O) (BK (BY (.inl O) (Af O (AA O (AN (kp [100,99,98,9] O) (WF.nil (λy z m d=>?_)))))))
   exact⟨(BC (M+1)),(upd J a2 (BC (a3+1))),_,_,m.sub (kp [99,98,9,100] O),d,bv,(an.trans c5),(BI _),E⟩
  refine A9 O (λy z m d=>?_)
  exact⟨J,_,_,m.sub (kp [9] O),d,F,an,E⟩
 rintro y z ⟨am,ec,ed,m,d,bw,c6,E⟩
 refine Ad ?_ m d
 clear m d z y
 rw[Fm] at E
 refine AI (AA O (AY O (AL O (kp [5,4] O) (Ac (λy z m d=>?_)))))
 cases E
 exact J9 m O d (IC (Im m (v:=_) O) (IC (Im m (v:=_) O) J8)) O (ab.trans (aq.trans (b7.trans (b8.trans (ca.trans (cd.trans (ce.trans (cg.trans (cv.trans (cw.trans (cx.trans c6))))))))))) ⟨_,O,bw⟩
end Go.Proofs.YtblcgjadhemlbaaGreat
