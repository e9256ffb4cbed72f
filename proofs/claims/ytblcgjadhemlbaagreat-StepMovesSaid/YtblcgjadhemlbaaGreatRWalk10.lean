import Derived.Test.YtblcgjadhemlbaaGreatRWalk9
import Derived.Test.YtblcgjadhemlbaaGreatRSort5
namespace Go.Proofs.YtblcgjadhemlbaaGreat
open Go.RowKit
set_option linter.unusedVariables false
set_option linter.unusedSimpArgs false
set_option maxRecDepth 10000
set_option maxHeartbeats 2000000
variable {N:Nat}{S:Nat→Prop}{L:List HP}{h:Aw}
theorem L8 (hs:St S L h) {a:Value}{c:(List Int)}(d:Sl S h AM.int a c) {g:Value}{c1_:IT}(i:Pt S h Fd g c1_) {r:(List Int)×(List Int)}(E:DP N c1_ c=some r):
 CL Tryz.prog 83 #[a,g] S h (λv S' h'=>∃m n:Value,v= .tuple #[m,n]∧St S' (OS AM.int 3 m r.1::OS AM.int 3 n r.2::L) h'):=by
 refine BG (l:=[a,g]) 13 Tryz.func83 O Tryz.ntmps83 O λB=>?_
 rw[DP] at E
 refine AI (AY O (AK O (kp [0,1] O) (WF.sl (AG 5 (AA O (Ae O i QU US O λI y=>Af A9 hs.1 O y Ag O λz=>Ae O i IT.f_Litres UR O λJ A=>Af A9 hs.1 O A Ag O λC=>AF ?_))))))
 obtain⟨K,s,E⟩:=bd E
 refine BX O O O eJ O hs (QN (St.all _) (d.mono (λb hb=>hs.1 b hb) (λ_ _=>rfl)) z C s) λM Q D x t u p=>?_
 obtain⟨F,G,rfl,o⟩:=p
 have j:=hs.join u o ⟨OS.flat (λ{_ _ _ _ _ _} k=>k),⟨OS.flat (λ{_ _ _ _ _ _} k=>k),trivial⟩⟩
 simp only[List.cons_append,List.nil_append] at j
 refine AG 4 (Bo O (Bo O (AY O (AY O (AF (AZ (kp [4,3] O) (Ad (λU V w H=>?_))))))))
 cases E
 exact KH w O H (IK (I1 w (v:=_) O) (IK (I1 w (v:=_) O) KG)) O t ⟨_,_,O,j⟩
theorem M9 {F:Nat}{p0_w:Aq}{G:Value}{H:Value}{I:Value}{J:Value}{K:Value}{M:Value}{Q:Value}{U:Value}{z:Value}{A:Value}{C:Value}{u:Value}{D:Value}{c:Value}{d:Value}{g:Value}{i:Value}{j:Value}{k:Value}{m:Value}{p:Value}{t:Value}(hs:St S (Bx F 84 [.string p0_w.b.Name,G,vI p0_w.b.Cells,H,I,J,K,M,Q,U,vI p0_w.b.Err,z,A,C,u,D,vI p0_w.s.Hour,c,d,g,i,j,k,m,p,t]::OS (AM.sl AM.int) 29 c p0_w.s.Own::OS AM.int 3 d p0_w.s.Rem::OS Ap 60 g p0_w.s.Queue::OS BJ 69 i p0_w.s.Gates::OS AM.int 3 j p0_w.s.In::OS AM.int 3 k p0_w.s.Out::OS BH 50 m p0_w.moves::OS AM.int 3 p p0_w.peaks::OS Ap 60 t p0_w.sent::L) h) (a5:p0_w.b.Name.size≤maxLen) (ah:Sl S h AM.str G p0_w.b.Owners) (a6:AH p0_w.b.Cells) (ab:Sl S h B0 H p0_w.b.Places) (a7:Sl S h Bu I p0_w.b.Links) (a8:Sl S h GT J p0_w.b.Towns) (a9:Sl S h Ed K p0_w.b.Gauges) (ba:Sl S h Fv M p0_w.b.Roads) (bb:Sl S h Cz Q p0_w.b.Shelters) (bc:Sl S h AM.int U p0_w.b.Room) (au:AH p0_w.b.Err) (av:Sl S h AM.int z p0_w.in_.Rain) (aw:Sl S h FT A p0_w.in_.Faults) (ax:Sl S h Ik C p0_w.in_.Cmds) (ad:Sl S h Fd u p0_w.in_.Takes) (ay:Sl S h GH D p0_w.in_.Swaps) (az:AH p0_w.s.Hour) {Z:Int}(b3:AH Z) {r:(List AL)}(E:HL N p0_w Z=some r):
 CL Tryz.prog 62 #[vP F 0,vI Z] S h (λv S' h'=>St S' (OS Av 111 v r::Bx F 84 [.string p0_w.b.Name,G,vI p0_w.b.Cells,H,I,J,K,M,Q,U,vI p0_w.b.Err,z,A,C,u,D,vI p0_w.s.Hour,c,d,g,i,j,k,m,p,t]::OS (AM.sl AM.int) 29 c p0_w.s.Own::OS AM.int 3 d p0_w.s.Rem::OS Ap 60 g p0_w.s.Queue::OS BJ 69 i p0_w.s.Gates::OS AM.int 3 j p0_w.s.In::OS AM.int 3 k p0_w.s.Out::OS BH 50 m p0_w.moves::OS AM.int 3 p p0_w.peaks::OS Ap 60 t p0_w.sent::L) h'):=by
 refine BG (l:=[vP F 0,vI Z]) 85 Tryz.func62 O Tryz.ntmps62 O λB=>?_
 rw[HL] at E
 refine AI (AK O (kp [0,1] O) (AI (AK O (kp [5,0,1] O) (AC (AI (AA O (CP O O (AD M0 O (AD UU O (AS A9 hs O mh O Yp O (An O ad Vn O λb1=>AA O (AN (kp [14,13,12,5,0,1] O) (Am (λa w=>∃(v2:Value) (l3:List AL),IV B S h (85,[]) a w [(5,v2)] (OS Av 111 v2 l3::Bx F 84 [.string p0_w.b.Name,G,vI p0_w.b.Cells,H,I,J,K,M,Q,U,vI p0_w.b.Err,z,A,C,u,D,vI p0_w.s.Hour,c,d,g,i,j,k,m,p,t]::OS (AM.sl AM.int) 29 c p0_w.s.Own::OS AM.int 3 d p0_w.s.Rem::OS Ap 60 g p0_w.s.Queue::OS BJ 69 i p0_w.s.Gates::OS AM.int 3 j p0_w.s.In::OS AM.int 3 k p0_w.s.Out::OS BH 50 m p0_w.moves::OS AM.int 3 p p0_w.peaks::OS Ap 60 t p0_w.sent::L) λ_ _=>CR N l3=some r) ?_ ?_)))))))))))))
 ·refine A5 (λn1=>λa w=>∃(v8:Value) (l9:List AL) (af:Int),IV B S h (85,[]) a w [(13,vI (↑p0_w.in_.Takes.length:Int)),(12,u),(0,vP F 0),(1,vI Z),(5,v8),(14,vI af)] (OS Av 111 v8 l9::Bx F 84 [.string p0_w.b.Name,G,vI p0_w.b.Cells,H,I,J,K,M,Q,U,vI p0_w.b.Err,z,A,C,u,D,vI p0_w.s.Hour,c,d,g,i,j,k,m,p,t]::OS (AM.sl AM.int) 29 c p0_w.s.Own::OS AM.int 3 d p0_w.s.Rem::OS Ap 60 g p0_w.s.Queue::OS BJ 69 i p0_w.s.Gates::OS AM.int 3 j p0_w.s.In::OS AM.int 3 k p0_w.s.Out::OS BH 50 m p0_w.moves::OS AM.int 3 p p0_w.peaks::OS Ap 60 t p0_w.sent::L) λ_ _=>AH af∧Bj N p0_w Z (CR N) n1 l9 af=some r) N ?_ ?_ ?_
  ·intro aa ww hf hw
   have be:=hs.nil Av 111
   exact⟨(vN),([]:List AL),0,_,_,hf.sub (kp [13,12,0,1,5,14] O),hw,be,(CA.refl S h),(iq (n:=0) O),E⟩
  ·rintro aa ww ⟨_,_,_,_,_,_,_,_,_,_,E⟩
   rw[Bj] at E;cases E
  rintro n1 aa ww ⟨v8,l9,af,b4,b5,hf,hw,ak,ai,cx,E⟩
  refine Ac ?_ hf hw
  clear hf hw ww aa
  rw[Bj] at E
  refine AI (Ar O (AN (kp [15,13,12,0,1,5,14] O) (AC (AW O E (λb6 E=>?_) (λb6 E=>?_)))))
  ·refine AQ (AC (Am (λa w=>∃(ao:Value) (ap:List AL),IV B b4 b5 (85,[]) a w [(13,vI (↑p0_w.in_.Takes.length:Int)),(12,u),(0,vP F 0),(1,vI Z),(14,vI af),(5,ao)] (OS Av 111 ao ap::Bx F 84 [.string p0_w.b.Name,G,vI p0_w.b.Cells,H,I,J,K,M,Q,U,vI p0_w.b.Err,z,A,C,u,D,vI p0_w.s.Hour,c,d,g,i,j,k,m,p,t]::OS (AM.sl AM.int) 29 c p0_w.s.Own::OS AM.int 3 d p0_w.s.Rem::OS Ap 60 g p0_w.s.Queue::OS BJ 69 i p0_w.s.Gates::OS AM.int 3 j p0_w.s.In::OS AM.int 3 k p0_w.s.Out::OS BH 50 m p0_w.moves::OS AM.int 3 p p0_w.peaks::OS Ap 60 t p0_w.sent::L) λ_ _=>FC N af (Bj N p0_w Z (CR N) n1) ap=some r) ?_ ?_))
   ·refine WF.sl (AG 2 ?_)
    obtain⟨Y,bf,E⟩:=bd E
    refine BE O O (ad.mono' ai) Vn bf O λcy b7=>B8 A9 ak.1 O b7 Ym (λe=>by cases e) O λcz b8=>AF (Cp bQ O ak λaq c0 bg ag=>?_)
    obtain⟨rfl,⟨b9,bh,ca,a1⟩⟩:=Fd.ex (b8.mono ag)
    refine Du (vs:=[vI Y.Place,vI Y.Owner,vI Y.Litres,vI Y.To]) O O O O Ym O bg .head O λc1 ae aj=>AZ (kp [7,13,12,0,1,5,14] O) (AC (AC (Bq (.inr ⟨mo,by kernel_rfl⟩) ae (AD X4 O (AS Bd ae O mh O Ag O (AA O (Bt O (AA O ?_))))))))
    obtain⟨a2,ac,E⟩:=bd E
    refine AV 11 33 (.bool a2) ?_ ?_
    ·cases bi:(decide (Y.Place≠Z))
     ·have ac:=F5 bi ac
      refine AB O (AD US O (AB O (AS Bd ae O mh O Ag O (AB O (AA O (AB O (CP O O (AB O (AD GJ O (AB O (AD H1 O (AB O (AS Bd ae O (mt (mt mh)) O Kj O (AB O (An O (ah.mono' (ai.trans (ag.trans aj))) KN O λcb=>AB O ?_)))))))))))))))
      obtain⟨c2,bj,ac⟩:=bd ac
      refine A6 O O O Oi O (λh' o=>F8 (St.all h') bh (Jl cb) bj) (AB O (BY O (AJ O ?_)))
      cases ac
      exact AU O
     have ac:=Fy bi ac
     cases ac
     exact Aa O O
    refine AA O (AV 4 38 (.bool (a2||(decide (Y.Litres≤0)))) ?_ ?_)
    ·cases c3:a2
     ·exact AB O (AD UR O (AB O (AS Bd ae O mh O Ag O (AB O (GQ O (AJ O (AU O)))))))
     exact Aa O O
    refine BM (kp [38,7,13,12,0,1,5,14] O) λc4 V am=>AW O E (λcc E=>?_) (λcc E=>?_)
    ·refine BC O (λaa ww hf hw=>?_)
     have bk:=V.sel [1,1,1,1,1,1,1,1,1,1,1] 1 O
     exact⟨v8,l9,_,_,hf.sub (kp [13,12,0,1,14,5] O),hw,bk,(ag.trans (aj.trans am)),E⟩
    refine AQ (AC (AC (Bq (.inr ⟨mo,by kernel_rfl⟩) V (AD PH O (AS Bd V O mh O Ag O (Bt O (AA O ?_)))))))
    obtain⟨cd,W,E⟩:=bd E
    refine AV 33 75 (.bool cd) ?_ ?_
    ·cases bl:(decide (Y.To≠(-1)))
     ·have W:=F5 bl W
      cases W
      exact Aa O O
     have W:=Fy bl W
     refine AB O (AD PH O (AB O (AS Bd V O mh O Ag O (AB O (AA O (AB O (CP O O (AB O (AD GJ O (AB O (AD C1 O (AB O (AS Bd V O (mt (mt mh)) O F7 O (AB O (An O (ab.mono' (ai.trans (ag.trans (aj.trans am)))) FA O λce=>AB O ?_)))))))))))))))
     obtain⟨cf,bm,W⟩:=bd W
     refine A6 O O O Oi O (λh' o=>F8 (St.all h') a1 (Jl ce) bm) (AB O (BY O (AB O (AA O ?_))))
     obtain⟨cg,X,W⟩:=bd W
     refine AV 21 74 (.bool cg) ?_ ?_
     ·cases bn:(!cf)
      ·have X:=F5 bn X
       refine AB O (AA O (AB O (CP O O (AB O (AD GJ O (AB O (AD C1 O (AB O (AS Bd V O (mt (mt mh)) O F7 O (AB O (AD PH O (AB O (AS Bd V O mh O Ag O (AB O ?_))))))))))))))
       have ar:=ai.trans (ag.trans (aj.trans am))
       obtain⟨c5,bo,X⟩:=bd X
       refine BE O O (ab.mono' ar) FA bo O λc6 ch=>AB O (Ae O ch IH Lm O λc7 ci=>AB O (Af Bd V.1 O ci Ag O λc8=>AB O (AA O (AB O (CP O O (AB O (AD GJ O (AB O (AD C1 O (AB O (AS Bd V O (mt (mt mh)) O F7 O (AB O (AA O (AB O ?_))))))))))))))
       obtain⟨c9,bp,X⟩:=bd X
       refine BE O O (ab.mono' ar) FA bp O λda cj=>AB O (Ae O cj IH Lm O λdb ck=>AB O (Af Bd V.1 O ck Ag O λdc=>AB O (Bt O (AB O (AJ O ?_)))))
       cases X
       exact AU O
      have X:=Fy bn X
      cases X
      exact Aa O O
     refine AJ O ?_
     cases W
     exact AU O
    refine BM (kp [75,7,13,12,0,1,5,14] O) λcl an bq=>AW O E (λcm E=>?_) (λcm E=>?_)
    ·refine BC O (λaa ww hf hw=>?_)
     have br:=an.sel [1,1,1,1,1,1,1,1,1,1,1] 1 O
     exact⟨v8,l9,_,_,hf.sub (kp [13,12,0,1,14,5] O),hw,br,(ag.trans (aj.trans (am.trans bq))),E⟩
    refine AQ (D3 (AG 5 (AA O (AD PH O (AS A9 an O mh O Ag O (OU O O O (HA (cs:=[vI Y.To,vI 0,vI (-3),.func (.func 83) #[] #[vP aq 0]]) OH O O O (AF ?_))))))))
    obtain⟨cn,bs,co,cp⟩:=an.pubb (r:=Fd) (x:=Y) .head ⟨O,⟨b9,bh,ca,a1⟩⟩
    have bt:Rd cn cl (AM.fnr Tryz.prog (λS h vs (x:(List Int))=>∃w0:Value,vs=[w0]∧Sl S h AM.int w0 x) (λS h v (y:((List Int)×(List Int)))=>∃w0 w1:Value,v= .tuple #[w0,w1]∧Sl S h AM.int w0 y.1∧Sl S h AM.int w1 y.2)) (.func (.func 83) #[] #[(vP aq 0)]) (λx=>DP N Y x):=KD 83 #[(vP aq 0)] eK λS' h' s' e' L hs x y vs h1 h2=>by obtain⟨w0,rfl,a0⟩:=h1;exact Mt (L8 hs a0 (cp.mono'' s' e') h2)
    refine DY (cs:=[vI Y.To,vI 0,vI (-3),(.func (.func 83) #[] #[(vP aq 0)])]) LD O O O O O O O bs λdd de bu bv=>?_
    obtain⟨bw,E⟩:=Lr E
    refine OA (r:=Av) (l:=l9) (xs:=([(⟨Y.To,0,(-3),(λx=>DP N Y x)⟩:AL)]:List AL)) O O LD O mh ⟨_,_,O,⟨_,O,a1,(iq (n:=0) O),(iq (n:=(-3)) O),(bt.mono bv)⟩,O⟩ O O bw O bu (λ_=>(.tail .head)) λcq df bx cr=>?_
    have bz:=bx.drop .head
    refine AG 1 (AY O (AF (AZ (kp [5,13,12,0,1,14] O) (WF.nil (λaa ww hf hw=>?_)))))
    exact⟨cq,(l9++([(⟨Y.To,0,(-3),(λx=>DP N Y x)⟩:AL)]:List AL)),_,_,hf.sub (kp [13,12,0,1,14,5] O),hw,bz,(ag.trans (aj.trans (am.trans (bq.trans (co.trans (bv.trans cr)))))),E⟩
   rintro aa ww ⟨ao,ap,ct,cu,hf,hw,a3,b0,E⟩
   refine Ac ?_ hf hw
   clear hf hw ww aa
   rw[FC] at E
   refine BZ (.inl O) (Ai O (AA O (AN (kp [14,13,12,0,1,5] O) (WF.nil (λaa ww hf hw=>?_)))))
   exact⟨ao,ap,(BD (af+1)),_,_,hf.sub (kp [13,12,0,1,5,14] O),hw,a3,(ai.trans b0),(BK _),E⟩
  refine BC O (λaa ww hf hw=>?_)
  exact⟨v8,l9,_,_,hf.sub (kp [5] O),hw,ak,ai,E⟩
 rintro aa ww ⟨v2,l3,cv,cw,hf,hw,a4,b2,E⟩
 refine Ac ?_ hf hw
 clear hf hw ww aa
 rw[CR] at E
 refine AI (AA O (AK O (kp [4] O) (Ad (λaa ww hf hw=>?_))))
 cases E
 exact Dx hf hw O O b2 a4
theorem I5 (hs:St S L h) {c:Int}(i:AH c) {a:Int}(d:AH a) {b:Int}(g:AH b) {r:Int}(E:Gh N c a b=some r):
 CL Tryz.prog 104 #[vI c,vI a,vI b] S h (λv S' h'=>v=vI r∧AH r∧St S' (L) h'):=by
 refine BG (l:=[vI c,vI a,vI b]) 21 Tryz.func104 O Tryz.ntmps104 O λB=>?_
 rw[Gh] at E
 refine AI (AK O (kp [0,1,2] O) (AC (Bq (.inl O) hs (AA O (AA O (AA O ?_))))))
 obtain⟨j,m,E⟩:=bd E
 refine IF (v:= .tuple #[vI j.1,vI j.2.1,.bool j.2.2]) (Ψ:=AH j.1∧AH j.2.1) O O O Sz O (λh' o=>(IE (St.all h') i d g m).mono λ_ _ _ _ p=>⟨p.1,⟨p.2.1,p.2.2.1⟩⟩) λu=>?_
 obtain⟨w,A⟩:=u
 refine AA O (Bo O (Bo O (Bo O (AY O (AY O (AY O (BM (kp [9,7] O) λC k t=>AC (AI (AA O (BY O (AN (kp [19,7] O) (AW O E (λx E=>?_) (λx E=>?_)))))))))))))
 ·refine AI (AK O (kp [6] O) (Ad (λy z q s=>?_)))
  cases E
  exact Dx q s O O t ⟨O,(iq (n:=0) O),k⟩
 refine AQ (AI (AA O (AK O (kp [6] O) (Ad (λy z q s=>?_)))))
 cases E
 exact Dx q s O O t ⟨O,w,k⟩
theorem QQ (hs:St S L h) {c:Value}{k:A7}(j:Rd S h Bu c k) {a:Int}(b:AH a) {d:Int}(g:AH d) {r:Int}(E:KA N k a d=some r):
 CL Tryz.prog 106 #[c,vI a,vI d] S h (λv S' h'=>v=vI r∧AH r∧St S' (L) h'):=by
 refine BG (l:=[c,vI a,vI d]) 20 Tryz.func106 O Tryz.ntmps106 O λB=>?_
 rw[KA] at E
 refine WF.sl (B4 O j (λe=>by cases e) O hs λZ S2 h3 i J t=>AG 1 (AY O (AF (AZ (kp [3,1,2] O) (AC (AI (Ae O t A7.f_To Hz O λq7 K=>Af A9 i.1 O K Ag O λr9=>BL O (AN (kp [9,3,1,2] O) (AW O E (λu E=>?_) (λu E=>?_))))))))))
 ·refine AI (AA O (AK O (kp [6] O) (Ad (λM Q w x=>?_))))
  cases E
  exact Dx w x O O J ⟨O,b,i⟩
 refine AQ (AC (Bq (.inl O) i (AA O (AA O (Ae O t II Kq O λU y=>Af Bd i.1 O y Ag O λz=>Ae O t HG J6 O λV A=>Af Bd i.1 O A Ag O λC=>?_)))))
 obtain⟨W,m,E⟩:=bd E
 refine CY O O O P6 O (λh' o=>I5 (St.all h') g z C m) λD=>?_
 have F:=D
 obtain⟨X,p,E⟩:=bd E
 refine CY O O O S7 O (λh' o=>JB (St.all h') b F p) λG=>?_
 have H:=G
 refine P7 O O O (AY O (BM (kp [6] O) λY s I=>Ad (λM Q w x=>?_)))
 cases E
 exact Dx w x O O (J.trans I) ⟨O,(OP (iq (n:=0) O) H),s⟩
theorem Rp (hs:St S L h) {a:Value}{g:(List BS)}(b:Sl S h Bv a g) {c:Int}(d:AH c) {r:Int}(E:Kt N g c=some r):
 CL Tryz.prog 105 #[a,vI c] S h (λv S' h'=>v=vI r∧AH r∧St S' (L) h'):=by
 refine BG (l:=[a,vI c]) 17 Tryz.func105 O Tryz.ntmps105 O λB=>?_
 rw[Kt] at E
 refine AI (AK O (kp [0,1] O) (AC (AC (Bq (.inl O) hs (AA O ?_)))))
 obtain⟨C,k,E⟩:=bd E
 refine A6 O O O P3 O (λh' o=>GR (St.all h') (b.mono' (o.all hs.1)) k) (BY O (BM (kp [9,0,1] O) λD i m=>AW O E (λw E=>?_) (λw E=>?_)))
 ·refine AI (AK O (kp [4] O) (Ad (λx y p q=>?_)))
  cases E
  exact Dx p q O O m ⟨O,(iq (n:=0) O),i⟩
 refine AQ (AC (Bq (.inl O) i (AA O (AA O ?_))))
 obtain⟨F,s,E⟩:=bd E
 refine CY O O O Tg O (λh' o=>KJ (St.all h') ((b.mono' m).mono' (o.all i.1)) d s) λz=>?_
 have t:=z
 refine AA O (Bo O (Bo O (AY O (AY O (BM (kp [5] O) λA j u=>AI (AA O (AK O (kp [4] O) (Ad (λx y p q=>?_)))))))))
 cases E
 exact Dx p q O O (m.trans u) ⟨O,t,j⟩
theorem QR (hs:St S L h) {y:Value}{t:A7}(I:Rd S h Bu y t) {i:Int}(u:AH i) {c:Bool}{s:Value}{F:(List BS)}(J:Sl S h Bv s F) {b:Int}(j:AH b) {k:Int}(G:AH k) {r:Int}(E:KB N t i c F b k=some r):
 CL Tryz.prog 97 #[y,vI i,.bool c,s,vI b,vI k] S h (λv S' h'=>v=vI r∧AH r∧St S' (L) h'):=by
 refine BG (l:=[y,vI i,.bool c,s,vI b,vI k]) 63 Tryz.func97 O Tryz.ntmps97 O λB=>?_
 rw[KB] at E
 refine WF.sl (B4 O I (λe=>by cases e) O hs λq1 S2 D z M k6=>AG 1 (AY O (AF (AZ (kp [6,1,2,3,4,5] O) (AC (AI (Ae O k6 A7.f_Kind GK O λq7 k8=>Af A9 z.1 O k8 Ag O λr9=>AN (kp [14,6,1,2,3,4,5] O) (Am (λa w=>IV B S2 D (63,[]) a w [] (L) λ_ _=>Hq N=some r) ?_ ?_))))))))
 ·refine AC (Am (λa w=>IV B S2 D (63,[]) a w [(6,q1),(4,vI b)] (L) λ_ _=>Hp N t b=some r) ?_ ?_)
  ·refine AC (Am (λa w=>IV B S2 D (63,[]) a w [(6,q1),(2,.bool c),(4,vI b)] (L) λ_ _=>Je N c (Hp N t b)=some r) ?_ ?_)
   ·refine AC (Am (λa w=>IV B S2 D (63,[]) a w [(6,q1),(2,.bool c),(4,vI b)] (L) λ_ _=>Jd N t c b (Hq N)=some r) ?_ ?_)
    ·refine AC (Am (λa w=>IV B S2 D (63,[]) a w [(6,q1),(1,vI i)] (L) λ_ _=>Jc N t i=some r) ?_ ?_)
     ·refine AC (Am (λa w=>IV B S2 D (63,[]) a w [(6,q1),(1,vI i),(3,s),(4,vI b),(5,vI k)] (L) λ_ _=>Jb N t i F b k=some r) ?_ ?_)
      ·refine AC (AC (AI (BL O (AK O (kp [15,14,6,1,2,3,4,5] O) (AW O E (λaz E=>?_) (λaz E=>?_))))))
       ·refine BC O (λm p d g=>?_)
        exact⟨_,_,d.sub (kp [6,1,3,4,5] O),g,z,(CA.refl S2 D),E⟩
       refine AQ (AC (AI (BL O (AK O (kp [17,14,6,1,2,4] O) (AW O E (λa0 E=>?_) (λa0 E=>?_))))))
       ·refine BC O (λm p d g=>?_)
        exact⟨_,_,d.sub (kp [6,1] O),g,z,(CA.refl S2 D),E⟩
       refine AQ (AC (AI (BL O (AK O (kp [19,14,6,2,4] O) (AW O E (λa1 E=>?_) (λa1 E=>?_))))))
       ·refine BC O (λm p d g=>?_)
        exact⟨_,_,d.sub (kp [6,2,4] O),g,z,(CA.refl S2 D),E⟩
       refine AQ (AC (AI (BL O (AK O (kp [21,14,6,2,4] O) (AW O E (λa2 E=>?_) (λa2 E=>?_))))))
       ·refine BC O (λm p d g=>?_)
        exact⟨_,_,d.sub (kp [6,2,4] O),g,z,(CA.refl S2 D),E⟩
       refine AQ (AI (BL O (AK O (kp [23,6,4] O) (AW O E (λa3 E=>?_) (λa3 E=>?_)))))
       ·refine BC O (λm p d g=>?_)
        exact⟨_,_,d.sub (kp [6,4] O),g,z,(CA.refl S2 D),E⟩
       refine AQ (BC O (λm p d g=>?_))
       exact⟨_,_,d.sub Oy,g,z,(CA.refl S2 D),E⟩
      rintro m p ⟨ca,cb,d,g,x,Q,E⟩
      refine Ac ?_ d g
      clear d g p m
      rw[Jb] at E
      refine AC (AC (Bq (.inr ⟨mo,by kernel_rfl⟩) x (AA O ?_)))
      have U:=k6.mono Q
      refine B8 Bd x.1 O U Hd (λe=>by cases e) O λcc a4=>AA O (AA O ?_)
      obtain⟨cd,ab,E⟩:=bd E
      refine CY O O O aC O (λh' o=>QQ (St.all h') (a4.mono (o.all x.1)) j G ab) λa5=>?_
      have a6:=a5
      obtain⟨ce,ac,E⟩:=bd E
      refine CY O O O aD O (λh' o=>Rp (St.all h') ((J.mono' (M.trans Q)).mono' (o.all x.1)) a6 ac) λa7=>?_
      have a8:=a7
      refine AA O (Ae O U ED JV O λcf a9=>Af Bd x.1 O a9 Ag O λba=>?_)
      obtain⟨cg,ad,E⟩:=bd E
      refine CY O O O P6 O (λh' o=>I5 (St.all h') a8 u ba ad) λbb=>?_
      have bc:=bb
      refine Ae O U Lz Re O λch be=>Af Bd x.1 O be Ag O λbf=>?_
      obtain⟨ci,ae,E⟩:=bd E
      refine CY O O O Qs O (λh' o=>IM (St.all h') bc bf ae) λbg=>?_
      have bh:=bg
      refine AY O (BM (kp [12] O) λcj af bi=>Ad (λm p d g=>?_))
      cases E
      exact Dx d g O O (M.trans (Q.trans bi)) ⟨O,bh,af⟩
     rintro m p ⟨ck,cl,d,g,H,ag,E⟩
     refine Ac ?_ d g
     clear d g p m
     rw[Jc] at E
     refine AC (AC (Bq (.inl O) H ?_))
     have ah:=k6.mono ag
     refine Ae O ah A7.f_Num Ib O λcm bj=>Af Bd H.1 O bj Ag O λbk=>AA O (Ae O ah ED JV O λcn bl=>Af Bd H.1 O bl Ag O λbm=>?_)
     obtain⟨co,ai,E⟩:=bd E
     refine CY O O O P6 O (λh' o=>I5 (St.all h') bk u bm ai) λbn=>?_
     have bo:=bn
     refine AY O (BM (kp [12] O) λcp aj bp=>Ad (λm p d g=>?_))
     cases E
     exact Dx d g O O (M.trans (ag.trans bp)) ⟨O,bo,aj⟩
    rintro m p ⟨cq,cr,d,g,A,V,E⟩
    refine Ac ?_ d g
    clear d g p m
    rw[Jd] at E
    refine AC (AI (AA O (AN (kp [44,6,4] O) (AW O E (λbq E=>?_) (λbq E=>?_)))))
    ·refine AC (Bq (.inl O) A (AA O ?_))
     have ak:=k6.mono V
     refine Ae O ak A7.f_Num Ib O λcs br=>Af Bd A.1 O br Ag O λbs=>Ae O ak A7.f_Den JX O λct bt=>Af Bd A.1 O bt Ag O λbu=>?_
     obtain⟨cu,al,E⟩:=bd E
     refine CY O O O P6 O (λh' o=>I5 (St.all h') j bs bu al) λbv=>?_
     have bw:=bv
     refine AY O (BM (kp [12] O) λcv am bx=>Ad (λm p d g=>?_))
     cases E
     exact Dx d g O O (M.trans (V.trans bx)) ⟨O,bw,am⟩
    refine AQ (BC O (λm p d g=>?_))
    exact⟨_,_,d.sub Oy,g,A,V,E⟩
   rintro m p ⟨cw,cx,d,g,K,an,E⟩
   refine Ac ?_ d g
   clear d g p m
   rw[Je] at E
   refine AI (AA O (BY O (AN (kp [52,6,4] O) (AW O E (λbz E=>?_) (λbz E=>?_)))))
   ·refine AI (AK O (kp [12] O) (Ad (λm p d g=>?_)))
    cases E
    exact Dx d g O O (M.trans an) ⟨O,(iq (n:=0) O),K⟩
   refine AQ (WF.nil (λm p d g=>?_))
   exact⟨_,_,d.sub (kp [6,4] O),g,K,an,E⟩
  rintro m p ⟨cy,cz,d,g,C,ao,E⟩
  refine Ac ?_ d g
  clear d g p m
  rw[Hp] at E
  refine AC (AC (Bq (.inr ⟨mo,by kernel_rfl⟩) C (AA O ?_)))
  have W:=k6.mono ao
  refine Ae O W LH Rc O λc0 b0=>Af Bd C.1 O b0 Ag O λb1=>?_
  obtain⟨c1,ap,E⟩:=bd E
  refine CY O O O S7 O (λh' o=>JB (St.all h') j b1 ap) λb2=>?_
  have b3:=b2
  refine P7 O O O (Ae O W A7.f_Num Ib O λc2 b4=>Af Bd C.1 O b4 Ag O λaq=>Ae O W A7.f_Den JX O λb5 ar=>Af Bd C.1 O ar Ag O λau=>?_)
  obtain⟨b6,X,E⟩:=bd E
  refine CY O O O P6 O (λh' o=>I5 (St.all h') (OP (iq (n:=0) O) b3) aq au X) λav=>?_
  have aw:=av
  refine AY O (BM (kp [12] O) λb7 Y ax=>Ad (λm p d g=>?_))
  cases E
  exact Dx d g O O (M.trans (ao.trans ax)) ⟨O,aw,Y⟩
 rintro m p ⟨b8,b9,d,g,Z,ay,E⟩
 refine Ac ?_ d g
 clear d g p m
 rw[Hq] at E
 refine AI (AK O (kp [12] O) (Ad (λm p d g=>?_)))
 cases E
 exact Dx d g O O (M.trans ay) ⟨O,(iq (n:=0) O),Z⟩
theorem RW (hs:St S L h) {c:Value}{n:A7}(k:Rd S h Bu c n) {d:Value}{p:Ax}(m:Rd S h BJ d p) {a:Int}(i:AH a) {g:Int}(j:AH g) {r:Int}(E:Ks N n p a g=some r):
 CL Tryz.prog 85 #[c,d,vI a,vI g] S h (λv S' h'=>v=vI r∧AH r∧St S' (L) h'):=by
 refine BG (l:=[c,d,vI a,vI g]) 19 Tryz.func85 O Tryz.ntmps85 O λB=>?_
 rw[Ks] at E
 refine WF.sl (B4 O k (λe=>by cases e) O hs λq1 S2 h3 y K M=>B4 O (m.mono K) (λe=>by cases e) O y λq8 S9 Q b s t=>AG 1 (AY O (AF (AZ (kp [5,4,2,3] O) (AC (Bq (.inl O) b ?_))))))
 have u:=M.mono s
 refine B8 Bd b.1 O u Hd (λe=>by cases e) O λU z=>Ae O t TF M1 O λV A=>Af Bd b.1 O A Ag O λC=>Ae O t R4 Nv O λW D=>aW Bd b.1 O D Oo O (Ae O u Ji M2 O λX F=>Ao Bd b.1 O F IX O λY G=>AA O (AA O ?_))
 obtain⟨Z,w,E⟩:=bd E
 refine CY O O O eE O (λh' o=>QR (St.all h') (z.mono (o.all b.1)) C (G.mono' (o.all b.1)) i j w) λH=>?_
 have I:=H
 refine AY O (BM (kp [8] O) λab x J=>Ad (λaa ww hf hw=>?_))
 cases E
 exact Dx hf hw O O (K.trans (s.trans J)) ⟨O,I,x⟩
theorem IZ (hs:St S L h) {a:Int}(b:AH a) {r:Int}(E:Fx N a=some r):
 CL Tryz.prog 66 #[vI a] S h (λv S' h'=>∃c:Value,v= .func (.func 89) #[] #[c]∧Pt S' h' AM.int c r∧St S' (L) h'):=by
 refine BG (l:=[vI a]) 4 Tryz.func66 O Tryz.ntmps66 O λB=>?_
 rw[Fx] at E
 refine WF.sl (B4 O (⟨_,O,O,b⟩:Rd _ _ AM.int _ a) (λ_=>rfl) O hs λm S2 n d g i=>AG 1 (AY O (AF (AZ (kp [1] O) (AI (OU O O O (AK O (kp [2] O) (Ad (λo p j k=>?_)))))))))
 cases E
 exact Dx j k O O g ⟨_,O,i,d⟩
theorem O3 (hs:St S L h) {c:Int}(G:AH c) {j:Value}{b:(List Int)}(k:Sl S h AM.int j b) {r:(List Int)×Bool}(E:I9 N c b=some r):
 CL Tryz.prog 101 #[vI c,j] S h (λv S' h'=>∃bx:Value,v= .tuple #[bx,.bool r.2]∧St S' (OS AM.int 3 bx r.1::L) h'):=by
 refine BG (l:=[vI c,j]) 112 Tryz.func101 O Tryz.ntmps101 O λB=>?_
 rw[I9] at E
 refine AI (AY O (AK O (kp [0,1] O) (AC (AI (AA O (An O k BQ O λb1=>Bf O (AN (kp [22,0,1] O) (AW O E (λc2 E=>?_) (λc2 E=>?_)))))))))
 ·refine AI (AY O (AK O (kp [5,4] O) (Ad (λy z m d=>?_))))
  have c7:=hs.nil AM.int 3
  cases E
  exact KH m O d (IK (I1 m (v:=_) O) (IK (I1 m (v:=_) O) KG)) O (CA.refl S h) ⟨_,O,c7⟩
 refine AQ (AI (AK O (kp [6,0,1] O) (AC (AI (AA O (An O k BQ O λb4=>AA O (AN (kp [25,24,23,6,0,1] O) (Am (λa w=>∃(i5:Int),IV B S h (112,[]) a w [(0,vI c),(1,j),(6,vI i5)] (L) λ_ _=>AH i5∧EZ N c b i5=some r) ?_ ?_))))))))
 ·refine A5 (λn1=>λa w=>∃(Q:Int) (ad:Int),IV B S h (112,[]) a w [(24,vI (↑b.length:Int)),(23,j),(0,vI c),(1,j),(6,vI Q),(25,vI ad)] (L) λ_ _=>AH Q∧AH ad∧EX N b (EZ N c b) n1 Q ad=some r) N ?_ ?_ ?_
  ·intro y z m d
   exact⟨0,0,_,_,m.sub (kp [24,23,0,1,6,25] O),d,hs,(CA.refl S h),(iq (n:=0) O),(iq (n:=0) O),E⟩
  ·rintro y z ⟨_,_,_,_,_,_,_,_,_,_,E⟩
   rw[EX] at E;cases E
  rintro n1 y z ⟨Q,ad,ee,ef,m,d,Z,ao,c8,eg,E⟩
  refine Ac ?_ m d
  clear m d z y
  rw[EX] at E
  refine AI (Ar O (AN (kp [26,24,23,0,1,6,25] O) (AC (AW O E (λc9 E=>?_) (λc9 E=>?_)))))
  ·refine AQ (AC (BB (AI ?_)))
   obtain⟨ap,bz,E⟩:=bd E
   refine BE O O (k.mono' ao) BQ bz O λeh da=>Af A9 Z.1 O da Ag O λei=>AK O (kp [8,24,23,0,1,6,25] O) (AC (AI (AA O (Ar O (AA O (AV 5 36 (.bool ((decide (ap<0))||(decide ((BD (1125899906842624-Q))<ap)))) ?_ ?_))))))
   ·cases ej:(decide (ap<0))
    ·exact AB O (AA O (AB O (AA O (AB O (Ck O (AB O (Bf O (AJ O (AU O)))))))))
    exact Aa O O
   refine AN (kp [36,8,24,23,0,1,6,25] O) (AW O E (λdb E=>?_) (λdb E=>?_))
   ·refine AI (AY O (AK O (kp [5,4] O) (Ad (λy z m d=>?_))))
    have b0:=Z.nil AM.int 3
    cases E
    exact KH m O d (IK (I1 m (v:=_) O) (IK (I1 m (v:=_) O) KG)) O ao ⟨_,O,b0⟩
   refine AQ (BZ (.inl O) (AA O (AA O (Ai O (AK O (kp [6,24,23,0,1,25] O) (BO (BZ (.inl O) (Ai O (AA O (AN (kp [25,6,24,23,0,1] O) (WF.nil (λy z m d=>?_))))))))))))
   exact⟨(BD (Q+ap)),(BD (ad+1)),_,_,m.sub (kp [24,23,0,1,6,25] O),d,Z,ao,(BK _),(BK _),E⟩
  refine BC O (λy z m d=>?_)
  exact⟨Q,_,_,m.sub (kp [0,1,6] O),d,Z,ao,c8,E⟩
 rintro y z ⟨i5,a4,ek,m,d,av,ab,r6,E⟩
 refine Ac ?_ m d
 clear m d z y
 rw[EZ] at E
 refine AC (AI (AA O (Ar O (AA O (AV 4 47 (.bool ((decide (c<0))||(decide (i5<c)))) ?_ ?_)))))
 ·cases el:(decide (c<0))
  ·exact AB O (AA O (AB O (AA O (AB O (Bf O (AJ O (AU O)))))))
  exact Aa O O
 refine AN (kp [47,0,1,6] O) (AW O E (λdc E=>?_) (λdc E=>?_))
 ·refine AI (AY O (AK O (kp [5,4] O) (Ad (λy z m d=>?_))))
  have b2:=av.nil AM.int 3
  cases E
  exact KH m O d (IK (I1 m (v:=_) O) (IK (I1 m (v:=_) O) KG)) O ab ⟨_,O,b2⟩
 refine AQ (WF.sl (AG 2 (AA O (An O (k.mono' ab) BQ O λem=>AF ?_))))
 obtain⟨b3,E⟩:=Lr E
 refine JO (r:=AM.int) (zx:=0) Ef O ⟨O,by unfold AH;omega⟩ O O b3 O O av λK en aw aq=>AG 1 (AY O (AF (AZ (kp [9,0,1,6] O) (AC (AI (AA O (BL O (AN (kp [52,9,0,1,6] O) (AW O E (λdd E=>?_) (λdd E=>?_))))))))))
 ·refine AI (AA O (AY O (AK O (kp [5,4] O) (Ad (λy z m d=>?_)))))
  cases E
  exact KH m O d (IK (I1 m (v:=_) O) (IK (I1 m (v:=_) O) KG)) O (ab.trans aq) ⟨_,O,aw⟩
 refine AQ (WF.sl (AG 2 (AA O (An O (k.mono' (ab.trans aq)) BQ O λeo=>AF ?_))))
 obtain⟨b5,E⟩:=Lr E
 refine JO (r:=AM.int) (zx:=0) Ef O ⟨O,by unfold AH;omega⟩ O O b5 O O aw λep eq b6 b7=>Cp VN O b6 λae er ax b8=>?_
 obtain⟨H,t,rfl,es⟩:=ax.oslen (mt mh)
 refine Du (vs:=[(.slice H (List.replicate ((↑b.length:Int):Int).toNat (0:Int)).length t)]) O O O O BW O ax .head O λet b9 ca=>AZ (kp [10,9,0,1,6] O) (WF.sl (AG 2 (AA O ?_)))
 have ay:=ab.trans (aq.trans (b7.trans (b8.trans ca)))
 refine An O (k.mono' ay) BQ O λeu=>AF ?_
 obtain⟨cb,E⟩:=Lr E
 refine JO (r:=AM.int) (zx:=0) Ef O ⟨O,by unfold AH;omega⟩ O O cb O O b9 λev ew cc cd=>Cp VN O cc λaf ex az ce=>?_
 obtain⟨I,u,rfl,ey⟩:=az.oslen (mt mh)
 refine Du (vs:=[(.slice I (List.replicate ((↑b.length:Int):Int).toNat (0:Int)).length u)]) O O O O BW O az .head O λa5 cf cg=>AZ (kp [11,10,9,0,1,6] O) (AI (AA O (AK O (kp [12,11,10,9,0,1,6] O) (AC (AI (AA O ?_))))))
 have ch:=k.mono' (ay.trans (cd.trans (ce.trans cg)))
 refine An O ch BQ O λez=>AA O (AN (kp [63,62,61,12,11,10,9,0,6] O) (Am (λa w=>∃(ar:Int) (a6:List Int) (a7:List Int) (au:List Int),IV B a4 a5 (112,[]) a w [(11,vP af 0),(10,vP ae 0),(9,K),(12,vI ar)] (Bx af 29 [(.slice I (List.replicate ((↑b.length:Int):Int).toNat (0:Int)).length u)]::OS AM.int 3 (.slice I (List.replicate ((↑b.length:Int):Int).toNat (0:Int)).length u) a6::Bx ae 29 [(.slice H (List.replicate ((↑b.length:Int):Int).toNat (0:Int)).length t)]::OS AM.int 3 (.slice H (List.replicate ((↑b.length:Int):Int).toNat (0:Int)).length t) a7::OS AM.int 3 K au::L) λ_ _=>AH ar∧EY N ar a6 a7 au=some r) ?_ ?_))
 ·refine A5 (λn3=>λa w=>∃(ac:Int) (A:Int) (U:List Int) (V:List Int) (W:List Int),IV B a4 a5 (112,[]) a w [(62,vI (↑b.length:Int)),(61,j),(11,vP af 0),(10,vP ae 0),(9,K),(0,vI c),(6,vI i5),(12,vI ac),(63,vI A)] (Bx af 29 [(.slice I (List.replicate ((↑b.length:Int):Int).toNat (0:Int)).length u)]::OS AM.int 3 (.slice I (List.replicate ((↑b.length:Int):Int).toNat (0:Int)).length u) U::Bx ae 29 [(.slice H (List.replicate ((↑b.length:Int):Int).toNat (0:Int)).length t)]::OS AM.int 3 (.slice H (List.replicate ((↑b.length:Int):Int).toNat (0:Int)).length t) V::OS AM.int 3 K W::L) λ_ _=>AH ac∧AH A∧EW N c b i5 (EY N) n3 ac A U V W=some r) N ?_ ?_ ?_
  ·intro y z m d
   exact⟨c,0,(List.replicate ((↑b.length:Int):Int).toNat (0:Int)),(List.replicate ((↑b.length:Int):Int).toNat (0:Int)),(List.replicate ((↑b.length:Int):Int).toNat (0:Int)),_,_,m.sub (kp [62,61,11,10,9,0,6,12,63] O),d,cf,(CA.refl a4 a5),G,(iq (n:=0) O),E⟩
  ·rintro y z ⟨_,_,_,_,_,_,_,_,_,_,_,_,_,E⟩
   rw[EW] at E;cases E
  rintro n3 y z ⟨ac,A,U,V,W,dg,dh,m,d,X,ag,de,df,E⟩
  refine Ac ?_ m d
  clear m d z y
  rw[EW] at E
  refine AI (Ar O (AN (kp [64,62,61,11,10,9,0,6,12,63] O) (AC (AW O E (λci E=>?_) (λci E=>?_)))))
  ·refine AQ (AC (BB (AI (AA O ?_))))
   obtain⟨di,a8,E⟩:=bd E
   refine BE O O (ch.mono' ag) BQ a8 O λdj cj=>Af A9 X.1 O cj Ag O λck=>AY O (AK O (kp [14,13,62,61,11,10,9,0,6,12,63] O) (AC (Bq (.inl O) X (AA O (AA O (AA O ?_))))))
   obtain⟨s,a9,E⟩:=bd E
   refine IF (v:= .tuple #[vI s.1,vI s.2.1,.bool s.2.2]) (Ψ:=AH s.1∧AH s.2.1) O O O Sz O (λh' o=>(IE (St.all h') G ck r6 a9).mono λ_ _ _ _ p=>⟨p.1,⟨p.2.1,p.2.2.1⟩⟩) λcl=>?_
   obtain⟨cm,cn⟩:=cl
   refine AA O (Bo O (Bo O (Bo O (AY O (AY O (AY O (BM (kp [16,15,13,62,61,11,10,9,0,6,12,63] O) λdk g co=>AC (ZK (λw=>w.heap[ae]? =some (.cells ([(.slice H (List.replicate ((↑b.length:Int):Int).toNat (0:Int)).length t)]:List Value).toArray 29 (0,0))∧w.heap[af]? =some (.cells ([(.slice I (List.replicate ((↑b.length:Int):Int).toNat (0:Int)).length u)]:List Value).toArray 29 (0,0))) mo (QA 0 O (by kernel_rfl) (λw d=>⟨g.bxW (mt (mt mh)) d,g.bxW mh d⟩) O O (QA 1 O (by kernel_rfl) (λw d=>⟨g.bxW (mt (mt mh)) d,g.bxW mh d⟩) O O (QB 2 (vs:=[(.slice H (List.replicate ((↑b.length:Int):Int).toNat (0:Int)).length t)]) O (by kernel_rfl) (λw d=>⟨g.bxW (mt (mt mh)) d,g.bxW mh d⟩) O (λw d=>d.1) O O BW O O (QA 3 O (by kernel_rfl) (λw d=>⟨g.bxW (mt (mt mh)) d,g.bxW mh d⟩) O O (QB 4 (vs:=[(.slice I (List.replicate ((↑b.length:Int):Int).toNat (0:Int)).length u)]) O (by kernel_rfl) (λw d=>⟨g.bxW (mt (mt mh)) d,g.bxW mh d⟩) O (λw d=>d.2) O O BW O O (QA 5 O (by kernel_rfl) (λw d=>⟨g.bxW (mt (mt mh)) d,g.bxW mh d⟩) O O (QA 6 O (by kernel_rfl) (λw d=>⟨g.bxW (mt (mt mh)) d,g.bxW mh d⟩) O O (QA 7 O (by kernel_rfl) (λw d=>⟨g.bxW (mt (mt mh)) d,g.bxW mh d⟩) O O (QA 8 O (by kernel_rfl) (λw d=>⟨g.bxW (mt (mt mh)) d,g.bxW mh d⟩) O O ?_)))))))))))))))))
   obtain⟨dl,ba,E⟩:=bd E
   refine Tm 9 (r:=AM.int) (xs:=W) O (by kernel_rfl) (λw d=>⟨g.bxW (mt (mt mh)) d,g.bxW mh d⟩) g (mt (mt (mt (mt mh)))) O O BQ ba O λdm bb=>Yi 10 O O (by kernel_rfl) ?_
   obtain⟨cp,bc,E⟩:=bd E
   refine E3 (r:=AM.int) (l:=W) (i:=A) (x:=cp) O O (⟨_,O,O,cm⟩:Rd _ _ AM.int _ s.1) bb bc Lv.id Ag (λ_=>rfl) g (.tail (.tail (.tail (.tail .head)))) λdn C cq=>Uo (λw d=>⟨C.bxW (mt (mt mh)) d,C.bxW mh d⟩) ?_
   obtain⟨dp,be,E⟩:=bd E
   refine Tm 11 (r:=AM.int) (xs:=V) O (by kernel_rfl) (λw d=>⟨C.bxW (mt (mt mh)) d,C.bxW mh d⟩) C (mt (mt (mt mh))) O O BQ be O λdq bf=>Yi 12 O O (by kernel_rfl) ?_
   obtain⟨cr,bg,E⟩:=bd E
   refine E3 (r:=AM.int) (l:=V) (i:=A) (x:=cr) O O (⟨_,O,O,cn⟩:Rd _ _ AM.int _ s.2.1) bf bg Lv.id Ag (λ_=>rfl) C (.tail (.tail (.tail .head))) λdr D cs=>Uo (λw d=>⟨D.bxW (mt (mt mh)) d,D.bxW mh d⟩) ?_
   obtain⟨ds,bh,E⟩:=bd E
   refine Tm 13 (r:=AM.int) (xs:=U) O (by kernel_rfl) (λw d=>⟨D.bxW (mt (mt mh)) d,D.bxW mh d⟩) D (mt mh) O O BQ bh O λdt bi=>Yi 14 O O (by kernel_rfl) ?_
   obtain⟨ct,bj,E⟩:=bd E
   refine E3 (r:=AM.int) (l:=U) (i:=A) (x:=ct) O O (⟨_,O,O,df⟩:Rd _ _ AM.int _ A) bi bj Lv.id Ag (λ_=>rfl) D (.tail .head) λdu Y cu=>Uo (λw d=>⟨Y.bxW (mt (mt mh)) d,Y.bxW mh d⟩) (Up (by kernel_rfl) (kp [15,62,61,11,10,9,0,6,12,63] O) (BZ (.inl O) (AA O (AA O (Ck O (AK O (kp [12,62,61,11,10,9,0,6,63] O) (BO (BZ (.inl O) (Ai O (AA O (AN (kp [63,12,62,61,11,10,9,0,6] O) (WF.nil (λy z m d=>?_)))))))))))))
   exact⟨(BD (ac-s.1)),(BD (A+1)),(upd U A A),(upd V A s.2.1),(upd W A s.1),_,_,m.sub (kp [62,61,11,10,9,0,6,12,63] O),d,Y,(ag.trans (co.trans (cq.trans (cs.trans cu)))),(BK _),(BK _),E⟩
  refine BC O (λy z m d=>?_)
  exact⟨ac,U,V,W,_,_,m.sub (kp [11,10,9,12] O),d,X,ag,de,E⟩
 rintro y z ⟨ar,a6,a7,au,dv,dw,m,d,ah,cv,e0,E⟩
 refine Ac ?_ m d
 clear m d z y
 rw[EY] at E
 refine WF.sl (AG 3 (AS A9 ah O mh O BW O (YV O dP O (OU O O O (AF ?_)))))
 obtain⟨dx,bk,E⟩:=bd E
 refine Cv O O O aA O (TQ ah bk) λdy dz ai cw p=>?_
 obtain⟨rfl,bl⟩:=p
 refine AZ (kp [11,9,12] O) (AC (AC ?_))
 obtain⟨aj,ak,cx,cy⟩:=bl.pubs (.tail .head)
 refine BZ (.inl O) (AS A9 ak O mh O BW O (AA O ?_))
 obtain⟨a0,bm,E⟩:=bd E
 refine YR O O cy BQ bm O λcz a1=>An O a1 BQ O λd0=>AA O (AN (kp [100,99,98,9] O) (Am (λa w=>∃(am:List Int),IV B aj ai (112,[]) a w [(9,K)] (OS AM.int 3 K am::L) λ_ _=>Fs N am=some r) ?_ ?_))
 ·refine A5 (λn5=>λa w=>∃(M:Int) (J:List Int),IV B aj ai (112,[]) a w [(99,vI (↑a0.length:Int)),(98,cz),(9,K),(100,vI M)] (OS AM.int 3 K J::L) λ_ _=>AH M∧EV N a0 (Fs N) n5 M J=some r) N ?_ ?_ ?_
  ·intro y z m d
   have bn:=ak.sel [3] 3 O
   exact⟨0,au,_,_,m.sub (kp [99,98,9,100] O),d,bn,(CA.refl aj ai),(iq (n:=0) O),E⟩
  ·rintro y z ⟨_,_,_,_,_,_,_,_,_,E⟩
   rw[EV] at E;cases E
  rintro n5 y z ⟨M,J,d1,d2,m,d,F,an,d3,E⟩
  refine Ac ?_ m d
  clear m d z y
  rw[EV] at E
  refine AI (Ar O (AN (kp [101,99,98,9,100] O) (AC (AW O E (λc0 E=>?_) (λc0 E=>?_)))))
  ·refine AQ (AC (BB (AI ?_)))
   obtain⟨a2,bo,E⟩:=bd E
   refine BE O O (a1.mono' an) BQ bo O λd4 c1=>Af A9 F.1 O c1 Ag O λd5=>AK O (kp [19,99,98,9,100] O) (D3 (AG 6 (AA O (AA O ?_))))
   obtain⟨d6,bp,E⟩:=bd E
   refine A8 F mh O O BQ bp O λd7 bq=>?_
   obtain⟨a3,br,E⟩:=bd E
   have c3:=F.epAt mh br E9.id bq
   refine Af A9 (λ_ x=>x) O c3 Ag O λd8=>Ai O ?_
   obtain⟨d9,bs,E⟩:=bd E
   refine A8 F mh O O BQ bs O λea bt=>AF ?_
   obtain⟨c4,bu,E⟩:=bd E
   refine E3 (r:=AM.int) (l:=J) (i:=a2) (x:=c4) O O (⟨_,O,O,(BK _)⟩:Rd _ _ AM.int _ (BD (a3+1))) bt bu Lv.id Ag (λ_=>rfl) F .head λeb bv c5=>AZ (kp [99,98,9,100] O) (BO (BZ (.inl O) (Ai O (AA O (AN (kp [100,99,98,9] O) (WF.nil (λy z m d=>?_)))))))
   exact⟨(BD (M+1)),(upd J a2 (BD (a3+1))),_,_,m.sub (kp [99,98,9,100] O),d,bv,(an.trans c5),(BK _),E⟩
  refine BC O (λy z m d=>?_)
  exact⟨J,_,_,m.sub (kp [9] O),d,F,an,E⟩
 rintro y z ⟨am,ec,ed,m,d,bw,c6,E⟩
 refine Ac ?_ m d
 clear m d z y
 rw[Fs] at E
 refine AI (AA O (AY O (AK O (kp [5,4] O) (Ad (λy z m d=>?_)))))
 cases E
 exact KH m O d (IK (I1 m (v:=_) O) (IK (I1 m (v:=_) O) KG)) O (ab.trans (aq.trans (b7.trans (b8.trans (ca.trans (cd.trans (ce.trans (cg.trans (cv.trans (cw.trans (cx.trans c6))))))))))) ⟨_,O,bw⟩
end Go.Proofs.YtblcgjadhemlbaaGreat
