import Derived.Test.YtibidnaedddfdaaGreatDWalk6
namespace Go.Proofs.YtibidnaedddfdaaGreat
set_option linter.all false
open Go.RowKit
open Go.Proofs.Tryz
set_option maxRecDepth 10000
set_option maxHeartbeats 2000000
variable {N:Nat}{S:Nat→Prop}{L:List HP}{h:BB}
def Ol (hs:St S L h) {c:Value}{z:AU}(u:Rd S h Ch c z) {d:Value}{A:Cf}(w:Rd S h EZ d A) {g:Value}{C:Cr}(x:Rd S h GF g C) {b:Value}{m:(List CW)}(n:Sl S h FB b m) {a:Value}{i:(List Bool)}(k:Sl S h B7.bool a i) {j:Int}(y:AD j) {r:Cf×Int×(List CW)×AU×(List Bool)×Cr}(E:JL N z A C m i j=some r):
 Ct prog 57 #[c,d,g,b,a,vI j] S h (λv S' h'=>∃G H I J K M:Value,v= .func (.func 119) #[] #[G,H,I,J,K,M]∧Pt S' h' EZ G r.1∧Pt S' h' BQ H r.2.1∧Pt S' h' (B7.sl FB) I r.2.2.1∧Pt S' h' Ch J r.2.2.2.1∧Pt S' h' (B7.sl B7.bool) K r.2.2.2.2.1∧Pt S' h' GF M r.2.2.2.2.2∧St S' (L) h'):=by
 refine BO (l:=[c,d,g,b,a,vI j]) 14 func57 O ntmps57 O λB=>?_
 rw[JL] at E
 refine WF.sl (BM O u (λe=>by cases e) O hs λq1 S2 h3 Y Z k6=>BM O (w.mono Z) (λe=>by cases e) O Y λq8 S9 ag Q D ab=>BM O (x.mono (Z.trans D)) (λe=>by cases e) O Q λah ai aj U F ac=>?_)
 have p:=Z.trans (D.trans F)
 refine BM O (RU (n.mono' p)) (λ_=>rfl) O U λak al am V s ad=>BM O (RU (k.mono' (p.trans s))) (λ_=>rfl) O V λan ao ap W t ae=>BM O (⟨_,O,O,y⟩:Rd _ _ BQ _ j) (λ_=>rfl) O W λaq ar au X o af=>A5 1 (A4 O (A6 (AS (kp [11,10,9,8,7,6] O) (AE (KD O O O (AJ O (kp [12] O) (WF.ret (λaa ww hf hw=>?_))))))))
 cases E
 exact EU hf hw O O (p.trans (s.trans (t.trans o))) ⟨_,_,_,_,_,_,O,(ab.mono (F.trans (s.trans (t.trans o)))),af,(ad.mono (t.trans o)),(k6.mono (D.trans (F.trans (s.trans (t.trans o))))),(ae.mono o),(ac.mono (s.trans (t.trans o))),X⟩
def Se (hs:St S L h) {i:Value}{g:Cr}(m:Rd S h GF i g) {c:Int}(p:AD c) {b:Int}(n:AD b) {r:(List AH)}(E:JC N g c b=some r):
 Ct prog 120 #[i,vI c,vI b] S h (λv S' h'=>St S' (OS AM 51 v r::L) h'):=by
 refine BO (l:=[i,vI c,vI b]) 43 func120 O ntmps120 O λB=>?_
 rw[JC] at E
 refine WF.sl (BM O m (λe=>by cases e) O hs λq1 S2 h3 y J k6=>A5 1 (A4 O (A6 (AS (kp [3,1,2] O) (AC (AE (AA O (BE O (AA O (AO 3 14 (.bool ((decide (b<1))||(decide (64<b)))) ?_ ?_))))))))))
 ·cases c7:(decide (b<1))
  ·exact AB O (AA O (AB O (CN O (AI O (AN O)))))
  exact AX O O
 refine AL (kp [14,3,1,2] O) (AW O E (λc8 E=>?_) (λc8 E=>?_))
 ·refine AE (AJ O (kp [6] O) (WF.ret (λu x j k=>?_)))
  have K:=y.nil AM 51
  cases E
  exact EU j k O O J K
 refine AQ (WF.sl (A5 1 (AA O (A6 ?_))))
 obtain⟨z,E⟩:=TW E
 refine Pr (r:=AM) (zx:=(⟨0,0⟩:AH)) SW O ⟨O,by unfold AH.ok AD;simp [IntKind.has,IntKind.min,IntKind.max,IntKind.bits,IntKind.signed]⟩ O O z O O y λA C d s=>A5 1 (A4 O (A6 (AS (kp [7,3,1] O) (AC (AE (AA O ?_))))))
 have o:=k6.mono s
 refine AV O o Cr.f_From Nn O λaf M=>AY BX d.1 O M AZ O λag=>BE O (AL (kp [20,7,3,1] O) (AW O E (λQ E=>?_) (λQ E=>?_)))
 ·refine AE (AA O (AJ O (kp [6] O) (WF.ret (λu x j k=>?_))))
  cases E
  exact EU j k O O (J.trans s) d
 refine AQ (AC (AE (AA O (AV O o Cr.f_From Nn O λah U=>AY BX d.1 O U AZ O λai=>FU O (AJ O (kp [8,7,3] O) (AE (AA O (EQ O (AA O (AO 6 34 (.bool ((decide (0≤(B8 (c-g.I))))&&(decide ((B8 (c-g.I))<(↑g.Ai.length:Int))))) ?_ ?_))))))))))
 ·cases aj:(decide (0≤(B8 (c-g.I))))
  ·exact AX O O
  exact AB O (AA O (AB O (AV O o Cr.f_Rain Nm O λak V=>AB O (BR BX d.1 O V Qq O λal W=>AB O (BJ O W PE O λam=>AB O (BE O (AI O (AN O))))))))
 refine AL (kp [34,8,7,3] O) (HW (λa w=>∃(t:List AH),IV B S2 C (43,[]) a w [(7,A)] (OS AM 51 A t::L) λ_ _=>Iy N t=some r) ?_ ?_)
 ·refine AW O E (λX E=>?_) (λX E=>?_)
  ·refine Gf (A5 6 (AA O (AV O o Cr.f_Rain Nm O λan Y=>BR BX d.1 O Y Qq O λao Z=>AA O ?_)))
   obtain⟨D,F,E⟩:=bd E
   refine B6 O O Z PE F O λap ab=>BR BX d.1 O ab IK O λaq ac=>A6 (bO (r:=AM) (l:=(List.replicate (b:Int).toNat ((⟨0,0⟩:AH):AH))) (xs:=D) O O Gs (Sl.src ac) O d .head λar G ad=>AS (kp [7] O) (WF.nil (λu x j k=>?_)))
   exact⟨(XX (List.replicate (b:Int).toNat ((⟨0,0⟩:AH):AH)) D),_,_,j.sub (kp [7] O),k,G,ad,E⟩
  refine AQ (WF.nil (λu x j k=>?_))
  exact⟨(List.replicate (b:Int).toNat ((⟨0,0⟩:AH):AH)),_,_,j.sub (kp [7] O),k,d,(Cm.refl S2 C),E⟩
 rintro u x ⟨t,au,av,j,k,H,ae,E⟩
 refine A8 ?_ j k
 clear j k x u
 rw[Iy] at E
 refine AE (AA O (AJ O (kp [6] O) (WF.ret (λu x j k=>?_))))
 cases E
 exact EU j k O O (J.trans (s.trans ae)) H
def Gk (o:St S L h) {a:Value}{c:(List AH)}(b:Sl S h AM a c) {r:(List AH)}(E:Cu N c=some r):
 Ct prog 48 #[a] S h (λv S' h'=>St S' (OS AM 51 v r::L) h'):=by
 refine BO (l:=[a]) 8 func48 O ntmps48 O λB=>?_
 rw[Cu] at E
 rcases b.cases with ⟨rfl,rfl⟩|⟨t,p,rfl,b⟩
 ·have x:(some ([]:List AH))=some r:=by simpa [chk,room] using E
  refine AE (AJ O (kp [0] O) (AC (AE (AA O (Ub O O O VJ (AL (kp [4,0] O) (ND O (AE (AJ O (kp [2] O) (WF.ret (λu w d g=>?_)))))))))))
  have i:=o.nil AM 51
  cases E
  exact EU d g O O (Cm.refl S h) i
 refine AE (AJ O (kp [0] O) (AC (AE (AA O (XP O O O VJ (AL (kp [4,0] O) (RS O (AQ (WF.sl (XS (r:=AM) SW O O o λy z j s=>A5 1 (AA O (A6 ?_))))))))))))
 obtain⟨k,E⟩:=TW E
 refine Rf (r:=AM) (l:=([]:List AH)) (xs:=c) O O SW O (Sl.src (b.mono' s)) O k O j (λ_=> .head) λA C m n=>A5 1 (A4 O (A6 (AS (kp [2] O) (WF.ret (λu w d g=>?_)))))
 cases E
 exact EU d g O O (s.trans n) m
def GZ (o:St S L h) {a:Value}{c:(List BA)}(b:Sl S h BK a c) {r:(List BA)}(E:Cp N c=some r):
 Ct prog 49 #[a] S h (λv S' h'=>St S' (OS BK 97 v r::L) h'):=by
 refine BO (l:=[a]) 8 func49 O ntmps49 O λB=>?_
 rw[Cp] at E
 rcases b.cases with ⟨rfl,rfl⟩|⟨t,p,rfl,b⟩
 ·have x:(some ([]:List BA))=some r:=by simpa [chk,room] using E
  refine AE (AJ O (kp [0] O) (AC (AE (AA O (Ub O O O VI (AL (kp [4,0] O) (ND O (AE (AJ O (kp [2] O) (WF.ret (λu w d g=>?_)))))))))))
  have i:=o.nil BK 97
  cases E
  exact EU d g O O (Cm.refl S h) i
 refine AE (AJ O (kp [0] O) (AC (AE (AA O (XP O O O VI (AL (kp [4,0] O) (RS O (AQ (WF.sl (XS (r:=BK) Y1 O O o λy z j s=>A5 1 (AA O (A6 ?_))))))))))))
 obtain⟨k,E⟩:=TW E
 refine Rf (r:=BK) (l:=([]:List BA)) (xs:=c) O O Y1 O (Sl.src (b.mono' s)) O k O j (λ_=> .head) λA C m n=>A5 1 (A4 O (A6 (AS (kp [2] O) (WF.ret (λu w d g=>?_)))))
 cases E
 exact EU d g O O (s.trans n) m
def Ia (m:St S L h) {d:Int}(i:AD d) {b:Int}(g:AD b) {a:Int}(c:AD a) {r:Int}(E:GQ N d b a=some r):
 Ct prog 145 #[vI d,vI b,vI a] S h (λv S' h'=>v=vI r∧AD r∧St S' (L) h'):=by
 refine BO (l:=[vI d,vI b,vI a]) 16 func145 O ntmps145 O λB=>?_
 rw[GQ] at E
 refine AE (AJ O (kp [0,1,2] O) (AC (AE (AA O (AA O (BE O (AL (kp [9,0,1,2] O) (AW O E (λp E=>?_) (λp E=>?_)))))))))
 ·refine AE (AA O (AJ O (kp [6] O) (WF.ret (λn o j k=>?_))))
  cases E
  exact EU j k O O (Cm.refl S h) ⟨O,g,m⟩
 refine AQ (AC (AE (AA O (AA O (CN O (AL (kp [13,0,2] O) (AW O E (λq E=>?_) (λq E=>?_))))))))
 ·refine AE (AA O (AJ O (kp [6] O) (WF.ret (λn o j k=>?_))))
  cases E
  exact EU j k O O (Cm.refl S h) ⟨O,c,m⟩
 refine AQ (AE (AA O (AJ O (kp [6] O) (WF.ret (λn o j k=>?_)))))
 cases E
 exact EU j k O O (Cm.refl S h) ⟨O,i,m⟩
def Q5 (hs:St S L h) {d:Value}{u:A7}(m:Rd S h CI d u) {g:Value}{b:Et}(o:Rd S h Hr g b) {c:Int}(i:AD c) {r:Et}(E:J4 N u b c=some r):
 Ct prog 100 #[d,g,vI c] S h (λv S' h'=>v= .agg #[vI r.P,vI r.T,.bool r.Ay,.bool r.R]∧Et.ok r∧St S' (L) h'):=by
 refine BO (l:=[d,g,vI c]) 16 func100 O ntmps100 O λB=>?_
 rw[J4] at E
 refine WF.sl (BM O m (λe=>by cases e) O hs λq1 S2 h3 X e5 k6=>?_)
 obtain⟨rfl,⟨r9,Y⟩⟩:=Hr.ex (o.mono e5)
 refine OL O O O X λA am C D=>CX VA O C λF G j H=>AS (kp [6,4,3,2] O) (AC (AE ?_))
 have I:=k6.mono (D.trans H)
 refine AV O I DD Hg O λan Z=>AY BX j.1 O Z AZ O λao=>Cq O (AL (kp [9,6,4,3,2] O) (HW (λa w=>∃(k:Int),IV B S2 G (16,[]) a w [(6,vP F 0),(4,vP A 0)] (Bx F 81 [vI 0,vI 0,.bool false,.bool false]::Bx A 81 [vI b.P,vI k,.bool b.Ay,.bool b.R]::L) λ_ _=>AD k∧IP N b k=some r) ?_ ?_))
 ·refine AW O E (λab E=>?_) (λab E=>?_)
  ·refine Gf (A5 3 (AA O (AV O I DD Hg O λap ac=>AY BX j.1 O ac AZ O λad=>A6 ?_)))
   obtain⟨z,J,E⟩:=bd E
   refine Ea O O O RL O j (Ia (St.all _) i (iq (n:=0) O) ad J) λaq ar au K ae av p=>?_
   obtain⟨rfl,af,ak⟩:=p
   refine A5 1 (AF UD O (A6 (Jg (vs:=[vI z]) (cs':=[vI b.P,vI z,.bool b.Ay,.bool b.R]) O O O O AZ O K (.tail .head) O O λaw M ag=>AS (kp [6,4] O) (WF.nil (λV W s t=>?_)))))
   exact⟨z,_,_,s.sub (kp [6,4] O),t,M,(ae.trans ag),af,E⟩
  refine AQ (WF.nil (λV W s t=>?_))
  exact⟨b.T,_,_,s.sub (kp [6,4] O),t,j,(Cm.refl S2 G),Y,E⟩
 rintro V W ⟨k,ax,ay,s,t,x,ah,ai,E⟩
 refine A8 ?_ s t
 clear s t W V
 rw[IP] at E
 refine WF.sl (A5 1 (Cw (vs:=[vI b.P,vI k,.bool b.Ay,.bool b.R]) BX x O (mt mh) O O Jw O O (A6 (BU (vs:=[vI b.P,vI k,.bool b.Ay,.bool b.R]) O O O O Jw O x .head O λaz Q aj=>AS (kp [6] O) (WF.ret (λV W s t=>?_))))))
 have y:=Q.drop (.tail .head)
 have U:=y.drop .head
 cases E
 exact I1 s O t (IH (M2 s t y O mh Jw O) Io) O (e5.trans (D.trans (H.trans (ah.trans aj)))) ⟨O,⟨r9,ai⟩,U⟩
def Ek (j:St S L h) {b:Int}(g:AD b) {a:Int}(i:AD a) {r:Int}(E:Dg N b a=some r):
 Ct prog 106 #[vI b,vI a] S h (λv S' h'=>v=vI r∧AD r∧St S' (L) h'):=by
 refine BO (l:=[vI b,vI a]) 24 func106 O ntmps106 O λB=>?_
 rw[Dg] at E
 refine AE (AJ O (kp [0,1] O) (AC (AE (AA O (BE O (AA O (AO 5 12 (.bool ((decide (a<0))&&(decide ((B8 (9223372036854775807+a))<b)))) ?_ ?_)))))))
 ·cases q:(decide (a<0))
  ·exact AX O O
  exact AB O (AA O (AB O (AA O (AB O (BD O (AB O (CN O (AI O (AN O)))))))))
 refine AL (kp [12,0,1] O) (AW O E (λo E=>?_) (λo E=>?_))
 ·refine AE (AJ O (kp [4] O) (WF.ret (λk m c d=>?_)))
  cases E
  exact EU c d O O (Cm.refl S h) ⟨O,(iq (n:=9223372036854775807) O),j⟩
 refine AQ (AC (AE (AA O (CN O (AA O (AO 5 20 (.bool ((decide (0<a))&&(decide (b<(B8 ((-9223372036854775808)+a)))))) ?_ ?_))))))
 ·cases s:(decide (0<a))
  ·exact AX O O
  exact AB O (AA O (AB O (AA O (AB O (BD O (AB O (BE O (AI O (AN O)))))))))
 refine AL (kp [20,0,1] O) (AW O E (λp E=>?_) (λp E=>?_))
 ·refine AE (AJ O (kp [4] O) (WF.ret (λk m c d=>?_)))
  cases E
  exact EU c d O O (Cm.refl S h) ⟨O,(iq (n:=(-9223372036854775808)) O),j⟩
 refine AQ (AE (AA O (AA O (FU O (AJ O (kp [4] O) (WF.ret (λk m c d=>?_)))))))
 cases E
 exact EU c d O O (Cm.refl S h) ⟨O,(CJ _),j⟩
def GR (j:St S L h) {b:Int}(g:AD b) {a:Int}(i:AD a) {r:Int}(E:Ex N b a=some r):
 Ct prog 60 #[vI b,vI a] S h (λv S' h'=>v=vI r∧AD r∧St S' (L) h'):=by
 refine BO (l:=[vI b,vI a]) 24 func60 O ntmps60 O λB=>?_
 rw[Ex] at E
 refine AE (AJ O (kp [0,1] O) (AC (AE (AA O (CN O (AA O (AO 5 12 (.bool ((decide (0<a))&&(decide ((B8 (9223372036854775807-a))<b)))) ?_ ?_)))))))
 ·cases q:(decide (0<a))
  ·exact AX O O
  exact AB O (AA O (AB O (AA O (AB O (FU O (AB O (CN O (AI O (AN O)))))))))
 refine AL (kp [12,0,1] O) (AW O E (λo E=>?_) (λo E=>?_))
 ·refine AE (AJ O (kp [4] O) (WF.ret (λk m c d=>?_)))
  cases E
  exact EU c d O O (Cm.refl S h) ⟨O,(iq (n:=9223372036854775807) O),j⟩
 refine AQ (AC (AE (AA O (BE O (AA O (AO 5 20 (.bool ((decide (a<0))&&(decide (b<(B8 ((-9223372036854775808)-a)))))) ?_ ?_))))))
 ·cases s:(decide (a<0))
  ·exact AX O O
  exact AB O (AA O (AB O (AA O (AB O (FU O (AB O (BE O (AI O (AN O)))))))))
 refine AL (kp [20,0,1] O) (AW O E (λp E=>?_) (λp E=>?_))
 ·refine AE (AJ O (kp [4] O) (WF.ret (λk m c d=>?_)))
  cases E
  exact EU c d O O (Cm.refl S h) ⟨O,(iq (n:=(-9223372036854775808)) O),j⟩
 refine AQ (AE (AA O (AA O (BD O (AJ O (kp [4] O) (WF.ret (λk m c d=>?_)))))))
 cases E
 exact EU c d O O (Cm.refl S h) ⟨O,(CJ _),j⟩
def QA (hs:St S L h) {c:Value}{k:A7}(g:Rd S h CI c k) {d:Value}{a:Et}(i:Rd S h Hr d a) {r:Et}(E:KU N k a=some r):
 Ct prog 147 #[c,d] S h (λv S' h'=>v= .agg #[vI r.P,vI r.T,.bool r.Ay,.bool r.R]∧Et.ok r∧St S' (L) h'):=by
 refine BO (l:=[c,d]) 26 func147 O ntmps147 O λB=>?_
 rw[KU] at E
 refine WF.sl (BM O g (λe=>by cases e) O hs λq1 S2 h3 V W k6=>?_)
 obtain⟨rfl,⟨X,w⟩⟩:=Hr.ex (i.mono W)
 refine OL O O O V λau av z x=>CX VA O z λaw ax b y=>AS (kp [4,3,2] O) (AC (AE (AF YA O (AT BX b O (mt mh) O N7 O (AL (kp [7,4,3,2] O) (AW O E (λY E=>?_) (λY E=>?_)))))))
 ·refine WF.sl (A5 1 (Cw (vs:=[vI a.P,vI a.T,.bool a.Ay,.bool a.R]) BX b O (mt mh) O O Jw O O (A6 (BU (vs:=[vI a.P,vI a.T,.bool a.Ay,.bool a.R]) O O O O Jw O b .head O λay A Z=>AS (kp [4] O) (WF.ret (λaa ww C D=>?_))))))
  have m:=A.drop (.tail .head)
  have F:=m.drop .head
  cases E
  exact I1 C O D (IH (M2 C D m O mh Jw O) Io) O (W.trans (x.trans (y.trans Z))) ⟨O,⟨X,w⟩,F⟩
 refine AQ (AC (WF.rc (.inr ⟨mo,by kernel_rfl⟩) b (AF UD O (AT Bs b O (mt mh) O AZ O (AF Q7 O (AT Bs b O (mt mh) O AZ O ?_))))))
 obtain⟨az,G,E⟩:=bd E
 refine Bz O O O Jc O (λh' o=>Ek (St.all h') w X G) λab=>?_
 have ac:=ab
 have H:=k6.mono (x.trans y)
 refine AV O H G6 J2 O λa0 ad=>AY Bs b.1 O ad AZ O λae=>?_
 obtain⟨a1,I,E⟩:=bd E
 refine Bz O O O Jc O (λh' o=>Ek (St.all h') (iq (n:=0) O) ae I) λaf=>?_
 have ag:=af
 refine AV O H G6 J2 O λa2 ah=>AY Bs b.1 O ah AZ O λai=>?_
 obtain⟨a3,J,E⟩:=bd E
 refine Bz O O O RL O (λh' o=>Ia (St.all h') ac ag ai J) λaj=>?_
 have ak:=aj
 refine A4 O (Bu (kp [5,4,3] O) λa4 s am=>WF.sl (A5 3 (AF Q7 O (AT BX s O (mt mh) O AZ O (AA O (A6 ?_))))))
 obtain⟨j,K,E⟩:=bd E
 refine Ea O O O OY O s (GR (St.all _) X ak K) λa5 a6 a7 M an a8 p=>?_
 obtain⟨rfl,ao,ar⟩:=p
 refine A5 1 (AF Q7 O (A6 (Jg (vs:=[vI j]) (cs':=[vI j,vI a.T,.bool a.Ay,.bool a.R]) O O O O AZ O M (.tail .head) O O λa9 t ap=>AS (kp [4,3] O) (WF.sl (A5 1 (Cw (vs:=[vI j,vI a.T,.bool a.Ay,.bool a.R]) BX t O (mt mh) O O Jw O O (A6 (BU (vs:=[vI j,vI a.T,.bool a.Ay,.bool a.R]) O O O O Jw O t .head O λba Q aq=>AS (kp [4] O) (WF.ret (λaa ww C D=>?_))))))))))
 have u:=Q.drop (.tail .head)
 have U:=u.drop .head
 cases E
 exact I1 C O D (IH (M2 C D u O mh Jw O) Io) O (W.trans (x.trans (y.trans (am.trans (an.trans (ap.trans aq)))))) ⟨O,⟨ao,w⟩,U⟩
def Kl (m:St S L h) {a:Int}(d:AD a) {b:Value}{j:A7}(g:Pt S h CI b j) {c:Value}{c2_:BA}(i:Pt S h BK c c2_) {r:Int}(E:HR N j c2_ a=some r):
 Ct prog 146 #[vI a,b,c] S h (λv S' h'=>v=vI r∧AD r∧St S' (L) h'):=by
 refine BO (l:=[vI a,b,c]) 12 func146 O ntmps146 O λB=>?_
 rw[HR] at E
 refine AE (AJ O (kp [0,1,2] O) (AC (WF.rc (.inl O) m (BP Bs m.1 O g FC (λe=>by cases e) O λC q=>AA O (AV O i BA.f_Target Oy O λD s=>AY Bs m.1 O s AZ O λt=>DB (cs:=[vI a,vI c2_.T,.bool false,.bool false]) VZ O O O ?_)))))
 obtain⟨F,n,E⟩:=bd E
 refine Bz O O O aA O (λh' o=>QA (St.all h') (q.mono (o.all m.1)) (Hr.mk (x:=(⟨a,c2_.T,false,false⟩:Et)) ⟨d,t⟩) n) λu=>?_
 obtain⟨w,G⟩:=u
 refine NF O X9 O O (A4 O (Bu (kp [4] O) λy k p=>WF.ret (λH I z A=>?_)))
 cases E
 exact EU z A O O p ⟨O,w,k⟩
def PR (hs:St S L h) {g:Value}{G:A7}(s:Rd S h CI g G) {i:Value}{a:BA}(t:Rd S h BK i a) {d:Bool}{r:BA}(E:Iv N G a d=some r):
 Ct prog 101 #[g,i,.bool d] S h (λv S' h'=>v= .agg #[vI r.P.B,vI r.P.A,vI r.T,vI r.R.B,vI r.R.A]∧BA.ok r∧St S' (L) h'):=by
 refine BO (l:=[g,i,.bool d]) 44 func101 O ntmps101 O λB=>?_
 rw[Iv] at E
 refine WF.sl (BM O s (λe=>by cases e) O hs λq1 S2 h3 aj e5 k6=>?_)
 obtain⟨rfl,⟨r9,u,w,y,z⟩⟩:=BK.ex (t.mono e5)
 refine OL O O O aj λbf bg Q C=>CX Th O Q λbh bi c D=>AS (kp [6,4,3,2] O) (AC (AE (AA O (AL (kp [8,6,4,3] O) (AW O E (λak E=>?_) (λak E=>?_))))))
 ·refine AE (KD O O O (AJ O (kp [7,6,4] O) (AC (F6 12 mo (by kernel_rfl) O c (AA O (AF JJ O (AF EV O (AT Bs c O (mt mh) O AZ O ?_))))))))
  have U:=k6.mono (C.trans D)
  obtain⟨j,V,E⟩:=bd E
  refine Bz O O O Wq O (λh' o=>Kl (St.all h') r9 (U.mono (o.all c.1)) (N0.mono (c.bxAll (r:=BK) (x:=a) (mt mh) ⟨O,⟨r9,u,w,y,z⟩⟩) ⟨λb M=>iY M o.siz,λb M=>o.same b M,o.siz⟩) V) λam=>?_
  have an:=am
  refine AA O (AF JJ O (AF D2 O (AT Bs c O (mt mh) O AZ O ?_)))
  obtain⟨k,W,E⟩:=bd E
  refine Bz O O O Wq O (λh' o=>Kl (St.all h') u (U.mono (o.all c.1)) (N0.mono (c.bxAll (r:=BK) (x:=a) (mt mh) ⟨O,⟨r9,u,w,y,z⟩⟩) ⟨λb M=>iY M o.siz,λb M=>o.same b M,o.siz⟩) W) λao=>?_
  have ap:=ao
  refine DB (cs:=[vI j,vI k]) Ip O O O (AF JJ O (E0 λbj X aq=>Jg (vs:=[vI j,vI k]) (cs':=[vI j,vI k,vI a.T,vI a.R.B,vI a.R.A]) O O O O BY O X (.tail .head) O O λbk H ar=>AS (kp [6,4] O) (WF.sl (A5 1 (Cw (vs:=[vI j,vI k,vI a.T,vI a.R.B,vI a.R.A]) BX H O (mt mh) O O IG O O (A6 (BU (vs:=[vI j,vI k,vI a.T,vI a.R.B,vI a.R.A]) O O O O IG O H .head O λbl Y au=>AS (kp [6] O) (WF.ret (λaa ww Z hw=>?_)))))))))
  have I:=Y.drop (.tail .head)
  have ab:=I.drop .head
  cases E
  exact I1 Z O hw (IH (M2 Z hw I O mh IG O) Io) O (e5.trans (C.trans (D.trans (aq.trans (ar.trans au))))) ⟨O,⟨an,ap,w,y,z⟩,ab⟩
 refine AQ (AC (F6 20 mo (by kernel_rfl) O c (AF JJ O (AF EV O (AT Bs c O (mt mh) O AZ O ?_)))))
 have F:=k6.mono (C.trans D)
 refine AV O F G6 J2 O λbm av=>AY Bs c.1 O av AZ O λaw=>?_
 obtain⟨bn,ac,E⟩:=bd E
 refine Bz O O O Jc O (λh' o=>Ek (St.all h') r9 aw ac) λax=>?_
 have ay:=ax
 refine AV O F DD Hg O λbo az=>AY Bs c.1 O az AZ O λa0=>?_
 obtain⟨m,ad,E⟩:=bd E
 refine Bz O O O RL O (λh' o=>Ia (St.all h') ay (iq (n:=0) O) a0 ad) λa1=>?_
 have a2:=a1
 refine AF JJ O (AF D2 O (AT Bs c O (mt mh) O AZ O (AV O F G6 J2 O λbp a3=>AY Bs c.1 O a3 AZ O λa4=>?_)))
 obtain⟨bq,ae,E⟩:=bd E
 refine Bz O O O OY O (λh' o=>GR (St.all h') u a4 ae) λa5=>?_
 have a6:=a5
 refine AV O F DD Hg O λbr a7=>AY Bs c.1 O a7 AZ O λa8=>?_
 obtain⟨p,af,E⟩:=bd E
 refine Bz O O O RL O (λh' o=>Ia (St.all h') a6 (iq (n:=0) O) a8 af) λa9=>?_
 have ba:=a9
 refine DB (cs:=[vI m,vI p]) Ip O O O (AF JJ O (E0 λbs ag bb=>Jg (vs:=[vI m,vI p]) (cs':=[vI m,vI p,vI a.T,vI a.R.B,vI a.R.A]) O O O O BY O ag (.tail .head) O O λbt J bc=>AS (kp [6,4] O) (WF.sl (A5 1 (Cw (vs:=[vI m,vI p,vI a.T,vI a.R.B,vI a.R.A]) BX J O (mt mh) O O IG O O (A6 (BU (vs:=[vI m,vI p,vI a.T,vI a.R.B,vI a.R.A]) O O O O IG O J .head O λbu ah be=>AS (kp [6] O) (WF.ret (λaa ww Z hw=>?_)))))))))
 have K:=ah.drop (.tail .head)
 have ai:=K.drop .head
 cases E
 exact I1 Z O hw (IH (M2 Z hw K O mh IG O) Io) O (e5.trans (C.trans (D.trans (bb.trans (bc.trans be))))) ⟨O,⟨a2,ba,w,y,z⟩,ai⟩
def Mg {k:Nat}{p0_w:BS}{t:Value}{u:Value}{s:Value}{y:Value}{z:Value}{A:Value}{G:Value}{U:Value}{c:Value}{m:Value}{j:Value}{d:Value}(hs:St S (Bx k 106 [.string p0_w.b.J,t,vI p0_w.b.W,u,s,y,z,A,G,U,vI p0_w.b.Z,vI p0_w.h.K,c,m,j,d]::OS AM 51 c p0_w.h.M::OS BK 97 j p0_w.h.F::OS AM 51 d p0_w.peaks::L) h) (c4:p0_w.b.J.size≤maxLen) (c5:Sl S h B7.str t p0_w.b.Ar) (c6:AD p0_w.b.W) (c7:Sl S h Cb u p0_w.b.D) (ae:Sl S h CI s p0_w.b.F) (c8:Sl S h Fi y p0_w.b.Ac) (c9:Sl S h Ez z p0_w.b.Am) (da:Sl S h GN A p0_w.b.An) (db:Sl S h Dr G p0_w.b.Aq) (dc:Sl S h BQ U p0_w.b.Ap) (b6:AD p0_w.b.Z) (b7:AD p0_w.h.K) (b8:Sl S h Ce m p0_w.h.S) {aj:Value}{ab:CW}(be:Rd S h FB aj ab) {p:Value}{X:(List Bool)}(ak:Sl S h B7.bool p X) {r:(List BA)}(E:Gw N p0_w ab X=some r):
 Ct prog 50 #[vP k 0,aj,p] S h (λv S' h'=>∃a4:Value,v= .tuple #[]∧St S' (Bx k 106 [.string p0_w.b.J,t,vI p0_w.b.W,u,s,y,z,A,G,U,vI p0_w.b.Z,vI p0_w.h.K,c,m,a4,d]::OS AM 51 c p0_w.h.M::OS BK 97 a4 r::OS AM 51 d p0_w.peaks::L) h'):=by
 refine BO (l:=[vP k 0,aj,p]) 155 func50 O ntmps50 O λB=>?_
 rw[Gw] at E
 refine WF.sl (BM O be (λe=>by cases e) O hs λq1 S2 h3 dd e5 k6=>AS (kp [4,0,2] O) (AC (AE (AV O k6 LS UH O λq7 k8=>BR BX dd.1 O k8 Yt O λv9 de=>BJ O de Vc O λho=>AA O (AL (kp [16,15,14,4,0,2] O) (BG (λa w=>∃(bp:List BA),IV B S2 h3 (155,[]) a w [(4,q1),(0,vP k 0),(2,p)] (Bx k 106 [.string p0_w.b.J,t,vI p0_w.b.W,u,s,y,z,A,G,U,vI p0_w.b.Z,vI p0_w.h.K,c,m,j,d]::OS AM 51 c p0_w.h.M::OS BK 97 j bp::OS AM 51 d p0_w.peaks::L) λ_ _=>Ck N p0_w ab X bp=some r) ?_ ?_))))))
 ·refine Bt (λn1=>λa w=>∃(az:Int) (ap:List BA),IV B S2 h3 (155,[]) a w [(15,vI (↑ab.Ba.length:Int)),(14,v9),(4,q1),(0,vP k 0),(2,p),(16,vI az)] (Bx k 106 [.string p0_w.b.J,t,vI p0_w.b.W,u,s,y,z,A,G,U,vI p0_w.b.Z,vI p0_w.h.K,c,m,j,d]::OS AM 51 c p0_w.h.M::OS BK 97 j ap::OS AM 51 d p0_w.peaks::L) λ_ _=>AD az∧CD N p0_w ab (Ck N p0_w ab X) n1 az ap=some r) N ?_ ?_ ?_
  ·intro aa ww hf hw
   exact⟨0,p0_w.h.F,_,_,hf.sub (kp [15,14,4,0,2,16] O),hw,dd,(Cm.refl S2 h3),(iq (n:=0) O),E⟩
  ·rintro aa ww ⟨_,_,_,_,_,_,_,_,_,E⟩
   rw[CD] at E;cases E
  rintro n1 aa ww ⟨az,ap,fo,fp,hf,hw,bf,bg,hp,E⟩
  refine A8 ?_ hf hw
  clear hf hw ww aa
  rw[CD] at E
  refine AE (BE O (AL (kp [17,15,14,4,0,2,16] O) (AC (AW O E (λfq E=>?_) (λfq E=>?_)))))
  ·refine AQ (AC (BG (λa w=>∃(bq:List BA),IV B fo fp (155,[]) a w [(15,vI (↑ab.Ba.length:Int)),(14,v9),(4,q1),(0,vP k 0),(2,p),(16,vI az)] (Bx k 106 [.string p0_w.b.J,t,vI p0_w.b.W,u,s,y,z,A,G,U,vI p0_w.b.Z,vI p0_w.h.K,c,m,j,d]::OS AM 51 c p0_w.h.M::OS BK 97 j bq::OS AM 51 d p0_w.peaks::L) λ_ _=>Dw N az (CD N p0_w ab (Ck N p0_w ab X) n1) bq=some r) ?_ ?_))
   ·refine WF.sl (A5 2 ?_)
    obtain⟨bb,df,E⟩:=bd E
    refine B6 O O (de.mono' bg) Vc df O λhq fr=>BP BX bf.1 O fr VR (λe=>by cases e) O λhr fs=>A6 (CX ZE O bf λht hu dg a0=>?_)
    obtain⟨rfl,⟨hv,ft⟩⟩:=Hv.ex (fs.mono a0)
    refine BU (vs:=[vI bb.C,vI bb.Al]) O O O O VR O dg .head O λhx aq bc=>AS (kp [7,15,14,4,0,2,16] O) (AC (AC (WF.rc (.inr ⟨mo,by kernel_rfl⟩) aq (AF Nl O (AT Bs aq O mh O AZ O (AA O (FV O O (AF HK O (AF Gu O (AT Bs aq O (mt mh) O JP O (BJ O (ae.mono' (e5.trans (bg.trans (a0.trans bc)))) Ht O λfu=>?_)))))))))))
    obtain⟨fv,dh,E⟩:=bd E
    refine BL O O O Sf O (λh' o=>H0 (St.all h') ft (LW fu) dh) (BT O (AA O ?_))
    obtain⟨fw,ah,E⟩:=bd E
    refine AO 12 42 (.bool fw) ?_ ?_
    ·cases di:(!fv)
     ·have ah:=GY di ah
      refine AB O (AA O (AB O (FV O O (AB O (AF HK O (AB O (AF Gu O (AB O (AT Bs aq O (mt mh) O JP O (AB O (AF Nl O (AB O (AT Bs aq O mh O AZ O (AB O ?_))))))))))))))
      obtain⟨hy,dj,ah⟩:=bd ah
      refine B6 O O (ae.mono' (e5.trans (bg.trans (a0.trans bc)))) Ht dj O λhz fx=>AB O (AV O fx A7.f_Kind E6 O λh0 fy=>AB O (AY Bs aq.1 O fy AZ O λh1=>AB O (Cq O (AI O ?_))))
      cases ah
      exact AN O
     have ah:=GX di ah
     cases ah
     exact AX O O
    refine Bu (kp [42,7,15,14,4,0,2,16] O) λh2 af br=>AW O E (λfz E=>?_) (λfz E=>?_)
    ·refine WF.exit O (λaa ww hf hw=>?_)
     have dk:=af.sel [1,1,1,1] 1 O
     exact⟨ap,_,_,hf.sub (kp [15,14,4,0,2,16] O),hw,dk,(a0.trans (bc.trans br)),E⟩
    refine AQ (AE (AF WI O (AT BX af O mh O AZ O (AL (kp [44,7,15,14,4,0,2,16] O) (BW (AE (CR O (AJ O (kp [45,44,7,15,14,4,0,2,16] O) (AW O E (λf0 E=>?_) (λf0 E=>?_))))))))))
    ·refine F6 10 mo (by kernel_rfl) O af (AA O (FV O O (AF Fd O (AF IU O (AT Bs af O (mt mh) O LK O (AF Nl O (AT Bs af O mh O AZ O ?_)))))))
     obtain⟨dl,dm,E⟩:=bd E
     refine Bz O O O Mr O (λh' o=>GP (St.all h') (iq (n:=1) O) dm) λf1=>?_
     obtain⟨f2,f3⟩:=f1
     obtain⟨h4,dn,E⟩:=bd E
     refine DN af (mt (mt (mt mh))) O O Lo dn O λh5 dp=>NG O dp JI O λh6 dq=>E0 λh7 dr f4=>?_
     obtain⟨ds,dt,E⟩:=bd E
     refine IB (r:=BK) (l:=ap) (i:=bb.Al) (x:=ds) O O (AM.mk (x:=dl) ⟨f2,f3⟩) dq dt BA.u_Open BY (λe=>by cases e) dr (.tail (.tail (.tail .head))) λh8 du f5=>AS (kp [15,14,4,0,2,16] O) (B0 (WF.nil (λaa ww hf hw=>?_)))
     have dv:=du.sel [1,1,1,1] 1 O
     exact⟨(upd ap bb.Al ({ ds with R:=dl})),_,_,hf.sub (kp [15,14,4,0,2,16] O),hw,dv,(a0.trans (bc.trans (br.trans (f4.trans f5)))),E⟩
    refine AE (CR O (AJ O (kp [57,7,15,14,4,0,2,16] O) (AW O E (λf6 E=>?_) (λf6 E=>?_))))
    ·refine F6 10 mo (by kernel_rfl) O af (AA O (FV O O (AF Fd O (AF IU O (AT Bs af O (mt mh) O LK O (AF Nl O (AT Bs af O mh O AZ O ?_)))))))
     obtain⟨dw,dx,E⟩:=bd E
     refine Bz O O O Mr O (λh' o=>GP (St.all h') (iq (n:=0) O) dx) λf7=>?_
     obtain⟨f8,f9⟩:=f7
     obtain⟨h9,dy,E⟩:=bd E
     refine DN af (mt (mt (mt mh))) O O Lo dy O λia dz=>NG O dz JI O λib d0=>E0 λic d1 ga=>?_
     obtain⟨d2,d3,E⟩:=bd E
     refine IB (r:=BK) (l:=ap) (i:=bb.Al) (x:=d2) O O (AM.mk (x:=dw) ⟨f8,f9⟩) d0 d3 BA.u_Open BY (λe=>by cases e) d1 (.tail (.tail (.tail .head))) λie d4 gb=>AS (kp [15,14,4,0,2,16] O) (B0 (WF.nil (λaa ww hf hw=>?_)))
     have d5:=d4.sel [1,1,1,1] 1 O
     exact⟨(upd ap bb.Al ({ d2 with R:=dw})),_,_,hf.sub (kp [15,14,4,0,2,16] O),hw,d5,(a0.trans (bc.trans (br.trans (ga.trans gb)))),E⟩
    refine AQ (B0 (WF.nil (λaa ww hf hw=>?_)))
    have b9:=af.sel [1,1,1,1] 1 O
    exact⟨ap,_,_,hf.sub (kp [15,14,4,0,2,16] O),hw,b9,(a0.trans (bc.trans br)),E⟩
   rintro aa ww ⟨bq,gc,ge,hf,hw,ca,d6,E⟩
   refine A8 ?_ hf hw
   clear hf hw ww aa
   rw[Dw] at E
   refine CL (.inl O) (BD O (AA O (AL (kp [16,15,14,4,0,2] O) (WF.nil (λaa ww hf hw=>?_)))))
   exact⟨(B8 (az+1)),bq,_,_,hf.sub (kp [15,14,4,0,2,16] O),hw,ca,(bg.trans d6),(CJ _),E⟩
  refine WF.exit O (λaa ww hf hw=>?_)
  exact⟨ap,_,_,hf.sub (kp [4,0,2] O),hw,bf,bg,E⟩
 rintro aa ww ⟨bp,bh,bi,hf,hw,bj,am,E⟩
 refine A8 ?_ hf hw
 clear hf hw ww aa
 rw[Ck] at E
 refine AC (AE (AV O (k6.mono am) Ms UG O λgf d7=>BR BX bj.1 O d7 Ys O λbs bt=>BJ O bt Vb O λgg=>AA O (AL (kp [73,72,71,0,2] O) (BG (λa w=>∃(a5:List BA),IV B bh bi (155,[]) a w [(0,vP k 0),(2,p)] (Bx k 106 [.string p0_w.b.J,t,vI p0_w.b.W,u,s,y,z,A,G,U,vI p0_w.b.Z,vI p0_w.h.K,c,m,j,d]::OS AM 51 c p0_w.h.M::OS BK 97 j a5::OS AM 51 d p0_w.peaks::L) λ_ _=>Cj N p0_w X a5=some r) ?_ ?_))))
 ·refine Bt (λn4=>λa w=>∃(an:Int) (ao:List BA),IV B bh bi (155,[]) a w [(72,vI (↑ab.Bb.length:Int)),(71,bs),(0,vP k 0),(2,p),(73,vI an)] (Bx k 106 [.string p0_w.b.J,t,vI p0_w.b.W,u,s,y,z,A,G,U,vI p0_w.b.Z,vI p0_w.h.K,c,m,j,d]::OS AM 51 c p0_w.h.M::OS BK 97 j ao::OS AM 51 d p0_w.peaks::L) λ_ _=>AD an∧CY N p0_w ab (Cj N p0_w X) n4 an ao=some r) N ?_ ?_ ?_
  ·intro aa ww hf hw
   exact⟨0,bp,_,_,hf.sub (kp [72,71,0,2,73] O),hw,bj,(Cm.refl bh bi),(iq (n:=0) O),E⟩
  ·rintro aa ww ⟨_,_,_,_,_,_,_,_,_,E⟩
   rw[CY] at E;cases E
  rintro n4 aa ww ⟨an,ao,d8,d9,hf,hw,a1,av,gh,E⟩
  refine A8 ?_ hf hw
  clear hf hw ww aa
  rw[CY] at E
  refine AE (BE O (AL (kp [74,72,71,0,2,73] O) (AC (AW O E (λea E=>?_) (λea E=>?_)))))
  ·refine AQ (AC (BG (λa w=>∃(a6:List BA),IV B d8 d9 (155,[]) a w [(72,vI (↑ab.Bb.length:Int)),(71,bs),(0,vP k 0),(2,p),(73,vI an)] (Bx k 106 [.string p0_w.b.J,t,vI p0_w.b.W,u,s,y,z,A,G,U,vI p0_w.b.Z,vI p0_w.h.K,c,m,j,d]::OS AM 51 c p0_w.h.M::OS BK 97 j a6::OS AM 51 d p0_w.peaks::L) λ_ _=>FJ N an (CY N p0_w ab (Cj N p0_w X) n4) a6=some r) ?_ ?_))
   ·refine WF.sl (A5 2 ?_)
    obtain⟨a7,cb,E⟩:=bd E
    refine B6 O O (bt.mono' av) Vb cb O λgi eb=>BP BX a1.1 O eb VQ (λe=>by cases e) O λgj ec=>A6 (CX ZD O a1 λgk gl cc aw=>?_)
    obtain⟨rfl,⟨ed,ee⟩⟩:=KB.ex (ec.mono aw)
    refine BU (vs:=[vI a7.Al,vI a7.T]) O O O O VQ O cc .head O λgm a2 a8=>AS (kp [9,72,71,0,2,73] O) (AC (WF.rc (.inr ⟨mo,by kernel_rfl⟩) a2 (AF PU O (AT Bs a2 O mh O AZ O (AA O (FV O O (AF HK O (AF Gu O (AT Bs a2 O (mt mh) O JP O (BJ O (ae.mono' (e5.trans (am.trans (av.trans (aw.trans a8))))) Ht O λef=>?_))))))))))
    obtain⟨gn,cd,E⟩:=bd E
    refine BL O O O Sf O (λh' o=>H0 (St.all h') ed (LW ef) cd) (Bu (kp [85,9,72,71,0,2,73] O) λgp ad bk=>AW O E (λeg E=>?_) (λeg E=>?_))
    ·refine AC (CL (.inr ⟨mo,by kernel_rfl⟩) (AA O (FV O O (AF Fd O (AF IU O (AT BX ad O (mt mh) O LK O (AF PU O (AT BX ad O mh O AZ O ?_))))))))
     obtain⟨gq,ce,E⟩:=bd E
     refine DN ad (mt (mt (mt mh))) O O Lo ce O λgr au=>AJ O (kp [10,9,72,71,0,2,73] O) (F6 21 mo (by kernel_rfl) O ad (AA O (AA O (FV O O (AF HK O (AF Gu O (AT Bs ad O (mt mh) O JP O (AF PU O (AT Bs ad O mh O AZ O ?_)))))))))
     obtain⟨gs,cf,E⟩:=bd E
     refine B6 O O (ae.mono' (e5.trans (am.trans (av.trans (aw.trans (a8.trans bk)))))) Ht cf O λgu eh=>BP Bs ad.1 O eh FC (λe=>by cases e) O λgv ei=>AA O (XJ O au O (NG O au Oy O λgw cg=>?_))
     obtain⟨bu,ch,E⟩:=bd E
     have ej:=ad.epAt (mt (mt (mt mh))) ch BA.f_Target cg
     refine AY Bs (λ_ x=>x) O ej AZ O λek=>DB (cs:=[vI 0,vI bu.T,.bool false,.bool false]) VZ O O O (AF WH O (AT Bs ad O mh O AZ O ?_))
     obtain⟨bv,ci,E⟩:=bd E
     refine Bz O O O aQ O (λh' o=>Q5 (St.all h') (ei.mono (o.all ad.1)) (Hr.mk (x:=(⟨0,bu.T,false,false⟩:Et)) ⟨(iq (n:=0) O),ek⟩) ee ci) λel=>?_
     obtain⟨gx,em⟩:=el
     refine NF O X8 O O (XJ O au O (NG O au Oy O λgy cj=>E0 λgz ck en=>?_))
     obtain⟨bw,cl,E⟩:=bd E
     refine IB (r:=BK) (l:=ao) (i:=a7.Al) (x:=bw) O O (⟨_,O,O,em⟩:Rd _ _ BQ _ bv.T) cj cl BA.u_Target AZ (λ_=>rfl) ck (.tail (.tail (.tail .head))) λg0 cm eo=>AS (kp [72,71,0,2,73] O) (WF.nil (λaa ww hf hw=>?_))
     have cn:=cm.sel [1,1,1,1] 1 O
     exact⟨(upd ao a7.Al ({ bw with T:=bv.T})),_,_,hf.sub (kp [72,71,0,2,73] O),hw,cn,(aw.trans (a8.trans (bk.trans (en.trans eo)))),E⟩
    refine AQ (WF.nil (λaa ww hf hw=>?_))
    have co:=ad.sel [1,1,1,1] 1 O
    exact⟨ao,_,_,hf.sub (kp [72,71,0,2,73] O),hw,co,(aw.trans (a8.trans bk)),E⟩
   rintro aa ww ⟨a6,g1,g2,hf,hw,cp,ep,E⟩
   refine A8 ?_ hf hw
   clear hf hw ww aa
   rw[FJ] at E
   refine CL (.inl O) (BD O (AA O (AL (kp [73,72,71,0,2] O) (WF.nil (λaa ww hf hw=>?_)))))
   exact⟨(B8 (an+1)),a6,_,_,hf.sub (kp [72,71,0,2,73] O),hw,cp,(av.trans ep),(CJ _),E⟩
  refine WF.exit O (λaa ww hf hw=>?_)
  exact⟨ao,_,_,hf.sub (kp [0,2] O),hw,a1,av,E⟩
 rintro aa ww ⟨a5,bx,bz,hf,hw,bl,a9,E⟩
 refine A8 ?_ hf hw
 clear hf hw ww aa
 rw[Cj] at E
 refine AE (AA O (FV O O (AF HK O (AF Gu O (AT BX bl O mh O JP O ?_)))))
 have b0:=ae.mono' (e5.trans (am.trans a9))
 refine BJ O b0 Ht O λg3=>AA O (AL (kp [122,121,120,0,2] O) (BW (Bt (λn6=>λa w=>∃(ai:Int) (ax:List BA),IV B bx bz (155,[]) a w [(121,vI (↑p0_w.b.F.length:Int)),(120,s),(0,vP k 0),(2,p),(122,vI ai)] (Bx k 106 [.string p0_w.b.J,t,vI p0_w.b.W,u,s,y,z,A,G,U,vI p0_w.b.Z,vI p0_w.h.K,c,m,j,d]::OS AM 51 c p0_w.h.M::OS BK 97 j ax::OS AM 51 d p0_w.peaks::L) λ_ _=>AD ai∧Dv N p0_w X n6 ai ax=some r) N ?_ ?_ ?_)))
 ·intro aa ww hf hw
  exact⟨0,a5,_,_,hf.sub (kp [121,120,0,2,122] O),hw,bl,(Cm.refl bx bz),(iq (n:=0) O),E⟩
 ·rintro aa ww ⟨_,_,_,_,_,_,_,_,_,E⟩
  rw[Dv] at E;cases E
 rintro n6 aa ww ⟨ai,ax,g4,g5,hf,hw,a3,ay,g6,E⟩
 refine A8 ?_ hf hw
 clear hf hw ww aa
 rw[Dv] at E
 refine AE (BE O (AL (kp [123,121,120,0,2,122] O) (AC (AW O E (λeq E=>?_) (λeq E=>?_)))))
 ·refine AQ (AC (BW (WF.sl (A5 3 (AA O ?_)))))
  obtain⟨g,cq,E⟩:=bd E
  refine B6 O O (b0.mono' ay) Ht cq O λg7 er=>BP BX a3.1 O er FC (λe=>by cases e) O λg8 es=>A6 (CX Mx O a3 λg9 ha cr ba=>A5 1 (A4 O (A6 ?_)))
  obtain⟨bm,bn,bo,rfl,et,eu,ev,ew,b1,b2,b3,ey,ez,e0,e1,e2,e3,e4,e6,e7,e8,e9⟩:=CI.ex (es.mono ba)
  refine IR (vs:=[.string g.J,vI g.C,vI g.I,vI g.E,bm,bn,bo,vI g.Q,vI g.Ab,vI g.Ad,vI g.O,vI g.N,vI g.H,vI g.Ak,vI g.Ae,vI g.Aa,vI g.Y,vI g.V]) (cs':=[.string g.J,vI g.C,vI g.I,vI g.E,bm,bn,bo,vI g.Q,vI g.Ab,vI g.Ad,vI g.O,vI g.N,vI g.H,vI g.Ak,vI g.Ae,vI g.Aa,vI g.Y,vI g.V]) O O O (AG O (AG O (AG O (AG O (AG b1.one (AG b2.one (AG b3.one (AG O (AG O (AG O (AG O (AG O (AG O (AG O (AG O (AG O (AG O (AG O GJ)))))))))))))))))) FC O cr .head O O λhb ac ar=>AS (kp [11,12,121,120,0,2,122] O) (F6 27 mo (by kernel_rfl) O ac (AA O (FV O O (AF Fd O (AF IU O (AT Bs ac O (mt mh) O LK O (AA O (Cw (vs:=[.string g.J,vI g.C,vI g.I,vI g.E,bm,bn,bo,vI g.Q,vI g.Ab,vI g.Ad,vI g.O,vI g.N,vI g.H,vI g.Ak,vI g.Ae,vI g.Aa,vI g.Y,vI g.V]) Bs ac O mh O O FC O O (AA O (FV O O (AF Fd O (AF IU O (AT Bs ac O (mt mh) O LK O (AA O ?_))))))))))))))
  obtain⟨hc,ct,E⟩:=bd E
  refine DN ac (mt (mt (mt mh))) O O Lo ct O λhd cu=>?_
  obtain⟨he,cv,E⟩:=bd E
  have fb:=ac.epAt (mt (mt (mt mh))) cv Fm.id cu
  refine BP Bs (λ_ x=>x) O fb IG (λe=>by cases e) O λhg fc=>AA O (AA O (BJ O (ak.mono' (e5.trans (am.trans (a9.trans (ay.trans (ba.trans ar)))))) Yx O λhh=>BE O (AA O ?_)))
  obtain⟨fd,ag,E⟩:=bd E
  refine AO 5 151 (.bool fd) ?_ ?_
  ·cases b4:(decide (ai<(↑X.length:Int)))
   ·have ag:=GY b4 ag
    cases ag
    exact AX O O
   have ag:=GX b4 ag
   refine AB O (AA O (AB O (AA O (AB O ?_))))
   obtain⟨hi,cw,ag⟩:=bd ag
   refine B6 O O (ak.mono' (e5.trans (am.trans (a9.trans (ay.trans (ba.trans ar)))))) Yx cw O λhj fe=>AB O (XK Bs ac.1 O fe N7 O (AI O ?_))
   cases ag
   exact AN O
  obtain⟨b5,cx,E⟩:=bd E
  refine Bz O O O aP O (λh' o=>PR (St.all h') (CI.mk (x:=g) et eu ev ew ((b1.mono' ar).mono' (o.all ac.1)) ((b2.mono' ar).mono' (o.all ac.1)) ((b3.mono' ar).mono' (o.all ac.1)) ey ez e0 e1 e2 e3 e4 e6 e7 e8 e9) (fc.mono (o.all ac.1)) cx) λff=>?_
  obtain⟨fg,fh,fi,fj,fk⟩:=ff
  obtain⟨hk,cy,E⟩:=bd E
  refine DN ac (mt (mt (mt mh))) O O Lo cy O λhl cz=>E0 λhm c0 fl=>?_
  obtain⟨fm,c1,E⟩:=bd E
  refine IB (r:=BK) (l:=ax) (i:=ai) (x:=fm) O O (BK.mk (x:=b5) ⟨fg,fh,fi,fj,fk⟩) cz c1 N3.id IG (λe=>by cases e) c0 (.tail (.tail (.tail .head))) λhn c2 fn=>AS (kp [121,120,0,2,122] O) (B0 (CL (.inl O) (BD O (AA O (AL (kp [122,121,120,0,2] O) (WF.nil (λaa ww hf hw=>?_)))))))
  have c3:=c2.sel [1,1,1,1] 1 O
  exact⟨(B8 (ai+1)),(upd ax ai b5),_,_,hf.sub (kp [121,120,0,2,122] O),hw,c3,(ay.trans (ba.trans (ar.trans (fl.trans fn)))),(CJ _),E⟩
 refine JV O (WF.nil (λaa ww hf hw=>?_))
 cases E
 exact I1 hf O hw Io O (e5.trans (am.trans (a9.trans ay))) ⟨_,O,a3⟩
end Go.Proofs.YtibidnaedddfdaaGreat
