import Derived.Test.YtibidnaedddfdaaGreatDFacts
import Derived.Test.YtibidnaedddfdaaGreatDForms
import Derived.Test.YtibidnaedddfdaaGreatDCore31
import Derived.Test.YtibidnaedddfdaaGreatDInsert
namespace Go.Proofs.YtibidnaedddfdaaGreat
set_option linter.all false
open Go.RowKit
open Go.Proofs.Tryz
set_option maxRecDepth 10000
set_option maxHeartbeats 2000000
variable {N:Nat}{S:Nat→Prop}{L:List HP}{h:BB}
def OJ (M:St S L h) {c:Value}{g:Fk}(k:Rd S h Fi c g) {d:Value}{b:DG}(m:Rd S h Ic d b) {r:Int}(E:J6 N g b=some r):
 Ct prog 153 #[c,d] S h (λv S' h'=>v=vI r∧AD r∧St S' (L) h'):=by
 refine BO (l:=[c,d]) 38 func153 O ntmps153 O λB=>?_
 rw[J6] at E
 refine WF.sl (BM O k (λe=>by cases e) O M λq1 S2 h3 t s K=>BM O (m.mono s) (λe=>by cases e) O t λq8 S9 Q a i j=>A5 1 (A4 O (A6 (AS (kp [3,2] O) (AC (BW (AE (AV O j DG.f_Crest MT O λU u=>AY BX a.1 O u AZ O λV=>EQ O (AA O (AO 7 16 (.bool ((decide (0≤b.O))&&(decide (b.O≤(B8 (g.Az+1)))))) ?_ ?_))))))))))
 ·cases W:(decide (0≤b.O))
  ·exact AX O O
  exact AB O (AV O j DG.f_Crest MT O λX w=>AB O (AY BX a.1 O w AZ O λY=>AB O (AV O (K.mono i) N1 PY O λZ x=>AB O (AY BX a.1 O x AZ O λab=>AB O (BD O (AB O (HC O (AI O (AN O)))))))))
 refine AJ O (kp [5,3,2] O) (AW O E (λy E=>?_) (λy E=>?_))
 ·refine AE (AJ O (kp [4] O) (WF.ret (λz A o p=>?_)))
  cases E
  exact EU o p O O (s.trans i) ⟨O,(iq (n:=3) O),a⟩
 refine AE (AV O j DG.f_Crest MT O λac C=>AY BX a.1 O C AZ O λad=>EQ O (AA O (AO 8 29 (.bool ((decide (0≤b.O))&&(decide (b.O≤(B8 ((B8 (2*g.Az))+2)))))) ?_ ?_)))
 ·cases ae:(decide (0≤b.O))
  ·exact AX O O
  exact AB O (AV O j DG.f_Crest MT O λaf D=>AB O (AY BX a.1 O D AZ O λag=>AB O (AV O (K.mono i) N1 PY O λah F=>AB O (AY BX a.1 O F AZ O λai=>AB O (RZ O O O (AB O (BD O (AB O (HC O (AI O (AN O)))))))))))
 refine AJ O (kp [17,3] O) (AW O E (λG E=>?_) (λG E=>?_))
 ·refine AE (AJ O (kp [4] O) (WF.ret (λz A o p=>?_)))
  cases E
  exact EU o p O O (s.trans i) ⟨O,(iq (n:=2) O),a⟩
 refine AE (AV O j DG.f_Crest MT O λaj H=>AY BX a.1 O H AZ O λak=>EQ O (AA O (AO 3 37 (.bool ((decide (0≤b.O))||b.Aw)) ?_ ?_)))
 ·cases al:(decide (0≤b.O))
  ·exact AB O (AV O j DG.f_Quorum YB O λam I=>AB O (XK BX a.1 O I N7 O (AI O (AN O))))
  exact AX O O
 refine AJ O (kp [30] O) (AW O E (λJ E=>?_) (λJ E=>?_))
 ·refine AE (AJ O (kp [4] O) (WF.ret (λz A o p=>?_)))
  cases E
  exact EU o p O O (s.trans i) ⟨O,(iq (n:=1) O),a⟩
 refine AQ (B0 (AE (AJ O (kp [4] O) (WF.ret (λz A o p=>?_)))))
 cases E
 exact EU o p O O (s.trans i) ⟨O,(iq (n:=0) O),a⟩
def Pn (hs:St S L h) {d:Value}{H:Fk}(C:Rd S h Fi d H) {g:Value}{b:Cs}(D:Rd S h HA g b) {i:Value}{A:DG}(F:Rd S h Ic i A) {r:Cs}(E:K7 N H b A=some r):
 Ct prog 118 #[d,g,i] S h (λv S' h'=>v= .agg #[vI r.Av,vI r.Be,vI r.Bj]∧Cs.ok r∧St S' (L) h'):=by
 refine BO (l:=[d,g,i]) 49 func118 O ntmps118 O λB=>?_
 rw[K7] at E
 refine WF.sl (BM O C (λe=>by cases e) O hs λq1 S2 h3 am e5 k6=>BM O (D.mono e5) (λe=>by cases e) O am λq8 S9 bf ab u an=>BM O (F.mono (e5.trans u)) (λe=>by cases e) O ab λbg Q bh ac x ao=>CX VF O ac λad bi m t=>AS (kp [6,5,4,3] O) (AC (WF.rc (.inl O) m (BP Bs m.1 O (k6.mono (u.trans (x.trans t))) KY (λe=>by cases e) O λbj ap=>?_))))
 have ae:=ao.mono t
 refine BP Bs m.1 O ae ON (λe=>by cases e) O λbk aq=>?_
 obtain⟨G,af,E⟩:=bd E
 refine Bz O O O Z7 O (λh' o=>OJ (St.all h') (ap.mono (o.all m.1)) (aq.mono (o.all m.1)) af) λar=>?_
 have U:=ar
 refine A4 O (Bu (kp [7,6,5,4] O) λV c y=>AC (AE (AA O ?_)))
 have z:=an.mono (x.trans (t.trans y))
 refine AV O z Cs.f_Level L0 O λbl au=>AY BX c.1 O au AZ O λbm=>EQ O (AL (kp [15,7,6,5,4] O) (AW O E (λav E=>?_) (λav E=>?_)))
 ·refine WF.sl (A5 2 (AA O (DB (cs:=[vI G,vI 0,vI 0]) PC O O O (A6 (BU (vs:=[vI G,vI 0,vI 0]) O O O O JX O c .head O λbn I aw=>AS (kp [6] O) (WF.ret (λW X j k=>?_)))))))
  have ag:=I.drop .head
  cases E
  exact I1 j O k (IH (M2 j k I O mh JX O) Io) O (e5.trans (u.trans (x.trans (t.trans (y.trans aw))))) ⟨O,⟨U,(iq (n:=0) O),(iq (n:=0) O)⟩,ag⟩
 refine AQ (AC (AE (AV O z Cs.f_Level L0 O λbo ax=>AY BX c.1 O ax AZ O λbp=>EQ O (AA O (AO 4 25 (.bool ((decide (3≤b.Av))&&(decide (0≤A.O)))) ?_ ?_)))))
 ·cases bq:(decide (3≤b.Av))
  ·exact AX O O
  exact AB O (AV O (ae.mono y) DG.f_Crest MT O λbr ay=>AB O (AY BX c.1 O ay AZ O λbs=>AB O (EQ O (AI O (AN O)))))
 refine AL (kp [25,7,6,4] O) (AW O E (λaz E=>?_) (λaz E=>?_))
 ·refine WF.sl (A5 3 (AV O z Cs.f_Level L0 O λbt a0=>AY BX c.1 O a0 AZ O λa1=>DB (cs:=[vI b.Av,vI 0,vI 0]) PC O O O (A6 (BU (vs:=[vI b.Av,vI 0,vI 0]) O O O O JX O c .head O λbu J a2=>AS (kp [6] O) (WF.ret (λW X j k=>?_))))))
  have ah:=J.drop .head
  cases E
  exact I1 j O k (IH (M2 j k J O mh JX O) Io) O (e5.trans (u.trans (x.trans (t.trans (y.trans a2))))) ⟨O,⟨a1,(iq (n:=0) O),(iq (n:=0) O)⟩,ah⟩
 refine AQ (AE (AA O (AJ O (kp [8,7,6,4] O) (AC (AE (AV O z Kd PX O λbv a3=>AY BX c.1 O a3 AZ O λbw=>Cq O (AL (kp [32,8,7,6,4] O) (HW (λa w=>∃(p:Int),IV B Q V (49,[]) a w [(6,vP ad 0),(4,q8),(8,vI p)] (Bx ad 119 [vI 0,vI 0,vI 0]::L) λ_ _=>AD p∧IY N b p=some r) ?_ ?_))))))))
 ·refine AW O E (λa4 E=>?_) (λa4 E=>?_)
  ·refine CL (.inl O) (AA O (AV O z QD WT O λbx a5=>AY BX c.1 O a5 AZ O λa6=>Jf O O O (AJ O (kp [8,6,4] O) (WF.nil (λW X j k=>?_)))))
   exact⟨(max G b.Bj),_,_,j.sub (kp [6,4,8] O),k,c,(Cm.refl Q V),(HI U a6),E⟩
  refine AQ (WF.nil (λW X j k=>?_))
  exact⟨G,_,_,j.sub (kp [6,4,8] O),k,c,(Cm.refl Q V),U,E⟩
 rintro W X ⟨p,bz,b0,j,k,s,Y,ai,E⟩
 refine A8 ?_ j k
 clear j k X W
 rw[IY] at E
 refine AC (AE ?_)
 have Z:=z.mono Y
 refine AV O Z Kd PX O λb1 a7=>AY BX s.1 O a7 AZ O λb2=>EQ O (AL (kp [39,6,4,8] O) (AW O E (λa8 E=>?_) (λa8 E=>?_)))
 ·refine WF.sl (A5 2 (AA O (DB (cs:=[vI p,vI 0,vI 0]) PC O O O (A6 (BU (vs:=[vI p,vI 0,vI 0]) O O O O JX O s .head O λb3 K a9=>AS (kp [6] O) (WF.ret (λW X j k=>?_)))))))
  have aj:=K.drop .head
  cases E
  exact I1 j O k (IH (M2 j k K O mh JX O) Io) O (e5.trans (u.trans (x.trans (t.trans (y.trans (Y.trans a9)))))) ⟨O,⟨ai,(iq (n:=0) O),(iq (n:=0) O)⟩,aj⟩
 refine AQ (WF.sl (A5 7 (AV O Z Cs.f_Level L0 O λb4 ba=>AY BX s.1 O ba AZ O λbb=>AV O Z Kd PX O λb5 bc=>AY BX s.1 O bc AZ O λb6=>BD O (AA O (DB (cs:=[vI b.Av,vI (B8 (b.Be+1)),vI p]) PC O O O (A6 (BU (vs:=[vI b.Av,vI (B8 (b.Be+1)),vI p]) O O O O JX O s .head O λb7 M be=>AS (kp [6] O) (WF.ret (λW X j k=>?_)))))))))
 have ak:=M.drop .head
 cases E
 exact I1 j O k (IH (M2 j k M O mh JX O) Io) O (e5.trans (u.trans (x.trans (t.trans (y.trans (Y.trans be)))))) ⟨O,⟨bb,(CJ _),ai⟩,ak⟩
def QB (hs:St S L h) {j:Value}{z:Fk}(F:Rd S h Fi j z) {c:Value}{d:(List DG)}(g:Sl S h Ic c d) {r:(List Cs)}(E:L6 N z d=some r):
 Ct prog 55 #[j,c] S h (λv S' h'=>St S' (OS HA 119 v r::L) h'):=by
 refine BO (l:=[j,c]) 29 func55 O ntmps55 O λB=>?_
 rw[L6] at E
 refine WF.sl (BM O F (λe=>by cases e) O hs λq1 S2 h3 az e5 k6=>A5 1 (A4 O (A6 (AS (kp [2,1] O) (WF.sl (A5 2 (AA O (BJ O (g.mono' e5) TD O λb8=>A6 ?_))))))))
 obtain⟨a0,E⟩:=TW E
 refine Pr (r:=HA) (zx:=(⟨0,0,0⟩:Cs)) TS O ⟨O,by unfold Cs.ok AD;simp [IntKind.has,IntKind.min,IntKind.max,IntKind.bits,IntKind.signed]⟩ O O a0 O O az λa1 bi ab M=>A5 1 (A4 O (A6 (AS (kp [5,2,1] O) (WF.sl (A5 1 (DB (cs:=[vI 0,vI 0,vI 0]) PC O O O (A6 (CX VF O ab λac bj ad Q=>BU (vs:=[vI 0,vI 0,vI 0]) O O O O JX O ad .head O λU ae V=>AS (kp [6,5,2,1] O) (AC (AE (AA O ?_)))))))))))
 have af:=g.mono' (e5.trans (M.trans (Q.trans V)))
 refine BJ O af TD O λbk=>AA O (AL (kp [15,14,13,6,5,2] O) (BG (λa w=>∃(W:Value) (X:List Cs),IV B S2 U (29,[]) a w [(5,W)] (OS HA 119 W X::L) λ_ _=>Iz N X=some r) ?_ ?_))
 ·refine Bt (λn1=>λa w=>∃(G:Value) (m:List Cs) (A:Int) (o:Int) (s:Int) (t:Int),IV B S2 U (29,[]) a w [(14,vI (↑d.length:Int)),(13,c),(6,vP ac 0),(2,q1),(5,G),(15,vI A)] (OS HA 119 G m::Bx ac 119 [vI o,vI s,vI t]::L) λ_ _=>AD A∧AD o∧AD s∧AD t∧H9 N z d (Iz N) n1 m A o s t=some r) N ?_ ?_ ?_
  ·intro I J u y
   have ag:=ae.sel [1,0] 0 O
   exact⟨a1,(List.replicate (0:Int).toNat ((⟨0,0,0⟩:Cs):Cs)),0,0,0,0,_,_,u.sub (kp [14,13,6,2,5,15] O),y,ag,(Cm.refl S2 U),(iq (n:=0) O),(iq (n:=0) O),(iq (n:=0) O),(iq (n:=0) O),E⟩
  ·rintro I J ⟨_,_,_,_,_,_,_,_,_,_,_,_,_,_,_,_,E⟩
   rw[H9] at E;cases E
  rintro n1 I J ⟨G,m,A,o,s,t,bl,bm,u,y,C,H,bn,a2,a3,a4,E⟩
  refine A8 ?_ u y
  clear u y J I
  rw[H9] at E
  refine AE (BE O (AL (kp [16,14,13,6,2,5,15] O) (AC (AW O E (λa5 E=>?_) (λa5 E=>?_)))))
  ·refine AQ (AC (BW (WF.sl (A5 2 ?_))))
   obtain⟨D,ah,E⟩:=bd E
   refine B6 O O (af.mono' H) TD ah O λbo a6=>BP BX C.1 O a6 ON (λe=>by cases e) O λbp a7=>A6 (CX Yn O C λbq br ai Y=>?_)
   obtain⟨rfl,a8⟩:=Ic.ex (a7.mono Y)
   refine BU (vs:=[vI D.O,.bool D.Aw]) O O O O ON O ai .head O λbs k aj=>AS (kp [8,14,13,6,2,5,15] O) (WF.sl (A5 3 (BP BX k.1 O (k6.mono (M.trans (Q.trans (V.trans (H.trans (Y.trans aj)))))) KY (λe=>by cases e) O λbt a9=>Cw (vs:=[vI o,vI s,vI t]) BX k O (mt (mt mh)) O O JX O O (Cw (vs:=[vI D.O,.bool D.Aw]) BX k O mh O O ON O O (A6 ?_)))))
   obtain⟨i,ak,E⟩:=bd E
   refine Ea O O O aG O k (Pn (St.all _) (a9.mono ⟨λb hb=>k.1 b hb,λ_ _=>rfl,jB _⟩) (HA.mk (x:=(⟨o,s,t⟩:Cs)) ⟨a2,a3,a4⟩) (Ic.mk (x:=D) a8) ak) λbu bv bw am ba bx p=>?_
   obtain⟨rfl,⟨an,ao,ap⟩,bg⟩:=p
   refine BU (vs:=[vI i.Av,vI i.Be,vI i.Bj]) O O O O JX O am (.tail (.tail .head)) O λbz K bb=>AS (kp [14,13,6,2,5,15] O) (Gf (A5 2 (AA O (Cw (vs:=[vI i.Av,vI i.Be,vI i.Bj]) BX K O (mt (mt mh)) O O JX O O (A6 (JF (cs:=[vI i.Av,vI i.Be,vI i.Bj]) TS O O O O O O O K λb0 b1 aq bc=>?_))))))
   obtain⟨ar,E⟩:=TW E
   refine LH (r:=HA) (l:=m) (xs:=([i]:List Cs)) O O TS O mh ⟨_,_,O,⟨O,⟨an,ao,ap⟩⟩,O⟩ O O ar O aq (λ_=>(.tail (.tail .head))) λbe b2 au bf=>?_
   have av:=au.drop .head
   refine A5 1 (A4 O (A6 (AS (kp [5,14,13,6,2,15] O) (B0 (CL (.inl O) (BD O (AA O (AL (kp [15,5,14,13,6,2] O) (WF.nil (λI J u y=>?_))))))))))
   have aw:=av.sel [1,1] 1 O
   exact⟨be,(m++([i]:List Cs)),(B8 (A+1)),i.Av,i.Be,i.Bj,_,_,u.sub (kp [14,13,6,2,5,15] O),y,aw,(H.trans (Y.trans (aj.trans (ba.trans (bb.trans (bc.trans bf)))))),(CJ _),an,ao,ap,E⟩
  refine WF.exit O (λI J u y=>?_)
  have ax:=C.drop (.tail .head)
  exact⟨G,m,_,_,u.sub (kp [5] O),y,ax,H,E⟩
 rintro I J ⟨W,X,b3,bh,u,y,Z,ay,E⟩
 refine A8 ?_ u y
 clear u y J I
 rw[Iz] at E
 refine AE (AA O (AJ O (kp [4] O) (WF.ret (λI J u y=>?_))))
 cases E
 exact EU u y O O (e5.trans (M.trans (Q.trans (V.trans ay)))) Z
def Ld (hs:St S L h) {r:Bool}(E:GG N=some r):
 Ct prog 15 #[] S h (λv S' h'=>v= .bool r∧St S' (L) h'):=by
 refine BO (l:=[]) 44 func15 O ntmps15 O λB=>?_
 rw[GG] at E
 refine AE (AJ O Kv (WF.sl (A5 1 (DB (cs:=[.string ByteArray.empty,vI 0,vI 0,vI 3,vI 0,vI 0,vI 0]) ZT O O O (A6 (CX Ql O hs λb1 h2 an e4=>BU (vs:=[.string ByteArray.empty,vI 0,vI 0,vI 3,vI 0,vI 0,vI 0]) O O O O KY O an .head O λh5 G e7=>AS (kp [1] O) (WF.sl (A5 8 (Cw (vs:=[.string ByteArray.empty,vI 0,vI 0,vI 3,vI 0,vI 0,vI 0]) BX G O mh O O KY O O (DB (cs:=[vI 9,.bool false]) NO O O O (DB (cs:=[vI 8,.bool false]) NO O O O (DB (cs:=[vI 4,.bool false]) NO O O O (DB (cs:=[vI 5,.bool false]) NO O O O (DB (cs:=[vI (-1),.bool false]) NO O O O (DB (cs:=[vI (-1),.bool true]) NO O O O (DB (cs:=[vI (-1),.bool false]) NO O O O (A6 (JF (cs:=[vI 9,.bool false,vI 8,.bool false,vI 4,.bool false,vI 5,.bool false,vI (-1),.bool false,vI (-1),.bool true,vI (-1),.bool false]) Zw O O O O O O O G λb8 h9 H I=>?_))))))))))))))))))
 have J:=H.bxos (r:=Ic) (l:=OE) .head ⟨_,_,O,⟨O,(iq (n:=9) O)⟩,⟨_,_,O,⟨O,(iq (n:=8) O)⟩,⟨_,_,O,⟨O,(iq (n:=4) O)⟩,⟨_,_,O,⟨O,(iq (n:=5) O)⟩,⟨_,_,O,⟨O,(iq (n:=(-1)) O)⟩,⟨_,_,O,⟨O,(iq (n:=(-1)) O)⟩,⟨_,_,O,⟨O,(iq (n:=(-1)) O)⟩,O⟩⟩⟩⟩⟩⟩⟩ (by simp [maxLen,OE])
 obtain⟨ay,o,K,ao⟩:=J.pubs .head
 obtain⟨j,M,E⟩:=bd E
 refine Ea O O O eG O o (QB (St.all _) (Fi.mk (x:=(⟨ByteArray.empty,0,0,3,0,0,0⟩:Fk)) ⟨(by first|assumption|decide),(iq (n:=0) O),(iq (n:=0) O),(iq (n:=3) O),(iq (n:=0) O),(iq (n:=0) O),(iq (n:=0) O)⟩) (ao.mono (λb hb=>o.1 b hb) (λ_ _=>rfl)) M) λt az a0 ax Q ap p=>?_
 have U:=p
 have z:=o.join ap U ⟨OS.flat (λ{_ _ _ _ _ _} k=>k),trivial⟩
 simp only[mI,kF] at z
 refine A5 1 (A4 O (A6 (AS (kp [2] O) (WF.sl (JF (cs:=[vI 1,vI 2,vI 3,vI 3,vI 3,vI 3,vI 1]) Wb O O O O O O O z λV C W X=>A5 1 (A4 O (A6 (AS (kp [3,2] O) (AC (AE (AJ O (kp [4,3,2] O) ?_)))))))))))
 have Y:=W.bxos (r:=BQ) (l:=([1,2,3,3,3,3,1]:List Int)) .head ⟨_,_,O,⟨O,(iq (n:=1) O)⟩,⟨_,_,O,⟨O,(iq (n:=2) O)⟩,⟨_,_,O,⟨O,(iq (n:=3) O)⟩,⟨_,_,O,⟨O,(iq (n:=3) O)⟩,⟨_,_,O,⟨O,(iq (n:=3) O)⟩,⟨_,_,O,⟨O,(iq (n:=3) O)⟩,⟨_,_,O,⟨O,(iq (n:=1) O)⟩,O⟩⟩⟩⟩⟩⟩⟩ (by simp [maxLen])
 obtain⟨D,Z,ab,F⟩:=Y.pubs .head
 refine BG (λa w=>IV B D C (44,[]) a w [(3,(.slice (some ⟨V,0,none⟩) 7 7)),(2,t)] (OS HA 119 t j::L) λ_ _=>GL N j=some r) ?_ ?_
 ·refine Bt (λn1=>λa w=>∃(m:Int),IV B D C (44,[]) a w [(3,(.slice (some ⟨V,0,none⟩) 7 7)),(2,t),(4,vI m)] (OS HA 119 t j::L) λ_ _=>AD m∧Fh N j (GL N j) n1 m=some r) N ?_ ?_ ?_
  ·intro u y g i
   have ac:=Z.drop (.tail .head)
   exact⟨0,_,_,g.sub (kp [3,2,4] O),i,ac,(Cm.refl D C),(iq (n:=0) O),E⟩
  ·rintro u y ⟨_,_,_,_,_,_,_,_,E⟩
   rw[Fh] at E;cases E
  rintro n1 u y ⟨m,a1,a2,g,i,d,s,a3,E⟩
  refine A8 ?_ g i
  clear g i y u
  rw[Fh] at E
  refine AC (AE (AA O (AA O (BJ O (F.mono' s) Hf O λa4=>BE O (AL (kp [20,3,2,4] O) (AW O E (λaq E=>?_) (λaq E=>?_)))))))
  ·refine AQ (AC (BW (AC (CL (.inr ⟨mo,by kernel_rfl⟩) (AA O (AA O (Nx d mh O TE O λa5=>EQ O (AA O ?_))))))))
   obtain⟨ar,c,E⟩:=bd E
   refine AO 11 38 (.bool ar) ?_ ?_
   ·cases ad:(decide ((↑j.length:Int)≤m))
    ·have c:=GY ad c
     refine AB O (AA O (AB O (AA O (AB O ?_))))
     obtain⟨a6,ae,c⟩:=bd c
     refine DN d mh O O TE ae O λa7 af=>AB O (NG O af L0 O λa8 ag=>AB O ?_)
     obtain⟨a9,ah,c⟩:=bd c
     have au:=d.epAt mh ah Cs.f_Level ag
     refine AY BX (λ_ x=>x) O au AZ O λba=>AB O (AA O (AB O (AA O (AB O ?_))))
     obtain⟨bb,ai,c⟩:=bd c
     refine B6 O O (F.mono' s) Hf ai O λbc av=>AB O (AY BX d.1 O av AZ O λbe=>AB O (Cq O (AI O ?_)))
     cases c
     exact AN O
    have c:=GX ad c
    cases c
    exact AX O O
   refine AL (kp [38,3,2,4] O) (AW O E (λaw E=>?_) (λaw E=>?_))
   ·refine AE (AJ O (kp [0] O) (WF.ret (λu y g i=>?_)))
    have aj:=d.drop .head
    cases E
    exact EU g i O O (e4.trans (e7.trans (I.trans (K.trans (Q.trans (X.trans (ab.trans s))))))) ⟨O,aj⟩
   refine AQ (B0 (CL (.inl O) (AA O (BD O (AJ O (kp [4,3,2] O) (WF.nil (λu y g i=>?_)))))))
   exact⟨(B8 (m+1)),_,_,g.sub (kp [3,2,4] O),i,d,s,(CJ _),E⟩
  refine WF.exit O (λu y g i=>?_)
  exact⟨_,_,g.sub (kp [3,2] O),i,d,s,E⟩
 rintro u y ⟨bf,bg,g,i,A,ak,E⟩
 refine A8 ?_ g i
 clear g i y u
 rw[GL] at E
 refine AE (AA O (Nx A mh O TE O λbh=>AA O (BJ O (F.mono' ak) Hf O λbi=>CR O (AJ O (kp [0] O) (WF.ret (λu y g i=>?_))))))
 have am:=A.drop .head
 cases E
 exact EU g i O O (e4.trans (e7.trans (I.trans (K.trans (Q.trans (X.trans (ab.trans ak))))))) ⟨O,am⟩
def Mj (hs:St S L h) {t:Value}{c:AU}(I:Rd S h Ch t c) {g:Value}{d:(List Cr)}(x:Sl S h GF g d) {i:Value}{s:(List CW)}(b:Sl S h FB i s) {r:Bool}(E:G0 N c d s=some r):
 Ct prog 16 #[t,g,i] S h (λv S' h'=>v= .bool r∧St S' (L) h'):=by
 refine BO (l:=[t,g,i]) 77 func16 O ntmps16 O λB=>?_
 rw[G0] at E
 refine WF.sl (BM O I (λe=>by cases e) O hs λq1 S2 h3 J A k6=>A5 1 (A4 O (A6 (AS (kp [3,1,2] O) (AC (AE (AV O k6 CC En O λq7 k8=>BR BX J.1 O k8 HD O λv9 af=>BJ O af Ga O λa5=>CN O (AA O (AO 5 17 (.bool ((decide (6<(↑c.D.length:Int)))||(decide (6<(↑c.F.length:Int))))) ?_ ?_)))))))))
 ·cases a6:(decide (6<(↑c.D.length:Int)))
  ·exact AB O (AV O k6 AU.f_Links Gu O λa7 ag=>AB O (BR BX J.1 O ag JP O λa8 ah=>AB O (BJ O ah Ht O λa9=>AB O (CN O (AI O (AN O))))))
  exact AX O O
 refine AA O (AO 4 22 (.bool (((decide (6<(↑c.D.length:Int)))||(decide (6<(↑c.F.length:Int))))||(decide (3<(↑d.length:Int))))) ?_ ?_)
 ·cases ba:((decide (6<(↑c.D.length:Int)))||(decide (6<(↑c.F.length:Int))))
  ·exact AB O (AA O (AB O (BJ O (x.mono' A) NR O λbb=>AB O (CN O (AI O (AN O))))))
  exact AX O O
 refine AA O (AO 4 27 (.bool ((((decide (6<(↑c.D.length:Int)))||(decide (6<(↑c.F.length:Int))))||(decide (3<(↑d.length:Int))))||(decide (6<(↑s.length:Int))))) ?_ ?_)
 ·cases bc:(((decide (6<(↑c.D.length:Int)))||(decide (6<(↑c.F.length:Int))))||(decide (3<(↑d.length:Int))))
  ·exact AB O (AA O (AB O (BJ O (b.mono' A) NQ O λbe=>AB O (CN O (AI O (AN O))))))
  exact AX O O
 refine AL (kp [27,2] O) (AW O E (λai E=>?_) (λai E=>?_))
 ·refine AE (AJ O (kp [6] O) (WF.ret (λG H y z=>?_)))
  cases E
  exact EU y z O O A ⟨O,J⟩
 refine AQ (AC (AE (AJ O (kp [7,2] O) (BG (λa w=>IV B S2 h3 (77,[]) a w [] (L) λ_ _=>FO N=some r) ?_ ?_))))
 ·refine Bt (λn1=>λa w=>∃(C:Int),IV B S2 h3 (77,[]) a w [(2,i),(7,vI C)] (L) λ_ _=>AD C∧Dx N s (FO N) n1 C=some r) N ?_ ?_ ?_
  ·intro G H y z
   exact⟨0,_,_,y.sub (kp [2,7] O),z,J,(Cm.refl S2 h3),(iq (n:=0) O),E⟩
  ·rintro G H ⟨_,_,_,_,_,_,_,_,E⟩
   rw[Dx] at E;cases E
  rintro n1 G H ⟨C,bf,bg,y,z,j,u,bh,E⟩
  refine A8 ?_ y z
  clear y z H G
  rw[Dx] at E
  refine AC (AE (AA O (AA O (BJ O (b.mono' (A.trans u)) NQ O λbi=>BE O (AL (kp [31,2,7] O) (AW O E (λaj E=>?_) (λaj E=>?_)))))))
  ·refine AQ (AC (BW (AE (AA O (AA O ?_)))))
   obtain⟨ak,K,E⟩:=bd E
   refine B6 O O (b.mono' (A.trans u)) NQ K O λbj al=>AV O al LS UH O λbk am=>BR BX j.1 O am Yt O λbl an=>BJ O an Vc O λbm=>CN O (AA O ?_)
   obtain⟨M,k,E⟩:=bd E
   refine AO 8 49 (.bool M) ?_ ?_
   ·cases Q:(decide (6<(↑ak.Ba.length:Int)))
    ·have k:=GY Q k
     refine AB O (AA O (AB O (AA O (AB O ?_))))
     obtain⟨bn,U,k⟩:=bd k
     refine B6 O O (b.mono' (A.trans u)) NQ U O λbo ao=>AB O (AV O ao Ms UG O λbp ap=>AB O (BR BX j.1 O ap Ys O λbq aq=>AB O (BJ O aq Vb O λbr=>AB O (CN O (AI O ?_)))))
     cases k
     exact AN O
    have k:=GX Q k
    cases k
    exact AX O O
   refine AA O ?_
   obtain⟨V,m,E⟩:=bd E
   refine AO 8 58 (.bool V) ?_ ?_
   ·cases W:M
    ·have m:=GY W m
     refine AB O (AA O (AB O (AA O (AB O ?_))))
     obtain⟨bs,X,m⟩:=bd m
     refine B6 O O (b.mono' (A.trans u)) NQ X O λbt ar=>AB O (AV O ar MH UF O λbu au=>AB O (BR BX j.1 O au Yr O λbv av=>AB O (BJ O av Va O λbw=>AB O (CN O (AI O ?_)))))
     cases m
     exact AN O
    have m:=GX W m
    cases m
    exact AX O O
   refine AA O ?_
   obtain⟨Y,o,E⟩:=bd E
   refine AO 8 67 (.bool Y) ?_ ?_
   ·cases Z:V
    ·have o:=GY Z o
     refine AB O (AA O (AB O (AA O (AB O ?_))))
     obtain⟨bx,ab,o⟩:=bd o
     refine B6 O O (b.mono' (A.trans u)) NQ ab O λbz aw=>AB O (AV O aw Py YG O λb0 ax=>AB O (BR BX j.1 O ax cI O λb1 ay=>AB O (BJ O ay cM O λb2=>AB O (CN O (AI O ?_)))))
     cases o
     exact AN O
    have o:=GX Z o
    cases o
    exact AX O O
   refine AA O ?_
   obtain⟨az,p,E⟩:=bd E
   refine AO 8 76 (.bool az) ?_ ?_
   ·cases ac:Y
    ·have p:=GY ac p
     refine AB O (AA O (AB O (AA O (AB O ?_))))
     obtain⟨b3,ad,p⟩:=bd p
     refine B6 O O (b.mono' (A.trans u)) NQ ad O λb4 a0=>AB O (AV O a0 CW.f_Rain YH O λb5 a1=>AB O (BR BX j.1 O a1 Ro O λb6 a2=>AB O (BJ O a2 Hf O λb7=>AB O (CN O (AI O ?_)))))
     cases p
     exact AN O
    have p:=GX ac p
    cases p
    exact AX O O
   refine AL (kp [76,2,7] O) (AW O E (λa3 E=>?_) (λa3 E=>?_))
   ·refine AE (AJ O (kp [6] O) (WF.ret (λG H y z=>?_)))
    cases E
    exact EU y z O O (A.trans u) ⟨O,j⟩
   refine AQ (B0 (CL (.inl O) (AA O (BD O (AJ O (kp [7,2] O) (WF.nil (λG H y z=>?_)))))))
   exact⟨(B8 (C+1)),_,_,y.sub (kp [2,7] O),z,j,u,(CJ _),E⟩
  refine WF.exit O (λG H y z=>?_)
  exact⟨_,_,y.sub Kv,z,j,u,E⟩
 rintro G H ⟨b8,b9,y,z,ae,a4,E⟩
 refine A8 ?_ y z
 clear y z H G
 rw[FO] at E
 refine AE (AJ O (kp [6] O) (WF.ret (λG H y z=>?_)))
 cases E
 exact EU y z O O (A.trans a4) ⟨O,ae⟩
def HE (j:St S L h) {a:Value}{c:AH}(b:Rd S h AM a c) {r:Bool}(E:EO N c=some r):
 Ct prog 13 #[a] S h (λv S' h'=>v= .bool r∧St S' (L) h'):=by
 refine BO (l:=[a]) 8 func13 O ntmps13 O λB=>?_
 rw[EO] at E
 refine WF.sl (BM O b (λe=>by cases e) O j λt u w d k i=>A5 1 (A4 O (A6 (AS (kp [1] O) (AE (AV O i AH.f_Lo EV O λx m=>AY BX d.1 O m AZ O λy=>AV O i AH.f_Hi D2 O λn g=>AY BX d.1 O g AZ O λo=>HC O (AJ O (kp [2] O) (WF.ret (λz A p s=>?_)))))))))
 cases E
 exact EU p s O O k ⟨O,d⟩
def Pg (hs:St S L h) {i:Value}{t:AU}(H:Rd S h Ch i t) {j:Value}{b:Cr}(J:Rd S h GF j b) {r:Bool}(E:Ix N t b=some r):
 Ct prog 56 #[i,j] S h (λv S' h'=>v= .bool r∧St S' (L) h'):=by
 refine BO (l:=[i,j]) 67 func56 O ntmps56 O λB=>?_
 rw[Ix] at E
 refine WF.sl (BM O H (λe=>by cases e) O hs λq1 S2 h3 aq e5 k6=>BM O (J.mono e5) (λe=>by cases e) O aq λq8 S9 U g D z=>A5 1 (A4 O (A6 (AS (kp [3,2] O) (AC (AE (AV O z Pz SS O λbi ar=>AY BX g.1 O ar AZ O λbj=>BE O (AA O (AO 4 16 (.bool ((decide (b.At<0))||(decide (1073741824<b.At)))) ?_ ?_)))))))))
 ·cases bk:(decide (b.At<0))
  ·exact AB O (AV O z Pz SS O λbl au=>AB O (AY BX g.1 O au AZ O λbm=>AB O (CN O (AI O (AN O)))))
  exact AX O O
 refine AA O (AO 4 21 (.bool (((decide (b.At<0))||(decide (1073741824<b.At)))||(decide (b.I<0)))) ?_ ?_)
 ·cases bn:((decide (b.At<0))||(decide (1073741824<b.At)))
  ·exact AB O (AV O z Cr.f_From Nn O λbo av=>AB O (AY BX g.1 O av AZ O λbp=>AB O (BE O (AI O (AN O)))))
  exact AX O O
 refine AA O (AO 4 26 (.bool ((((decide (b.At<0))||(decide (1073741824<b.At)))||(decide (b.I<0)))||(decide (16777216<b.I)))) ?_ ?_)
 ·cases bq:(((decide (b.At<0))||(decide (1073741824<b.At)))||(decide (b.I<0)))
  ·exact AB O (AV O z Cr.f_From Nn O λbr aw=>AB O (AY BX g.1 O aw AZ O λbs=>AB O (CN O (AI O (AN O)))))
  exact AX O O
 refine AA O (AO 5 32 (.bool (((((decide (b.At<0))||(decide (1073741824<b.At)))||(decide (b.I<0)))||(decide (16777216<b.I)))||(decide (24<(↑b.Ai.length:Int))))) ?_ ?_)
 ·cases bt:((((decide (b.At<0))||(decide (1073741824<b.At)))||(decide (b.I<0)))||(decide (16777216<b.I)))
  ·exact AB O (AV O z Cr.f_Rain Nm O λbu ax=>AB O (BR BX g.1 O ax Qq O λbv ay=>AB O (BJ O ay PE O λbw=>AB O (CN O (AI O (AN O))))))
  exact AX O O
 refine AL (kp [32,3,2] O) (AW O E (λaz E=>?_) (λaz E=>?_))
 ·refine AE (AJ O (kp [4] O) (WF.ret (λk m c d=>?_)))
  cases E
  exact EU c d O O (e5.trans D) ⟨O,g⟩
 refine AQ (AC (AE (AV O z Cr.f_Rain Nm O λbx a0=>BR BX g.1 O a0 Qq O λV af=>BJ O af PE O λbz=>AA O (AL (kp [36,35,34,2] O) (BG (λa w=>IV B S9 U (67,[]) a w [] (L) λ_ _=>FA N=some r) ?_ ?_)))))
 ·refine Bt (λn1=>λa w=>∃(p:Int),IV B S9 U (67,[]) a w [(35,vI (↑b.Ai.length:Int)),(34,V),(2,q1),(36,vI p)] (L) λ_ _=>AD p∧D9 N t b (FA N) n1 p=some r) N ?_ ?_ ?_
  ·intro k m c d
   exact⟨0,_,_,c.sub (kp [35,34,2,36] O),d,g,(Cm.refl S9 U),(iq (n:=0) O),E⟩
  ·rintro k m ⟨_,_,_,_,_,_,_,_,E⟩
   rw[D9] at E;cases E
  rintro n1 k m ⟨p,W,X,c,d,u,C,b0,E⟩
  refine A8 ?_ c d
  clear c d m k
  rw[D9] at E
  refine AE (BE O (AL (kp [37,35,34,2,36] O) (AC (AW O E (λa1 E=>?_) (λa1 E=>?_)))))
  ·refine AQ (AC (BG (λa w=>IV B W X (67,[]) a w [(35,vI (↑b.Ai.length:Int)),(34,V),(2,q1),(36,vI p)] (L) λ_ _=>Gp N p (D9 N t b (FA N) n1)=some r) ?_ ?_))
   ·refine AE ?_
    obtain⟨ag,ah,E⟩:=bd E
    refine B6 O O (af.mono' C) PE ah O λb1 a2=>BR BX u.1 O a2 IK O λa3 Y=>AJ O (kp [6,35,34,2,36] O) (AC (AE (AA O (BJ O Y Gs O λb2=>AV O (k6.mono (D.trans C)) CC En O λb3 a4=>BR BX u.1 O a4 HD O λb4 a5=>BJ O a5 Ga O λb5=>Cq O (AL (kp [45,6,35,34,2,36] O) (AW O E (λa6 E=>?_) (λa6 E=>?_)))))))
    ·refine AE (AJ O (kp [4] O) (WF.ret (λk m c d=>?_)))
     cases E
     exact EU c d O O (e5.trans (D.trans C)) ⟨O,u⟩
    refine AQ (AE (AA O (BJ O Y Gs O λb6=>AA O (AL (kp [48,47,46,35,34,2,36] O) (BW (Bt (λn3=>λa w=>∃(F:Int),IV B W X (67,[]) a w [(47,vI (↑ag.length:Int)),(46,a3),(35,vI (↑b.Ai.length:Int)),(34,V),(2,q1),(36,vI p),(48,vI F)] (L) λ_ _=>AD F∧Ei N ag (Gp N p (D9 N t b (FA N) n1)) n3 F=some r) N ?_ ?_ ?_))))))
    ·intro k m c d
     exact⟨0,_,_,c.sub (kp [47,46,35,34,2,36,48] O),d,u,(Cm.refl W X),(iq (n:=0) O),E⟩
    ·rintro k m ⟨_,_,_,_,_,_,_,_,E⟩
     rw[Ei] at E;cases E
    rintro n3 k m ⟨F,b7,b8,c,d,G,K,b9,E⟩
    refine A8 ?_ c d
    clear c d m k
    rw[Ei] at E
    refine AE (BE O (AL (kp [49,47,46,35,34,2,36,48] O) (AC (AW O E (λa7 E=>?_) (λa7 E=>?_)))))
    ·refine AQ (AC (BW (WF.sl (A5 2 ?_))))
     obtain⟨s,ai,E⟩:=bd E
     refine B6 O O (Y.mono' K) Gs ai O λca a8=>BP BX G.1 O a8 BY (λe=>by cases e) O λcb a9=>A6 (CX F7 O G λcc cd aj Z=>?_)
     obtain⟨rfl,⟨ba,bb⟩⟩:=AM.ex (a9.mono Z)
     refine BU (vs:=[vI s.B,vI s.A]) O O O O BY O aj .head O λce y ak=>AS (kp [8,47,46,35,34,2,36,48] O) (AC (WF.rc (.inl O) y (Cw (vs:=[vI s.B,vI s.A]) Bs y O mh O O BY O O ?_)))
     obtain⟨M,am,E⟩:=bd E
     refine BL O O O Qc O (λh' o=>HE (St.all h') (AM.mk (x:=s) ⟨ba,bb⟩) am) (BT O (AA O (AO 4 59 (.bool ((!M)||(decide (s.B<0)))) ?_ ?_)))
     ·cases cf:(!M)
      ·exact AB O (AF EV O (AB O (AT Bs y O mh O AZ O (AB O (BE O (AI O (AN O)))))))
      exact AX O O
     refine AA O (AO 4 64 (.bool (((!M)||(decide (s.B<0)))||(decide (1125899906842624<s.A)))) ?_ ?_)
     ·cases cg:((!M)||(decide (s.B<0)))
      ·exact AB O (AF D2 O (AB O (AT Bs y O mh O AZ O (AB O (CN O (AI O (AN O)))))))
      exact AX O O
     refine Bu (kp [64,47,46,35,34,2,36,48] O) λch Q an=>AW O E (λbc E=>?_) (λbc E=>?_)
     ·refine AE (AJ O (kp [4] O) (WF.ret (λk m c d=>?_)))
      have ab:=Q.drop .head
      cases E
      exact EU c d O O (e5.trans (D.trans (C.trans (K.trans (Z.trans (ak.trans an)))))) ⟨O,ab⟩
     refine AQ (B0 (CL (.inl O) (BD O (AA O (AL (kp [48,47,46,35,34,2,36] O) (WF.nil (λk m c d=>?_)))))))
     have ac:=Q.drop .head
     exact⟨(B8 (F+1)),_,_,c.sub (kp [47,46,35,34,2,36,48] O),d,ac,(K.trans (Z.trans (ak.trans an))),(CJ _),E⟩
    refine JV O (WF.nil (λk m c d=>?_))
    exact⟨_,_,c.sub (kp [35,34,2,36] O),d,G,K,E⟩
   rintro k m ⟨be,bf,c,d,ad,ao,E⟩
   refine A8 ?_ c d
   clear c d m k
   rw[Gp] at E
   refine CL (.inl O) (BD O (AA O (AL (kp [36,35,34,2] O) (WF.nil (λk m c d=>?_)))))
   exact⟨(B8 (p+1)),_,_,c.sub (kp [35,34,2,36] O),d,ad,(C.trans ao),(CJ _),E⟩
  refine WF.exit O (λk m c d=>?_)
  exact⟨_,_,c.sub Kv,d,u,C,E⟩
 rintro k m ⟨bg,bh,c,d,ae,ap,E⟩
 refine A8 ?_ c d
 clear c d m k
 rw[FA] at E
 refine AE (AJ O (kp [4] O) (WF.ret (λk m c d=>?_)))
 cases E
 exact EU c d O O (e5.trans (D.trans ap)) ⟨O,ae⟩
def L9 (X:St S L h) {i:Value}{p:AU}(s:Rd S h Ch i p) {b:Value}{c:(List Cr)}(d:Sl S h GF b c) {r:Bool}(E:Gc N p c=some r):
 Ct prog 17 #[i,b] S h (λv S' h'=>v= .bool r∧St S' (L) h'):=by
 refine BO (l:=[i,b]) 19 func17 O ntmps17 O λB=>?_
 rw[Gc] at E
 refine WF.sl (BM O s (λe=>by cases e) O X λY G H I F Z=>A5 1 (A4 O (A6 (AS (kp [2,1] O) (AC (AE (AJ O (kp [5,2,1] O) (BG (λa w=>IV B G H (19,[]) a w [] (L) λ_ _=>E3 N=some r) ?_ ?_))))))))
 ·refine Bt (λW=>λa w=>∃(y:Int),IV B G H (19,[]) a w [(2,Y),(1,b),(5,vI y)] (L) λ_ _=>AD y∧Dh N p c (E3 N) W y=some r) N ?_ ?_ ?_
  ·intro t u j k
   exact⟨0,_,_,j.sub (kp [2,1,5] O),k,I,(Cm.refl G H),(iq (n:=0) O),E⟩
  ·rintro t u ⟨_,_,_,_,_,_,_,_,E⟩
   rw[Dh] at E;cases E
  rintro W t u ⟨y,ab,ac,j,k,g,m,ad,E⟩
  refine A8 ?_ j k
  clear j k u t
  rw[Dh] at E
  refine AC (AE (AA O (AA O (BJ O (d.mono' (F.trans m)) NR O λae=>BE O (AL (kp [9,2,1,5] O) (AW O E (λJ E=>?_) (λJ E=>?_)))))))
  ·refine AQ (AC (BW (AC (WF.rc (.inr ⟨mo,by kernel_rfl⟩) g (BP Bs g.1 O (Z.mono m) Hc (λe=>by cases e) O λaf K=>AA O (AA O ?_))))))
   obtain⟨ag,z,E⟩:=bd E
   refine B6 O O (d.mono' (F.trans m)) NR z O λah M=>BP Bs g.1 O M O8 (λe=>by cases e) O λai Q=>?_
   obtain⟨aj,A,E⟩:=bd E
   refine BL O O O eE O (λh' o=>Pg (St.all h') (K.mono (o.all g.1)) (Q.mono (o.all g.1)) A) (BT O (Bu (kp [18,2,1,5] O) λak x C=>AW O E (λU E=>?_) (λU E=>?_)))
   ·refine AE (AJ O (kp [4] O) (WF.ret (λt u j k=>?_)))
    cases E
    exact EU j k O O (F.trans (m.trans C)) ⟨O,x⟩
   refine AQ (B0 (CL (.inl O) (AA O (BD O (AJ O (kp [5,2,1] O) (WF.nil (λt u j k=>?_)))))))
   exact⟨(B8 (y+1)),_,_,j.sub (kp [2,1,5] O),k,x,(m.trans C),(CJ _),E⟩
  refine WF.exit O (λt u j k=>?_)
  exact⟨_,_,j.sub Kv,k,g,m,E⟩
 rintro t u ⟨al,am,j,k,D,V,E⟩
 refine A8 ?_ j k
 clear j k u t
 rw[E3] at E
 refine AE (AJ O (kp [4] O) (WF.ret (λt u j k=>?_)))
 cases E
 exact EU j k O O (F.trans V) ⟨O,D⟩
end Go.Proofs.YtibidnaedddfdaaGreat
