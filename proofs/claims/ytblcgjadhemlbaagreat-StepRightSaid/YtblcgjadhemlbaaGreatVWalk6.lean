import Derived.Test.YtblcgjadhemlbaaGreatVWalk5
namespace Go.Proofs.YtblcgjadhemlbaaGreat
set_option linter.all false
open Go.RowKit
open Go.Proofs.Tryz
set_option maxRecDepth 10000
set_option maxHeartbeats 2000000
variable {N:Nat}{S:Nat→Prop}{L:List HP}{h:BL}
def Lq (H:St S L h) {c:Value}{i:(List Int)}(j:Sl S h AJ c i) {b:Int}(t:AH b) {r:Int×Bool}(E:Gx N i b=some r):
 C5 prog 38 #[c,vI b] S h (λv S' h'=>v= .tuple #[vI r.1,.bool r.2]∧AH r.1∧St S' (L) h'):=by
 refine Bv (l:=[c,vI b]) 29 func38 O ntmps38 O λB=>?_
 rw[Gx] at E
 refine AI (AY O (AM O (kp [0,1] O) (AI (AM O (kp [6,0,1] O) (AE (AI (AA O (BC O j CA O λZ=>AA O (AN (kp [11,10,9,6,1] O) (BF (λa w=>∃(z:Int),IV B S h (29,[]) a w [(6,vI z)] (L) λ_ _=>AH z∧FX N z=some r) ?_ ?_))))))))))
 ·refine BT (λG=>λa w=>∃(u:Int) (m:Int),IV B S h (29,[]) a w [(10,vI (↑i.length:Int)),(9,c),(1,vI b),(6,vI u),(11,vI m)] (L) λ_ _=>AH u∧AH m∧Dp N i b (FX N) G u m=some r) N ?_ ?_ ?_
  ·intro o p d g
   exact⟨0,0,_,_,d.sub (kp [10,9,1,6,11] O),g,H,(Cv.refl S h),(iq (n:=0) O),(iq (n:=0) O),E⟩
  ·rintro o p ⟨_,_,_,_,_,_,_,_,_,_,E⟩
   rw[Dp] at E;cases E
  rintro G o p ⟨u,m,I,J,d,g,k,q,K,M,E⟩
  refine A6 ?_ d g
  clear d g p o
  rw[Dp] at E
  refine AI (BK O (AN (kp [12,10,9,1,6,11] O) (AE (AX O E (λA E=>?_) (λA E=>?_)))))
  ·refine AT (AE (BV (AI ?_)))
   obtain⟨s,x,E⟩:=bd E
   refine Bz O O (j.mono' q) CA x O λQ C=>A9 BY k.1 O C A7 O λU=>AM O (kp [8,10,9,1,6,11] O) (AE (AI (AA O (BK O (AA O (AW 6 23 (.bool ((decide (s<0))||(decide ((B0 (b-u))<s)))) ?_ ?_))))))
   ·cases V:(decide (s<0))
    ·exact AB O (AA O (AB O (AA O (AB O (AA O (AB O (Dk O (AB O (CP O (AL O (AV O)))))))))))
    exact A3 O O
   refine AN (kp [23,8,10,9,1,6,11] O) (AX O E (λD E=>?_) (λD E=>?_))
   ·refine AI (AY O (AM O (kp [5,4] O) (A5 (λo p d g=>?_))))
    cases E
    exact Kn d O g (Ix (JP d (v:=_) O) (Ix (JP d (v:=_) O) Km)) O q ⟨O,(iq (n:=0) O),k⟩
   refine AT (CN (.inl O) (AA O (AA O (BB O (AM O (kp [6,10,9,1,11] O) (B5 (CN (.inl O) (BB O (AA O (AN (kp [11,6,10,9,1] O) (WF.nil (λo p d g=>?_))))))))))))
   exact⟨(B0 (u+s)),(B0 (m+1)),_,_,d.sub (kp [10,9,1,6,11] O),g,k,q,(B1 _),(B1 _),E⟩
  refine By O (λo p d g=>?_)
  exact⟨u,_,_,d.sub (kp [6] O),g,k,q,K,E⟩
 rintro o p ⟨z,W,X,d,g,y,F,Y,E⟩
 refine A6 ?_ d g
 clear d g p o
 rw[FX] at E
 refine AI (AA O (AY O (AM O (kp [5,4] O) (A5 (λo p d g=>?_)))))
 cases E
 exact Kn d O g (Ix (JP d (v:=_) O) (Ix (JP d (v:=_) O) Km)) O F ⟨O,Y,y⟩
def I7 (hs:St S L h) {Y:Value}{d:AU}(az:Rd S h CZ Y d) {ab:Value}{b:BD}(a0:Rd S h C3 ab b) {r:Bool}(E:Fs N d b=some r):
 C5 prog 14 #[Y,ab] S h (λv S' h'=>v= .bool r∧St S' (L) h'):=by
 refine Bv (l:=[Y,ab]) 168 func14 O ntmps14 O λB=>?_
 rw[Fs] at E
 refine WF.sl (Cm O az (λe=>by cases e) O hs λq1 S2 h3 c3 e5 k6=>Cm O (a0.mono e5) (λe=>by cases e) O c3 λq8 S9 be j u U=>AF 1 (AY O (AG (AZ (kp [3,2] O) (AE (AI (A8 O U BD.f_Hour H0 O λf4 c4=>A9 BY j.1 O c4 A7 O λf5=>BK O (AA O (AW 4 20 (.bool ((decide (b.B<0))||(decide (16777216<b.B)))) ?_ ?_)))))))))
 ·cases f6:(decide (b.B<0))
  ·exact AB O (A8 O U BD.f_Hour H0 O λf7 c5=>AB O (A9 BY j.1 O c5 A7 O λf8=>AB O (CP O (AL O (AV O)))))
  exact A3 O O
 refine AA O (AW 8 29 (.bool (((decide (b.B<0))||(decide (16777216<b.B)))||(decide ((↑b.G.length:Int)≠(↑d.A.length:Int))))) ?_ ?_)
 ·cases f9:((decide (b.B<0))||(decide (16777216<b.B)))
  ·exact AB O (A8 O U J5 Eo O λga c6=>AB O (BG BY j.1 O c6 Hz O λgb c7=>AB O (BC O c7 Fx O λgc=>AB O (A8 O (k6.mono u) B6 Do O λgd c8=>AB O (BG BY j.1 O c8 Gu O λge c9=>AB O (BC O c9 Fy O λgf=>AB O (CW O (AL O (AV O)))))))))
  exact A3 O O
 refine AA O (AW 8 38 (.bool ((((decide (b.B<0))||(decide (16777216<b.B)))||(decide ((↑b.G.length:Int)≠(↑d.A.length:Int))))||(decide ((↑b.M.length:Int)≠(↑d.A.length:Int))))) ?_ ?_)
 ·cases gg:(((decide (b.B<0))||(decide (16777216<b.B)))||(decide ((↑b.G.length:Int)≠(↑d.A.length:Int))))
  ·exact AB O (A8 O U J4 KP O λgh da=>AB O (BG BY j.1 O da CG O λgi db=>AB O (BC O db CA O λgj=>AB O (A8 O (k6.mono u) B6 Do O λgl dc=>AB O (BG BY j.1 O dc Gu O λgm dd=>AB O (BC O dd Fy O λgn=>AB O (CW O (AL O (AV O)))))))))
  exact A3 O O
 refine AA O (AW 8 47 (.bool (((((decide (b.B<0))||(decide (16777216<b.B)))||(decide ((↑b.G.length:Int)≠(↑d.A.length:Int))))||(decide ((↑b.M.length:Int)≠(↑d.A.length:Int))))||(decide ((↑b.Q.length:Int)≠(↑d.E.length:Int))))) ?_ ?_)
 ·cases gp:((((decide (b.B<0))||(decide (16777216<b.B)))||(decide ((↑b.G.length:Int)≠(↑d.A.length:Int))))||(decide ((↑b.M.length:Int)≠(↑d.A.length:Int))))
  ·exact AB O (A8 O U J6 Ie O λgq de=>AB O (BG BY j.1 O de K9 O λgr df=>AB O (BC O df Ks O λgs=>AB O (A8 O (k6.mono u) Fo H1 O λgt dg=>AB O (BG BY j.1 O dg KY O λgu dh=>AB O (BC O dh Io O λgv=>AB O (CW O (AL O (AV O)))))))))
  exact A3 O O
 refine AA O (AW 8 56 (.bool ((((((decide (b.B<0))||(decide (16777216<b.B)))||(decide ((↑b.G.length:Int)≠(↑d.A.length:Int))))||(decide ((↑b.M.length:Int)≠(↑d.A.length:Int))))||(decide ((↑b.Q.length:Int)≠(↑d.E.length:Int))))||(decide ((↑b.O.length:Int)≠(↑d.H.length:Int))))) ?_ ?_)
 ·cases gw:(((((decide (b.B<0))||(decide (16777216<b.B)))||(decide ((↑b.G.length:Int)≠(↑d.A.length:Int))))||(decide ((↑b.M.length:Int)≠(↑d.A.length:Int))))||(decide ((↑b.Q.length:Int)≠(↑d.E.length:Int))))
  ·exact AB O (A8 O U Kj K3 O λgx di=>AB O (BG BY j.1 O di CG O λgy dj=>AB O (BC O dj CA O λgz=>AB O (A8 O (k6.mono u) E6 If O λg0 dk=>AB O (BG BY j.1 O dk LA O λg1 dl=>AB O (BC O dl Kt O λg2=>AB O (CW O (AL O (AV O)))))))))
  exact A3 O O
 refine AA O (AW 8 65 (.bool (((((((decide (b.B<0))||(decide (16777216<b.B)))||(decide ((↑b.G.length:Int)≠(↑d.A.length:Int))))||(decide ((↑b.M.length:Int)≠(↑d.A.length:Int))))||(decide ((↑b.Q.length:Int)≠(↑d.E.length:Int))))||(decide ((↑b.O.length:Int)≠(↑d.H.length:Int))))||(decide ((↑b.P.length:Int)≠(↑d.H.length:Int))))) ?_ ?_)
 ·cases g3:((((((decide (b.B<0))||(decide (16777216<b.B)))||(decide ((↑b.G.length:Int)≠(↑d.A.length:Int))))||(decide ((↑b.M.length:Int)≠(↑d.A.length:Int))))||(decide ((↑b.Q.length:Int)≠(↑d.E.length:Int))))||(decide ((↑b.O.length:Int)≠(↑d.H.length:Int))))
  ·exact AB O (A8 O U K5 Jv O λg4 dm=>AB O (BG BY j.1 O dm CG O λg5 dn=>AB O (BC O dn CA O λg6=>AB O (A8 O (k6.mono u) E6 If O λg7 dp=>AB O (BG BY j.1 O dp LA O λg8 dq=>AB O (BC O dq Kt O λg9=>AB O (CW O (AL O (AV O)))))))))
  exact A3 O O
 refine AN (kp [65,3,2] O) (AX O E (λdr E=>?_) (λdr E=>?_))
 ·refine AI (AM O (kp [4] O) (A5 (λz J k m=>?_)))
  cases E
  exact Ee k m O O (e5.trans u) ⟨O,j⟩
 refine AT (AE (AI ?_))
 have bv:=k6.mono u
 refine A8 O bv B6 Do O λha ds=>BG BY j.1 O ds Gu O λdt bw=>BC O bw Fy O λhb=>AA O (AN (kp [69,68,67,3,2] O) (BF (λa w=>IV B S9 be (168,[]) a w [(3,q8),(2,q1)] (L) λ_ _=>DR N d b=some r) ?_ ?_))
 ·refine BT (λn1=>λa w=>∃(ao:Int),IV B S9 be (168,[]) a w [(68,vI (↑d.A.length:Int)),(67,dt),(3,q8),(2,q1),(69,vI ao)] (L) λ_ _=>AH ao∧Dn N d b (DR N d b) n1 ao=some r) N ?_ ?_ ?_
  ·intro z J k m
   exact⟨0,_,_,k.sub (kp [68,67,3,2,69] O),m,j,(Cv.refl S9 be),(iq (n:=0) O),E⟩
  ·rintro z J ⟨_,_,_,_,_,_,_,_,E⟩
   rw[Dn] at E;cases E
  rintro n1 z J ⟨ao,hc,hd,k,m,ap,aq,he,E⟩
  refine A6 ?_ k m
  clear k m J z
  rw[Dn] at E
  refine AI (BK O (AN (kp [70,68,67,3,2,69] O) (AE (AX O E (λdu E=>?_) (λdu E=>?_)))))
  ·refine AT (AE (BV (WF.sl (AF 3 (AA O ?_)))))
   obtain⟨p,bx,E⟩:=bd E
   refine Bz O O (bw.mono' aq) Fy bx O λhg bz=>Ci BY ap.1 O bz KX (λe=>by cases e) O λdv b0=>AG (Di O2 O ap λdw dx bf aj=>AF 1 (AY O (AG ?_)))
   obtain⟨a1,a2,a3,rfl,dy,dz,d0,d1,b1,b2,d2,d3,d4,d5,d6,b3⟩:=Cd.ex (b0.mono aj)
   refine IA (vs:=[.string p.F,vI p.C,vI p.An,vI p.Aj,a1,a2,vI p.S,vI p.L,vI p.Ak,vI p.K,vI p.Bd,a3]) (cs':=[.string p.F,vI p.C,vI p.An,vI p.Aj,a1,a2,vI p.S,vI p.L,vI p.Ak,vI p.K,vI p.Bd,a3]) O O O (AC O (AC O (AC O (AC O (AC b1.one (AC b2.one (AC O (AC O (AC O (AC O (AC O (AC b3.one FA)))))))))))) KX O bf .head O O λd7 t ar=>AZ (kp [5,6,68,67,3,2,69] O) (AE (CN (.inr ⟨mo,by kernel_rfl⟩) ?_))
   have a4:=U.mono (aq.trans (aj.trans ar))
   refine A8 O a4 J4 KP O λd8 b4=>BG BY t.1 O b4 CG O λd9 b5=>AA O ?_
   obtain⟨b6,bg,E⟩:=bd E
   refine Bz O O b5 CA bg O λea b7=>A9 BY t.1 O b7 A7 O λeb=>BK O (AA O ?_)
   obtain⟨b8,s,E⟩:=bd E
   refine AW 11 91 (.bool b8) ?_ ?_
   ·cases a5:(decide (b6<0))
    ·have s:=HG a5 s
     refine AB O (A8 O a4 J4 KP O λec b9=>AB O (BG BY t.1 O b9 CG O λed ca=>AB O (AA O (AB O ?_))))
     obtain⟨ee,bh,s⟩:=bd s
     refine Bz O O ca CA bh O λef cb=>AB O (A9 BY t.1 O cb A7 O λeg=>AB O (AD Lb O (AB O (AS BY t O mh O A7 O (AB O (Dk O (AB O (QU O O O (AB O (CP O (AL O ?_)))))))))))
     cases s
     exact AV O
    have s:=HE a5 s
    cases s
    exact A3 O O
   refine AN (kp [91,68,67,3,2,69] O) (AX O E (λcc E=>?_) (λcc E=>?_))
   ·refine AI (AM O (kp [4] O) (A5 (λz J k m=>?_)))
    have bi:=t.drop .head
    cases E
    exact Ee k m O O (e5.trans (u.trans (aq.trans (aj.trans ar)))) ⟨O,bi⟩
   refine AT (B5 (CN (.inl O) (BB O (AA O (AN (kp [69,68,67,3,2] O) (WF.nil (λz J k m=>?_)))))))
   have bj:=t.drop .head
   exact⟨(B0 (ao+1)),_,_,k.sub (kp [68,67,3,2,69] O),m,bj,(aq.trans (aj.trans ar)),(B1 _),E⟩
  refine By O (λz J k m=>?_)
  exact⟨_,_,k.sub (kp [3,2] O),m,ap,aq,E⟩
 rintro z J ⟨au,av,k,m,aw,x,E⟩
 refine A6 ?_ k m
 clear k m J z
 rw[DR] at E
 refine AE (AI ?_)
 have a6:=bv.mono x
 refine A8 O a6 Fo H1 O λeh cd=>BG BY aw.1 O cd KY O λce a7=>BC O a7 Io O λei=>AA O (AN (kp [96,95,94,3,2] O) (BF (λa w=>IV B au av (168,[]) a w [(3,q8),(2,q1)] (L) λ_ _=>DQ N d b=some r) ?_ ?_))
 ·refine BT (λn3=>λa w=>∃(ae:Int),IV B au av (168,[]) a w [(95,vI (↑d.E.length:Int)),(94,ce),(3,q8),(2,q1),(96,vI ae)] (L) λ_ _=>AH ae∧Dm N d b (DQ N d b) n3 ae=some r) N ?_ ?_ ?_
  ·intro z J k m
   exact⟨0,_,_,k.sub (kp [95,94,3,2,96] O),m,aw,(Cv.refl au av),(iq (n:=0) O),E⟩
  ·rintro z J ⟨_,_,_,_,_,_,_,_,E⟩
   rw[Dm] at E;cases E
  rintro n3 z J ⟨ae,ej,ek,k,m,ah,X,el,E⟩
  refine A6 ?_ k m
  clear k m J z
  rw[Dm] at E
  refine AI (BK O (AN (kp [97,95,94,3,2,96] O) (AE (AX O E (λcf E=>?_) (λcf E=>?_)))))
  ·refine AT (AE (BV (WF.sl (AF 3 (AA O ?_)))))
   obtain⟨c,bk,E⟩:=bd E
   refine Bz O O (a7.mono' X) Io bk O λem cg=>Ci BY ah.1 O cg IJ (λe=>by cases e) O λen ch=>AG (Di O1 O ah λeo ep bl af=>AF 1 (AY O (AG ?_)))
   obtain⟨a8,a9,ba,rfl,eq,er,es,et,ci,cj,ck,eu,ev,ew,ey,ez,e0,e1,e2,e3,e4,e6⟩:=Ce.ex (ch.mono af)
   refine IA (vs:=[.string c.F,vI c.C,vI c.I,vI c.D,a8,a9,ba,vI c.T,vI c.Z,vI c.Ao,vI c.Ap,vI c.S,vI c.L,vI c.Ah,vI c.Ai,vI c.Ac,vI c.Ab,vI c.K]) (cs':=[.string c.F,vI c.C,vI c.I,vI c.D,a8,a9,ba,vI c.T,vI c.Z,vI c.Ao,vI c.Ap,vI c.S,vI c.L,vI c.Ah,vI c.Ai,vI c.Ac,vI c.Ab,vI c.K]) O O O (AC O (AC O (AC O (AC O (AC ci.one (AC cj.one (AC ck.one (AC O (AC O (AC O (AC O (AC O (AC O (AC O (AC O (AC O (AC O (AC O FA)))))))))))))))))) IJ O bl .head O O λe7 ai ak=>AZ (kp [7,8,95,94,3,2,96] O) (WF.sl (AF 5 (A8 O (U.mono (x.trans (X.trans (af.trans ak)))) J6 Ie O λe8 cl=>BG BY ai.1 O cl K9 O λe9 cm=>AA O ?_)))
   obtain⟨g,bm,E⟩:=bd E
   refine Bz O O cm Ks bm O λfb cn=>Ci BY ai.1 O cn He (λe=>by cases e) O λfc co=>AG (Di Sv O ai λfd fe bn am=>?_)
   obtain⟨rfl,⟨ff,fg⟩⟩:=Bu.ex (co.mono am)
   refine EW (vs:=[vI g.V,vI g.W,.bool g.Aw,.bool g.Al]) O O O O He O bn .head O λfh i ax=>AZ (kp [9,8,95,94,3,2,96] O) (AE (AI (AD NM O (AS BY i O mh O A7 O (BK O (AA O (AW 6 115 (.bool ((decide (g.V<0))||(decide (c.T<g.V)))) ?_ ?_)))))))
   ·cases fi:(decide (g.V<0))
    ·exact AB O (AD NM O (AB O (AS BY i O mh O A7 O (AB O (AD Jr O (AB O (AS BY i O (mt mh) O A7 O (AB O (CP O (AL O (AV O)))))))))))
    exact A3 O O
   refine AA O (AW 4 120 (.bool (((decide (g.V<0))||(decide (c.T<g.V)))||(decide (g.W<0)))) ?_ ?_)
   ·cases fj:((decide (g.V<0))||(decide (c.T<g.V)))
    ·exact AB O (AD Pk O (AB O (AS BY i O mh O A7 O (AB O (BK O (AL O (AV O)))))))
    exact A3 O O
   refine AA O (AW 6 127 (.bool ((((decide (g.V<0))||(decide (c.T<g.V)))||(decide (g.W<0)))||(decide (c.T<g.W)))) ?_ ?_)
   ·cases fk:(((decide (g.V<0))||(decide (c.T<g.V)))||(decide (g.W<0)))
    ·exact AB O (AD Pk O (AB O (AS BY i O mh O A7 O (AB O (AD Jr O (AB O (AS BY i O (mt mh) O A7 O (AB O (CP O (AL O (AV O)))))))))))
    exact A3 O O
   refine AN (kp [127,9,8,95,94,3,2,96] O) (AX O E (λcp E=>?_) (λcp E=>?_))
   ·refine AI (AM O (kp [4] O) (A5 (λz J k m=>?_)))
    have bo:=i.sel [] 2 O
    cases E
    exact Ee k m O O (e5.trans (u.trans (x.trans (X.trans (af.trans (ak.trans (am.trans ax))))))) ⟨O,bo⟩
   refine AT (AI (AD OM O (AS BY i O mh O PH O (AA O (AW 4 134 (.bool (g.Al&&(decide (c.C≠5)))) ?_ ?_)))))
   ·cases fl:g.Al
    ·exact A3 O O
    exact AB O (AD G5 O (AB O (AS BY i O (mt mh) O A7 O (AB O (CW O (AL O (AV O)))))))
   refine AA O (AW 4 139 (.bool ((g.Al&&(decide (c.C≠5)))&&(decide (c.C≠3)))) ?_ ?_)
   ·cases fm:(g.Al&&(decide (c.C≠5)))
    ·exact A3 O O
    exact AB O (AD G5 O (AB O (AS BY i O (mt mh) O A7 O (AB O (CW O (AL O (AV O)))))))
   refine AN (kp [139,95,94,3,2,96] O) (AX O E (λcq E=>?_) (λcq E=>?_))
   ·refine AI (AM O (kp [4] O) (A5 (λz J k m=>?_)))
    have bp:=i.sel [] 2 O
    cases E
    exact Ee k m O O (e5.trans (u.trans (x.trans (X.trans (af.trans (ak.trans (am.trans ax))))))) ⟨O,bp⟩
   refine AT (B5 (CN (.inl O) (BB O (AA O (AN (kp [96,95,94,3,2] O) (WF.nil (λz J k m=>?_)))))))
   have bq:=i.sel [] 2 O
   exact⟨(B0 (ae+1)),_,_,k.sub (kp [95,94,3,2,96] O),m,bq,(X.trans (af.trans (ak.trans (am.trans ax)))),(B1 _),E⟩
  refine By O (λz J k m=>?_)
  exact⟨_,_,k.sub (kp [3,2] O),m,ah,X,E⟩
 rintro z J ⟨fn,fo,k,m,y,ag,E⟩
 refine A6 ?_ k m
 clear k m J z
 rw[DQ] at E
 refine AE (CX (.inl O) y (Ci CL y.1 O (a6.mono ag) HS (λe=>by cases e) O λfp cr=>?_))
 have bb:=U.mono (x.trans ag)
 refine Ci CL y.1 O bb Hs (λe=>by cases e) O λfq cs=>?_
 obtain⟨fr,br,E⟩:=bd E
 refine DF O O O jG O (λh' o=>PJ (St.all h') (cr.mono (o.all y.1)) (cs.mono (o.all y.1)) br) λct=>?_
 have fs:=ct
 refine AA O (CS O (CS O (AY O (AY O (B3 (kp [11,10,3] O) λft ac an=>AE (AI (AA O (CE O (AN (kp [148,10,3] O) (AX O E (λcu E=>?_) (λcu E=>?_)))))))))))
 ·refine AI (AM O (kp [4] O) (A5 (λz J k m=>?_)))
  cases E
  exact Ee k m O O (e5.trans (u.trans (x.trans (ag.trans an)))) ⟨O,ac⟩
 refine AT (AE (CX (.inl O) ac ?_))
 have bc:=bb.mono an
 refine A8 O bc Kj K3 O λfu cv=>BG CL ac.1 O cv CG O λfv cw=>?_
 obtain⟨fw,bs,E⟩:=bd E
 refine DF O O O aS O (λh' o=>Lq (St.all h') (cw.mono' (o.all ac.1)) (iq (n:=1152921504606846976) O) bs) λcx=>?_
 have fx:=cx
 refine AA O (CS O (CS O (AY O (AY O (B3 (kp [11,12,10,3] O) λfy ad ay=>AE (AI (AA O (CE O (AN (kp [156,12,10,3] O) (AX O E (λcy E=>?_) (λcy E=>?_)))))))))))
 ·refine AI (AM O (kp [4] O) (A5 (λz J k m=>?_)))
  cases E
  exact Ee k m O O (e5.trans (u.trans (x.trans (ag.trans (an.trans ay))))) ⟨O,ad⟩
 refine AT (AE (CX (.inl O) ad (A8 O (bc.mono ay) K5 Jv O λfz cz=>BG CL ad.1 O cz CG O λf0 c0=>AA O (BB O (AA O (Dk O ?_))))))
 obtain⟨f1,bt,E⟩:=bd E
 refine DF O O O aS O (λh' o=>Lq (St.all h') (c0.mono' (o.all ad.1)) (B1 _) bt) λc1=>?_
 have f2:=c1
 refine AA O (CS O (CS O (AY O (B3 (kp [11] O) λf3 bu c2=>AI (AA O (AM O (kp [4] O) (A5 (λz J k m=>?_))))))))
 cases E
 exact Ee k m O O (e5.trans (u.trans (x.trans (ag.trans (an.trans (ay.trans c2)))))) ⟨O,bu⟩
def Hu (o:St S L h) {a:Value}{c:(List BH)}(b:Sl S h Bu a c) {r:(List BH)}(E:Cg N c=some r):
 C5 prog 56 #[a] S h (λv S' h'=>St S' (OS Bu 69 v r::L) h'):=by
 refine Bv (l:=[a]) 8 func56 O ntmps56 O λB=>?_
 rw[Cg] at E
 rcases b.cases with ⟨rfl,rfl⟩|⟨t,p,rfl,b⟩
 ·have x:(some ([]:List BH))=some r:=by simpa [chk,room] using E
  refine AI (AM O (kp [0] O) (AE (AI (AA O (Vh O O O Wb (AN (kp [4,0] O) (YU O (AI (AM O (kp [2] O) (A5 (λu w d g=>?_)))))))))))
  have i:=o.nil Bu 69
  cases E
  exact Ee d g O O (Cv.refl S h) i
 refine AI (AM O (kp [0] O) (AE (AI (AA O (Yd O O O Wb (AN (kp [4,0] O) (YV O (AT (WF.sl (Ye (r:=Bu) X8 O O o λv1 y j s=>AF 1 (AA O (AG ?_))))))))))))
 obtain⟨k,E⟩:=Mc E
 refine J3 (r:=Bu) (l:=([]:List BH)) (xs:=c) O O X8 O (Sl.src (b.mono' s)) O k O j (λ_=> .head) λz A m n=>AF 1 (AY O (AG (AZ (kp [2] O) (A5 (λu w d g=>?_)))))
 cases E
 exact Ee d g O O (s.trans n) m
def PK (hs:St S L h) {C:Value}{c:BD}(ao:Rd S h C3 C c) {r:BD}(E:JS N c=some r):
 C5 prog 29 #[C] S h (λv S' h'=>∃w1 w2 w3 w4 w5 w6:Value,v= .agg #[vI r.B,w1,w2,w3,w4,w5,w6]∧AH r.B∧Sl S' h' BI w3 r.J∧St S' (OO AJ 3 29 w1 r.G::OS AJ 3 w2 r.M::OS Bu 69 w4 r.Q::OS AJ 3 w5 r.O::OS AJ 3 w6 r.P::L) h'):=by
 refine Bv (l:=[C]) 43 func29 O ntmps29 O λB=>?_
 rw[JS] at E
 refine WF.sl ?_
 obtain⟨v3,v5,v7,v9,ae,ad,rfl,r2,k4,k6,k8,b1,b2,b3⟩:=C3.ex ao
 refine QZ O O O hs λap cz bc a1=>Di O3 O bc λaq c0 au a2=>AZ (kp [2,1] O) (WF.sl (AF 3 (AD Eo O (AS BY au O (mt mh) O Hz O (BC O (k4.mono' (a1.trans a2)) Fx O λc1=>AG ?_)))))
 obtain⟨be,E⟩:=Mc E
 refine Zo AJ 3 X9 O O be O O au λar a3 av bf=>AF 1 (AY O (AG (AZ (kp [3,2,1] O) (AE (AI (AD Eo O (AS BY av O (mt (mt mh)) O Hz O ?_)))))))
 have bg:=k4.mono' (a1.trans (a2.trans bf))
 refine BC O bg Fx O λc2=>AA O (AN (kp [13,12,11,3,2,1] O) (BF (λa w=>∃(y:List (List Int)),IV B S a3 (43,[]) a w [(3,ar),(2,vP aq 0),(1,vP ap 0)] (OO AJ 3 29 ar y::Bx aq 36 [vI 0,vN,vN,vN,vN,vN,vN]::Bx ap 36 [vI c.B,v3,v5,v7,v9,ae,ad]::L) λ_ _=>FC N c y=some r) ?_ ?_))
 ·refine BT (λn1=>λa w=>∃(U:Int) (af:List (List Int)),IV B S a3 (43,[]) a w [(12,vI (↑c.G.length:Int)),(11,v3),(3,ar),(2,vP aq 0),(1,vP ap 0),(13,vI U)] (OO AJ 3 29 ar af::Bx aq 36 [vI 0,vN,vN,vN,vN,vN,vN]::Bx ap 36 [vI c.B,v3,v5,v7,v9,ae,ad]::L) λ_ _=>AH U∧FB N c (FC N c) n1 U af=some r) N ?_ ?_ ?_
  ·intro aa ww Z hw
   exact⟨0,(List.replicate ((↑c.G.length:Int):Int).toNat ([]:(List Int))),_,_,Z.sub (kp [12,11,3,2,1,13] O),hw,av,(Cv.refl S a3),(iq (n:=0) O),E⟩
  ·rintro aa ww ⟨_,_,_,_,_,_,_,_,_,E⟩
   rw[FB] at E;cases E
  rintro n1 aa ww ⟨U,af,c3,c4,Z,hw,H,a4,c5,E⟩
  refine A6 ?_ Z hw
  clear Z hw ww aa
  rw[FB] at E
  refine AI (BK O (AN (kp [14,12,11,3,2,1,13] O) (AE (AX O E (λb4 E=>?_) (λb4 E=>?_)))))
  ·refine AT (AE (BV (AI (AA O ?_))))
   obtain⟨c6,bh,E⟩:=bd E
   refine Bz O O (bg.mono' a4) Fx bh O λc7 b5=>BG BY H.1 O b5 CG O λc8 b6=>AY O (AM O (kp [5,4,12,11,3,2,1,13] O) (FO (AF 3 (AA O (AA O (AA O (AG ?_)))))))
   obtain⟨b7,bi,E⟩:=bd E
   refine CJ O O O QS O H (D2 (St.all _) (b6.mono (λb hb=>H.1 b hb) (λ_ _=>rfl)) bi) λc9 da db cj b8 b9 p=>?_
   have bj:=p
   have ag:=H.join b9 bj ⟨OS.flat (λ{_ _ _ _ _ _} k=>k),trivial⟩
   simp only[oG,nX] at ag
   refine AF 1 ?_
   obtain⟨dc,bk,E⟩:=bd E
   refine Oc (r:=AJ) ag (mt mh) O O Fx bk O λdd bl=>AG ?_
   obtain⟨de,bm,E⟩:=bd E
   refine Vm (r:=AJ) (i:=U) O O bl bm CG ag λdf bn ca=>AZ (kp [12,11,3,2,1,13] O) (B5 (CN (.inl O) (BB O (AA O (AN (kp [13,12,11,3,2,1] O) (WF.nil (λaa ww Z hw=>?_)))))))
   exact⟨(B0 (U+1)),(upd af U b7),_,_,Z.sub (kp [12,11,3,2,1,13] O),hw,bn,(a4.trans (b8.trans ca)),(B1 _),E⟩
  refine By O (λaa ww Z hw=>?_)
  exact⟨af,_,_,Z.sub (kp [3,2,1] O),hw,H,a4,E⟩
 rintro aa ww ⟨y,dg,dh,Z,hw,aw,cb,E⟩
 refine A6 ?_ Z hw
 clear Z hw ww aa
 rw[FC] at E
 refine WF.sl (AF 2 (AA O (AD Eo O (AG ?_))))
 obtain⟨s,d,rfl,di⟩:=aw.oolen mh
 refine Il (vs:=[(.slice s y.length d)]) (cs':=[vI c.B,(.slice s y.length d),v5,v7,v9,ae,ad]) O O O O Hz O aw (.tail (.tail .head)) O O λdj ab cc=>AZ (kp [2,1] O) (WF.sl (AF 2 (AD KP O (AS BY ab O (mt (mt mh)) O CG O (AG ?_)))))
 have ax:=a1.trans (a2.trans (bf.trans (cb.trans cc)))
 obtain⟨I,bo,E⟩:=bd E
 refine CJ O O O QS O ab (D2 (St.all _) ((k6.mono' ax).mono (λb hb=>ab.1 b hb) (λ_ _=>rfl)) bo) λdk dl dm ck cd ce p=>?_
 have bp:=p
 have ah:=ab.join ce bp ⟨OS.flat (λ{_ _ _ _ _ _} k=>k),trivial⟩
 simp only[oG,nX] at ah
 refine AF 1 (AD KP O (AG ?_))
 obtain⟨x,j,rfl,dn⟩:=ah.oslen mh
 refine Il (vs:=[(.slice x I.length j)]) (cs':=[vI c.B,(.slice s y.length d),(.slice x I.length j),v7,v9,ae,ad]) O O O O CG O ah (.tail (.tail (.tail .head))) O O λdp ac cf=>AZ (kp [2,1] O) (WF.sl (AF 2 (AD Ie O (AS BY ac O (mt (mt (mt mh))) O K9 O (AG ?_)))))
 have ay:=ax.trans (cd.trans cf)
 obtain⟨V,bq,E⟩:=bd E
 refine CJ O O O iS O ac (Hu (St.all _) ((b1.mono' ay).mono (λb hb=>ac.1 b hb) (λ_ _=>rfl)) bq) λdq dr cl cg br bs p=>?_
 have a5:=p
 have W:=ac.join bs a5 ⟨OS.flat (λ{_ _ _ _ _ _} k=>k),trivial⟩
 simp only[oG,nX] at W
 refine AF 1 (AD Ie O (AG ?_))
 obtain⟨o,g,rfl,cm⟩:=W.oslen mh
 refine Il (vs:=[(.slice o V.length g)]) (cs':=[vI c.B,(.slice s y.length d),(.slice x I.length j),v7,(.slice o V.length g),ae,ad]) O O O O K9 O W (.tail (.tail (.tail (.tail .head)))) O O λcn D bt=>AZ (kp [2,1] O) (WF.sl (AF 2 (AD K3 O (AS BY D O (mt (mt (mt (mt mh)))) O CG O (AG ?_)))))
 have ai:=ay.trans (br.trans bt)
 obtain⟨A,a6,E⟩:=bd E
 refine CJ O O O QS O D (D2 (St.all _) ((b2.mono' ai).mono (λb hb=>D.1 b hb) (λ_ _=>rfl)) a6) λco cp cq ch bu bv p=>?_
 have a7:=p
 have X:=D.join bv a7 ⟨OS.flat (λ{_ _ _ _ _ _} k=>k),trivial⟩
 simp only[oG,nX] at X
 refine AF 1 (AD K3 O (AG ?_))
 obtain⟨u,m,rfl,cr⟩:=X.oslen mh
 refine Il (vs:=[(.slice u A.length m)]) (cs':=[vI c.B,(.slice s y.length d),(.slice x I.length j),v7,(.slice o V.length g),(.slice u A.length m),ad]) O O O O CG O X (.tail (.tail (.tail (.tail (.tail .head))))) O O λcs F bw=>AZ (kp [2,1] O) (WF.sl (AF 2 (AD Jv O (AS BY F O (mt (mt (mt (mt (mt mh))))) O CG O (AG ?_)))))
 have aj:=ai.trans (bu.trans bw)
 obtain⟨K,a8,E⟩:=bd E
 refine CJ O O O QS O F (D2 (St.all _) ((b3.mono' aj).mono (λb hb=>F.1 b hb) (λ_ _=>rfl)) a8) λct cu cv ci bx bz p=>?_
 have a9:=p
 have Y:=F.join bz a9 ⟨OS.flat (λ{_ _ _ _ _ _} k=>k),trivial⟩
 simp only[oG,nX] at Y
 refine AF 1 (AD Jv O (AG ?_))
 obtain⟨z,t,rfl,cw⟩:=Y.oslen mh
 refine Il (vs:=[(.slice z K.length t)]) (cs':=[vI c.B,(.slice s y.length d),(.slice x I.length j),v7,(.slice o V.length g),(.slice u A.length m),(.slice z K.length t)]) O O O O CG O Y (.tail (.tail (.tail (.tail (.tail (.tail .head)))))) O O λcx ak b0=>AZ (kp [2,1] O) (WF.sl (AF 1 (EH (vs:=[vI c.B,(.slice s y.length d),(.slice x I.length j),v7,(.slice o V.length g),(.slice u A.length m),(.slice z K.length t)]) BY ak O (mt (mt (mt (mt (mt (mt mh)))))) O O Hs O O (AG ?_))))
 have am:=aj.trans (bx.trans b0)
 have az:=k8.mono' am
 refine IA (vs:=[vI c.B,(.slice s y.length d),(.slice x I.length j),v7,(.slice o V.length g),(.slice u A.length m),(.slice z K.length t)]) (cs':=[vI c.B,(.slice s y.length d),(.slice x I.length j),v7,(.slice o V.length g),(.slice u A.length m),(.slice z K.length t)]) O O O (AC O (AC O (AC O (AC az.one (AC O (AC O (AC O FA))))))) Hs O ak (.tail (.tail (.tail (.tail (.tail .head))))) O O λcy ba a0=>AZ (kp [2] O) (A5 (λaa ww Z hw=>?_))
 have an:=ba.sel [4,3,2,1,0,0] 1 O
 have bb:=an.drop (.tail (.tail (.tail (.tail (.tail .head)))))
 cases E
 exact Kn Z O hw (Ix (Yi Z hw an O (mt (mt (mt (mt (mt mh))))) Hs O) Km) O (am.trans a0) ⟨_,_,_,_,_,_,O,r2,(az.mono' a0),bb⟩
def QI (hs:St S L h) {i:Value}{n:BQ}(u:Rd S h Ce i n) {j:Value}{b:BH}(x:Rd S h Bu j b) {c:Int}(G:AH c) {r:BH}(E:HL N n b c=some r):
 C5 prog 21 #[i,j,vI c] S h (λv S' h'=>v= .agg #[vI r.V,vI r.W,.bool r.Aw,.bool r.Al]∧BH.ok r∧St S' (L) h'):=by
 refine Bv (l:=[i,j,vI c]) 24 func21 O ntmps21 O λB=>?_
 rw[HL] at E
 refine WF.sl (Cm O u (λe=>by cases e) O hs λq1 S2 h3 Z e5 k6=>?_)
 obtain⟨rfl,⟨r9,ab⟩⟩:=Bu.ex (x.mono e5)
 refine QZ O O O Z λy ao I J=>Di Sv O I λz A k K=>AZ (kp [6,4,3,2] O) (AE (AI (AA O (AN (kp [7,6,4,3,2] O) (BF (λa w=>∃(o:Bool) (p:Bool),IV B S2 A (24,[]) a w [(6,vP z 0),(4,vP y 0)] (Bx z 69 [vI 0,vI 0,.bool false,.bool false]::Bx y 69 [vI b.V,vI b.W,.bool o,.bool p]::L) λ_ _=>Ft N b o p=some r) ?_ ?_)))))
 ·refine AI (B9 O (AM O (kp [8,7,6,4,3,2] O) (AX O E (λac E=>?_) (λac E=>?_))))
  ·refine FO (AF 1 (AD SE O (AG (Il (vs:=[.bool true]) (cs':=[vI b.V,vI b.W,.bool true,.bool b.Al]) O O O O PH O k (.tail .head) O O λap M ad=>AZ (kp [6,4] O) (WF.nil (λs t d g=>?_))))))
   exact⟨true,b.Al,_,_,d.sub (kp [6,4] O),g,M,ad,E⟩
  refine AI (B9 O (AM O (kp [11,7,6,4,3,2] O) (AX O E (λae E=>?_) (λae E=>?_))))
  ·refine FO (AF 1 (AD SE O (AG (Il (vs:=[.bool false]) (cs':=[vI b.V,vI b.W,.bool false,.bool b.Al]) O O O O PH O k (.tail .head) O O λaq Q af=>AZ (kp [6,4] O) (WF.nil (λs t d g=>?_))))))
   exact⟨false,b.Al,_,_,d.sub (kp [6,4] O),g,Q,af,E⟩
  refine AE (AI (B9 O (AM O (kp [14,7,6,4,3,2] O) (HN (λa w=>∃(H:Bool),IV B S2 A (24,[]) a w [(6,vP z 0),(4,vP y 0),(3,q1),(2,vI c),(14,.bool H)] (Bx z 69 [vI 0,vI 0,.bool false,.bool false]::Bx y 69 [vI b.V,vI b.W,.bool b.Aw,.bool b.Al]::L) λ_ _=>Ga N n b c (Ft N b) H=some r) ?_ ?_))))
  ·refine AX O E (λag E=>?_) (λag E=>?_)
   ·refine AT (WF.nil (λs t d g=>?_))
    exact⟨(decide (c=2)),_,_,d.sub (kp [6,4,3,2,14] O),g,k,(Cv.refl S2 A),E⟩
   refine CN (.inl O) (B9 O (AM O (kp [14,6,4,3,2] O) (WF.nil (λs t d g=>?_))))
   exact⟨(decide (c=3)),_,_,d.sub (kp [6,4,3,2,14] O),g,k,(Cv.refl S2 A),E⟩
  rintro s t ⟨H,ar,au,d,g,m,C,E⟩
  refine A6 ?_ d g
  clear d g t s
  rw[Ga] at E
  refine AX O E (λah E=>?_) (λah E=>?_)
  ·refine AI (A8 O (k6.mono (J.trans (K.trans C))) BQ.f_Kind G5 O λav ai=>A9 BY m.1 O ai A7 O λaw=>B9 O (AN (kp [19,6,4,2] O) (AX O E (λaj E=>?_) (λaj E=>?_))))
   ·refine FO (AF 3 (AA O (B9 O (AD OM O (AG (Il (vs:=[.bool (decide (c=2))]) (cs':=[vI b.V,vI b.W,.bool b.Aw,.bool (decide (c=2))]) O O O O PH O m (.tail .head) O O λax U ak=>AZ (kp [6,4] O) (WF.nil (λs t d g=>?_))))))))
    exact⟨b.Aw,(decide (c=2)),_,_,d.sub (kp [6,4] O),g,U,(C.trans ak),E⟩
   refine AT (WF.nil (λs t d g=>?_))
   exact⟨b.Aw,b.Al,_,_,d.sub (kp [6,4] O),g,m,C,E⟩
  refine AT (WF.nil (λs t d g=>?_))
  exact⟨b.Aw,b.Al,_,_,d.sub (kp [6,4] O),g,m,C,E⟩
 rintro s t ⟨o,p,ay,az,d,g,D,am,E⟩
 refine A6 ?_ d g
 clear d g t s
 rw[Ft] at E
 refine WF.sl (AF 1 (EH (vs:=[vI b.V,vI b.W,.bool o,.bool p]) BY D O (mt mh) O O He O O (AG (EW (vs:=[vI b.V,vI b.W,.bool o,.bool p]) O O O O He O D .head O λa0 X an=>AZ (kp [6] O) (A5 (λs t d g=>?_))))))
 have F:=X.drop (.tail .head)
 have Y:=F.drop .head
 cases E
 exact Kn d O g (Ix (Yi d g F O mh He O) Km) O (e5.trans (J.trans (K.trans (am.trans an)))) ⟨O,⟨r9,ab⟩,Y⟩
def Jd (m:St S L h) {d:Int}(i:AH d) {b:Int}(g:AH b) {a:Int}(c:AH a) {r:Int}(E:HW N d b a=some r):
 C5 prog 45 #[vI d,vI b,vI a] S h (λv S' h'=>v=vI r∧AH r∧St S' (L) h'):=by
 refine Bv (l:=[vI d,vI b,vI a]) 16 func45 O ntmps45 O λB=>?_
 rw[HW] at E
 refine AI (AM O (kp [0,1,2] O) (AE (AI (AA O (AA O (BK O (AN (kp [9,0,1,2] O) (AX O E (λp E=>?_) (λp E=>?_)))))))))
 ·refine AI (AA O (AM O (kp [6] O) (A5 (λn o j k=>?_))))
  cases E
  exact Ee j k O O (Cv.refl S h) ⟨O,g,m⟩
 refine AT (AE (AI (AA O (AA O (CP O (AN (kp [13,0,2] O) (AX O E (λq E=>?_) (λq E=>?_))))))))
 ·refine AI (AA O (AM O (kp [6] O) (A5 (λn o j k=>?_))))
  cases E
  exact Ee j k O O (Cv.refl S h) ⟨O,c,m⟩
 refine AT (AI (AA O (AM O (kp [6] O) (A5 (λn o j k=>?_)))))
 cases E
 exact Ee j k O O (Cv.refl S h) ⟨O,i,m⟩
end Go.Proofs.YtblcgjadhemlbaaGreat
