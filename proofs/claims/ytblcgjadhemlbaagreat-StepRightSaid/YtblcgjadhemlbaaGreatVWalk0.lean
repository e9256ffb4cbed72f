import Derived.Test.YtblcgjadhemlbaaGreatVFacts
import Derived.Test.YtblcgjadhemlbaaGreatVForms
import Derived.Test.YtblcgjadhemlbaaGreatVSortD
namespace Go.Proofs.YtblcgjadhemlbaaGreat
set_option linter.all false
open Go.RowKit
open Go.Proofs.Tryz
set_option maxRecDepth 10000
set_option maxHeartbeats 2000000
variable {N:Nat}{S:Nat→Prop}{L:List HP}{h:BL}
def MJ (hs:St S L h) {r:AU}(E:JB N=some r):
 C5 prog 26 #[] S h (λv S' h'=>Rd S' h' CZ v r∧St S' (L) h'):=by
 refine Bv (l:=[]) 11 func26 O ntmps26 O λB=>?_
 rw[JB] at E
 refine WF.sl (Di Zu O hs λb1 h2 ab e4=>AZ (kp [0] O) (WF.sl (AF 1 (Ik (cs:=[vI 0,vI 0]) eZ O O O (AG (Em (cs:=[vI 0,vI 0]) gT O O O O O O O ab λY h6 ac e8=>Em (cs:=[vI 100,vI 50]) GK O O O O O O O ac λZ an p ad=>AF 1 ?_))))))
 have s:=p.bxos (r:=CY) (l:=([(⟨0,0⟩:B4)]:List B4)) (.tail .head) ⟨_,_,O,⟨O,⟨(iq (n:=0) O),(iq (n:=0) O)⟩⟩,O⟩ (by simp [maxLen])
 obtain⟨ao,t,ae,af⟩:=s.pubs (.tail .head)
 have u:=t.bxos (r:=AJ) (l:=([100,50]:List Int)) .head ⟨_,_,O,⟨O,(iq (n:=100) O)⟩,⟨_,_,O,⟨O,(iq (n:=50) O)⟩,O⟩⟩ (by simp [maxLen])
 obtain⟨ap,w,y,ag⟩:=u.pubs .head
 refine Ik (cs:=[.string (ByteArray.mk #[112]),vI 0,vI 2,vI 120,(.slice (some ⟨Y,0,none⟩) 1 1),(.slice (some ⟨Z,0,none⟩) 2 2),vI 1,vI 10,vI (-1),vI 0,vI 0,vN]) fC O O O (AG (Di O2 O w λaq ar z d=>EW (vs:=[.string (ByteArray.mk #[112]),vI 0,vI 2,vI 120,(.slice (some ⟨Y,0,none⟩) 1 1),(.slice (some ⟨Z,0,none⟩) 2 2),vI 1,vI 10,vI (-1),vI 0,vI 0,vN]) O O O O KX O z .head O λau A g=>AZ (kp [1,0] O) (WF.sl (Em (cs:=[.string (ByteArray.mk #[97]),.string (ByteArray.mk #[99])]) gW O O O O O O O A λC av b i=>AF 1 (EH (vs:=[.string (ByteArray.mk #[112]),vI 0,vI 2,vI 120,(.slice (some ⟨Y,0,none⟩) 1 1),(.slice (some ⟨Z,0,none⟩) 2 2),vI 1,vI 10,vI (-1),vI 0,vI 0,vN]) BY b O (mt mh) O O KX O O (AG (Em (cs:=[.string (ByteArray.mk #[112]),vI 0,vI 2,vI 120,(.slice (some ⟨Y,0,none⟩) 1 1),(.slice (some ⟨Z,0,none⟩) 2 2),vI 1,vI 10,vI (-1),vI 0,vI 0,vN]) gV O O O O O O O b λD aw F j=>Em (cs:=[vI 0,vI 0,vI 0]) GK O O O O O O O F λG ax H k=>AF 1 ?_)))))))
 have I:=H.bxos (r:=BW.str) (l:=NG) (.tail (.tail .head)) ⟨_,_,O,⟨O,(by decide)⟩,⟨_,_,O,⟨O,(by decide)⟩,O⟩⟩ (by simp [maxLen,NG])
 obtain⟨ay,J,m,ah⟩:=I.pubs (.tail (.tail .head))
 have ai:=af.mono' (y.trans (d.trans (g.trans (i.trans (j.trans (k.trans m))))))
 have aj:=ag.mono' (d.trans (g.trans (i.trans (j.trans (k.trans m)))))
 have K:=J.bxos (r:=Cd) (l:=NH) (.tail .head) ⟨_,_,O,⟨_,_,_,O,(by decide),(iq (n:=0) O),(iq (n:=2) O),(iq (n:=120) O),ai,aj,(iq (n:=1) O),(iq (n:=10) O),(iq (n:=(-1)) O),(iq (n:=0) O),(iq (n:=0) O),(.inl ⟨O,O⟩)⟩,O⟩ (by simp [maxLen,NH])
 obtain⟨az,M,Q,ak⟩:=K.pubs (.tail .head)
 have U:=M.bxos (r:=AJ) (l:=([0,0,0]:List Int)) .head ⟨_,_,O,⟨O,(iq (n:=0) O)⟩,⟨_,_,O,⟨O,(iq (n:=0) O)⟩,⟨_,_,O,⟨O,(iq (n:=0) O)⟩,O⟩⟩⟩ (by simp [maxLen])
 obtain⟨a0,V,o,am⟩:=U.pubs .head
 refine Ik (cs:=[.string (ByteArray.mk #[98]),(.slice (some ⟨C,0,none⟩) 2 2),vI 0,(.slice (some ⟨D,0,none⟩) 1 1),vN,vN,vN,vN,vN,(.slice (some ⟨G,0,none⟩) 3 3),vI 0]) fE O O O (AG (EW (vs:=[.string (ByteArray.mk #[98]),(.slice (some ⟨C,0,none⟩) 2 2),vI 0,(.slice (some ⟨D,0,none⟩) 1 1),vN,vN,vN,vN,vN,(.slice (some ⟨G,0,none⟩) 3 3),vI 0]) O O O O HS O V (.tail .head) O λa1 W a=>AZ (kp [0] O) (A5 (λaa ww hf hw=>?_))))
 have c:=W.sel [1] 1 O
 have X:=c.drop .head
 cases E
 exact Kn hf O hw (Ix (Yi hf hw c O mh HS O) Km) O (e4.trans (e8.trans (ad.trans (ae.trans (y.trans (d.trans (g.trans (i.trans (j.trans (k.trans (m.trans (Q.trans (o.trans a))))))))))))) ⟨(CZ.mk (x:=(⟨(ByteArray.mk #[98]),NG,0,NH,[],[],[],[],[],([0,0,0]:List Int),0⟩:AU)) (by decide) (ah.mono' (Q.trans (o.trans a))) (iq (n:=0) O) (ak.mono' (o.trans a)) (.inl ⟨O,O⟩) (.inl ⟨O,O⟩) (.inl ⟨O,O⟩) (.inl ⟨O,O⟩) (.inl ⟨O,O⟩) (am.mono' a) (iq (n:=0) O)),X⟩
def D2 (o:St S L h) {a:Value}{c:(List Int)}(b:Sl S h AJ a c) {r:(List Int)}(E:Cw N c=some r):
 C5 prog 39 #[a] S h (λv S' h'=>St S' (OS AJ 3 v r::L) h'):=by
 refine Bv (l:=[a]) 8 func39 O ntmps39 O λB=>?_
 rw[Cw] at E
 rcases b.cases with ⟨rfl,rfl⟩|⟨t,p,rfl,b⟩
 ·have x:(some ([]:List Int))=some r:=by simpa [chk,room] using E
  refine AI (AM O (kp [0] O) (AE (AI (AA O (Vh O O O Wc (AN (kp [4,0] O) (YU O (AI (AM O (kp [2] O) (A5 (λu w d g=>?_)))))))))))
  have i:=o.nil AJ 3
  cases E
  exact Ee d g O O (Cv.refl S h) i
 refine AI (AM O (kp [0] O) (AE (AI (AA O (Yd O O O Wc (AN (kp [4,0] O) (YV O (AT (WF.sl (Ye (r:=AJ) GK O O o λv1 y j s=>AF 1 (AA O (AG ?_))))))))))))
 obtain⟨k,E⟩:=Mc E
 refine J3 (r:=AJ) (l:=([]:List Int)) (xs:=c) O O GK O (Sl.src (b.mono' s)) O k O j (λ_=> .head) λz A m n=>AF 1 (AY O (AG (AZ (kp [2] O) (A5 (λu w d g=>?_)))))
 cases E
 exact Ee d g O O (s.trans n) m
def Mm (hs:St S L h) {ad:Value}{c:AU}(a3:Rd S h CZ ad c) {d:Int}(ag:AH d) {r:BD}(E:Ig N c d=some r):
 C5 prog 15 #[ad,vI d] S h (λv S' h'=>Rd S' h' C3 v r∧St S' (L) h'):=by
 refine Bv (l:=[ad,vI d]) 47 func15 O ntmps15 O λB=>?_
 rw[Ig] at E
 refine WF.sl (Cm O a3 (λe=>by cases e) O hs λq1 S2 h3 es e5 k6=>Di O3 O es λb7 h8 u ah=>AZ (kp [4,2,1] O) (AE ?_))
 obtain⟨cn,E⟩:=Mc E
 obtain⟨co,E⟩:=Mc E
 obtain⟨cp,E⟩:=Mc E
 obtain⟨cq,E⟩:=Mc E
 obtain⟨cr,E⟩:=Mc E
 refine ZW (m:=[(4,vP b7 0),(2,q1),(1,vI d)]) [23] [] [4,8,12,16,20,22] ⟨[(21,[8,12,16,20,24,28])],λi l=>match i,l with|21,[some a8,some et,some eu,some ev,some ew,some ey]=>some (.agg ([a8]++[et]++[eu]++[(vN:Value)]++[ev]++[ew]++[ey]).toArray)|_,_=>none⟩ (by kernel_rfl) (by kernel_rfl) (λi v Z=>match i with|0=>v=vI d∧AH d|1=>Pt S2 Z (BW.sl Cd) v c.A|2=>Sl S2 Z Cd v c.A|3=>v=vI (↑c.A.length:Int)∧AH (↑c.A.length:Int)|4=>WO S2 h8 (BW.sl AJ) 29 (List.replicate ((↑c.A.length:Int):Int).toNat ([]:(List Int))) v Z|5=>Pt S2 Z (BW.sl Cd) v c.A|6=>Sl S2 Z Cd v c.A|7=>v=vI (↑c.A.length:Int)∧AH (↑c.A.length:Int)|8=>WO S2 h8 AJ 3 (List.replicate ((↑c.A.length:Int):Int).toNat (0:Int)) v Z|9=>Pt S2 Z (BW.sl Ce) v c.E|10=>Sl S2 Z Ce v c.E|11=>v=vI (↑c.E.length:Int)∧AH (↑c.E.length:Int)|12=>WO S2 h8 Bu 69 (List.replicate ((↑c.E.length:Int):Int).toNat ((⟨0,0,false,false⟩:BH):BH)) v Z|13=>Pt S2 Z (BW.sl BW.str) v c.H|14=>Sl S2 Z BW.str v c.H|15=>v=vI (↑c.H.length:Int)∧AH (↑c.H.length:Int)|16=>WO S2 h8 AJ 3 (List.replicate ((↑c.H.length:Int):Int).toNat (0:Int)) v Z|17=>Pt S2 Z (BW.sl BW.str) v c.H|18=>Sl S2 Z BW.str v c.H|19=>v=vI (↑c.H.length:Int)∧AH (↑c.H.length:Int)|20=>WO S2 h8 AJ 3 (List.replicate ((↑c.H.length:Int):Int).toNat (0:Int)) v Z|21=>True|22=>Yk h8 36 [vI 0,vN,vN,vN,vN,vN,vN] v Z|_=>False) [[],[],[(1,9)],[(2,10)],[(3,11)],[],[(5,13)],[(6,14)],[(7,15)],[],[(9,17)],[(10,18)],[(11,19)],[],[(13,21)],[(14,22)],[(15,23)],[],[(17,25)],[(18,26)],[(19,27)],[(0,8),(4,12),(8,16),(12,20),(16,24),(20,28)],[],[]] [(0,8),(4,12),(8,16),(12,20),(16,24),(20,28),(21,29),(22,5)] mo (by kernel_rfl) [4,2,1] O (by kernel_rfl) (by kernel_rfl) (by kernel_rfl) O (kp [4,2,1] O) (λi v h1 h2 o1 o2 y=>?_) (by kernel_rfl) (M8 O (M8 O (M8 O (M8 O (M8 O (ZU (T:=36) O dF)))))) ?_ ?_ ?_
 ·match i,y with
   |0,y|3,y|7,y|11,y|15,y|19,y|21,y=>exact y
   |1,y|5,y|9,y|13,y|17,y=>exact N3.mono y (o2.ext λb hb=>nH (u.1 b hb) o1.siz)
   |2,y|6,y|10,y|14,y|18,y=>exact Sl.mono' y (o2.ext λb hb=>nH (u.1 b hb) o1.siz)
   |4,y|8,y|12,y|16,y|20,y=>exact y.mono u.1 o2
   |22,y=>exact y.mono o2
   |_+23,y=>exact y.elim
 ·exact trivial
 ·refine Ea.cons O O O (λ_ _ _=>AF 1 (AA O (AO ⟨O,ag⟩))) (Ea.cons O O O (λ_ _ o=>AF 1 (A8 O (k6.mono (ah.trans (o.ext u.1))) B6 Do O λha ez=>AO ez)) (Ea.cons O O O (λ_ _ o e0 bt=>by have bt:Pt _ _ (BW.sl Cd) e0 c.A:=bt;exact AF 1 (BG BY (o.st u).1 O bt Gu O λhc e1=>AO e1)) (Ea.cons O O O (λ_ _ _ e2 bu=>by have bu:Sl _ _ Cd e2 c.A:=bu;exact AF 1 (BC O bu Fy O λe3=>AO ⟨O,(J9 e3)⟩)) (NA O O O (λ_ _ o _ e4=>by obtain⟨rfl,hd⟩:=e4;exact QY (r:=(BW.sl AJ)) (zx:=[]) X9 O ⟨_,O,.inl ⟨O,O⟩⟩ O O cn O O o u.1 λv' h' o' r' f'=>DV o' ⟨r',f'⟩) (Ea.cons O O O (λ_ _ o=>AF 1 (A8 O (k6.mono (ah.trans (o.ext u.1))) B6 Do O λhe e6=>AO e6)) (Ea.cons O O O (λ_ _ o e7 bv=>by have bv:Pt _ _ (BW.sl Cd) e7 c.A:=bv;exact AF 1 (BG BY (o.st u).1 O bv Gu O λhg e8=>AO e8)) (Ea.cons O O O (λ_ _ _ e9 bw=>by have bw:Sl _ _ Cd e9 c.A:=bw;exact AF 1 (BC O bw Fy O λfb=>AO ⟨O,(J9 fb)⟩)) (NA O O O (λ_ _ o _ fc=>by obtain⟨rfl,hi⟩:=fc;exact QY (r:=AJ) (zx:=0) GK O ⟨O,by unfold AH;omega⟩ O O co O O o u.1 λv' h' o' r' f'=>DV o' ⟨r',f'⟩) (Ea.cons O O O (λ_ _ o=>AF 1 (A8 O (k6.mono (ah.trans (o.ext u.1))) Fo H1 O λhj fd=>AO fd)) (Ea.cons O O O (λ_ _ o fe bx=>by have bx:Pt _ _ (BW.sl Ce) fe c.E:=bx;exact AF 1 (BG BY (o.st u).1 O bx KY O λhk ff=>AO ff)) (Ea.cons O O O (λ_ _ _ fg bz=>by have bz:Sl _ _ Ce fg c.E:=bz;exact AF 1 (BC O bz Io O λfh=>AO ⟨O,(J9 fh)⟩)) ?_)))))))))))
  refine NA O O O (λ_ _ o _ fi=>by obtain⟨rfl,hl⟩:=fi;exact QY (r:=Bu) (zx:=(⟨0,0,false,false⟩:BH)) X8 O ⟨O,by unfold BH.ok AH;simp [IntKind.has,IntKind.min,IntKind.max,IntKind.bits,IntKind.signed]⟩ O O cp O O o u.1 λv' h' o' r' f'=>DV o' ⟨r',f'⟩) (Ea.cons O O O (λ_ _ o=>AF 1 (A8 O (k6.mono (ah.trans (o.ext u.1))) E6 If O λhm fj=>AO fj)) (Ea.cons O O O (λ_ _ o fk b0=>by have b0:Pt _ _ (BW.sl BW.str) fk c.H:=b0;exact AF 1 (BG BY (o.st u).1 O b0 LA O λhn fl=>AO fl)) (Ea.cons O O O (λ_ _ _ fm am=>by have am:Sl _ _ BW.str fm c.H:=am;exact AF 1 (BC O am Kt O λct=>AO ⟨O,(J9 ct)⟩)) (NA O O O (λ_ _ o _ cu=>by obtain⟨rfl,fo⟩:=cu;exact QY (r:=AJ) (zx:=0) GK O ⟨O,by unfold AH;omega⟩ O O cq O O o u.1 λv' h' o' r' f'=>DV o' ⟨r',f'⟩) (Ea.cons O O O (λ_ _ o=>AF 1 (A8 O (k6.mono (ah.trans (o.ext u.1))) E6 If O λfp cv=>AO cv)) (Ea.cons O O O (λ_ _ o cw an=>by have an:Pt _ _ (BW.sl BW.str) cw c.H:=an;exact AF 1 (BG BY (o.st u).1 O an LA O λfq cx=>AO cx)) (Ea.cons O O O (λ_ _ _ cy ao=>by have ao:Sl _ _ BW.str cy c.H:=ao;exact AF 1 (BC O ao Kt O λcz=>AO ⟨O,(J9 cz)⟩)) (NA O O O (λ_ _ o _ c0=>by obtain⟨rfl,fr⟩:=c0;exact QY (r:=AJ) (zx:=0) GK O ⟨O,by unfold AH;omega⟩ O O cr O O o u.1 λv' h' o' r' f'=>DV o' ⟨r',f'⟩) ?_))))))))
  refine Ea.z [8,12,16,20,24,28] O O O (by kernel_rfl) ?_ ?_
  ·intro mq Z o
   intro fs c1 ft ba fu bb fv bc fw be fx bf
   have c2:=o.st u
   obtain⟨rfl,fy⟩:=c1
   obtain⟨c3,a4,rfl,ba⟩:=ba
   obtain⟨c4,a5,rfl,bb⟩:=bb
   obtain⟨c5,a6,rfl,bc⟩:=bc
   obtain⟨c6,a7,rfl,be⟩:=be
   obtain⟨c7,a9,rfl,bf⟩:=bf
   exact AF 1 (Ik (cs:=[vI d,(.slice (some ⟨c3,0,none⟩) (List.replicate ((↑c.A.length:Int):Int).toNat ([]:(List Int))).length a4),(.slice (some ⟨c4,0,none⟩) (List.replicate ((↑c.A.length:Int):Int).toNat (0:Int)).length a5),vN,(.slice (some ⟨c5,0,none⟩) (List.replicate ((↑c.E.length:Int):Int).toNat ((⟨0,0,false,false⟩:BH):BH)).length a6),(.slice (some ⟨c6,0,none⟩) (List.replicate ((↑c.H.length:Int):Int).toNat (0:Int)).length a7),(.slice (some ⟨c7,0,none⟩) (List.replicate ((↑c.H.length:Int):Int).toNat (0:Int)).length a9)]) fD O O O (AO ⟨trivial,O,O⟩))
  exact Ea.al O O3 O O (Ea.skip (by kernel_rfl) (trivial))
 intro f0 ap f1 c8 f2 c9 f3 da f4 db f5 dc f6 dd de f7 f8 df g b1
 obtain⟨U,t,rfl,dg,dh,di⟩:=c9
 obtain⟨V,D,rfl,dj,dk,dl⟩:=da
 obtain⟨W,G,rfl,dm,dn,dp⟩:=db
 obtain⟨X,I,rfl,dq,dr,ds⟩:=dc
 obtain⟨Y,J,rfl,dt,du,dv⟩:=dd
 obtain⟨ab,rfl,dw,dx,dy⟩:=df
 have b2:=(T5.cons (L6 (L6 (L6 (L6 (L6 (T5.nil u ap) dg dh di nY) dj dk dl (UT (g.of_ (s:=16) (s':=12) (by kernel_rfl) O O O O) nY)) dm dn dp (UT (g.of_ (s:=20) (s':=16) (by kernel_rfl) O O O O) (UT (g.of_ (s:=20) (s':=12) (by kernel_rfl) O O O O) nY))) dq dr ds (UT (g.of_ (s:=24) (s':=20) (by kernel_rfl) O O O O) (UT (g.of_ (s:=24) (s':=16) (by kernel_rfl) O O O O) (UT (g.of_ (s:=24) (s':=12) (by kernel_rfl) O O O O) nY)))) dt du dv (UT (g.of_ (s:=28) (s':=24) (by kernel_rfl) O O O O) (UT (g.of_ (s:=28) (s':=20) (by kernel_rfl) O O O O) (UT (g.of_ (s:=28) (s':=16) (by kernel_rfl) O O O O) (UT (g.of_ (s:=28) (s':=12) (by kernel_rfl) O O O O) nY))))) dw dx dy (UT (g.of_ (s:=5) (s':=28) (by kernel_rfl) O O O O) (UT (g.of_ (s:=5) (s':=24) (by kernel_rfl) O O O O) (UT (g.of_ (s:=5) (s':=20) (by kernel_rfl) O O O O) (UT (g.of_ (s:=5) (s':=16) (by kernel_rfl) O O O O) (UT (g.of_ (s:=5) (s':=12) (by kernel_rfl) O O O O) nY)))))).st
 obtain⟨rfl,dz⟩:=c8
 obtain rfl:de=Value.agg #[vI d,(.slice (some ⟨U,0,none⟩) (List.replicate ((↑c.A.length:Int):Int).toNat ([]:(List Int))).length t),(.slice (some ⟨V,0,none⟩) (List.replicate ((↑c.A.length:Int):Int).toNat (0:Int)).length D),vN,(.slice (some ⟨W,0,none⟩) (List.replicate ((↑c.E.length:Int):Int).toNat ((⟨0,0,false,false⟩:BH):BH)).length G),(.slice (some ⟨X,0,none⟩) (List.replicate ((↑c.H.length:Int):Int).toNat (0:Int)).length I),(.slice (some ⟨Y,0,none⟩) (List.replicate ((↑c.H.length:Int):Int).toNat (0:Int)).length J)]:=(mZ (b1 _ oB 29 _ (by kernel_rfl) O O)).symm
 refine EW (vs:=[vI d,(.slice (some ⟨U,0,none⟩) (List.replicate ((↑c.A.length:Int):Int).toNat ([]:(List Int))).length t),(.slice (some ⟨V,0,none⟩) (List.replicate ((↑c.A.length:Int):Int).toNat (0:Int)).length D),vN,(.slice (some ⟨W,0,none⟩) (List.replicate ((↑c.E.length:Int):Int).toNat ((⟨0,0,false,false⟩:BH):BH)).length G),(.slice (some ⟨X,0,none⟩) (List.replicate ((↑c.H.length:Int):Int).toNat (0:Int)).length I),(.slice (some ⟨Y,0,none⟩) (List.replicate ((↑c.H.length:Int):Int).toNat (0:Int)).length J)]) O O O O Hs O b2 .head O λaq ar bg=>AZ (kp [5,4,2] O) (AE (AI (A8 O (k6.mono (ah.trans ((ap.ext u.1).trans bg))) B6 Do O λf9 d0=>BG BY ar.1 O d0 Gu O λbh bi=>BC O bi Fy O λga=>AA O (AN (kp [33,32,31,5,4] O) (BF (λa w=>∃(aj:List (List Int)),IV B S2 aq (47,[]) a w [(5,vP ab 0),(4,vP b7 0)] (Bx ab 36 [vI d,(.slice (some ⟨U,0,none⟩) (List.replicate ((↑c.A.length:Int):Int).toNat ([]:(List Int))).length t),(.slice (some ⟨V,0,none⟩) (List.replicate ((↑c.A.length:Int):Int).toNat (0:Int)).length D),vN,(.slice (some ⟨W,0,none⟩) (List.replicate ((↑c.E.length:Int):Int).toNat ((⟨0,0,false,false⟩:BH):BH)).length G),(.slice (some ⟨X,0,none⟩) (List.replicate ((↑c.H.length:Int):Int).toNat (0:Int)).length I),(.slice (some ⟨Y,0,none⟩) (List.replicate ((↑c.H.length:Int):Int).toNat (0:Int)).length J)]::OS AJ 3 (.slice (some ⟨Y,0,none⟩) (List.replicate ((↑c.H.length:Int):Int).toNat (0:Int)).length J) (List.replicate ((↑c.H.length:Int):Int).toNat (0:Int))::OS AJ 3 (.slice (some ⟨X,0,none⟩) (List.replicate ((↑c.H.length:Int):Int).toNat (0:Int)).length I) (List.replicate ((↑c.H.length:Int):Int).toNat (0:Int))::OS Bu 69 (.slice (some ⟨W,0,none⟩) (List.replicate ((↑c.E.length:Int):Int).toNat ((⟨0,0,false,false⟩:BH):BH)).length G) (List.replicate ((↑c.E.length:Int):Int).toNat ((⟨0,0,false,false⟩:BH):BH))::OS AJ 3 (.slice (some ⟨V,0,none⟩) (List.replicate ((↑c.A.length:Int):Int).toNat (0:Int)).length D) (List.replicate ((↑c.A.length:Int):Int).toNat (0:Int))::OS (BW.sl AJ) 29 (.slice (some ⟨U,0,none⟩) (List.replicate ((↑c.A.length:Int):Int).toNat ([]:(List Int))).length t) aj::Bx b7 36 [vI 0,vN,vN,vN,vN,vN,vN]::L) λ_ _=>GY N c d aj=some r) ?_ ?_)))))
 ·refine BT (λn1=>λa w=>∃(Q:Int) (ac:List (List Int)),IV B S2 aq (47,[]) a w [(32,vI (↑c.A.length:Int)),(31,bh),(5,vP ab 0),(4,vP b7 0),(33,vI Q)] (Bx ab 36 [vI d,(.slice (some ⟨U,0,none⟩) (List.replicate ((↑c.A.length:Int):Int).toNat ([]:(List Int))).length t),(.slice (some ⟨V,0,none⟩) (List.replicate ((↑c.A.length:Int):Int).toNat (0:Int)).length D),vN,(.slice (some ⟨W,0,none⟩) (List.replicate ((↑c.E.length:Int):Int).toNat ((⟨0,0,false,false⟩:BH):BH)).length G),(.slice (some ⟨X,0,none⟩) (List.replicate ((↑c.H.length:Int):Int).toNat (0:Int)).length I),(.slice (some ⟨Y,0,none⟩) (List.replicate ((↑c.H.length:Int):Int).toNat (0:Int)).length J)]::OS AJ 3 (.slice (some ⟨Y,0,none⟩) (List.replicate ((↑c.H.length:Int):Int).toNat (0:Int)).length J) (List.replicate ((↑c.H.length:Int):Int).toNat (0:Int))::OS AJ 3 (.slice (some ⟨X,0,none⟩) (List.replicate ((↑c.H.length:Int):Int).toNat (0:Int)).length I) (List.replicate ((↑c.H.length:Int):Int).toNat (0:Int))::OS Bu 69 (.slice (some ⟨W,0,none⟩) (List.replicate ((↑c.E.length:Int):Int).toNat ((⟨0,0,false,false⟩:BH):BH)).length G) (List.replicate ((↑c.E.length:Int):Int).toNat ((⟨0,0,false,false⟩:BH):BH))::OS AJ 3 (.slice (some ⟨V,0,none⟩) (List.replicate ((↑c.A.length:Int):Int).toNat (0:Int)).length D) (List.replicate ((↑c.A.length:Int):Int).toNat (0:Int))::OS (BW.sl AJ) 29 (.slice (some ⟨U,0,none⟩) (List.replicate ((↑c.A.length:Int):Int).toNat ([]:(List Int))).length t) ac::Bx b7 36 [vI 0,vN,vN,vN,vN,vN,vN]::L) λ_ _=>AH Q∧Fq N c (GY N c d) n1 Q ac=some r) N ?_ ?_ ?_
  ·intro aa ww hf hw
   exact⟨0,(List.replicate ((↑c.A.length:Int):Int).toNat ([]:(List Int))),_,_,hf.sub (kp [32,31,5,4,33] O),hw,ar,(Cv.refl S2 aq),(iq (n:=0) O),E⟩
  ·rintro aa ww ⟨_,_,_,_,_,_,_,_,_,E⟩
   rw[Fq] at E;cases E
  rintro n1 aa ww ⟨Q,ac,au,gb,hf,hw,ai,av,d1,E⟩
  refine A6 ?_ hf hw
  clear hf hw ww aa
  rw[Fq] at E
  refine AI (BK O (AN (kp [34,32,31,5,4,33] O) (AE (AX O E (λd2 E=>?_) (λd2 E=>?_)))))
  ·refine AT (AE (BV (WF.sl (AF 3 (AA O ?_)))))
   obtain⟨j,b3,E⟩:=bd E
   refine Bz O O (bi.mono' av) Fy b3 O λgc d3=>Ci BY ai.1 O d3 KX (λe=>by cases e) O λgd d4=>AG (Di O2 O ai λbj ge b4 bk=>AF 1 (AY O (AG ?_)))
   obtain⟨bl,bm,bn,rfl,gf,gg,gh,gi,d5,bo,gj,gl,gm,gn,gp,d6⟩:=Cd.ex (d4.mono bk)
   refine IA (vs:=[.string j.F,vI j.C,vI j.An,vI j.Aj,bl,bm,vI j.S,vI j.L,vI j.Ak,vI j.K,vI j.Bd,bn]) (cs':=[.string j.F,vI j.C,vI j.An,vI j.Aj,bl,bm,vI j.S,vI j.L,vI j.Ak,vI j.K,vI j.Bd,bn]) O O O (AC O (AC O (AC O (AC O (AC d5.one (AC bo.one (AC O (AC O (AC O (AC O (AC O (AC d6.one FA)))))))))))) KX O b4 .head O O λbp M bq=>AZ (kp [6,7,32,31,5,4,33] O) ?_
   obtain⟨aw,b5,E⟩:=bd E
   obtain⟨gq,b6,E⟩:=bd E
   refine MV (m:=[(6,vI Q),(7,vP bj 0),(32,vI (↑c.A.length:Int)),(31,bh),(5,vP ab 0),(4,vP b7 0),(33,vI Q)]) 7 (λi v Z=>match i with|0=>v=vP ab 1|1=>v=(.slice (some ⟨U,0,none⟩) (List.replicate ((↑c.A.length:Int):Int).toNat ([]:(List Int))).length t)|2=>v=vI Q∧AH Q|3=>v=vP bj 5|4=>Sl au Z AJ v j.As|5=>Sl (SN au bp Z) Z AJ v aw|6=>EP (.slice (some ⟨U,0,none⟩) (List.replicate ((↑c.A.length:Int):Int).toNat ([]:(List Int))).length t) (Q.toNat*((BW.sl AJ)).sz+0) v|_=>False) [[],[(0,38)],[],[],[(3,41)],[(4,42)],[(1,39),(2,40)]] [(5,43),(6,44)] mo (by kernel_rfl) [6,7,32,31,5,4,33] O (by kernel_rfl) (by kernel_rfl) (by kernel_rfl) (kp [6,7,32,31,5,4,33] O) (λi v h1 h2 o1 o2 y=>?_) ?_ ?_
   ·match i,y with
     |0,y|1,y|2,y|3,y|6,y=>exact y
     |4,y=>exact Sl.mono' y (o2.ext λb hb=>nH (M.1 b hb) o1.siz)
     |5,y=>exact Sl.mono' y (SN.mono M.1 o1 o2)
     |_+7,y=>exact y.elim
   ·refine BP.cons O (λ_ _ _=>AF 1 (AD Eo O (AO O))) (BP.cons O (λ_ _ o _ d7=>by cases d7;exact AF 1 (AS BY (o.st M) O (mt mh) O Hz O (AO O))) (BP.cons O (λ_ _ _=>AF 1 (AA O (AO ⟨O,d1⟩))) (BP.cons O (λ_ _ _=>AF 1 (AD SJ O (AO O))) (BP.cons O (λ_ _ o _ d8=>by cases d8;exact AF 1 (AS BY (o.st M) O mh O CG O (AO (bo.mono' (bq.trans (o.ext M.1)))))) ?_))))
    refine BP.cons O ?_ ?_
    ·intro mq Z o
     intro d9 ae
     have c2:=SN.st M o
     have ae:=Sl.mono' (S':=(SN au bp Z)) ae ⟨λb hb=> .inl hb,λ_ _=>rfl,nJ _⟩
     have ae:Sl _ _ AJ d9 j.As:=ae
     have b8:=c2.fz
     refine CJ O O O QS O b8 (D2 (St.all _) (ae.mono (λb hb=>b8.1 b hb) (λ_ _=>rfl)) b5) λgr gs gt fn ea eb p=>?_
     have b9:=p
     have ax:=b8.join eb b9 ⟨OS.flat (λ{_ _ _ _ _ _} k=>k),trivial⟩
     simp only[oG,nX] at ax
     obtain⟨gu,ca,ec,ed⟩:=ax.pubs .head
     have ay:=Fz.done o (ea.trans ec) ca
     exact DV ay.1 (Sl.mono' ed ay.2)
    exact BP.cons O (λ_ _ o=>by intro gv ee gw ef;cases ee;obtain ⟨rfl,gx⟩:=ef;exact AF 1 (BU (o.st M) (mt (mt (mt (mt (mt (mt mh)))))) O O Fx b6 O λgy cb=>AO cb)) trivial
   intro gz br eg az g0 eh
   have cc:=SN.st M br
   have az:Sl _ _ AJ eg aw:=az
   obtain⟨ei,cd,E⟩:=bd E
   refine Fm (r:=(BW.sl AJ)) (l:=ac) (i:=Q) (x:=ei) O O (NR az) eh cd ML.id CG (λ_=>rfl) cc (.tail (.tail (.tail (.tail (.tail (.tail .head)))))) λg1 ce ej=>AZ (kp [32,31,5,4,33] O) (B5 (CN (.inl O) (BB O (AA O (AN (kp [33,32,31,5,4] O) (WF.nil (λaa ww hf hw=>?_)))))))
   have cf:=ce.sel [1,1,1,1,1,1,1] 1 O
   exact⟨(B0 (Q+1)),(upd ac Q aw),_,_,hf.sub (kp [32,31,5,4,33] O),hw,cf,(av.trans (bk.trans (bq.trans ((SN.ext M.1 br).trans ej)))),(B1 _),E⟩
  refine By O (λaa ww hf hw=>?_)
  exact⟨ac,_,_,hf.sub (kp [5,4] O),hw,ai,av,E⟩
 rintro aa ww ⟨aj,g2,g3,hf,hw,a0,ek,E⟩
 refine A6 ?_ hf hw
 clear hf hw ww aa
 rw[GY] at E
 refine WF.sl (AF 1 (EH (vs:=[vI d,(.slice (some ⟨U,0,none⟩) (List.replicate ((↑c.A.length:Int):Int).toNat ([]:(List Int))).length t),(.slice (some ⟨V,0,none⟩) (List.replicate ((↑c.A.length:Int):Int).toNat (0:Int)).length D),vN,(.slice (some ⟨W,0,none⟩) (List.replicate ((↑c.E.length:Int):Int).toNat ((⟨0,0,false,false⟩:BH):BH)).length G),(.slice (some ⟨X,0,none⟩) (List.replicate ((↑c.H.length:Int):Int).toNat (0:Int)).length I),(.slice (some ⟨Y,0,none⟩) (List.replicate ((↑c.H.length:Int):Int).toNat (0:Int)).length J)]) BY a0 O mh O O Hs O O (AG (EW (vs:=[vI d,(.slice (some ⟨U,0,none⟩) (List.replicate ((↑c.A.length:Int):Int).toNat ([]:(List Int))).length t),(.slice (some ⟨V,0,none⟩) (List.replicate ((↑c.A.length:Int):Int).toNat (0:Int)).length D),vN,(.slice (some ⟨W,0,none⟩) (List.replicate ((↑c.E.length:Int):Int).toNat ((⟨0,0,false,false⟩:BH):BH)).length G),(.slice (some ⟨X,0,none⟩) (List.replicate ((↑c.H.length:Int):Int).toNat (0:Int)).length I),(.slice (some ⟨Y,0,none⟩) (List.replicate ((↑c.H.length:Int):Int).toNat (0:Int)).length J)]) O O O O Hs O a0 (.tail (.tail (.tail (.tail (.tail (.tail .head)))))) O λg4 cg el=>AZ (kp [4] O) (A5 (λaa ww hf hw=>?_))))))
 obtain⟨g5,ch,em,en⟩:=cg.pubs (.tail (.tail (.tail (.tail (.tail .head)))))
 obtain⟨g6,ci,bs,eo⟩:=ch.pubs (.tail (.tail (.tail (.tail .head))))
 obtain⟨g7,cj,a1,ep⟩:=ci.pubs (.tail (.tail (.tail .head)))
 obtain⟨g8,ck,ak,eq⟩:=cj.pubs (.tail (.tail .head))
 obtain⟨g9,cl,af,er⟩:=ck.pubs (.tail .head)
 have a2:=cl.sel [1] 1 O
 have cm:=a2.drop .head
 cases E
 exact Kn hf O hw (Ix (Yi hf hw a2 O mh Hs O) Km) O (e5.trans (ah.trans ((ap.ext u.1).trans (bg.trans (ek.trans (el.trans (em.trans (bs.trans (a1.trans (ak.trans af)))))))))) ⟨(C3.mk (x:=(⟨d,aj,(List.replicate ((↑c.A.length:Int):Int).toNat (0:Int)),[],(List.replicate ((↑c.E.length:Int):Int).toNat ((⟨0,0,false,false⟩:BH):BH)),(List.replicate ((↑c.H.length:Int):Int).toNat (0:Int)),(List.replicate ((↑c.H.length:Int):Int).toNat (0:Int))⟩:BD)) dz (en.mono' (bs.trans (a1.trans (ak.trans af)))) (eo.mono' (a1.trans (ak.trans af))) (.inl ⟨O,O⟩) (ep.mono' (ak.trans af)) (eq.mono' af) er),cm⟩
def CV (j:St S L h) {c:Int}(i:AH c) {b:Int}(g:AH b) {a:Int}(d:AH a) {r:Bool}(E:Ct N c b a=some r):
 C5 prog 68 #[vI c,vI b,vI a] S h (λv S' h'=>v= .bool r∧St S' (L) h'):=by
 refine Bv (l:=[vI c,vI b,vI a]) 15 func68 O ntmps68 O λB=>?_
 rw[Ct] at E
 refine AI (AM O (kp [0,1,2] O) (AI (AA O (AA O (HO O (AA O (AW 4 14 (.bool ((decide (b≤c))&&(decide (c≤a)))) ?_ ?_)))))))
 ·cases n:(decide (b≤c))
  ·exact A3 O O
  exact AB O (AA O (AB O (AA O (AB O (HO O (AL O (AV O)))))))
 refine AM O (kp [6] O) (A5 (λo p k m=>?_))
 cases E
 exact Ee k m O O (Cv.refl S h) ⟨O,j⟩
def Cf (g:St S L h) {a:Int}(b:AH a) {r:Bool}(E:Ch N a=some r):
 C5 prog 69 #[vI a] S h (λv S' h'=>v= .bool r∧St S' (L) h'):=by
 refine Bv (l:=[vI a]) 5 func69 O ntmps69 O λB=>?_
 rw[Ch] at E
 refine AI (AM O (kp [0] O) (AE (CX (.inl O) g (AA O ?_))))
 obtain⟨m,c,E⟩:=bd E
 refine BR O O O IZ O (λh' o=>CV (St.all h') b (iq (n:=0) O) (iq (n:=1125899906842624) O) c) (AY O (B3 (kp [2] O) λp d i=>A5 (λq s j k=>?_)))
 cases E
 exact Ee j k O O i ⟨O,d⟩
def Nd (hs:St S L h) {t:Value}{b:AU}(V:Rd S h CZ t b) {r:Bool}(E:H8 N b=some r):
 C5 prog 47 #[t] S h (λv S' h'=>v= .bool r∧St S' (L) h'):=by
 refine Bv (l:=[t]) 109 func47 O ntmps47 O λB=>?_
 rw[H8] at E
 refine WF.sl (Cm O V (λe=>by cases e) O hs λq1 S2 h3 s e5 D=>AF 1 (AY O (AG (AZ (kp [1] O) (AE (AE (CX (.inl O) s (A8 O D AU.f_Name SR O λq7 k8=>Si CL s.1 O k8 Ql O λr9=>Ob O Qk O (CP O (AA O ?_))))))))))
 obtain⟨ag,j,E⟩:=bd E
 refine AW 6 17 (.bool ag) ?_ ?_
 ·cases ah:(decide (500<(↑b.F.size:Int)))
  ·have j:=HG ah j
   refine AB O (A8 O D E6 If O λb8 a0=>AB O (BG CL s.1 O a0 LA O λb9 a1=>AB O (BC O a1 Kt O λa2=>AB O ?_)))
   obtain⟨ca,ai,j⟩:=bd j
   refine BR O O O IZ O (λh' o=>CV (St.all h') (J9 a2) (iq (n:=1) O) (iq (n:=16) O) ai) (AB O (CE O (AL O ?_)))
   cases j
   exact AV O
  have j:=HE ah j
  cases j
  exact A3 O O
 refine AA O ?_
 obtain⟨aj,k,E⟩:=bd E
 refine AW 5 23 (.bool aj) ?_ ?_
 ·cases ak:ag
  ·have k:=HG ak k
   refine AB O (A8 O D LR SQ O λcb a3=>AB O (A9 CL s.1 O a3 A7 O λa4=>AB O ?_))
   obtain⟨cc,al,k⟩:=bd k
   refine BR O O O IZ O (λh' o=>CV (St.all h') a4 (iq (n:=0) O) (iq (n:=64) O) al) (AB O (CE O (AL O ?_)))
   cases k
   exact AV O
  have k:=HE ak k
  cases k
  exact A3 O O
 refine AA O ?_
 obtain⟨i,m,E⟩:=bd E
 refine AW 6 30 (.bool i) ?_ ?_
 ·cases am:aj
  ·have m:=HG am m
   refine AB O (A8 O D B6 Do O λcd a5=>AB O (BG CL s.1 O a5 Gu O λce a6=>AB O (BC O a6 Fy O λa7=>AB O ?_)))
   obtain⟨cf,an,m⟩:=bd m
   refine BR O O O IZ O (λh' o=>CV (St.all h') (J9 a7) (iq (n:=1) O) (iq (n:=64) O) an) (AB O (CE O (AL O ?_)))
   cases m
   exact AV O
  have m:=HE am m
  cases m
  exact A3 O O
 refine AA O (AW 5 36 (.bool (i||(decide (96<(↑b.E.length:Int))))) ?_ ?_)
 ·cases cg:i
  ·exact AB O (A8 O D Fo H1 O λch a8=>AB O (BG CL s.1 O a8 KY O λci a9=>AB O (BC O a9 Io O λcj=>AB O (CP O (AL O (AV O))))))
  exact A3 O O
 refine AA O (AW 5 42 (.bool ((i||(decide (96<(↑b.E.length:Int))))||(decide (40<(↑b.Ag.length:Int))))) ?_ ?_)
 ·cases ck:(i||(decide (96<(↑b.E.length:Int))))
  ·exact AB O (A8 O D JH OU O λcl ba=>AB O (BG CL s.1 O ba Sz O λcm bb=>AB O (BC O bb P1 O λcn=>AB O (CP O (AL O (AV O))))))
  exact A3 O O
 refine AA O (AW 5 48 (.bool (((i||(decide (96<(↑b.E.length:Int))))||(decide (40<(↑b.Ag.length:Int))))||(decide (128<(↑b.Aq.length:Int))))) ?_ ?_)
 ·cases co:((i||(decide (96<(↑b.E.length:Int))))||(decide (40<(↑b.Ag.length:Int))))
  ·exact AB O (A8 O D Kr SP O λcp bc=>AB O (BG CL s.1 O bc Wh O λcq be=>AB O (BC O be TJ O λcr=>AB O (CP O (AL O (AV O))))))
  exact A3 O O
 refine AA O (AW 5 54 (.bool ((((i||(decide (96<(↑b.E.length:Int))))||(decide (40<(↑b.Ag.length:Int))))||(decide (128<(↑b.Aq.length:Int))))||(decide (128<(↑b.At.length:Int))))) ?_ ?_)
 ·cases cs:(((i||(decide (96<(↑b.E.length:Int))))||(decide (40<(↑b.Ag.length:Int))))||(decide (128<(↑b.Aq.length:Int))))
  ·exact AB O (A8 O D LQ SO O λct bf=>AB O (BG CL s.1 O bf Wg O λcu bg=>AB O (BC O bg TI O λcv=>AB O (CP O (AL O (AV O))))))
  exact A3 O O
 refine AA O (AW 5 60 (.bool (((((i||(decide (96<(↑b.E.length:Int))))||(decide (40<(↑b.Ag.length:Int))))||(decide (128<(↑b.Aq.length:Int))))||(decide (128<(↑b.At.length:Int))))||(decide (40<(↑b.Av.length:Int))))) ?_ ?_)
 ·cases cw:((((i||(decide (96<(↑b.E.length:Int))))||(decide (40<(↑b.Ag.length:Int))))||(decide (128<(↑b.Aq.length:Int))))||(decide (128<(↑b.At.length:Int))))
  ·exact AB O (A8 O D I3 Pp O λcx bh=>AB O (BG CL s.1 O bh Ut O λcy bi=>AB O (BC O bi RC O λcz=>AB O (CP O (AL O (AV O))))))
  exact A3 O O
 refine AA O (AW 5 66 (.bool ((((((i||(decide (96<(↑b.E.length:Int))))||(decide (40<(↑b.Ag.length:Int))))||(decide (128<(↑b.Aq.length:Int))))||(decide (128<(↑b.At.length:Int))))||(decide (40<(↑b.Av.length:Int))))||(decide ((↑b.Au.length:Int)≠3)))) ?_ ?_)
 ·cases c0:(((((i||(decide (96<(↑b.E.length:Int))))||(decide (40<(↑b.Ag.length:Int))))||(decide (128<(↑b.Aq.length:Int))))||(decide (128<(↑b.At.length:Int))))||(decide (40<(↑b.Av.length:Int))))
  ·exact AB O (A8 O D AU.f_Room VT O λc1 bj=>AB O (BG CL s.1 O bj CG O λc2 bk=>AB O (BC O bk CA O λc3=>AB O (CW O (AL O (AV O))))))
  exact A3 O O
 refine AA O ?_
 obtain⟨bl,p,E⟩:=bd E
 refine AW 5 72 (.bool bl) ?_ ?_
 ·cases ao:((((((i||(decide (96<(↑b.E.length:Int))))||(decide (40<(↑b.Ag.length:Int))))||(decide (128<(↑b.Aq.length:Int))))||(decide (128<(↑b.At.length:Int))))||(decide (40<(↑b.Av.length:Int))))||(decide ((↑b.Au.length:Int)≠3)))
  ·have p:=HG ao p
   refine AB O (A8 O D AU.f_Err Xk O λc4 bm=>AB O (A9 CL s.1 O bm A7 O λbn=>AB O ?_))
   obtain⟨c5,ap,p⟩:=bd p
   refine BR O O O IZ O (λh' o=>CV (St.all h') bn (iq (n:=0) O) (iq (n:=1099511627776) O) ap) (AB O (CE O (AL O ?_)))
   cases p
   exact AV O
  have p:=HE ao p
  cases p
  exact A3 O O
 refine B3 (kp [72,1] O) λab G H=>AX O E (λbo E=>?_) (λbo E=>?_)
 ·refine AI (AM O (kp [2] O) (A5 (λu x c d=>?_)))
  cases E
  exact Ee c d O O (e5.trans H) ⟨O,G⟩
 refine AT (AE (AI ?_))
 have ac:=D.mono H
 refine A8 O ac AU.f_Name SR O λc6 bp=>Si BY G.1 O bp Ql O λc7=>Ob O Qk O (AA O (AN (kp [76,75,1] O) (BF (λa w=>IV B S2 ab (109,[]) a w [(1,q1)] (L) λ_ _=>EN N b=some r) ?_ ?_)))
 ·refine BT (λn1=>λa w=>∃(I:Int),IV B S2 ab (109,[]) a w [(75,vI (↑b.F.size:Int)),(1,q1),(76,vI I)] (L) λ_ _=>AH I∧EM N b (EN N b) n1 I=some r) N ?_ ?_ ?_
  ·intro u x c d
   exact⟨0,_,_,c.sub (kp [75,1,76] O),d,G,(Cv.refl S2 ab),(iq (n:=0) O),E⟩
  ·rintro u x ⟨_,_,_,_,_,_,_,_,E⟩
   rw[EM] at E;cases E
  rintro n1 u x ⟨I,c8,c9,c,d,A,W,da,E⟩
  refine A6 ?_ c d
  clear c d x u
  rw[EM] at E
  refine AI (BK O (AN (kp [77,75,1,76] O) (AE (AX O E (λbq E=>?_) (λbq E=>?_)))))
  ·refine AT (AE (BV (AI (AA O (AM O (kp [3,75,1,76] O) (AI (A8 O (ac.mono W) AU.f_Name SR O λdb br=>Si BY A.1 O br Ql O λdc=>AA O ?_)))))))
   obtain⟨g,X,E⟩:=bd E
   have bs:=OY X
   refine Od O O Qk X O (AM O (kp [4,75,1,76] O) (AI (AA O (BK O (AA O (AW 3 88 (.bool ((decide (g<32))||(decide (126<g)))) ?_ ?_))))))
   ·cases bt:(decide (g<32))
    ·exact AB O (AA O (AB O (CP O (AL O (AV O)))))
    exact A3 O O
   refine AA O (AW 3 92 (.bool (((decide (g<32))||(decide (126<g)))||(decide (g=34)))) ?_ ?_)
   ·cases bu:((decide (g<32))||(decide (126<g)))
    ·exact AB O (AA O (AB O (B9 O (AL O (AV O)))))
    exact A3 O O
   refine AA O (AW 3 96 (.bool ((((decide (g<32))||(decide (126<g)))||(decide (g=34)))||(decide (g=92)))) ?_ ?_)
   ·cases bv:(((decide (g<32))||(decide (126<g)))||(decide (g=34)))
    ·exact AB O (AA O (AB O (B9 O (AL O (AV O)))))
    exact A3 O O
   refine AN (kp [96,75,1,76] O) (AX O E (λaq E=>?_) (λaq E=>?_))
   ·refine AI (AM O (kp [2] O) (A5 (λu x c d=>?_)))
    cases E
    exact Ee c d O O (e5.trans (H.trans W)) ⟨O,A⟩
   refine AT (B5 (CN (.inl O) (BB O (AA O (AN (kp [76,75,1] O) (WF.nil (λu x c d=>?_)))))))
   exact⟨(B0 (I+1)),_,_,c.sub (kp [75,1,76] O),d,A,W,(B1 _),E⟩
  refine By O (λu x c d=>?_)
  exact⟨_,_,c.sub (kp [1] O),d,A,W,E⟩
 rintro u x ⟨J,K,c,d,M,Q,E⟩
 refine A6 ?_ c d
 clear c d x u
 rw[EN] at E
 refine AE (AI (A8 O (ac.mono Q) AU.f_Room VT O λbw ar=>BG BY M.1 O ar CG O λau Y=>BC O Y CA O λbx=>AA O (AN (kp [101,100,99] O) (BF (λa w=>IV B J K (109,[]) a w [] (L) λ_ _=>GJ N=some r) ?_ ?_))))
 ·refine BT (λn3=>λa w=>∃(y:Int),IV B J K (109,[]) a w [(100,vI (↑b.Au.length:Int)),(99,au),(101,vI y)] (L) λ_ _=>AH y∧EL N b (GJ N) n3 y=some r) N ?_ ?_ ?_
  ·intro u x c d
   exact⟨0,_,_,c.sub (kp [100,99,101] O),d,M,(Cv.refl J K),(iq (n:=0) O),E⟩
  ·rintro u x ⟨_,_,_,_,_,_,_,_,E⟩
   rw[EL] at E;cases E
  rintro n3 u x ⟨y,bz,b0,c,d,z,C,b1,E⟩
  refine A6 ?_ c d
  clear c d x u
  rw[EL] at E
  refine AI (BK O (AN (kp [102,100,99,101] O) (AE (AX O E (λav E=>?_) (λav E=>?_)))))
  ·refine AT (AE (BV (AI ?_)))
   obtain⟨b2,ad,E⟩:=bd E
   refine Bz O O (Y.mono' C) CA ad O λb3 aw=>A9 BY z.1 O aw A7 O λax=>AM O (kp [6,100,99,101] O) (AE (CX (.inl O) z (AA O ?_)))
   obtain⟨b4,ae,E⟩:=bd E
   refine BR O O O KB O (λh' o=>Cf (St.all h') ax ae) (CE O (B3 (kp [107,100,99,101] O) λb5 U Z=>AX O E (λay E=>?_) (λay E=>?_)))
   ·refine AI (AM O (kp [2] O) (A5 (λu x c d=>?_)))
    cases E
    exact Ee c d O O (e5.trans (H.trans (Q.trans (C.trans Z)))) ⟨O,U⟩
   refine AT (B5 (CN (.inl O) (BB O (AA O (AN (kp [101,100,99] O) (WF.nil (λu x c d=>?_)))))))
   exact⟨(B0 (y+1)),_,_,c.sub (kp [100,99,101] O),d,U,(C.trans Z),(B1 _),E⟩
  refine By O (λu x c d=>?_)
  exact⟨_,_,c.sub PO,d,z,C,E⟩
 rintro u x ⟨b6,b7,c,d,af,az,E⟩
 refine A6 ?_ c d
 clear c d x u
 rw[GJ] at E
 refine AI (AM O (kp [2] O) (A5 (λu x c d=>?_)))
 cases E
 exact Ee c d O O (e5.trans (H.trans (Q.trans az))) ⟨O,af⟩
end Go.Proofs.YtblcgjadhemlbaaGreat
