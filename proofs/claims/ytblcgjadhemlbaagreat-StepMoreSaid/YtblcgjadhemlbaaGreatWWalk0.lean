import Derived.Test.YtblcgjadhemlbaaGreatWFacts
import Derived.Test.YtblcgjadhemlbaaGreatWForms
import Derived.Test.YtblcgjadhemlbaaGreatWSortD
namespace Go.Proofs.YtblcgjadhemlbaaGreat
set_option linter.all false
open Go.RowKit
open Go.Proofs.Tryz
set_option maxRecDepth 10000
set_option maxHeartbeats 2000000
variable {N:Nat}{S:Nat→Prop}{L:List HP}{h:BM}
def Mj (hs:St S L h) {r:AU}(E:JU N=some r):
 DK prog 26 #[] S h (λv S' h'=>Rd S' h' C2 v r∧St S' (L) h'):=by
 refine B0 (l:=[]) 11 func26 O ntmps26 O λB=>?_
 rw[JU] at E
 refine WF.sl (Di cK O hs λb1 h2 ab e4=>AZ (kp [0] O) (WF.sl (AF 1 (Iz (cs:=[vI 0,vI 0]) jS O O O (AD (E3 (cs:=[vI 0,vI 0]) lP O O O O O O O ab λY h6 ac e8=>E3 (cs:=[vI 100,vI 50]) GM O O O O O O O ac λZ an p ad=>AF 1 ?_))))))
 have s:=p.bxos (r:=Cp) (l:=([(⟨0,0⟩:BS)]:List BS)) (.tail .head) ⟨_,_,O,⟨O,⟨(iq (n:=0) O),(iq (n:=0) O)⟩⟩,O⟩ (by simp [maxLen])
 obtain⟨ao,t,ae,af⟩:=s.pubs (.tail .head)
 have u:=t.bxos (r:=AJ) (l:=([100,50]:List Int)) .head ⟨_,_,O,⟨O,(iq (n:=100) O)⟩,⟨_,_,O,⟨O,(iq (n:=50) O)⟩,O⟩⟩ (by simp [maxLen])
 obtain⟨ap,w,y,ag⟩:=u.pubs .head
 refine Iz (cs:=[.string (ByteArray.mk #[112]),vI 0,vI 2,vI 120,(.slice (some ⟨Y,0,none⟩) 1 1),(.slice (some ⟨Z,0,none⟩) 2 2),vI 1,vI 10,vI (-1),vI 0,vI 0,vN]) jV O O O (AD (Di Pb O w λaq ar z d=>Ek (vs:=[.string (ByteArray.mk #[112]),vI 0,vI 2,vI 120,(.slice (some ⟨Y,0,none⟩) 1 1),(.slice (some ⟨Z,0,none⟩) 2 2),vI 1,vI 10,vI (-1),vI 0,vI 0,vN]) O O O O Kt O z .head O λau A g=>AZ (kp [1,0] O) (WF.sl (E3 (cs:=[.string (ByteArray.mk #[97]),.string (ByteArray.mk #[99])]) lS O O O O O O O A λC av b i=>AF 1 (ES (vs:=[.string (ByteArray.mk #[112]),vI 0,vI 2,vI 120,(.slice (some ⟨Y,0,none⟩) 1 1),(.slice (some ⟨Z,0,none⟩) 2 2),vI 1,vI 10,vI (-1),vI 0,vI 0,vN]) Bu b O (mt mh) O O Kt O O (AD (E3 (cs:=[.string (ByteArray.mk #[112]),vI 0,vI 2,vI 120,(.slice (some ⟨Y,0,none⟩) 1 1),(.slice (some ⟨Z,0,none⟩) 2 2),vI 1,vI 10,vI (-1),vI 0,vI 0,vN]) lR O O O O O O O b λD aw F j=>E3 (cs:=[vI 0,vI 0,vI 0]) GM O O O O O O O F λG ax H k=>AF 1 ?_)))))))
 have I:=H.bxos (r:=BZ.str) (l:=Nj) (.tail (.tail .head)) ⟨_,_,O,⟨O,(by decide)⟩,⟨_,_,O,⟨O,(by decide)⟩,O⟩⟩ (by simp [maxLen,Nj])
 obtain⟨ay,J,m,ah⟩:=I.pubs (.tail (.tail .head))
 have ai:=af.mono' (y.trans (d.trans (g.trans (i.trans (j.trans (k.trans m))))))
 have aj:=ag.mono' (d.trans (g.trans (i.trans (j.trans (k.trans m)))))
 have K:=J.bxos (r:=Cw) (l:=Nk) (.tail .head) ⟨_,_,O,⟨_,_,_,O,(by decide),(iq (n:=0) O),(iq (n:=2) O),(iq (n:=120) O),ai,aj,(iq (n:=1) O),(iq (n:=10) O),(iq (n:=(-1)) O),(iq (n:=0) O),(iq (n:=0) O),(.inl ⟨O,O⟩)⟩,O⟩ (by simp [maxLen,Nk])
 obtain⟨az,M,Q,ak⟩:=K.pubs (.tail .head)
 have U:=M.bxos (r:=AJ) (l:=([0,0,0]:List Int)) .head ⟨_,_,O,⟨O,(iq (n:=0) O)⟩,⟨_,_,O,⟨O,(iq (n:=0) O)⟩,⟨_,_,O,⟨O,(iq (n:=0) O)⟩,O⟩⟩⟩ (by simp [maxLen])
 obtain⟨a0,V,o,am⟩:=U.pubs .head
 refine Iz (cs:=[.string (ByteArray.mk #[98]),(.slice (some ⟨C,0,none⟩) 2 2),vI 0,(.slice (some ⟨D,0,none⟩) 1 1),vN,vN,vN,vN,vN,(.slice (some ⟨G,0,none⟩) 3 3),vI 0]) jX O O O (AD (Ek (vs:=[.string (ByteArray.mk #[98]),(.slice (some ⟨C,0,none⟩) 2 2),vI 0,(.slice (some ⟨D,0,none⟩) 1 1),vN,vN,vN,vN,vN,(.slice (some ⟨G,0,none⟩) 3 3),vI 0]) O O O O H2 O V (.tail .head) O λa1 W a=>AZ (kp [0] O) (A5 (λaa ww hf hw=>?_))))
 have c:=W.sel [1] 1 O
 have X:=c.drop .head
 cases E
 exact K5 hf O hw (JD (Zw hf hw c O mh H2 O) K4) O (e4.trans (e8.trans (ad.trans (ae.trans (y.trans (d.trans (g.trans (i.trans (j.trans (k.trans (m.trans (Q.trans (o.trans a))))))))))))) ⟨(C2.mk (x:=(⟨(ByteArray.mk #[98]),Nj,0,Nk,[],[],[],[],[],([0,0,0]:List Int),0⟩:AU)) (by decide) (ah.mono' (Q.trans (o.trans a))) (iq (n:=0) O) (ak.mono' (o.trans a)) (.inl ⟨O,O⟩) (.inl ⟨O,O⟩) (.inl ⟨O,O⟩) (.inl ⟨O,O⟩) (.inl ⟨O,O⟩) (am.mono' a) (iq (n:=0) O)),X⟩
def EC (o:St S L h) {a:Value}{c:(List Int)}(b:Sl S h AJ a c) {r:(List Int)}(E:DC N c=some r):
 DK prog 39 #[a] S h (λv S' h'=>St S' (OS AJ 3 v r::L) h'):=by
 refine B0 (l:=[a]) 8 func39 O ntmps39 O λB=>?_
 rw[DC] at E
 rcases b.cases with ⟨rfl,rfl⟩|⟨t,p,rfl,b⟩
 ·have x:(some ([]:List Int))=some r:=by simpa [chk,room] using E
  refine AI (AM O (kp [0] O) (AE (AI (AA O (Wt O O O Xv (AN (kp [4,0] O) (Zi O (AI (AM O (kp [2] O) (A5 (λu w d g=>?_)))))))))))
  have i:=o.nil AJ 3
  cases E
  exact Em d g O O (C9.refl S h) i
 refine AI (AM O (kp [0] O) (AE (AI (AA O (Zr O O O Xv (AN (kp [4,0] O) (Zj O (AS (WF.sl (Vd (r:=AJ) GM O O o λv1 y j s=>AF 1 (AA O (AD ?_))))))))))))
 obtain⟨k,E⟩:=LO E
 refine J3 (r:=AJ) (l:=([]:List Int)) (xs:=c) O O GM O (Sl.src (b.mono' s)) O k O j (λ_=> .head) λz A m n=>AF 1 (A0 O (AD (AZ (kp [2] O) (A5 (λu w d g=>?_)))))
 cases E
 exact Em d g O O (s.trans n) m
def Qd (hs:St S L h) {ac:Value}{c:AU}(a2:Rd S h C2 ac c) {d:Int}(af:AH d) {r:A7}(E:Mg N c d=some r):
 DK prog 15 #[ac,vI d] S h (λv S' h'=>Rd S' h' DE v r∧St S' (L) h'):=by
 refine B0 (l:=[ac,vI d]) 47 func15 O ntmps15 O λB=>?_
 rw[Mg] at E
 refine WF.sl (C3 O a2 (λe=>by cases e) O hs λq1 S2 h3 er e5 k6=>Di N7 O er λb7 h8 u ag=>AZ (kp [4,2,1] O) (AE ?_))
 obtain⟨cm,E⟩:=LO E
 obtain⟨cn,E⟩:=LO E
 obtain⟨co,E⟩:=LO E
 obtain⟨cp,E⟩:=LO E
 obtain⟨cq,E⟩:=LO E
 refine bL (m:=[(4,vP b7 0),(2,q1),(1,vI d)]) [23] [] [4,8,12,16,20,22] ⟨[(21,[8,12,16,20,24,28])],λi l=>match i,l with|21,[some a8,some es,some et,some eu,some ev,some ew]=>some (.agg ([a8]++[es]++[et]++[(vN:Value)]++[eu]++[ev]++[ew]).toArray)|_,_=>none⟩ (by kernel_rfl) (by kernel_rfl) (λi v Y=>match i with|0=>v=vI d∧AH d|1=>Pt S2 Y (BZ.sl Cw) v c.A|2=>Sl S2 Y Cw v c.A|3=>v=vI (↑c.A.length:Int)∧AH (↑c.A.length:Int)|4=>Xe S2 h8 (BZ.sl AJ) 29 (List.replicate ((↑c.A.length:Int):Int).toNat ([]:(List Int))) v Y|5=>Pt S2 Y (BZ.sl Cw) v c.A|6=>Sl S2 Y Cw v c.A|7=>v=vI (↑c.A.length:Int)∧AH (↑c.A.length:Int)|8=>Xe S2 h8 AJ 3 (List.replicate ((↑c.A.length:Int):Int).toNat (0:Int)) v Y|9=>Pt S2 Y (BZ.sl Ct) v c.E|10=>Sl S2 Y Ct v c.E|11=>v=vI (↑c.E.length:Int)∧AH (↑c.E.length:Int)|12=>Xe S2 h8 Bz 69 (List.replicate ((↑c.E.length:Int):Int).toNat ((⟨0,0,false,false⟩:BG):BG)) v Y|13=>Pt S2 Y (BZ.sl BZ.str) v c.J|14=>Sl S2 Y BZ.str v c.J|15=>v=vI (↑c.J.length:Int)∧AH (↑c.J.length:Int)|16=>Xe S2 h8 AJ 3 (List.replicate ((↑c.J.length:Int):Int).toNat (0:Int)) v Y|17=>Pt S2 Y (BZ.sl BZ.str) v c.J|18=>Sl S2 Y BZ.str v c.J|19=>v=vI (↑c.J.length:Int)∧AH (↑c.J.length:Int)|20=>Xe S2 h8 AJ 3 (List.replicate ((↑c.J.length:Int):Int).toNat (0:Int)) v Y|21=>True|22=>Zy h8 36 [vI 0,vN,vN,vN,vN,vN,vN] v Y|_=>False) [[],[],[(1,9)],[(2,10)],[(3,11)],[],[(5,13)],[(6,14)],[(7,15)],[],[(9,17)],[(10,18)],[(11,19)],[],[(13,21)],[(14,22)],[(15,23)],[],[(17,25)],[(18,26)],[(19,27)],[(0,8),(4,12),(8,16),(12,20),(16,24),(20,28)],[],[]] [(0,8),(4,12),(8,16),(12,20),(16,24),(20,28),(21,29),(22,5)] mo (by kernel_rfl) [4,2,1] O (by kernel_rfl) (by kernel_rfl) (by kernel_rfl) O (kp [4,2,1] O) (λi v h1 h2 o1 o2 y=>?_) (by kernel_rfl) (NW O (NW O (NW O (NW O (NW O (bJ (T:=36) O gY)))))) ?_ ?_ ?_
 ·match i,y with
   |0,y|3,y|7,y|11,y|15,y|19,y|21,y=>exact y
   |1,y|5,y|9,y|13,y|17,y=>exact OV.mono y (o2.ext λb hb=>qZ (u.1 b hb) o1.siz)
   |2,y|6,y|10,y|14,y|18,y=>exact Sl.mono' y (o2.ext λb hb=>qZ (u.1 b hb) o1.siz)
   |4,y|8,y|12,y|16,y|20,y=>exact y.mono u.1 o2
   |22,y=>exact y.mono o2
   |_+23,y=>exact y.elim
 ·exact trivial
 ·refine Ep.cons O O O (λ_ _ _=>AF 1 (AA O (AO ⟨O,af⟩))) (Ep.cons O O O (λ_ _ o=>AF 1 (A8 O (k6.mono (ag.trans (o.ext u.1))) B8 D1 O λha ey=>AO ey)) (Ep.cons O O O (λ_ _ o ez bs=>by have bs:Pt _ _ (BZ.sl Cw) ez c.A:=bs;exact AF 1 (BF Bu (o.st u).1 O bs G7 O λhc e0=>AO e0)) (Ep.cons O O O (λ_ _ _ e1 bt=>by have bt:Sl _ _ Cw e1 c.A:=bt;exact AF 1 (BE O bt GL O λe2=>AO ⟨O,(KY e2)⟩)) (NZ O O O (λ_ _ o _ e3=>by obtain⟨rfl,hd⟩:=e3;exact RC (r:=(BZ.sl AJ)) (zx:=[]) Ud O ⟨_,O,.inl ⟨O,O⟩⟩ O O cm O O o u.1 λv' h' o' r' f'=>Dt o' ⟨r',f'⟩) (Ep.cons O O O (λ_ _ o=>AF 1 (A8 O (k6.mono (ag.trans (o.ext u.1))) B8 D1 O λhe e4=>AO e4)) (Ep.cons O O O (λ_ _ o e6 bu=>by have bu:Pt _ _ (BZ.sl Cw) e6 c.A:=bu;exact AF 1 (BF Bu (o.st u).1 O bu G7 O λhg e7=>AO e7)) (Ep.cons O O O (λ_ _ _ e8 bv=>by have bv:Sl _ _ Cw e8 c.A:=bv;exact AF 1 (BE O bv GL O λe9=>AO ⟨O,(KY e9)⟩)) (NZ O O O (λ_ _ o _ fb=>by obtain⟨rfl,hi⟩:=fb;exact RC (r:=AJ) (zx:=0) GM O ⟨O,by unfold AH;omega⟩ O O cn O O o u.1 λv' h' o' r' f'=>Dt o' ⟨r',f'⟩) (Ep.cons O O O (λ_ _ o=>AF 1 (A8 O (k6.mono (ag.trans (o.ext u.1))) Er Hn O λhj fc=>AO fc)) (Ep.cons O O O (λ_ _ o fd bw=>by have bw:Pt _ _ (BZ.sl Ct) fd c.E:=bw;exact AF 1 (BF Bu (o.st u).1 O bw KF O λhk fe=>AO fe)) (Ep.cons O O O (λ_ _ _ ff bx=>by have bx:Sl _ _ Ct ff c.E:=bx;exact AF 1 (BE O bx Ie O λfg=>AO ⟨O,(KY fg)⟩)) ?_)))))))))))
  refine NZ O O O (λ_ _ o _ fh=>by obtain⟨rfl,hl⟩:=fh;exact RC (r:=Bz) (zx:=(⟨0,0,false,false⟩:BG)) ZQ O ⟨O,by unfold BG.ok AH;simp [IntKind.has,IntKind.min,IntKind.max,IntKind.bits,IntKind.signed]⟩ O O co O O o u.1 λv' h' o' r' f'=>Dt o' ⟨r',f'⟩) (Ep.cons O O O (λ_ _ o=>AF 1 (A8 O (k6.mono (ag.trans (o.ext u.1))) Eq Ib O λhm fi=>AO fi)) (Ep.cons O O O (λ_ _ o fj bz=>by have bz:Pt _ _ (BZ.sl BZ.str) fj c.J:=bz;exact AF 1 (BF Bu (o.st u).1 O bz LA O λhn fk=>AO fk)) (Ep.cons O O O (λ_ _ _ fl ak=>by have ak:Sl _ _ BZ.str fl c.J:=ak;exact AF 1 (BE O ak Ku O λcr=>AO ⟨O,(KY cr)⟩)) (NZ O O O (λ_ _ o _ ct=>by obtain⟨rfl,fn⟩:=ct;exact RC (r:=AJ) (zx:=0) GM O ⟨O,by unfold AH;omega⟩ O O cp O O o u.1 λv' h' o' r' f'=>Dt o' ⟨r',f'⟩) (Ep.cons O O O (λ_ _ o=>AF 1 (A8 O (k6.mono (ag.trans (o.ext u.1))) Eq Ib O λfo cu=>AO cu)) (Ep.cons O O O (λ_ _ o cv am=>by have am:Pt _ _ (BZ.sl BZ.str) cv c.J:=am;exact AF 1 (BF Bu (o.st u).1 O am LA O λfp cw=>AO cw)) (Ep.cons O O O (λ_ _ _ cx an=>by have an:Sl _ _ BZ.str cx c.J:=an;exact AF 1 (BE O an Ku O λcy=>AO ⟨O,(KY cy)⟩)) (NZ O O O (λ_ _ o _ cz=>by obtain⟨rfl,fq⟩:=cz;exact RC (r:=AJ) (zx:=0) GM O ⟨O,by unfold AH;omega⟩ O O cq O O o u.1 λv' h' o' r' f'=>Dt o' ⟨r',f'⟩) ?_))))))))
  refine Ep.z [8,12,16,20,24,28] O O O (by kernel_rfl) ?_ ?_
  ·intro mq Y o
   intro fr c0 fs a9 ft ba fu bb fv bc fw be
   have c1:=o.st u
   obtain⟨rfl,fx⟩:=c0
   obtain⟨c2,a3,rfl,a9⟩:=a9
   obtain⟨c3,a4,rfl,ba⟩:=ba
   obtain⟨c4,a5,rfl,bb⟩:=bb
   obtain⟨c5,a6,rfl,bc⟩:=bc
   obtain⟨c6,a7,rfl,be⟩:=be
   exact AF 1 (Iz (cs:=[vI d,(.slice (some ⟨c2,0,none⟩) (List.replicate ((↑c.A.length:Int):Int).toNat ([]:(List Int))).length a3),(.slice (some ⟨c3,0,none⟩) (List.replicate ((↑c.A.length:Int):Int).toNat (0:Int)).length a4),vN,(.slice (some ⟨c4,0,none⟩) (List.replicate ((↑c.E.length:Int):Int).toNat ((⟨0,0,false,false⟩:BG):BG)).length a5),(.slice (some ⟨c5,0,none⟩) (List.replicate ((↑c.J.length:Int):Int).toNat (0:Int)).length a6),(.slice (some ⟨c6,0,none⟩) (List.replicate ((↑c.J.length:Int):Int).toNat (0:Int)).length a7)]) jW O O O (AO ⟨trivial,O,O⟩))
  exact Ep.al O N7 O O (Ep.skip (by kernel_rfl) (trivial))
 intro fy ao f0 c7 f1 c8 f2 c9 f3 da f4 db f5 dc dd f6 f7 de g b0
 obtain⟨Q,t,rfl,df,dg,dh⟩:=c8
 obtain⟨U,C,rfl,di,dj,dk⟩:=c9
 obtain⟨V,D,rfl,dl,dm,dn⟩:=da
 obtain⟨W,F,rfl,dp,dq,dr⟩:=db
 obtain⟨X,G,rfl,ds,dt,du⟩:=dc
 obtain⟨Z,rfl,dv,dw,dx⟩:=de
 have b1:=(Uu.cons (MX (MX (MX (MX (MX (Uu.nil u ao) df dg dh rT) di dj dk (VK (g.of_ (s:=16) (s':=12) (by kernel_rfl) O O O O) rT)) dl dm dn (VK (g.of_ (s:=20) (s':=16) (by kernel_rfl) O O O O) (VK (g.of_ (s:=20) (s':=12) (by kernel_rfl) O O O O) rT))) dp dq dr (VK (g.of_ (s:=24) (s':=20) (by kernel_rfl) O O O O) (VK (g.of_ (s:=24) (s':=16) (by kernel_rfl) O O O O) (VK (g.of_ (s:=24) (s':=12) (by kernel_rfl) O O O O) rT)))) ds dt du (VK (g.of_ (s:=28) (s':=24) (by kernel_rfl) O O O O) (VK (g.of_ (s:=28) (s':=20) (by kernel_rfl) O O O O) (VK (g.of_ (s:=28) (s':=16) (by kernel_rfl) O O O O) (VK (g.of_ (s:=28) (s':=12) (by kernel_rfl) O O O O) rT))))) dv dw dx (VK (g.of_ (s:=5) (s':=28) (by kernel_rfl) O O O O) (VK (g.of_ (s:=5) (s':=24) (by kernel_rfl) O O O O) (VK (g.of_ (s:=5) (s':=20) (by kernel_rfl) O O O O) (VK (g.of_ (s:=5) (s':=16) (by kernel_rfl) O O O O) (VK (g.of_ (s:=5) (s':=12) (by kernel_rfl) O O O O) rT)))))).st
 obtain⟨rfl,dy⟩:=c7
 obtain rfl:dd=Value.agg #[vI d,(.slice (some ⟨Q,0,none⟩) (List.replicate ((↑c.A.length:Int):Int).toNat ([]:(List Int))).length t),(.slice (some ⟨U,0,none⟩) (List.replicate ((↑c.A.length:Int):Int).toNat (0:Int)).length C),vN,(.slice (some ⟨V,0,none⟩) (List.replicate ((↑c.E.length:Int):Int).toNat ((⟨0,0,false,false⟩:BG):BG)).length D),(.slice (some ⟨W,0,none⟩) (List.replicate ((↑c.J.length:Int):Int).toNat (0:Int)).length F),(.slice (some ⟨X,0,none⟩) (List.replicate ((↑c.J.length:Int):Int).toNat (0:Int)).length G)]:=(qS (b0 _ rV 29 _ (by kernel_rfl) O O)).symm
 refine Ek (vs:=[vI d,(.slice (some ⟨Q,0,none⟩) (List.replicate ((↑c.A.length:Int):Int).toNat ([]:(List Int))).length t),(.slice (some ⟨U,0,none⟩) (List.replicate ((↑c.A.length:Int):Int).toNat (0:Int)).length C),vN,(.slice (some ⟨V,0,none⟩) (List.replicate ((↑c.E.length:Int):Int).toNat ((⟨0,0,false,false⟩:BG):BG)).length D),(.slice (some ⟨W,0,none⟩) (List.replicate ((↑c.J.length:Int):Int).toNat (0:Int)).length F),(.slice (some ⟨X,0,none⟩) (List.replicate ((↑c.J.length:Int):Int).toNat (0:Int)).length G)]) O O O O G6 O b1 .head O λap aq bf=>AZ (kp [5,4,2] O) (AE (AI (A8 O (k6.mono (ag.trans ((ao.ext u.1).trans bf))) B8 D1 O λf8 dz=>BF Bu aq.1 O dz G7 O λbg bh=>BE O bh GL O λf9=>AA O (AN (kp [33,32,31,5,4] O) (BH (λa w=>∃(ai:List (List Int)),IV B S2 ap (47,[]) a w [(5,vP Z 0),(4,vP b7 0)] (Bx Z 36 [vI d,(.slice (some ⟨Q,0,none⟩) (List.replicate ((↑c.A.length:Int):Int).toNat ([]:(List Int))).length t),(.slice (some ⟨U,0,none⟩) (List.replicate ((↑c.A.length:Int):Int).toNat (0:Int)).length C),vN,(.slice (some ⟨V,0,none⟩) (List.replicate ((↑c.E.length:Int):Int).toNat ((⟨0,0,false,false⟩:BG):BG)).length D),(.slice (some ⟨W,0,none⟩) (List.replicate ((↑c.J.length:Int):Int).toNat (0:Int)).length F),(.slice (some ⟨X,0,none⟩) (List.replicate ((↑c.J.length:Int):Int).toNat (0:Int)).length G)]::OS AJ 3 (.slice (some ⟨X,0,none⟩) (List.replicate ((↑c.J.length:Int):Int).toNat (0:Int)).length G) (List.replicate ((↑c.J.length:Int):Int).toNat (0:Int))::OS AJ 3 (.slice (some ⟨W,0,none⟩) (List.replicate ((↑c.J.length:Int):Int).toNat (0:Int)).length F) (List.replicate ((↑c.J.length:Int):Int).toNat (0:Int))::OS Bz 69 (.slice (some ⟨V,0,none⟩) (List.replicate ((↑c.E.length:Int):Int).toNat ((⟨0,0,false,false⟩:BG):BG)).length D) (List.replicate ((↑c.E.length:Int):Int).toNat ((⟨0,0,false,false⟩:BG):BG))::OS AJ 3 (.slice (some ⟨U,0,none⟩) (List.replicate ((↑c.A.length:Int):Int).toNat (0:Int)).length C) (List.replicate ((↑c.A.length:Int):Int).toNat (0:Int))::OS (BZ.sl AJ) 29 (.slice (some ⟨Q,0,none⟩) (List.replicate ((↑c.A.length:Int):Int).toNat ([]:(List Int))).length t) ai::Bx b7 36 [vI 0,vN,vN,vN,vN,vN,vN]::L) λ_ _=>Jz N c d ai=some r) ?_ ?_)))))
 ·refine BV (λn1=>λa w=>∃(M:Int) (ab:List (List Int)),IV B S2 ap (47,[]) a w [(32,vI (↑c.A.length:Int)),(31,bg),(5,vP Z 0),(4,vP b7 0),(33,vI M)] (Bx Z 36 [vI d,(.slice (some ⟨Q,0,none⟩) (List.replicate ((↑c.A.length:Int):Int).toNat ([]:(List Int))).length t),(.slice (some ⟨U,0,none⟩) (List.replicate ((↑c.A.length:Int):Int).toNat (0:Int)).length C),vN,(.slice (some ⟨V,0,none⟩) (List.replicate ((↑c.E.length:Int):Int).toNat ((⟨0,0,false,false⟩:BG):BG)).length D),(.slice (some ⟨W,0,none⟩) (List.replicate ((↑c.J.length:Int):Int).toNat (0:Int)).length F),(.slice (some ⟨X,0,none⟩) (List.replicate ((↑c.J.length:Int):Int).toNat (0:Int)).length G)]::OS AJ 3 (.slice (some ⟨X,0,none⟩) (List.replicate ((↑c.J.length:Int):Int).toNat (0:Int)).length G) (List.replicate ((↑c.J.length:Int):Int).toNat (0:Int))::OS AJ 3 (.slice (some ⟨W,0,none⟩) (List.replicate ((↑c.J.length:Int):Int).toNat (0:Int)).length F) (List.replicate ((↑c.J.length:Int):Int).toNat (0:Int))::OS Bz 69 (.slice (some ⟨V,0,none⟩) (List.replicate ((↑c.E.length:Int):Int).toNat ((⟨0,0,false,false⟩:BG):BG)).length D) (List.replicate ((↑c.E.length:Int):Int).toNat ((⟨0,0,false,false⟩:BG):BG))::OS AJ 3 (.slice (some ⟨U,0,none⟩) (List.replicate ((↑c.A.length:Int):Int).toNat (0:Int)).length C) (List.replicate ((↑c.A.length:Int):Int).toNat (0:Int))::OS (BZ.sl AJ) 29 (.slice (some ⟨Q,0,none⟩) (List.replicate ((↑c.A.length:Int):Int).toNat ([]:(List Int))).length t) ab::Bx b7 36 [vI 0,vN,vN,vN,vN,vN,vN]::L) λ_ _=>AH M∧I6 N c (Jz N c d) n1 M ab=some r) N ?_ ?_ ?_
  ·intro aa ww hf hw
   exact⟨0,(List.replicate ((↑c.A.length:Int):Int).toNat ([]:(List Int))),_,_,hf.sub (kp [32,31,5,4,33] O),hw,aq,(C9.refl S2 ap),(iq (n:=0) O),E⟩
  ·rintro aa ww ⟨_,_,_,_,_,_,_,_,_,E⟩
   rw[I6] at E;cases E
  rintro n1 aa ww ⟨M,ab,ar,ga,hf,hw,ah,au,d0,E⟩
  refine A6 ?_ hf hw
  clear hf hw ww aa
  rw[I6] at E
  refine AI (BI O (AN (kp [34,32,31,5,4,33] O) (AE (AY O E (λd1 E=>?_) (λd1 E=>?_)))))
  ·refine AS (AE (BY (WF.sl (AF 3 (AA O ?_)))))
   obtain⟨j,b2,E⟩:=bd E
   refine B1 O O (bh.mono' au) GL b2 O λgb d2=>Cq Bu ah.1 O d2 Kt (λe=>by cases e) O λgc d3=>AD (Di Pb O ah λbi gd b3 bj=>AF 1 (A0 O (AD ?_)))
   obtain⟨bk,bl,bm,rfl,ge,gf,gg,gh,d4,bn,gi,gj,gl,gm,gn,d5⟩:=Cw.ex (d3.mono bj)
   refine Ht (vs:=[.string j.H,vI j.B,vI j.As,vI j.Ae,bk,bl,vI j.L,vI j.I,vI j.Aq,vI j.N,vI j.Bc,bm]) (cs':=[.string j.H,vI j.B,vI j.As,vI j.Ae,bk,bl,vI j.L,vI j.I,vI j.Aq,vI j.N,vI j.Bc,bm]) O O O (AC O (AC O (AC O (AC O (AC d4.one (AC bn.one (AC O (AC O (AC O (AC O (AC O (AC d5.one Es)))))))))))) Kt O b3 .head O O λbo K bp=>AZ (kp [6,7,32,31,5,4,33] O) ?_
   obtain⟨av,b4,E⟩:=bd E
   obtain⟨gp,b5,E⟩:=bd E
   refine NX (m:=[(6,vI M),(7,vP bi 0),(32,vI (↑c.A.length:Int)),(31,bg),(5,vP Z 0),(4,vP b7 0),(33,vI M)]) 7 (λi v Y=>match i with|0=>v=vP Z 1|1=>v=(.slice (some ⟨Q,0,none⟩) (List.replicate ((↑c.A.length:Int):Int).toNat ([]:(List Int))).length t)|2=>v=vI M∧AH M|3=>v=vP bi 5|4=>Sl ar Y AJ v j.Bf|5=>Sl (SN ar bo Y) Y AJ v av|6=>EP (.slice (some ⟨Q,0,none⟩) (List.replicate ((↑c.A.length:Int):Int).toNat ([]:(List Int))).length t) (M.toNat*((BZ.sl AJ)).sz+0) v|_=>False) [[],[(0,38)],[],[],[(3,41)],[(4,42)],[(1,39),(2,40)]] [(5,43),(6,44)] mo (by kernel_rfl) [6,7,32,31,5,4,33] O (by kernel_rfl) (by kernel_rfl) (by kernel_rfl) (kp [6,7,32,31,5,4,33] O) (λi v h1 h2 o1 o2 y=>?_) ?_ ?_
   ·match i,y with
     |0,y|1,y|2,y|3,y|6,y=>exact y
     |4,y=>exact Sl.mono' y (o2.ext λb hb=>qZ (K.1 b hb) o1.siz)
     |5,y=>exact Sl.mono' y (SN.mono K.1 o1 o2)
     |_+7,y=>exact y.elim
   ·refine BQ.cons O (λ_ _ _=>AF 1 (AG EF O (AO O))) (BQ.cons O (λ_ _ o _ d6=>by cases d6;exact AF 1 (AT Bu (o.st K) O (mt mh) O HO O (AO O))) (BQ.cons O (λ_ _ _=>AF 1 (AA O (AO ⟨O,d0⟩))) (BQ.cons O (λ_ _ _=>AF 1 (AG TF O (AO O))) (BQ.cons O (λ_ _ o _ d7=>by cases d7;exact AF 1 (AT Bu (o.st K) O mh O CH O (AO (bn.mono' (bp.trans (o.ext K.1)))))) ?_))))
    refine BQ.cons O ?_ ?_
    ·intro mq Y o
     intro d8 ad
     have c1:=SN.st K o
     have ad:=Sl.mono' (S':=(SN ar bo Y)) ad ⟨λb hb=> .inl hb,λ_ _=>rfl,qX _⟩
     have ad:Sl _ _ AJ d8 j.Bf:=ad
     have b6:=c1.fz
     refine CG O O O Q8 O b6 (EC (St.all _) (ad.mono (λb hb=>b6.1 b hb) (λ_ _=>rfl)) b4) λgq gr gs fm d9 ea p=>?_
     have b8:=p
     have aw:=b6.join ea b8 ⟨OS.flat (λ{_ _ _ _ _ _} k=>k),trivial⟩
     simp only[rW,rQ] at aw
     obtain⟨gu,b9,eb,ec⟩:=aw.pubs .head
     have ax:=Fz.done o (d9.trans eb) b9
     exact Dt ax.1 (Sl.mono' ec ax.2)
    exact BQ.cons O (λ_ _ o=>by intro gv ed gw ee;cases ed;obtain ⟨rfl,gx⟩:=ee;exact AF 1 (BX (o.st K) (mt (mt (mt (mt (mt (mt mh)))))) O O Fl b5 O λgy ca=>AO ca)) trivial
   intro gz bq ef ay g0 eg
   have cb:=SN.st K bq
   have ay:Sl _ _ AJ ef av:=ay
   obtain⟨eh,cc,E⟩:=bd E
   refine Fd (r:=(BZ.sl AJ)) (l:=ab) (i:=M) (x:=eh) O O (Ml ay) eg cc MS.id CH (λ_=>rfl) cb (.tail (.tail (.tail (.tail (.tail (.tail .head)))))) λg1 cd ei=>AZ (kp [32,31,5,4,33] O) (B7 (CL (.inl O) (A9 O (AA O (AN (kp [33,32,31,5,4] O) (WF.nil (λaa ww hf hw=>?_)))))))
   have ce:=cd.sel [1,1,1,1,1,1,1] 1 O
   exact⟨(Bw (M+1)),(upd ab M av),_,_,hf.sub (kp [32,31,5,4,33] O),hw,ce,(au.trans (bj.trans (bp.trans ((SN.ext K.1 bq).trans ei)))),(B5 _),E⟩
  refine By O (λaa ww hf hw=>?_)
  exact⟨ab,_,_,hf.sub (kp [5,4] O),hw,ah,au,E⟩
 rintro aa ww ⟨ai,g2,g3,hf,hw,az,ej,E⟩
 refine A6 ?_ hf hw
 clear hf hw ww aa
 rw[Jz] at E
 refine WF.sl (AF 1 (ES (vs:=[vI d,(.slice (some ⟨Q,0,none⟩) (List.replicate ((↑c.A.length:Int):Int).toNat ([]:(List Int))).length t),(.slice (some ⟨U,0,none⟩) (List.replicate ((↑c.A.length:Int):Int).toNat (0:Int)).length C),vN,(.slice (some ⟨V,0,none⟩) (List.replicate ((↑c.E.length:Int):Int).toNat ((⟨0,0,false,false⟩:BG):BG)).length D),(.slice (some ⟨W,0,none⟩) (List.replicate ((↑c.J.length:Int):Int).toNat (0:Int)).length F),(.slice (some ⟨X,0,none⟩) (List.replicate ((↑c.J.length:Int):Int).toNat (0:Int)).length G)]) Bu az O mh O O G6 O O (AD (Ek (vs:=[vI d,(.slice (some ⟨Q,0,none⟩) (List.replicate ((↑c.A.length:Int):Int).toNat ([]:(List Int))).length t),(.slice (some ⟨U,0,none⟩) (List.replicate ((↑c.A.length:Int):Int).toNat (0:Int)).length C),vN,(.slice (some ⟨V,0,none⟩) (List.replicate ((↑c.E.length:Int):Int).toNat ((⟨0,0,false,false⟩:BG):BG)).length D),(.slice (some ⟨W,0,none⟩) (List.replicate ((↑c.J.length:Int):Int).toNat (0:Int)).length F),(.slice (some ⟨X,0,none⟩) (List.replicate ((↑c.J.length:Int):Int).toNat (0:Int)).length G)]) O O O O G6 O az (.tail (.tail (.tail (.tail (.tail (.tail .head)))))) O λg4 cf ek=>AZ (kp [4] O) (A5 (λaa ww hf hw=>?_))))))
 obtain⟨g5,cg,el,em⟩:=cf.pubs (.tail (.tail (.tail (.tail (.tail .head)))))
 obtain⟨g6,ch,br,en⟩:=cg.pubs (.tail (.tail (.tail (.tail .head))))
 obtain⟨g7,ci,a0,eo⟩:=ch.pubs (.tail (.tail (.tail .head)))
 obtain⟨g8,cj,aj,ep⟩:=ci.pubs (.tail (.tail .head))
 obtain⟨g9,ck,ae,eq⟩:=cj.pubs (.tail .head)
 have a1:=ck.sel [1] 1 O
 have cl:=a1.drop .head
 cases E
 exact K5 hf O hw (JD (Zw hf hw a1 O mh G6 O) K4) O (e5.trans (ag.trans ((ao.ext u.1).trans (bf.trans (ej.trans (ek.trans (el.trans (br.trans (a0.trans (aj.trans ae)))))))))) ⟨(DE.mk (x:=(⟨d,ai,(List.replicate ((↑c.A.length:Int):Int).toNat (0:Int)),[],(List.replicate ((↑c.E.length:Int):Int).toNat ((⟨0,0,false,false⟩:BG):BG)),(List.replicate ((↑c.J.length:Int):Int).toNat (0:Int)),(List.replicate ((↑c.J.length:Int):Int).toNat (0:Int))⟩:A7)) dy (em.mono' (br.trans (a0.trans (aj.trans ae)))) (en.mono' (a0.trans (aj.trans ae))) (.inl ⟨O,O⟩) (eo.mono' (aj.trans ae)) (ep.mono' ae) eq),cl⟩
def Cm (j:St S L h) {c:Int}(i:AH c) {b:Int}(g:AH b) {a:Int}(d:AH a) {r:Bool}(E:DB N c b a=some r):
 DK prog 68 #[vI c,vI b,vI a] S h (λv S' h'=>v= .bool r∧St S' (L) h'):=by
 refine B0 (l:=[vI c,vI b,vI a]) 15 func68 O ntmps68 O λB=>?_
 rw[DB] at E
 refine AI (AM O (kp [0,1,2] O) (AI (AA O (AA O (HX O (AA O (AW 4 14 (.bool ((decide (b≤c))&&(decide (c≤a)))) ?_ ?_)))))))
 ·cases n:(decide (b≤c))
  ·exact A4 O O
  exact AB O (AA O (AB O (AA O (AB O (HX O (AL O (AV O)))))))
 refine AM O (kp [6] O) (A5 (λo p k m=>?_))
 cases E
 exact Em k m O O (C9.refl S h) ⟨O,j⟩
def Cv (g:St S L h) {a:Int}(b:AH a) {r:Bool}(E:Cz N a=some r):
 DK prog 69 #[vI a] S h (λv S' h'=>v= .bool r∧St S' (L) h'):=by
 refine B0 (l:=[vI a]) 5 func69 O ntmps69 O λB=>?_
 rw[Cz] at E
 refine AI (AM O (kp [0] O) (AE (Cn (.inl O) g (AA O ?_))))
 obtain⟨m,c,E⟩:=bd E
 refine BU O O O Ip O (λh' o=>Cm (St.all h') b (iq (n:=0) O) (iq (n:=1125899906842624) O) c) (A0 O (B9 (kp [2] O) λp d i=>A5 (λq s j k=>?_)))
 cases E
 exact Em j k O O i ⟨O,d⟩
def N5 (hs:St S L h) {t:Value}{b:AU}(V:Rd S h C2 t b) {r:Bool}(E:IT N b=some r):
 DK prog 47 #[t] S h (λv S' h'=>v= .bool r∧St S' (L) h'):=by
 refine B0 (l:=[t]) 109 func47 O ntmps47 O λB=>?_
 rw[IT] at E
 refine WF.sl (C3 O V (λe=>by cases e) O hs λq1 S2 h3 s e5 D=>AF 1 (A0 O (AD (AZ (kp [1] O) (AE (AE (Cn (.inl O) s (A8 O D AU.f_Name TJ O λq7 k8=>TZ CQ s.1 O k8 RQ O λr9=>O8 O RP O (CV O (AA O ?_))))))))))
 obtain⟨ag,j,E⟩:=bd E
 refine AW 6 17 (.bool ag) ?_ ?_
 ·cases ah:(decide (500<(↑b.H.size:Int)))
  ·have j:=Hj ah j
   refine AB O (A8 O D Eq Ib O λb8 a0=>AB O (BF CQ s.1 O a0 LA O λb9 a1=>AB O (BE O a1 Ku O λa2=>AB O ?_)))
   obtain⟨ca,ai,j⟩:=bd j
   refine BU O O O Ip O (λh' o=>Cm (St.all h') (KY a2) (iq (n:=1) O) (iq (n:=16) O) ai) (AB O (CI O (AL O ?_)))
   cases j
   exact AV O
  have j:=Hi ah j
  cases j
  exact A4 O O
 refine AA O ?_
 obtain⟨aj,k,E⟩:=bd E
 refine AW 5 23 (.bool aj) ?_ ?_
 ·cases ak:ag
  ·have k:=Hj ak k
   refine AB O (A8 O D Lm TI O λcb a3=>AB O (BC CQ s.1 O a3 BA O λa4=>AB O ?_))
   obtain⟨cc,al,k⟩:=bd k
   refine BU O O O Ip O (λh' o=>Cm (St.all h') a4 (iq (n:=0) O) (iq (n:=64) O) al) (AB O (CI O (AL O ?_)))
   cases k
   exact AV O
  have k:=Hi ak k
  cases k
  exact A4 O O
 refine AA O ?_
 obtain⟨i,m,E⟩:=bd E
 refine AW 6 30 (.bool i) ?_ ?_
 ·cases am:aj
  ·have m:=Hj am m
   refine AB O (A8 O D B8 D1 O λcd a5=>AB O (BF CQ s.1 O a5 G7 O λce a6=>AB O (BE O a6 GL O λa7=>AB O ?_)))
   obtain⟨cf,an,m⟩:=bd m
   refine BU O O O Ip O (λh' o=>Cm (St.all h') (KY a7) (iq (n:=1) O) (iq (n:=64) O) an) (AB O (CI O (AL O ?_)))
   cases m
   exact AV O
  have m:=Hi am m
  cases m
  exact A4 O O
 refine AA O (AW 5 36 (.bool (i||(decide (96<(↑b.E.length:Int))))) ?_ ?_)
 ·cases cg:i
  ·exact AB O (A8 O D Er Hn O λch a8=>AB O (BF CQ s.1 O a8 KF O λci a9=>AB O (BE O a9 Ie O λcj=>AB O (CV O (AL O (AV O))))))
  exact A4 O O
 refine AA O (AW 5 42 (.bool ((i||(decide (96<(↑b.E.length:Int))))||(decide (40<(↑b.Am.length:Int))))) ?_ ?_)
 ·cases ck:(i||(decide (96<(↑b.E.length:Int))))
  ·exact AB O (A8 O D Ja O2 O λcl ba=>AB O (BF CQ s.1 O ba To O λcm bb=>AB O (BE O bb Qh O λcn=>AB O (CV O (AL O (AV O))))))
  exact A4 O O
 refine AA O (AW 5 48 (.bool (((i||(decide (96<(↑b.E.length:Int))))||(decide (40<(↑b.Am.length:Int))))||(decide (128<(↑b.Au.length:Int))))) ?_ ?_)
 ·cases co:((i||(decide (96<(↑b.E.length:Int))))||(decide (40<(↑b.Am.length:Int))))
  ·exact AB O (A8 O D K9 TH O λcp bc=>AB O (BF CQ s.1 O bc Xz O λcq be=>AB O (BE O be T3 O λcr=>AB O (CV O (AL O (AV O))))))
  exact A4 O O
 refine AA O (AW 5 54 (.bool ((((i||(decide (96<(↑b.E.length:Int))))||(decide (40<(↑b.Am.length:Int))))||(decide (128<(↑b.Au.length:Int))))||(decide (128<(↑b.Av.length:Int))))) ?_ ?_)
 ·cases cs:(((i||(decide (96<(↑b.E.length:Int))))||(decide (40<(↑b.Am.length:Int))))||(decide (128<(↑b.Au.length:Int))))
  ·exact AB O (A8 O D Ll TG O λct bf=>AB O (BF CQ s.1 O bf Xy O λcu bg=>AB O (BE O bg T1 O λcv=>AB O (CV O (AL O (AV O))))))
  exact A4 O O
 refine AA O (AW 5 60 (.bool (((((i||(decide (96<(↑b.E.length:Int))))||(decide (40<(↑b.Am.length:Int))))||(decide (128<(↑b.Au.length:Int))))||(decide (128<(↑b.Av.length:Int))))||(decide (40<(↑b.Ay.length:Int))))) ?_ ?_)
 ·cases cw:((((i||(decide (96<(↑b.E.length:Int))))||(decide (40<(↑b.Am.length:Int))))||(decide (128<(↑b.Au.length:Int))))||(decide (128<(↑b.Av.length:Int))))
  ·exact AB O (A8 O D JI QS O λcx bh=>AB O (BF CQ s.1 O bh Vr O λcy bi=>AB O (BE O bi Rr O λcz=>AB O (CV O (AL O (AV O))))))
  exact A4 O O
 refine AA O (AW 5 66 (.bool ((((((i||(decide (96<(↑b.E.length:Int))))||(decide (40<(↑b.Am.length:Int))))||(decide (128<(↑b.Au.length:Int))))||(decide (128<(↑b.Av.length:Int))))||(decide (40<(↑b.Ay.length:Int))))||(decide ((↑b.Ax.length:Int)≠3)))) ?_ ?_)
 ·cases c0:(((((i||(decide (96<(↑b.E.length:Int))))||(decide (40<(↑b.Am.length:Int))))||(decide (128<(↑b.Au.length:Int))))||(decide (128<(↑b.Av.length:Int))))||(decide (40<(↑b.Ay.length:Int))))
  ·exact AB O (A8 O D AU.f_Room WZ O λc1 bj=>AB O (BF CQ s.1 O bj CH O λc2 bk=>AB O (BE O bk CA O λc3=>AB O (Cg O (AL O (AV O))))))
  exact A4 O O
 refine AA O ?_
 obtain⟨bl,p,E⟩:=bd E
 refine AW 5 72 (.bool bl) ?_ ?_
 ·cases ao:((((((i||(decide (96<(↑b.E.length:Int))))||(decide (40<(↑b.Am.length:Int))))||(decide (128<(↑b.Au.length:Int))))||(decide (128<(↑b.Av.length:Int))))||(decide (40<(↑b.Ay.length:Int))))||(decide ((↑b.Ax.length:Int)≠3)))
  ·have p:=Hj ao p
   refine AB O (A8 O D AU.f_Err Y1 O λc4 bm=>AB O (BC CQ s.1 O bm BA O λbn=>AB O ?_))
   obtain⟨c5,ap,p⟩:=bd p
   refine BU O O O Ip O (λh' o=>Cm (St.all h') bn (iq (n:=0) O) (iq (n:=1099511627776) O) ap) (AB O (CI O (AL O ?_)))
   cases p
   exact AV O
  have p:=Hi ao p
  cases p
  exact A4 O O
 refine B9 (kp [72,1] O) λab F G=>AY O E (λbo E=>?_) (λbo E=>?_)
 ·refine AI (AM O (kp [2] O) (A5 (λu x c d=>?_)))
  cases E
  exact Em c d O O (e5.trans G) ⟨O,F⟩
 refine AS (AE (AI ?_))
 have ac:=D.mono G
 refine A8 O ac AU.f_Name TJ O λc6 bp=>TZ Bu F.1 O bp RQ O λc7=>O8 O RP O (AA O (AN (kp [76,75,1] O) (BH (λa w=>IV B S2 ab (109,[]) a w [(1,q1)] (L) λ_ _=>Ea N b=some r) ?_ ?_)))
 ·refine BV (λn1=>λa w=>∃(I:Int),IV B S2 ab (109,[]) a w [(75,vI (↑b.H.size:Int)),(1,q1),(76,vI I)] (L) λ_ _=>AH I∧EZ N b (Ea N b) n1 I=some r) N ?_ ?_ ?_
  ·intro u x c d
   exact⟨0,_,_,c.sub (kp [75,1,76] O),d,F,(C9.refl S2 ab),(iq (n:=0) O),E⟩
  ·rintro u x ⟨_,_,_,_,_,_,_,_,E⟩
   rw[EZ] at E;cases E
  rintro n1 u x ⟨I,c8,c9,c,d,A,W,da,E⟩
  refine A6 ?_ c d
  clear c d x u
  rw[EZ] at E
  refine AI (BI O (AN (kp [77,75,1,76] O) (AE (AY O E (λbq E=>?_) (λbq E=>?_)))))
  ·refine AS (AE (BY (AI (AA O (AM O (kp [3,75,1,76] O) (AI (A8 O (ac.mono W) AU.f_Name TJ O λdb br=>TZ Bu A.1 O br RQ O λdc=>AA O ?_)))))))
   obtain⟨g,X,E⟩:=bd E
   have bs:=O5 X
   refine PB O O RP X O (AM O (kp [4,75,1,76] O) (AI (AA O (BI O (AA O (AW 3 88 (.bool ((decide (g<32))||(decide (126<g)))) ?_ ?_))))))
   ·cases bt:(decide (g<32))
    ·exact AB O (AA O (AB O (CV O (AL O (AV O)))))
    exact A4 O O
   refine AA O (AW 3 92 (.bool (((decide (g<32))||(decide (126<g)))||(decide (g=34)))) ?_ ?_)
   ·cases bu:((decide (g<32))||(decide (126<g)))
    ·exact AB O (AA O (AB O (B6 O (AL O (AV O)))))
    exact A4 O O
   refine AA O (AW 3 96 (.bool ((((decide (g<32))||(decide (126<g)))||(decide (g=34)))||(decide (g=92)))) ?_ ?_)
   ·cases bv:(((decide (g<32))||(decide (126<g)))||(decide (g=34)))
    ·exact AB O (AA O (AB O (B6 O (AL O (AV O)))))
    exact A4 O O
   refine AN (kp [96,75,1,76] O) (AY O E (λaq E=>?_) (λaq E=>?_))
   ·refine AI (AM O (kp [2] O) (A5 (λu x c d=>?_)))
    cases E
    exact Em c d O O (e5.trans (G.trans W)) ⟨O,A⟩
   refine AS (B7 (CL (.inl O) (A9 O (AA O (AN (kp [76,75,1] O) (WF.nil (λu x c d=>?_)))))))
   exact⟨(Bw (I+1)),_,_,c.sub (kp [75,1,76] O),d,A,W,(B5 _),E⟩
  refine By O (λu x c d=>?_)
  exact⟨_,_,c.sub (kp [1] O),d,A,W,E⟩
 rintro u x ⟨J,K,c,d,M,Q,E⟩
 refine A6 ?_ c d
 clear c d x u
 rw[Ea] at E
 refine AE (AI (A8 O (ac.mono Q) AU.f_Room WZ O λbw ar=>BF Bu M.1 O ar CH O λau Y=>BE O Y CA O λbx=>AA O (AN (kp [101,100,99] O) (BH (λa w=>IV B J K (109,[]) a w [] (L) λ_ _=>Gb N=some r) ?_ ?_))))
 ·refine BV (λn3=>λa w=>∃(y:Int),IV B J K (109,[]) a w [(100,vI (↑b.Ax.length:Int)),(99,au),(101,vI y)] (L) λ_ _=>AH y∧EY N b (Gb N) n3 y=some r) N ?_ ?_ ?_
  ·intro u x c d
   exact⟨0,_,_,c.sub (kp [100,99,101] O),d,M,(C9.refl J K),(iq (n:=0) O),E⟩
  ·rintro u x ⟨_,_,_,_,_,_,_,_,E⟩
   rw[EY] at E;cases E
  rintro n3 u x ⟨y,bz,b0,c,d,z,C,b1,E⟩
  refine A6 ?_ c d
  clear c d x u
  rw[EY] at E
  refine AI (BI O (AN (kp [102,100,99,101] O) (AE (AY O E (λav E=>?_) (λav E=>?_)))))
  ·refine AS (AE (BY (AI ?_)))
   obtain⟨b2,ad,E⟩:=bd E
   refine B1 O O (Y.mono' C) CA ad O λb3 aw=>BC Bu z.1 O aw BA O λax=>AM O (kp [6,100,99,101] O) (AE (Cn (.inl O) z (AA O ?_)))
   obtain⟨b4,ae,E⟩:=bd E
   refine BU O O O Ka O (λh' o=>Cv (St.all h') ax ae) (CI O (B9 (kp [107,100,99,101] O) λb5 U Z=>AY O E (λay E=>?_) (λay E=>?_)))
   ·refine AI (AM O (kp [2] O) (A5 (λu x c d=>?_)))
    cases E
    exact Em c d O O (e5.trans (G.trans (Q.trans (C.trans Z)))) ⟨O,U⟩
   refine AS (B7 (CL (.inl O) (A9 O (AA O (AN (kp [101,100,99] O) (WF.nil (λu x c d=>?_)))))))
   exact⟨(Bw (y+1)),_,_,c.sub (kp [100,99,101] O),d,U,(C.trans Z),(B5 _),E⟩
  refine By O (λu x c d=>?_)
  exact⟨_,_,c.sub Py,d,z,C,E⟩
 rintro u x ⟨b6,b7,c,d,af,az,E⟩
 refine A6 ?_ c d
 clear c d x u
 rw[Gb] at E
 refine AI (AM O (kp [2] O) (A5 (λu x c d=>?_)))
 cases E
 exact Em c d O O (e5.trans (G.trans (Q.trans az))) ⟨O,af⟩
end Go.Proofs.YtblcgjadhemlbaaGreat
