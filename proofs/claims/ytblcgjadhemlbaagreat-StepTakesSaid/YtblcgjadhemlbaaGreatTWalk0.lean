import Derived.Test.YtblcgjadhemlbaaGreatTFacts
import Derived.Test.YtblcgjadhemlbaaGreatTForms
import Derived.Test.YtblcgjadhemlbaaGreatTSortD
namespace Go.Proofs.YtblcgjadhemlbaaGreat
open Go.RowKit
set_option linter.unusedVariables false
set_option linter.unusedSimpArgs false
set_option maxRecDepth 10000
set_option maxHeartbeats 2000000
variable {N:Nat}{S:Nat→Prop}{L:List HP}{h:Aw}
theorem Lm (hs:St S L h) {r:AW}(E:IZ N=some r):
 CL Tryz.prog 26 #[] S h (λv S' h'=>Rd S' h' B8 v r∧St S' (L) h'):=by
 refine BF (l:=[]) 11 Tryz.func26 O Tryz.ntmps26 O λB=>?_
 rw[IZ] at E
 refine WF.sl (Cn Y4 O hs λb1 h2 ab e4=>AZ (kp [0] O) (WF.sl (AI 1 (H1 (cs:=[vI 0,vI 0]) cW O O O (AG (D0 (cs:=[vI 0,vI 0]) eL O O O O O O O ab λY h6 ac e8=>D0 (cs:=[vI 100,vI 50]) FJ O O O O O O O ac λZ an p ad=>AI 1 ?_))))))
 have s:=p.bxos (r:=Bu) (l:=([(⟨0,0⟩:BT)]:List BT)) (.tail .head) ⟨_,_,O,⟨O,⟨(iq (n:=0) O),(iq (n:=0) O)⟩⟩,O⟩ (by simp [maxLen])
 obtain⟨ao,t,ae,af⟩:=s.pubs (.tail .head)
 have u:=t.bxos (r:=AN.int) (l:=([100,50]:List Int)) .head ⟨_,_,O,⟨O,(iq (n:=100) O)⟩,⟨_,_,O,⟨O,(iq (n:=50) O)⟩,O⟩⟩ (by simp [maxLen])
 obtain⟨ap,w,y,ag⟩:=u.pubs .head
 refine H1 (cs:=[.string (ByteArray.mk #[112]),vI 0,vI 2,vI 120,(.slice (some ⟨Y,0,none⟩) 1 1),(.slice (some ⟨Z,0,none⟩) 2 2),vI 1,vI 10,vI (-1),vI 0,vI 0,vN]) cZ O O O (AG (Cn OR O w λaq ar z d=>DW (vs:=[.string (ByteArray.mk #[112]),vI 0,vI 2,vI 120,(.slice (some ⟨Y,0,none⟩) 1 1),(.slice (some ⟨Z,0,none⟩) 2 2),vI 1,vI 10,vI (-1),vI 0,vI 0,vN]) O O O O Jt O z .head O λau A g=>AZ (kp [1,0] O) (WF.sl (D0 (cs:=[.string (ByteArray.mk #[97]),.string (ByteArray.mk #[99])]) eO O O O O O O O A λC av b i=>AI 1 (Dk (vs:=[.string (ByteArray.mk #[112]),vI 0,vI 2,vI 120,(.slice (some ⟨Y,0,none⟩) 1 1),(.slice (some ⟨Z,0,none⟩) 2 2),vI 1,vI 10,vI (-1),vI 0,vI 0,vN]) A6 b O (mt mh) O O Jt O O (AG (D0 (cs:=[.string (ByteArray.mk #[112]),vI 0,vI 2,vI 120,(.slice (some ⟨Y,0,none⟩) 1 1),(.slice (some ⟨Z,0,none⟩) 2 2),vI 1,vI 10,vI (-1),vI 0,vI 0,vN]) eN O O O O O O O b λD aw F j=>D0 (cs:=[vI 0,vI 0,vI 0]) FJ O O O O O O O F λG ax H k=>AI 1 ?_)))))))
 have I:=H.bxos (r:=AN.str) (l:=Mn) (.tail (.tail .head)) ⟨_,_,O,⟨O,(by decide)⟩,⟨_,_,O,⟨O,(by decide)⟩,O⟩⟩ (by simp [maxLen,Mn])
 obtain⟨ay,J,m,ah⟩:=I.pubs (.tail (.tail .head))
 have ai:=af.mono' (y.trans (d.trans (g.trans (i.trans (j.trans (k.trans m))))))
 have aj:=ag.mono' (d.trans (g.trans (i.trans (j.trans (k.trans m)))))
 have K:=J.bxos (r:=B1) (l:=Mo) (.tail .head) ⟨_,_,O,⟨_,_,_,O,(by decide),(iq (n:=0) O),(iq (n:=2) O),(iq (n:=120) O),ai,aj,(iq (n:=1) O),(iq (n:=10) O),(iq (n:=(-1)) O),(iq (n:=0) O),(iq (n:=0) O),(.inl ⟨O,O⟩)⟩,O⟩ (by simp [maxLen,Mo])
 obtain⟨az,M,Q,ak⟩:=K.pubs (.tail .head)
 have U:=M.bxos (r:=AN.int) (l:=([0,0,0]:List Int)) .head ⟨_,_,O,⟨O,(iq (n:=0) O)⟩,⟨_,_,O,⟨O,(iq (n:=0) O)⟩,⟨_,_,O,⟨O,(iq (n:=0) O)⟩,O⟩⟩⟩ (by simp [maxLen])
 obtain⟨a0,V,o,am⟩:=U.pubs .head
 refine H1 (cs:=[.string (ByteArray.mk #[98]),(.slice (some ⟨C,0,none⟩) 2 2),vI 0,(.slice (some ⟨D,0,none⟩) 1 1),vN,vN,vN,vN,vN,(.slice (some ⟨G,0,none⟩) 3 3),vI 0]) dB O O O (AG (DW (vs:=[.string (ByteArray.mk #[98]),(.slice (some ⟨C,0,none⟩) 2 2),vI 0,(.slice (some ⟨D,0,none⟩) 1 1),vN,vN,vN,vN,vN,(.slice (some ⟨G,0,none⟩) 3 3),vI 0]) O O O O G0 O V (.tail .head) O λa1 W a=>AZ (kp [0] O) (Ad (λaa ww hf hw=>?_))))
 have c:=W.sel [1] 1 O
 have X:=c.drop .head
 cases E
 exact KD hf O hw (IF (Xq hf hw c O mh G0 O) KC) O (e4.trans (e8.trans (ad.trans (ae.trans (y.trans (d.trans (g.trans (i.trans (j.trans (k.trans (m.trans (Q.trans (o.trans a))))))))))))) ⟨(B8.mk (x:=(⟨(ByteArray.mk #[98]),Mn,0,Mo,[],[],[],[],[],([0,0,0]:List Int),0⟩:AW)) (by decide) (ah.mono' (Q.trans (o.trans a))) (iq (n:=0) O) (ak.mono' (o.trans a)) (.inl ⟨O,O⟩) (.inl ⟨O,O⟩) (.inl ⟨O,O⟩) (.inl ⟨O,O⟩) (.inl ⟨O,O⟩) (am.mono' a) (iq (n:=0) O)),X⟩
theorem DE (hs:St S L h) {a:Value}{c:(List Int)}(b:Sl S h AN.int a c) {r:(List Int)}(E:CE N c=some r):
 CL Tryz.prog 39 #[a] S h (λv S' h'=>St S' (OS AN.int 3 v r::L) h'):=by
 refine BF (l:=[a]) 8 Tryz.func39 O Tryz.ntmps39 O λB=>?_
 rw[CE] at E
 rcases b.cases with ⟨rfl,rfl⟩|⟨s,o,rfl,b⟩
 ·have E1:(some ([]:List Int))=some r:=by simpa [chk,KR] using E
  refine AH (AL O (kp [0] O) (AC (AH (AA O (Ux O O O Vo (AM (kp [4,0] O) (Xb O (AH (AL O (kp [2] O) (Ad (λt u d g=>?_)))))))))))
  have i:=hs.nil AN.int 3
  cases E
  exact Dr d g O O (B9.refl S h) i
 refine AH (AL O (kp [0] O) (AC (AH (AA O (Xk O O O Vo (AM (kp [4,0] O) (Xc O (AO (WF.sl (Xl (r:=AN.int) FJ O O hs λv1 w j p=>AI 1 (AA O (AG ?_))))))))))))
 obtain⟨k,E⟩:=MU E
 refine JT (r:=AN.int) (l:=([]:List Int)) (xs:=c) O O FJ O (Sl.src (b.mono' p)) O k O j (λ_=> .head) λx y m n=>AI 1 (AY O (AG (AZ (kp [2] O) (Ad (λt u d g=>?_)))))
 cases E
 exact Dr d g O O (p.trans n) m
theorem Pb (hs:St S L h) {W:Value}{c:AW}(ax:Rd S h B8 W c) {d:Int}(Z:AE d) {r:Am}(E:Lk N c d=some r):
 CL Tryz.prog 15 #[W,vI d] S h (λv S' h'=>Rd S' h' CP v r∧St S' (L) h'):=by
 refine BF (l:=[W,vI d]) 47 Tryz.func15 O Tryz.ntmps15 O λB=>?_
 rw[Lk] at E
 refine WF.sl (B3 O ax (λe=>by cases e) O hs λq1 S2 h3 ek e5 k6=>Cn OT O ek λb7 h8 u ab=>AZ (kp [4,2,1] O) (AC ?_))
 obtain⟨cg,E⟩:=MU E
 obtain⟨ch,E⟩:=MU E
 obtain⟨ci,E⟩:=MU E
 obtain⟨cj,E⟩:=MU E
 obtain⟨ck,E⟩:=MU E
 refine Yf (m:=[(4,vP b7 0),(2,q1),(1,vI d)]) [23] [] [4,8,12,16,20,22] ⟨[(21,[8,12,16,20,24,28])],λi l=>match i,l with|21,[some a8,some el,some em,some en,some eo,some ep]=>some (.agg ([a8]++[el]++[em]++[(vN:Value)]++[en]++[eo]++[ep]).toArray)|_,_=>none⟩ (by kernel_rfl) (by kernel_rfl) (λi v Q=>match i with|0=>v=vI d∧AE d|1=>Pt S2 Q (AN.sl B1) v c.Places|2=>Sl S2 Q B1 v c.Places|3=>v=vI (↑c.Places.length:Int)∧AE (↑c.Places.length:Int)|4=>Vc S2 h8 (AN.sl AN.int) 29 (List.replicate ((↑c.Places.length:Int):Int).toNat ([]:(List Int))) v Q|5=>Pt S2 Q (AN.sl B1) v c.Places|6=>Sl S2 Q B1 v c.Places|7=>v=vI (↑c.Places.length:Int)∧AE (↑c.Places.length:Int)|8=>Vc S2 h8 AN.int 3 (List.replicate ((↑c.Places.length:Int):Int).toNat (0:Int)) v Q|9=>Pt S2 Q (AN.sl Bv) v c.Links|10=>Sl S2 Q Bv v c.Links|11=>v=vI (↑c.Links.length:Int)∧AE (↑c.Links.length:Int)|12=>Vc S2 h8 BE 69 (List.replicate ((↑c.Links.length:Int):Int).toNat ((⟨0,0,false,false⟩:Ax):Ax)) v Q|13=>Pt S2 Q (AN.sl AN.str) v c.Owners|14=>Sl S2 Q AN.str v c.Owners|15=>v=vI (↑c.Owners.length:Int)∧AE (↑c.Owners.length:Int)|16=>Vc S2 h8 AN.int 3 (List.replicate ((↑c.Owners.length:Int):Int).toNat (0:Int)) v Q|17=>Pt S2 Q (AN.sl AN.str) v c.Owners|18=>Sl S2 Q AN.str v c.Owners|19=>v=vI (↑c.Owners.length:Int)∧AE (↑c.Owners.length:Int)|20=>Vc S2 h8 AN.int 3 (List.replicate ((↑c.Owners.length:Int):Int).toNat (0:Int)) v Q|21=>True|22=>Xt h8 36 [vI 0,vN,vN,vN,vN,vN,vN] v Q|_=>False) [[],[],[(1,9)],[(2,10)],[(3,11)],[],[(5,13)],[(6,14)],[(7,15)],[],[(9,17)],[(10,18)],[(11,19)],[],[(13,21)],[(14,22)],[(15,23)],[],[(17,25)],[(18,26)],[(19,27)],[(0,8),(4,12),(8,16),(12,20),(16,24),(20,28)],[],[]] [(0,8),(4,12),(8,16),(12,20),(16,24),(20,28),(21,29),(22,5)] mo (by kernel_rfl) [4,2,1] O (by kernel_rfl) (by kernel_rfl) (by kernel_rfl) O (kp [4,2,1] O) (λi v h1 h2 o1 o2 hr=>?_) (by kernel_rfl) (Mc O (Mc O (Mc O (Mc O (Mc O (Yd (T:=36) O bB)))))) ?_ ?_ ?_
 ·match i,hr with
   |0,hr|3,hr|7,hr|11,hr|15,hr|19,hr|21,hr=>exact hr
   |1,hr|5,hr|9,hr|13,hr|17,hr=>exact N6.mono hr (o2.ext λb hb=>Nat.lt_of_lt_of_le (u.1 b hb) o1.siz)
   |2,hr|6,hr|10,hr|14,hr|18,hr=>exact Sl.mono' hr (o2.ext λb hb=>Nat.lt_of_lt_of_le (u.1 b hb) o1.siz)
   |4,hr|8,hr|12,hr|16,hr|20,hr=>exact hr.mono u.1 o2
   |22,hr=>exact hr.mono o2
   |_+23,hr=>exact hr.elim
 ·exact trivial
 ·refine Dp.cons O O O (λ_ _ _=>AI 1 (AA O (AQ ⟨O,Z⟩))) (Dp.cons O O O (λ_ _ o=>AI 1 (Af O (k6.mono (ab.trans (o.ext u.1))) BO C0 O λg1 eq=>AQ eq)) (Dp.cons O O O (λ_ _ o er bn=>by have bn:Pt _ _ (AN.sl B1) er c.Places:=bn;exact AI 1 (Al A6 (o.st u).1 O bn Fq O λg2 es=>AQ es)) (Dp.cons O O O (λ_ _ _ et bo=>by have bo:Sl _ _ B1 et c.Places:=bo;exact AI 1 (Ak O bo Ez O λeu=>AQ ⟨O,(JY eu)⟩)) (Me O O O (λ_ _ o _ ev=>by obtain⟨rfl,g3⟩:=ev;exact P8 (r:=(AN.sl AN.int)) (zx:=[]) XG O ⟨_,O,.inl ⟨O,O⟩⟩ O O cg O O o u.1 λv' h' o' r' f'=>C1 o' ⟨r',f'⟩) (Dp.cons O O O (λ_ _ o=>AI 1 (Af O (k6.mono (ab.trans (o.ext u.1))) BO C0 O λg4 ew=>AQ ew)) (Dp.cons O O O (λ_ _ o ey bp=>by have bp:Pt _ _ (AN.sl B1) ey c.Places:=bp;exact AI 1 (Al A6 (o.st u).1 O bp Fq O λg5 ez=>AQ ez)) (Dp.cons O O O (λ_ _ _ e0 bq=>by have bq:Sl _ _ B1 e0 c.Places:=bq;exact AI 1 (Ak O bq Ez O λe1=>AQ ⟨O,(JY e1)⟩)) (Me O O O (λ_ _ o _ e2=>by obtain⟨rfl,g6⟩:=e2;exact P8 (r:=AN.int) (zx:=0) FJ O ⟨O,by unfold AE;omega⟩ O O ch O O o u.1 λv' h' o' r' f'=>C1 o' ⟨r',f'⟩) (Dp.cons O O O (λ_ _ o=>AI 1 (Af O (k6.mono (ab.trans (o.ext u.1))) Es HA O λg7 e3=>AQ e3)) (Dp.cons O O O (λ_ _ o e4 br=>by have br:Pt _ _ (AN.sl Bv) e4 c.Links:=br;exact AI 1 (Al A6 (o.st u).1 O br Jv O λg8 e6=>AQ e6)) (Dp.cons O O O (λ_ _ _ e7 bs=>by have bs:Sl _ _ Bv e7 c.Links:=bs;exact AI 1 (Ak O bs H6 O λe8=>AQ ⟨O,(JY e8)⟩)) ?_)))))))))))
  refine Me O O O (λ_ _ o _ e9=>by obtain⟨rfl,g9⟩:=e9;exact P8 (r:=BE) (zx:=(⟨0,0,false,false⟩:Ax)) XE O ⟨O,by unfold Ax.ok AE;simp [IntKind.has,IntKind.min,IntKind.max,IntKind.bits,IntKind.signed]⟩ O O ci O O o u.1 λv' h' o' r' f'=>C1 o' ⟨r',f'⟩) (Dp.cons O O O (λ_ _ o=>AI 1 (Af O (k6.mono (ab.trans (o.ext u.1))) Dq HT O λha fb=>AQ fb)) (Dp.cons O O O (λ_ _ o fc bt=>by have bt:Pt _ _ (AN.sl AN.str) fc c.Owners:=bt;exact AI 1 (Al A6 (o.st u).1 O bt KI O λhc fd=>AQ fd)) (Dp.cons O O O (λ_ _ _ fe af=>by have af:Sl _ _ AN.str fe c.Owners:=af;exact AI 1 (Ak O af Jx O λcl=>AQ ⟨O,(JY cl)⟩)) (Me O O O (λ_ _ o _ cm=>by obtain⟨rfl,fg⟩:=cm;exact P8 (r:=AN.int) (zx:=0) FJ O ⟨O,by unfold AE;omega⟩ O O cj O O o u.1 λv' h' o' r' f'=>C1 o' ⟨r',f'⟩) (Dp.cons O O O (λ_ _ o=>AI 1 (Af O (k6.mono (ab.trans (o.ext u.1))) Dq HT O λfh cn=>AQ cn)) (Dp.cons O O O (λ_ _ o co ag=>by have ag:Pt _ _ (AN.sl AN.str) co c.Owners:=ag;exact AI 1 (Al A6 (o.st u).1 O ag KI O λfi cp=>AQ cp)) (Dp.cons O O O (λ_ _ _ cq ah=>by have ah:Sl _ _ AN.str cq c.Owners:=ah;exact AI 1 (Ak O ah Jx O λcr=>AQ ⟨O,(JY cr)⟩)) (Me O O O (λ_ _ o _ ct=>by obtain⟨rfl,fj⟩:=ct;exact P8 (r:=AN.int) (zx:=0) FJ O ⟨O,by unfold AE;omega⟩ O O ck O O o u.1 λv' h' o' r' f'=>C1 o' ⟨r',f'⟩) ?_))))))))
  refine Dp.z [8,12,16,20,24,28] O O O (by kernel_rfl) ?_ ?_
  ·intro mq Q o
   intro fk cu fl a3 fm a4 fn a5 fo a6 fp a7
   have hsN:=o.st u
   obtain⟨rfl,fq⟩:=cu
   obtain⟨cv,ay,rfl,a3⟩:=a3
   obtain⟨cw,az,rfl,a4⟩:=a4
   obtain⟨cx,a0,rfl,a5⟩:=a5
   obtain⟨cy,a1,rfl,a6⟩:=a6
   obtain⟨cz,a2,rfl,a7⟩:=a7
   exact AI 1 (H1 (cs:=[vI d,(.slice (some ⟨cv,0,none⟩) (List.replicate ((↑c.Places.length:Int):Int).toNat ([]:(List Int))).length ay),(.slice (some ⟨cw,0,none⟩) (List.replicate ((↑c.Places.length:Int):Int).toNat (0:Int)).length az),vN,(.slice (some ⟨cx,0,none⟩) (List.replicate ((↑c.Links.length:Int):Int).toNat ((⟨0,0,false,false⟩:Ax):Ax)).length a0),(.slice (some ⟨cy,0,none⟩) (List.replicate ((↑c.Owners.length:Int):Int).toNat (0:Int)).length a1),(.slice (some ⟨cz,0,none⟩) (List.replicate ((↑c.Owners.length:Int):Int).toNat (0:Int)).length a2)]) dA O O O (AQ ⟨trivial,O,O⟩))
  exact Dp.al O OT O O (Dp.skip (by kernel_rfl) (trivial))
 intro fr ai fs c0 ft c1 fu c2 fv c3 fw c4 fx c5 c6 fy f0 c7 g bu
 obtain⟨H,t,rfl,c8,c9,da⟩:=c1
 obtain⟨I,y,rfl,db,dc,dd⟩:=c2
 obtain⟨J,A,rfl,de,df,dg⟩:=c3
 obtain⟨K,C,rfl,dh,di,dj⟩:=c4
 obtain⟨M,D,rfl,dk,dl,dm⟩:=c5
 obtain⟨U,rfl,dn,dp,dq⟩:=c7
 have bv:=(TT.cons (LY (LY (LY (LY (LY (TT.nil u ai) c8 c9 da List.not_mem_nil) db dc dd (Tp (g.of_ (s:=16) (s':=12) (by kernel_rfl) O O O O) List.not_mem_nil)) de df dg (Tp (g.of_ (s:=20) (s':=16) (by kernel_rfl) O O O O) (Tp (g.of_ (s:=20) (s':=12) (by kernel_rfl) O O O O) List.not_mem_nil))) dh di dj (Tp (g.of_ (s:=24) (s':=20) (by kernel_rfl) O O O O) (Tp (g.of_ (s:=24) (s':=16) (by kernel_rfl) O O O O) (Tp (g.of_ (s:=24) (s':=12) (by kernel_rfl) O O O O) List.not_mem_nil)))) dk dl dm (Tp (g.of_ (s:=28) (s':=24) (by kernel_rfl) O O O O) (Tp (g.of_ (s:=28) (s':=20) (by kernel_rfl) O O O O) (Tp (g.of_ (s:=28) (s':=16) (by kernel_rfl) O O O O) (Tp (g.of_ (s:=28) (s':=12) (by kernel_rfl) O O O O) List.not_mem_nil))))) dn dp dq (Tp (g.of_ (s:=5) (s':=28) (by kernel_rfl) O O O O) (Tp (g.of_ (s:=5) (s':=24) (by kernel_rfl) O O O O) (Tp (g.of_ (s:=5) (s':=20) (by kernel_rfl) O O O O) (Tp (g.of_ (s:=5) (s':=16) (by kernel_rfl) O O O O) (Tp (g.of_ (s:=5) (s':=12) (by kernel_rfl) O O O O) List.not_mem_nil)))))).st
 obtain⟨rfl,dr⟩:=c0
 obtain rfl:c6=Value.agg #[vI d,(.slice (some ⟨H,0,none⟩) (List.replicate ((↑c.Places.length:Int):Int).toNat ([]:(List Int))).length t),(.slice (some ⟨I,0,none⟩) (List.replicate ((↑c.Places.length:Int):Int).toNat (0:Int)).length y),vN,(.slice (some ⟨J,0,none⟩) (List.replicate ((↑c.Links.length:Int):Int).toNat ((⟨0,0,false,false⟩:Ax):Ax)).length A),(.slice (some ⟨K,0,none⟩) (List.replicate ((↑c.Owners.length:Int):Int).toNat (0:Int)).length C),(.slice (some ⟨M,0,none⟩) (List.replicate ((↑c.Owners.length:Int):Int).toNat (0:Int)).length D)]:=(Option.some.inj (bu _ List.mem_cons_self 29 _ (by kernel_rfl) O O)).symm
 refine DW (vs:=[vI d,(.slice (some ⟨H,0,none⟩) (List.replicate ((↑c.Places.length:Int):Int).toNat ([]:(List Int))).length t),(.slice (some ⟨I,0,none⟩) (List.replicate ((↑c.Places.length:Int):Int).toNat (0:Int)).length y),vN,(.slice (some ⟨J,0,none⟩) (List.replicate ((↑c.Links.length:Int):Int).toNat ((⟨0,0,false,false⟩:Ax):Ax)).length A),(.slice (some ⟨K,0,none⟩) (List.replicate ((↑c.Owners.length:Int):Int).toNat (0:Int)).length C),(.slice (some ⟨M,0,none⟩) (List.replicate ((↑c.Owners.length:Int):Int).toNat (0:Int)).length D)]) O O O O G8 O bv .head O λaj ak a9=>AZ (kp [5,4,2] O) (AC (AH (Af O (k6.mono (ab.trans ((ai.ext u.1).trans a9))) BO C0 O λf1 ds=>Al A6 ak.1 O ds Fq O λba bb=>Ak O bb Ez O λf2=>AA O (AM (kp [33,32,31,5,4] O) (Aj (λa w=>∃(ad:List (List Int)),IV B S2 aj (47,[]) a w [(5,vP U 0),(4,vP b7 0)] (Bx U 36 [vI d,(.slice (some ⟨H,0,none⟩) (List.replicate ((↑c.Places.length:Int):Int).toNat ([]:(List Int))).length t),(.slice (some ⟨I,0,none⟩) (List.replicate ((↑c.Places.length:Int):Int).toNat (0:Int)).length y),vN,(.slice (some ⟨J,0,none⟩) (List.replicate ((↑c.Links.length:Int):Int).toNat ((⟨0,0,false,false⟩:Ax):Ax)).length A),(.slice (some ⟨K,0,none⟩) (List.replicate ((↑c.Owners.length:Int):Int).toNat (0:Int)).length C),(.slice (some ⟨M,0,none⟩) (List.replicate ((↑c.Owners.length:Int):Int).toNat (0:Int)).length D)]::OS AN.int 3 (.slice (some ⟨M,0,none⟩) (List.replicate ((↑c.Owners.length:Int):Int).toNat (0:Int)).length D) (List.replicate ((↑c.Owners.length:Int):Int).toNat (0:Int))::OS AN.int 3 (.slice (some ⟨K,0,none⟩) (List.replicate ((↑c.Owners.length:Int):Int).toNat (0:Int)).length C) (List.replicate ((↑c.Owners.length:Int):Int).toNat (0:Int))::OS BE 69 (.slice (some ⟨J,0,none⟩) (List.replicate ((↑c.Links.length:Int):Int).toNat ((⟨0,0,false,false⟩:Ax):Ax)).length A) (List.replicate ((↑c.Links.length:Int):Int).toNat ((⟨0,0,false,false⟩:Ax):Ax))::OS AN.int 3 (.slice (some ⟨I,0,none⟩) (List.replicate ((↑c.Places.length:Int):Int).toNat (0:Int)).length y) (List.replicate ((↑c.Places.length:Int):Int).toNat (0:Int))::OS (AN.sl AN.int) 29 (.slice (some ⟨H,0,none⟩) (List.replicate ((↑c.Places.length:Int):Int).toNat ([]:(List Int))).length t) ad::Bx b7 36 [vI 0,vN,vN,vN,vN,vN,vN]::L) λ_ _=>I7 N c d ad=some r) ?_ ?_)))))
 ·refine A3 (λn1=>λa w=>∃(G:Int) (V:List (List Int)),IV B S2 aj (47,[]) a w [(32,vI (↑c.Places.length:Int)),(31,ba),(5,vP U 0),(4,vP b7 0),(33,vI G)] (Bx U 36 [vI d,(.slice (some ⟨H,0,none⟩) (List.replicate ((↑c.Places.length:Int):Int).toNat ([]:(List Int))).length t),(.slice (some ⟨I,0,none⟩) (List.replicate ((↑c.Places.length:Int):Int).toNat (0:Int)).length y),vN,(.slice (some ⟨J,0,none⟩) (List.replicate ((↑c.Links.length:Int):Int).toNat ((⟨0,0,false,false⟩:Ax):Ax)).length A),(.slice (some ⟨K,0,none⟩) (List.replicate ((↑c.Owners.length:Int):Int).toNat (0:Int)).length C),(.slice (some ⟨M,0,none⟩) (List.replicate ((↑c.Owners.length:Int):Int).toNat (0:Int)).length D)]::OS AN.int 3 (.slice (some ⟨M,0,none⟩) (List.replicate ((↑c.Owners.length:Int):Int).toNat (0:Int)).length D) (List.replicate ((↑c.Owners.length:Int):Int).toNat (0:Int))::OS AN.int 3 (.slice (some ⟨K,0,none⟩) (List.replicate ((↑c.Owners.length:Int):Int).toNat (0:Int)).length C) (List.replicate ((↑c.Owners.length:Int):Int).toNat (0:Int))::OS BE 69 (.slice (some ⟨J,0,none⟩) (List.replicate ((↑c.Links.length:Int):Int).toNat ((⟨0,0,false,false⟩:Ax):Ax)).length A) (List.replicate ((↑c.Links.length:Int):Int).toNat ((⟨0,0,false,false⟩:Ax):Ax))::OS AN.int 3 (.slice (some ⟨I,0,none⟩) (List.replicate ((↑c.Places.length:Int):Int).toNat (0:Int)).length y) (List.replicate ((↑c.Places.length:Int):Int).toNat (0:Int))::OS (AN.sl AN.int) 29 (.slice (some ⟨H,0,none⟩) (List.replicate ((↑c.Places.length:Int):Int).toNat ([]:(List Int))).length t) V::Bx b7 36 [vI 0,vN,vN,vN,vN,vN,vN]::L) λ_ _=>AE G∧IA N c (I7 N c d) n1 G V=some r) N ?_ ?_ ?_
  ·intro aa ww hf hw
   exact⟨0,(List.replicate ((↑c.Places.length:Int):Int).toNat ([]:(List Int))),_,_,hf.sub (kp [32,31,5,4,33] O),hw,ak,(B9.refl S2 aj),(iq (n:=0) O),E⟩
  ·rintro aa ww ⟨_,_,_,_,_,_,_,_,_,E⟩
   rw[IA] at E;cases E
  rintro n1 aa ww ⟨G,V,am,f3,hf,hw,ac,an,dt,E⟩
  refine Ac ?_ hf hw
  clear hf hw ww aa
  rw[IA] at E
  refine AH (Ao O (AM (kp [34,32,31,5,4,33] O) (AC (AX O E (λdu E=>?_) (λdu E=>?_)))))
  ·refine AO (AC (A8 (WF.sl (AI 3 (AA O ?_)))))
   obtain⟨j,bw,E⟩:=bd E
   refine A9 O O (bb.mono' an) Ez bw O λf4 dv=>B6 A6 ac.1 O dv Jt (λe=>by cases e) O λf5 dw=>AG (Cn OR O ac λbc f6 bx be=>AI 1 (AY O (AG ?_)))
   obtain⟨bf,bg,bh,rfl,f7,f8,f9,ga,dx,bi,gb,gc,gd,ge,gf,dy⟩:=B1.ex (dw.mono be)
   refine HM (vs:=[.string j.Name,vI j.Kind,vI j.Office,vI j.Cap,bf,bg,vI j.Num,vI j.Den,vI j.Down,vI j.Delay,vI j.Floor,bh]) (cs':=[.string j.Name,vI j.Kind,vI j.Office,vI j.Cap,bf,bg,vI j.Num,vI j.Den,vI j.Down,vI j.Delay,vI j.Floor,bh]) O O O (AF O (AF O (AF O (AF O (AF dx.one (AF bi.one (AF O (AF O (AF O (AF O (AF O (AF dy.one EG)))))))))))) Jt O bx .head O O λbj F bk=>AZ (kp [6,7,32,31,5,4,33] O) ?_
   obtain⟨ao,bz,E⟩:=bd E
   obtain⟨gg,b0,E⟩:=bd E
   refine NH (m:=[(6,vI G),(7,vP bc 0),(32,vI (↑c.Places.length:Int)),(31,ba),(5,vP U 0),(4,vP b7 0),(33,vI G)]) 7 (λi v Q=>match i with|0=>v=vP U 1|1=>v=(.slice (some ⟨H,0,none⟩) (List.replicate ((↑c.Places.length:Int):Int).toNat ([]:(List Int))).length t)|2=>v=vI G∧AE G|3=>v=vP bc 5|4=>Sl am Q AN.int v j.Start|5=>Sl (SN am bj Q) Q AN.int v ao|6=>EP (.slice (some ⟨H,0,none⟩) (List.replicate ((↑c.Places.length:Int):Int).toNat ([]:(List Int))).length t) (G.toNat*((AN.sl AN.int)).sz+0) v|_=>False) [[],[(0,38)],[],[],[(3,41)],[(4,42)],[(1,39),(2,40)]] [(5,43),(6,44)] mo (by kernel_rfl) [6,7,32,31,5,4,33] O (by kernel_rfl) (by kernel_rfl) (by kernel_rfl) (kp [6,7,32,31,5,4,33] O) (λi v h1 h2 o1 o2 hr=>?_) ?_ ?_
   ·match i,hr with
     |0,hr|1,hr|2,hr|3,hr|6,hr=>exact hr
     |4,hr=>exact Sl.mono' hr (o2.ext λb hb=>Nat.lt_of_lt_of_le (F.1 b hb) o1.siz)
     |5,hr=>exact Sl.mono' hr (SN.mono F.1 o1 o2)
     |_+7,hr=>exact hr.elim
   ·refine A7.cons O (λ_ _ _=>AI 1 (AD D2 O (AQ O))) (A7.cons O (λ_ _ o _ dz=>by cases dz;exact AI 1 (AT A6 (o.st F) O (mt mh) O G9 O (AQ O))) (A7.cons O (λ_ _ _=>AI 1 (AA O (AQ ⟨O,dt⟩))) (A7.cons O (λ_ _ _=>AI 1 (AD Ro O (AQ O))) (A7.cons O (λ_ _ o _ d0=>by cases d0;exact AI 1 (AT A6 (o.st F) O mh O BX O (AQ (bi.mono' (bk.trans (o.ext F.1)))))) ?_))))
    refine A7.cons O ?_ ?_
    ·intro mq Q o
     intro d1 X
     have hsN:=SN.st F o
     have X:=Sl.mono' (S':=(SN am bj Q)) X ⟨λb hb=> .inl hb,λ_ _=>rfl,Nat.le_refl _⟩
     have X:Sl _ _ AN.int d1 j.Start:=X
     have hsF:=hsN.fz
     refine Bf O O O P5 O hsF (DE (St.all _) (X.mono (λb hb=>hsF.1 b hb) (λ_ _=>rfl)) bz) λgh gi gj ff d2 d3 p=>?_
     have b1:=p
     have ap:=hsF.join d3 b1 ⟨OS.flat (λ{_ _ _ _ _ _} k=>k),trivial⟩
     simp only[List.cons_append,List.nil_append] at ap
     obtain⟨gk,b2,d4,d5⟩:=ap.pubs .head
     have aq:=Fz.done o (d2.trans d4) b2
     exact C1 aq.1 (Sl.mono' d5 aq.2)
    exact A7.cons O (λ_ _ o=>by intro gl d6 gm d7;cases d6;obtain ⟨rfl,gn⟩:=d7;exact AI 1 (A0 (o.st F) (mt (mt (mt (mt (mt (mt mh)))))) O O E3 b0 O λgp b3=>AQ b3)) trivial
   intro gq bl d8 ar gr d9
   have b4:=SN.st F bl
   have ar:Sl _ _ AN.int d8 ao:=ar
   obtain⟨ea,b5,E⟩:=bd E
   refine Er (r:=(AN.sl AN.int)) (l:=V) (i:=G) (x:=ea) O O (M0 ar) d9 b5 Lr.id BX (λ_=>rfl) b4 (.tail (.tail (.tail (.tail (.tail (.tail .head)))))) λgs b6 eb=>AZ (kp [32,31,5,4,33] O) (BP (BY (.inl O) (Ai O (AA O (AM (kp [33,32,31,5,4] O) (WF.nil (λaa ww hf hw=>?_)))))))
   have b8:=b6.sel [1,1,1,1,1,1,1] 1 O
   exact⟨(BM (G+1)),(upd V G ao),_,_,hf.sub (kp [32,31,5,4,33] O),hw,b8,(an.trans (be.trans (bk.trans ((SN.ext F.1 bl).trans eb)))),(BG _),E⟩
  refine BA O (λaa ww hf hw=>?_)
  exact⟨V,_,_,hf.sub (kp [5,4] O),hw,ac,an,E⟩
 rintro aa ww ⟨ad,gt,gu,hf,hw,au,ec,E⟩
 refine Ac ?_ hf hw
 clear hf hw ww aa
 rw[I7] at E
 refine WF.sl (AI 1 (Dk (vs:=[vI d,(.slice (some ⟨H,0,none⟩) (List.replicate ((↑c.Places.length:Int):Int).toNat ([]:(List Int))).length t),(.slice (some ⟨I,0,none⟩) (List.replicate ((↑c.Places.length:Int):Int).toNat (0:Int)).length y),vN,(.slice (some ⟨J,0,none⟩) (List.replicate ((↑c.Links.length:Int):Int).toNat ((⟨0,0,false,false⟩:Ax):Ax)).length A),(.slice (some ⟨K,0,none⟩) (List.replicate ((↑c.Owners.length:Int):Int).toNat (0:Int)).length C),(.slice (some ⟨M,0,none⟩) (List.replicate ((↑c.Owners.length:Int):Int).toNat (0:Int)).length D)]) A6 au O mh O O G8 O O (AG (DW (vs:=[vI d,(.slice (some ⟨H,0,none⟩) (List.replicate ((↑c.Places.length:Int):Int).toNat ([]:(List Int))).length t),(.slice (some ⟨I,0,none⟩) (List.replicate ((↑c.Places.length:Int):Int).toNat (0:Int)).length y),vN,(.slice (some ⟨J,0,none⟩) (List.replicate ((↑c.Links.length:Int):Int).toNat ((⟨0,0,false,false⟩:Ax):Ax)).length A),(.slice (some ⟨K,0,none⟩) (List.replicate ((↑c.Owners.length:Int):Int).toNat (0:Int)).length C),(.slice (some ⟨M,0,none⟩) (List.replicate ((↑c.Owners.length:Int):Int).toNat (0:Int)).length D)]) O O O O G8 O au (.tail (.tail (.tail (.tail (.tail (.tail .head)))))) O λgv b9 ed=>AZ (kp [4] O) (Ad (λaa ww hf hw=>?_))))))
 obtain⟨gw,ca,ee,ef⟩:=b9.pubs (.tail (.tail (.tail (.tail (.tail .head)))))
 obtain⟨gx,cb,bm,eg⟩:=ca.pubs (.tail (.tail (.tail (.tail .head))))
 obtain⟨gy,cc,av,eh⟩:=cb.pubs (.tail (.tail (.tail .head)))
 obtain⟨gz,cd,ae,ei⟩:=cc.pubs (.tail (.tail .head))
 obtain⟨g0,ce,Y,ej⟩:=cd.pubs (.tail .head)
 have aw:=ce.sel [1] 1 O
 have cf:=aw.drop .head
 cases E
 exact KD hf O hw (IF (Xq hf hw aw O mh G8 O) KC) O (e5.trans (ab.trans ((ai.ext u.1).trans (a9.trans (ec.trans (ed.trans (ee.trans (bm.trans (av.trans (ae.trans Y)))))))))) ⟨(CP.mk (x:=(⟨d,ad,(List.replicate ((↑c.Places.length:Int):Int).toNat (0:Int)),[],(List.replicate ((↑c.Links.length:Int):Int).toNat ((⟨0,0,false,false⟩:Ax):Ax)),(List.replicate ((↑c.Owners.length:Int):Int).toNat (0:Int)),(List.replicate ((↑c.Owners.length:Int):Int).toNat (0:Int))⟩:Am)) dr (ef.mono' (bm.trans (av.trans (ae.trans Y)))) (eg.mono' (av.trans (ae.trans Y))) (.inl ⟨O,O⟩) (eh.mono' (ae.trans Y)) (ei.mono' Y) ej),cf⟩
theorem Bs (hs:St S L h) {c:Int}(i:AE c) {b:Int}(g:AE b) {a:Int}(d:AE a) {r:Bool}(E:CD N c b a=some r):
 CL Tryz.prog 68 #[vI c,vI b,vI a] S h (λv S' h'=>v= .bool r∧St S' (L) h'):=by
 refine BF (l:=[vI c,vI b,vI a]) 15 Tryz.func68 O Tryz.ntmps68 O λB=>?_
 rw[CD] at E
 refine AH (AL O (kp [0,1,2] O) (AH (AA O (AA O (Fv O (AA O (AV 4 14 (.bool ((decide (b≤c))&&(decide (c≤a)))) ?_ ?_)))))))
 ·cases m:(decide (b≤c))
  ·exact Aa O O
  exact AB O (AA O (AB O (AA O (AB O (Fv O (AJ O (AU O)))))))
 refine AL O (kp [6] O) (Ad (λn o j k=>?_))
 cases E
 exact Dr j k O O (B9.refl S h) ⟨O,hs⟩
theorem B0 (hs:St S L h) {a:Int}(b:AE a) {r:Bool}(E:B5 N a=some r):
 CL Tryz.prog 69 #[vI a] S h (λv S' h'=>v= .bool r∧St S' (L) h'):=by
 refine BF (l:=[vI a]) 5 Tryz.func69 O Tryz.ntmps69 O λB=>?_
 rw[B5] at E
 refine AH (AL O (kp [0] O) (AC (Bt (.inl O) hs (AA O ?_))))
 obtain⟨k,c,E⟩:=bd E
 refine A5 O O O Hn O (λh' o=>Bs (St.all h') b (iq (n:=0) O) (iq (n:=1125899906842624) O) c) (AY O (BQ (kp [2] O) λm d g=>Ad (λp q i j=>?_)))
 cases E
 exact Dr i j O O g ⟨O,d⟩
theorem NA (hs:St S L h) {t:Value}{b:AW}(U:Rd S h B8 t b) {r:Bool}(E:HK N b=some r):
 CL Tryz.prog 47 #[t] S h (λv S' h'=>v= .bool r∧St S' (L) h'):=by
 refine BF (l:=[t]) 109 Tryz.func47 O Tryz.ntmps47 O λB=>?_
 rw[HK] at E
 refine WF.sl (B3 O U (λe=>by cases e) O hs λq1 S2 h3 s e5 D=>AI 1 (AY O (AG (AZ (kp [1] O) (AC (AC (Bt (.inl O) s (Af O D AW.f_Name Rv O λq7 k8=>R8 Bg s.1 O k8 QH O λr9=>N2 O QG O (Bk O (AA O ?_))))))))))
 obtain⟨af,j,E⟩:=bd E
 refine AV 6 17 (.bool af) ?_ ?_
 ·cases ag:(decide (500<(↑b.Name.size:Int)))
  ·have j:=GM ag j
   refine AB O (Af O D Dq HT O λb7 az=>AB O (Al Bg s.1 O az KI O λb8 a0=>AB O (Ak O a0 Jx O λa1=>AB O ?_)))
   obtain⟨b9,ah,j⟩:=bd j
   refine A5 O O O Hn O (λh' o=>Bs (St.all h') (JY a1) (iq (n:=1) O) (iq (n:=16) O) ah) (AB O (BZ O (AJ O ?_)))
   cases j
   exact AU O
  have j:=GL ag j
  cases j
  exact Aa O O
 refine AA O ?_
 obtain⟨ai,k,E⟩:=bd E
 refine AV 5 23 (.bool ai) ?_ ?_
 ·cases aj:af
  ·have k:=GM aj k
   refine AB O (Af O D Kv Ru O λca a2=>AB O (Ag Bg s.1 O a2 Ae O λa3=>AB O ?_))
   obtain⟨cb,ak,k⟩:=bd k
   refine A5 O O O Hn O (λh' o=>Bs (St.all h') a3 (iq (n:=0) O) (iq (n:=64) O) ak) (AB O (BZ O (AJ O ?_)))
   cases k
   exact AU O
  have k:=GL aj k
  cases k
  exact Aa O O
 refine AA O ?_
 obtain⟨i,m,E⟩:=bd E
 refine AV 6 30 (.bool i) ?_ ?_
 ·cases al:ai
  ·have m:=GM al m
   refine AB O (Af O D BO C0 O λcc a4=>AB O (Al Bg s.1 O a4 Fq O λcd a5=>AB O (Ak O a5 Ez O λa6=>AB O ?_)))
   obtain⟨ce,am,m⟩:=bd m
   refine A5 O O O Hn O (λh' o=>Bs (St.all h') (JY a6) (iq (n:=1) O) (iq (n:=64) O) am) (AB O (BZ O (AJ O ?_)))
   cases m
   exact AU O
  have m:=GL al m
  cases m
  exact Aa O O
 refine AA O (AV 5 36 (.bool (i||(decide (96<(↑b.Links.length:Int))))) ?_ ?_)
 ·cases cf:i
  ·exact AB O (Af O D Es HA O λcg a7=>AB O (Al Bg s.1 O a7 Jv O λch a8=>AB O (Ak O a8 H6 O λci=>AB O (Bk O (AJ O (AU O))))))
  exact Aa O O
 refine AA O (AV 5 42 (.bool ((i||(decide (96<(↑b.Links.length:Int))))||(decide (40<(↑b.Towns.length:Int))))) ?_ ?_)
 ·cases cj:(i||(decide (96<(↑b.Links.length:Int))))
  ·exact AB O (Af O D Ie Nv O λck a9=>AB O (Al Bg s.1 O a9 SP O λcl ba=>AB O (Ak O ba Pf O λcm=>AB O (Bk O (AJ O (AU O))))))
  exact Aa O O
 refine AA O (AV 5 48 (.bool (((i||(decide (96<(↑b.Links.length:Int))))||(decide (40<(↑b.Towns.length:Int))))||(decide (128<(↑b.Gauges.length:Int))))) ?_ ?_)
 ·cases cn:((i||(decide (96<(↑b.Links.length:Int))))||(decide (40<(↑b.Towns.length:Int))))
  ·exact AB O (Af O D KH Rs O λco bb=>AB O (Al Bg s.1 O bb Vt O λcp bc=>AB O (Ak O bc Sa O λcq=>AB O (Bk O (AJ O (AU O))))))
  exact Aa O O
 refine AA O (AV 5 54 (.bool ((((i||(decide (96<(↑b.Links.length:Int))))||(decide (40<(↑b.Towns.length:Int))))||(decide (128<(↑b.Gauges.length:Int))))||(decide (128<(↑b.Roads.length:Int))))) ?_ ?_)
 ·cases cr:(((i||(decide (96<(↑b.Links.length:Int))))||(decide (40<(↑b.Towns.length:Int))))||(decide (128<(↑b.Gauges.length:Int))))
  ·exact AB O (Af O D Ku Rr O λcs be=>AB O (Al Bg s.1 O be Vs O λct bf=>AB O (Ak O bf SZ O λcu=>AB O (Bk O (AJ O (AU O))))))
  exact Aa O O
 refine AA O (AV 5 60 (.bool (((((i||(decide (96<(↑b.Links.length:Int))))||(decide (40<(↑b.Towns.length:Int))))||(decide (128<(↑b.Gauges.length:Int))))||(decide (128<(↑b.Roads.length:Int))))||(decide (40<(↑b.Shelters.length:Int))))) ?_ ?_)
 ·cases cv:((((i||(decide (96<(↑b.Links.length:Int))))||(decide (40<(↑b.Towns.length:Int))))||(decide (128<(↑b.Gauges.length:Int))))||(decide (128<(↑b.Roads.length:Int))))
  ·exact AB O (Af O D IP PP O λcw bg=>AB O (Al Bg s.1 O bg UD O λcx bh=>AB O (Ak O bh Qf O λcy=>AB O (Bk O (AJ O (AU O))))))
  exact Aa O O
 refine AA O (AV 5 66 (.bool ((((((i||(decide (96<(↑b.Links.length:Int))))||(decide (40<(↑b.Towns.length:Int))))||(decide (128<(↑b.Gauges.length:Int))))||(decide (128<(↑b.Roads.length:Int))))||(decide (40<(↑b.Shelters.length:Int))))||(decide ((↑b.Room.length:Int)≠3)))) ?_ ?_)
 ·cases cz:(((((i||(decide (96<(↑b.Links.length:Int))))||(decide (40<(↑b.Towns.length:Int))))||(decide (128<(↑b.Gauges.length:Int))))||(decide (128<(↑b.Roads.length:Int))))||(decide (40<(↑b.Shelters.length:Int))))
  ·exact AB O (Af O D AW.f_Room Um O λc0 bi=>AB O (Al Bg s.1 O bi BX O λc1 bj=>AB O (Ak O bj BR O λc2=>AB O (Bl O (AJ O (AU O))))))
  exact Aa O O
 refine AA O ?_
 obtain⟨bk,p,E⟩:=bd E
 refine AV 5 72 (.bool bk) ?_ ?_
 ·cases an:((((((i||(decide (96<(↑b.Links.length:Int))))||(decide (40<(↑b.Towns.length:Int))))||(decide (128<(↑b.Gauges.length:Int))))||(decide (128<(↑b.Roads.length:Int))))||(decide (40<(↑b.Shelters.length:Int))))||(decide ((↑b.Room.length:Int)≠3)))
  ·have p:=GM an p
   refine AB O (Af O D AW.f_Err Wq O λc3 bl=>AB O (Ag Bg s.1 O bl Ae O λbm=>AB O ?_))
   obtain⟨c4,ao,p⟩:=bd p
   refine A5 O O O Hn O (λh' o=>Bs (St.all h') bm (iq (n:=0) O) (iq (n:=1099511627776) O) ao) (AB O (BZ O (AJ O ?_)))
   cases p
   exact AU O
  have p:=GL an p
  cases p
  exact Aa O O
 refine BQ (kp [72,1] O) λZ F G=>AX O E (λbn E=>?_) (λbn E=>?_)
 ·refine AH (AL O (kp [2] O) (Ad (λu x c d=>?_)))
  cases E
  exact Dr c d O O (e5.trans G) ⟨O,F⟩
 refine AO (AC (AH ?_))
 have ab:=D.mono G
 refine Af O ab AW.f_Name Rv O λc5 bo=>R8 A6 F.1 O bo QH O λc6=>N2 O QG O (AA O (AM (kp [76,75,1] O) (Aj (λa w=>IV B S2 Z (109,[]) a w [(1,q1)] (L) λ_ _=>Dc N b=some r) ?_ ?_)))
 ·refine A3 (λn1=>λa w=>∃(H:Int),IV B S2 Z (109,[]) a w [(75,vI (↑b.Name.size:Int)),(1,q1),(76,vI H)] (L) λ_ _=>AE H∧Db N b (Dc N b) n1 H=some r) N ?_ ?_ ?_
  ·intro u x c d
   exact⟨0,_,_,c.sub (kp [75,1,76] O),d,F,(B9.refl S2 Z),(iq (n:=0) O),E⟩
  ·rintro u x ⟨_,_,_,_,_,_,_,_,E⟩
   rw[Db] at E;cases E
  rintro n1 u x ⟨H,c7,c8,c,d,A,V,c9,E⟩
  refine Ac ?_ c d
  clear c d x u
  rw[Db] at E
  refine AH (Ao O (AM (kp [77,75,1,76] O) (AC (AX O E (λbp E=>?_) (λbp E=>?_)))))
  ·refine AO (AC (A8 (AH (AA O (AL O (kp [3,75,1,76] O) (AH (Af O (ab.mono V) AW.f_Name Rv O λda bq=>R8 A6 A.1 O bq QH O λdb=>AA O ?_)))))))
   obtain⟨g,W,E⟩:=bd E
   have br:=Nz W
   refine N4 O O QG W O (AL O (kp [4,75,1,76] O) (AH (AA O (Ao O (AA O (AV 3 88 (.bool ((decide (g<32))||(decide (126<g)))) ?_ ?_))))))
   ·cases bs:(decide (g<32))
    ·exact AB O (AA O (AB O (Bk O (AJ O (AU O)))))
    exact Aa O O
   refine AA O (AV 3 92 (.bool (((decide (g<32))||(decide (126<g)))||(decide (g=34)))) ?_ ?_)
   ·cases bt:((decide (g<32))||(decide (126<g)))
    ·exact AB O (AA O (AB O (BK O (AJ O (AU O)))))
    exact Aa O O
   refine AA O (AV 3 96 (.bool ((((decide (g<32))||(decide (126<g)))||(decide (g=34)))||(decide (g=92)))) ?_ ?_)
   ·cases bu:(((decide (g<32))||(decide (126<g)))||(decide (g=34)))
    ·exact AB O (AA O (AB O (BK O (AJ O (AU O)))))
    exact Aa O O
   refine AM (kp [96,75,1,76] O) (AX O E (λap E=>?_) (λap E=>?_))
   ·refine AH (AL O (kp [2] O) (Ad (λu x c d=>?_)))
    cases E
    exact Dr c d O O (e5.trans (G.trans V)) ⟨O,A⟩
   refine AO (BP (BY (.inl O) (Ai O (AA O (AM (kp [76,75,1] O) (WF.nil (λu x c d=>?_)))))))
   exact⟨(BM (H+1)),_,_,c.sub (kp [75,1,76] O),d,A,V,(BG _),E⟩
  refine BA O (λu x c d=>?_)
  exact⟨_,_,c.sub (kp [1] O),d,A,V,E⟩
 rintro u x ⟨I,J,c,d,K,M,E⟩
 refine Ac ?_ c d
 clear c d x u
 rw[Dc] at E
 refine AC (AH (Af O (ab.mono M) AW.f_Room Um O λbv aq=>Al A6 K.1 O aq BX O λar X=>Ak O X BR O λbw=>AA O (AM (kp [101,100,99] O) (Aj (λa w=>IV B I J (109,[]) a w [] (L) λ_ _=>FI N=some r) ?_ ?_))))
 ·refine A3 (λn3=>λa w=>∃(y:Int),IV B I J (109,[]) a w [(100,vI (↑b.Room.length:Int)),(99,ar),(101,vI y)] (L) λ_ _=>AE y∧Da N b (FI N) n3 y=some r) N ?_ ?_ ?_
  ·intro u x c d
   exact⟨0,_,_,c.sub (kp [100,99,101] O),d,K,(B9.refl I J),(iq (n:=0) O),E⟩
  ·rintro u x ⟨_,_,_,_,_,_,_,_,E⟩
   rw[Da] at E;cases E
  rintro n3 u x ⟨y,bx,bz,c,d,z,C,b0,E⟩
  refine Ac ?_ c d
  clear c d x u
  rw[Da] at E
  refine AH (Ao O (AM (kp [102,100,99,101] O) (AC (AX O E (λau E=>?_) (λau E=>?_)))))
  ·refine AO (AC (A8 (AH ?_)))
   obtain⟨b1,ac,E⟩:=bd E
   refine A9 O O (X.mono' C) BR ac O λb2 av=>Ag A6 z.1 O av Ae O λaw=>AL O (kp [6,100,99,101] O) (AC (Bt (.inl O) z (AA O ?_)))
   obtain⟨b3,ad,E⟩:=bd E
   refine A5 O O O JZ O (λh' o=>B0 (St.all h') aw ad) (BZ O (BQ (kp [107,100,99,101] O) λb4 Q Y=>AX O E (λax E=>?_) (λax E=>?_)))
   ·refine AH (AL O (kp [2] O) (Ad (λu x c d=>?_)))
    cases E
    exact Dr c d O O (e5.trans (G.trans (M.trans (C.trans Y)))) ⟨O,Q⟩
   refine AO (BP (BY (.inl O) (Ai O (AA O (AM (kp [101,100,99] O) (WF.nil (λu x c d=>?_)))))))
   exact⟨(BM (y+1)),_,_,c.sub (kp [100,99,101] O),d,Q,(C.trans Y),(BG _),E⟩
  refine BA O (λu x c d=>?_)
  exact⟨_,_,c.sub Ov,d,z,C,E⟩
 rintro u x ⟨b5,b6,c,d,ae,ay,E⟩
 refine Ac ?_ c d
 clear c d x u
 rw[FI] at E
 refine AH (AL O (kp [2] O) (Ad (λu x c d=>?_)))
 cases E
 exact Dr c d O O (e5.trans (G.trans (M.trans ay))) ⟨O,ae⟩
end Go.Proofs.YtblcgjadhemlbaaGreat
