import Derived.Test.YtblcgjadhemlbaaGreatUFacts
import Derived.Test.YtblcgjadhemlbaaGreatUForms
import Derived.Test.YtblcgjadhemlbaaGreatUSortD
namespace Go.Proofs.YtblcgjadhemlbaaGreat
open Go.RowKit
set_option linter.unusedVariables false
set_option linter.unusedSimpArgs false
set_option maxRecDepth 10000
set_option maxHeartbeats 2000000
variable {N:Nat}{S:Nat→Prop}{L:List HP}{h:Av}
theorem Lm (hs:St S L h) {r:AW}(E:IT N=some r):
 CG Tryz.prog 26 #[] S h (λv S' h'=>Rd S' h' B3 v r∧St S' (L) h'):=by
 refine BB (l:=[]) 11 Tryz.func26 O Tryz.ntmps26 O λB=>?_
 rw[IT] at E
 refine WF.sl (Cs Y7 O hs λb1 h2 ab e4=>AZ (kp [0] O) (WF.sl (AH 1 (Hy (cs:=[vI 0,vI 0]) dB O O O (AF (Dw (cs:=[vI 0,vI 0]) eV O O O O O O O ab λY h6 ac e8=>Dw (cs:=[vI 100,vI 50]) FJ O O O O O O O ac λZ an p ad=>AH 1 ?_))))))
 have s:=p.bxos (r:=Bq) (l:=([(⟨0,0⟩:BO)]:List BO)) (.tail .head) ⟨_,_,O,⟨O,⟨(iq (n:=0) O),(iq (n:=0) O)⟩⟩,O⟩ (by simp [maxLen])
 obtain⟨ao,t,ae,af⟩:=s.pubs (.tail .head)
 have u:=t.bxos (r:=AM.int) (l:=([100,50]:List Int)) .head ⟨_,_,O,⟨O,(iq (n:=100) O)⟩,⟨_,_,O,⟨O,(iq (n:=50) O)⟩,O⟩⟩ (by simp [maxLen])
 obtain⟨ap,w,y,ag⟩:=u.pubs .head
 refine Hy (cs:=[.string (ByteArray.mk #[112]),vI 0,vI 2,vI 120,(.slice (some ⟨Y,0,none⟩) 1 1),(.slice (some ⟨Z,0,none⟩) 2 2),vI 1,vI 10,vI (-1),vI 0,vI 0,vN]) dE O O O (AF (Cs OR O w λaq ar z d=>Dh (vs:=[.string (ByteArray.mk #[112]),vI 0,vI 2,vI 120,(.slice (some ⟨Y,0,none⟩) 1 1),(.slice (some ⟨Z,0,none⟩) 2 2),vI 1,vI 10,vI (-1),vI 0,vI 0,vN]) O O O O Jt O z .head O λau A g=>AZ (kp [1,0] O) (WF.sl (Dw (cs:=[.string (ByteArray.mk #[97]),.string (ByteArray.mk #[99])]) eY O O O O O O O A λC av b i=>AH 1 (DT (vs:=[.string (ByteArray.mk #[112]),vI 0,vI 2,vI 120,(.slice (some ⟨Y,0,none⟩) 1 1),(.slice (some ⟨Z,0,none⟩) 2 2),vI 1,vI 10,vI (-1),vI 0,vI 0,vN]) A6 b O (mt mh) O O Jt O O (AF (Dw (cs:=[.string (ByteArray.mk #[112]),vI 0,vI 2,vI 120,(.slice (some ⟨Y,0,none⟩) 1 1),(.slice (some ⟨Z,0,none⟩) 2 2),vI 1,vI 10,vI (-1),vI 0,vI 0,vN]) eX O O O O O O O b λD aw F j=>Dw (cs:=[vI 0,vI 0,vI 0]) FJ O O O O O O O F λG ax H k=>AH 1 ?_)))))))
 have I:=H.bxos (r:=AM.str) (l:=Mj) (.tail (.tail .head)) ⟨_,_,O,⟨O,(by decide)⟩,⟨_,_,O,⟨O,(by decide)⟩,O⟩⟩ (by simp [maxLen,Mj])
 obtain⟨ay,J,m,ah⟩:=I.pubs (.tail (.tail .head))
 have ai:=af.mono' (y.trans (d.trans (g.trans (i.trans (j.trans (k.trans m))))))
 have aj:=ag.mono' (d.trans (g.trans (i.trans (j.trans (k.trans m)))))
 have K:=J.bxos (r:=Bw) (l:=Mk) (.tail .head) ⟨_,_,O,⟨_,_,_,O,(by decide),(iq (n:=0) O),(iq (n:=2) O),(iq (n:=120) O),ai,aj,(iq (n:=1) O),(iq (n:=10) O),(iq (n:=(-1)) O),(iq (n:=0) O),(iq (n:=0) O),(.inl ⟨O,O⟩)⟩,O⟩ (by simp [maxLen,Mk])
 obtain⟨az,M,Q,ak⟩:=K.pubs (.tail .head)
 have U:=M.bxos (r:=AM.int) (l:=([0,0,0]:List Int)) .head ⟨_,_,O,⟨O,(iq (n:=0) O)⟩,⟨_,_,O,⟨O,(iq (n:=0) O)⟩,⟨_,_,O,⟨O,(iq (n:=0) O)⟩,O⟩⟩⟩ (by simp [maxLen])
 obtain⟨a0,V,o,am⟩:=U.pubs .head
 refine Hy (cs:=[.string (ByteArray.mk #[98]),(.slice (some ⟨C,0,none⟩) 2 2),vI 0,(.slice (some ⟨D,0,none⟩) 1 1),vN,vN,vN,vN,vN,(.slice (some ⟨G,0,none⟩) 3 3),vI 0]) dG O O O (AF (Dh (vs:=[.string (ByteArray.mk #[98]),(.slice (some ⟨C,0,none⟩) 2 2),vI 0,(.slice (some ⟨D,0,none⟩) 1 1),vN,vN,vN,vN,vN,(.slice (some ⟨G,0,none⟩) 3 3),vI 0]) O O O O G8 O V (.tail .head) O λa1 W a=>AZ (kp [0] O) (Ac (λaa ww hf hw=>?_))))
 have c:=W.sel [1] 1 O
 have X:=c.drop .head
 cases E
 exact J9 hf O hw (IC (Xt hf hw c O mh G8 O) J8) O (e4.trans (e8.trans (ad.trans (ae.trans (y.trans (d.trans (g.trans (i.trans (j.trans (k.trans (m.trans (Q.trans (o.trans a))))))))))))) ⟨(B3.mk (x:=(⟨(ByteArray.mk #[98]),Mj,0,Mk,[],[],[],[],[],([0,0,0]:List Int),0⟩:AW)) (by decide) (ah.mono' (Q.trans (o.trans a))) (iq (n:=0) O) (ak.mono' (o.trans a)) (.inl ⟨O,O⟩) (.inl ⟨O,O⟩) (.inl ⟨O,O⟩) (.inl ⟨O,O⟩) (.inl ⟨O,O⟩) (am.mono' a) (iq (n:=0) O)),X⟩
theorem C8 (hs:St S L h) {a:Value}{c:(List Int)}(b:Sl S h AM.int a c) {r:(List Int)}(E:CA N c=some r):
 CG Tryz.prog 39 #[a] S h (λv S' h'=>St S' (OS AM.int 3 v r::L) h'):=by
 refine BB (l:=[a]) 8 Tryz.func39 O Tryz.ntmps39 O λB=>?_
 rw[CA] at E
 rcases b.cases with ⟨rfl,rfl⟩|⟨s,o,rfl,b⟩
 ·have E1:(some ([]:List Int))=some r:=by simpa [chk,KN] using E
  refine AI (AL O (kp [0] O) (AD (AI (AA O (Uw O O O Vp (AN (kp [4,0] O) (Xe O (AI (AL O (kp [2] O) (Ac (λt u d g=>?_)))))))))))
  have i:=hs.nil AM.int 3
  cases E
  exact Dm d g O O (B9.refl S h) i
 refine AI (AL O (kp [0] O) (AD (AI (AA O (Xn O O O Vp (AN (kp [4,0] O) (Xf O (AT (WF.sl (Xo (r:=AM.int) FJ O O hs λv1 w j p=>AH 1 (AA O (AF ?_))))))))))))
 obtain⟨k,E⟩:=MR E
 refine JQ (r:=AM.int) (l:=([]:List Int)) (xs:=c) O O FJ O (Sl.src (b.mono' p)) O k O j (λ_=> .head) λx y m n=>AH 1 (AY O (AF (AZ (kp [2] O) (Ac (λt u d g=>?_)))))
 cases E
 exact Dm d g O O (p.trans n) m
theorem PS (hs:St S L h) {W:Value}{c:AW}(ax:Rd S h B3 W c) {d:Int}(Z:AG d) {r:Ak}(E:Lk N c d=some r):
 CG Tryz.prog 15 #[W,vI d] S h (λv S' h'=>Rd S' h' CJ v r∧St S' (L) h'):=by
 refine BB (l:=[W,vI d]) 47 Tryz.func15 O Tryz.ntmps15 O λB=>?_
 rw[Lk] at E
 refine WF.sl (B5 O ax (λe=>by cases e) O hs λq1 S2 h3 ek e5 k6=>Cs OT O ek λb7 h8 u ab=>AZ (kp [4,2,1] O) (AD ?_))
 obtain⟨cg,E⟩:=MR E
 obtain⟨ch,E⟩:=MR E
 obtain⟨ci,E⟩:=MR E
 obtain⟨cj,E⟩:=MR E
 obtain⟨ck,E⟩:=MR E
 refine Yj (m:=[(4,vP b7 0),(2,q1),(1,vI d)]) [23] [] [4,8,12,16,20,22] ⟨[(21,[8,12,16,20,24,28])],λi l=>match i,l with|21,[some a8,some el,some em,some en,some eo,some ep]=>some (.agg ([a8]++[el]++[em]++[(vN:Value)]++[en]++[eo]++[ep]).toArray)|_,_=>none⟩ (by kernel_rfl) (by kernel_rfl) (λi v Q=>match i with|0=>v=vI d∧AG d|1=>Pt S2 Q (AM.sl Bw) v c.Places|2=>Sl S2 Q Bw v c.Places|3=>v=vI (↑c.Places.length:Int)∧AG (↑c.Places.length:Int)|4=>Vb S2 h8 (AM.sl AM.int) 29 (List.replicate ((↑c.Places.length:Int):Int).toNat ([]:(List Int))) v Q|5=>Pt S2 Q (AM.sl Bw) v c.Places|6=>Sl S2 Q Bw v c.Places|7=>v=vI (↑c.Places.length:Int)∧AG (↑c.Places.length:Int)|8=>Vb S2 h8 AM.int 3 (List.replicate ((↑c.Places.length:Int):Int).toNat (0:Int)) v Q|9=>Pt S2 Q (AM.sl Bu) v c.Links|10=>Sl S2 Q Bu v c.Links|11=>v=vI (↑c.Links.length:Int)∧AG (↑c.Links.length:Int)|12=>Vb S2 h8 A8 69 (List.replicate ((↑c.Links.length:Int):Int).toNat ((⟨0,0,false,false⟩:Au):Au)) v Q|13=>Pt S2 Q (AM.sl AM.str) v c.Owners|14=>Sl S2 Q AM.str v c.Owners|15=>v=vI (↑c.Owners.length:Int)∧AG (↑c.Owners.length:Int)|16=>Vb S2 h8 AM.int 3 (List.replicate ((↑c.Owners.length:Int):Int).toNat (0:Int)) v Q|17=>Pt S2 Q (AM.sl AM.str) v c.Owners|18=>Sl S2 Q AM.str v c.Owners|19=>v=vI (↑c.Owners.length:Int)∧AG (↑c.Owners.length:Int)|20=>Vb S2 h8 AM.int 3 (List.replicate ((↑c.Owners.length:Int):Int).toNat (0:Int)) v Q|21=>True|22=>Xw h8 36 [vI 0,vN,vN,vN,vN,vN,vN] v Q|_=>False) [[],[],[(1,9)],[(2,10)],[(3,11)],[],[(5,13)],[(6,14)],[(7,15)],[],[(9,17)],[(10,18)],[(11,19)],[],[(13,21)],[(14,22)],[(15,23)],[],[(17,25)],[(18,26)],[(19,27)],[(0,8),(4,12),(8,16),(12,20),(16,24),(20,28)],[],[]] [(0,8),(4,12),(8,16),(12,20),(16,24),(20,28),(21,29),(22,5)] mo (by kernel_rfl) [4,2,1] O (by kernel_rfl) (by kernel_rfl) (by kernel_rfl) O (kp [4,2,1] O) (λi v h1 h2 o1 o2 hr=>?_) (by kernel_rfl) (MZ O (MZ O (MZ O (MZ O (MZ O (Yg (T:=36) O bI)))))) ?_ ?_ ?_
 ·match i,hr with
   |0,hr|3,hr|7,hr|11,hr|15,hr|19,hr|21,hr=>exact hr
   |1,hr|5,hr|9,hr|13,hr|17,hr=>exact N5.mono hr (o2.ext λb hb=>Nat.lt_of_lt_of_le (u.1 b hb) o1.siz)
   |2,hr|6,hr|10,hr|14,hr|18,hr=>exact Sl.mono' hr (o2.ext λb hb=>Nat.lt_of_lt_of_le (u.1 b hb) o1.siz)
   |4,hr|8,hr|12,hr|16,hr|20,hr=>exact hr.mono u.1 o2
   |22,hr=>exact hr.mono o2
   |_+23,hr=>exact hr.elim
 ·exact trivial
 ·refine Dk.cons O O O (λ_ _ _=>AH 1 (AA O (AO ⟨O,Z⟩))) (Dk.cons O O O (λ_ _ o=>AH 1 (Ai O (k6.mono (ab.trans (o.ext u.1))) BU DI O λg2 eq=>AO eq)) (Dk.cons O O O (λ_ _ o er bn=>by have bn:Pt _ _ (AM.sl Bw) er c.Places:=bn;exact AH 1 (An A6 (o.st u).1 O bn GO O λg3 es=>AO es)) (Dk.cons O O O (λ_ _ _ et bo=>by have bo:Sl _ _ Bw et c.Places:=bo;exact AH 1 (Al O bo qZ O λeu=>AO ⟨O,(JW eu)⟩)) (Mb O O O (λ_ _ o _ ev=>by obtain⟨rfl,g4⟩:=ev;exact P3 (r:=(AM.sl AM.int)) (zx:=[]) XJ O ⟨_,O,.inl ⟨O,O⟩⟩ O O cg O O o u.1 λv' h' o' r' f'=>Cv o' ⟨r',f'⟩) (Dk.cons O O O (λ_ _ o=>AH 1 (Ai O (k6.mono (ab.trans (o.ext u.1))) BU DI O λg5 ew=>AO ew)) (Dk.cons O O O (λ_ _ o ey bp=>by have bp:Pt _ _ (AM.sl Bw) ey c.Places:=bp;exact AH 1 (An A6 (o.st u).1 O bp GO O λg6 ez=>AO ez)) (Dk.cons O O O (λ_ _ _ e0 bq=>by have bq:Sl _ _ Bw e0 c.Places:=bq;exact AH 1 (Al O bq qZ O λe1=>AO ⟨O,(JW e1)⟩)) (Mb O O O (λ_ _ o _ e2=>by obtain⟨rfl,g7⟩:=e2;exact P3 (r:=AM.int) (zx:=0) FJ O ⟨O,by unfold AG;omega⟩ O O ch O O o u.1 λv' h' o' r' f'=>Cv o' ⟨r',f'⟩) (Dk.cons O O O (λ_ _ o=>AH 1 (Ai O (k6.mono (ab.trans (o.ext u.1))) Eo HA O λg8 e3=>AO e3)) (Dk.cons O O O (λ_ _ o e4 br=>by have br:Pt _ _ (AM.sl Bu) e4 c.Links:=br;exact AH 1 (An A6 (o.st u).1 O br Ju O λg9 e6=>AO e6)) (Dk.cons O O O (λ_ _ _ e7 bs=>by have bs:Sl _ _ Bu e7 c.Links:=bs;exact AH 1 (Al O bs H4 O λe8=>AO ⟨O,(JW e8)⟩)) ?_)))))))))))
  refine Mb O O O (λ_ _ o _ e9=>by obtain⟨rfl,ha⟩:=e9;exact P3 (r:=A8) (zx:=(⟨0,0,false,false⟩:Au)) XI O ⟨O,by unfold Au.ok AG;simp [IntKind.has,IntKind.min,IntKind.max,IntKind.bits,IntKind.signed]⟩ O O ci O O o u.1 λv' h' o' r' f'=>Cv o' ⟨r',f'⟩) (Dk.cons O O O (λ_ _ o=>AH 1 (Ai O (k6.mono (ab.trans (o.ext u.1))) Dl HS O λhc fb=>AO fb)) (Dk.cons O O O (λ_ _ o fc bt=>by have bt:Pt _ _ (AM.sl AM.str) fc c.Owners:=bt;exact AH 1 (An A6 (o.st u).1 O bt KE O λhd fd=>AO fd)) (Dk.cons O O O (λ_ _ _ fe af=>by have af:Sl _ _ AM.str fe c.Owners:=af;exact AH 1 (Al O af Jv O λcl=>AO ⟨O,(JW cl)⟩)) (Mb O O O (λ_ _ o _ cm=>by obtain⟨rfl,fg⟩:=cm;exact P3 (r:=AM.int) (zx:=0) FJ O ⟨O,by unfold AG;omega⟩ O O cj O O o u.1 λv' h' o' r' f'=>Cv o' ⟨r',f'⟩) (Dk.cons O O O (λ_ _ o=>AH 1 (Ai O (k6.mono (ab.trans (o.ext u.1))) Dl HS O λfh cn=>AO cn)) (Dk.cons O O O (λ_ _ o co ag=>by have ag:Pt _ _ (AM.sl AM.str) co c.Owners:=ag;exact AH 1 (An A6 (o.st u).1 O ag KE O λfi cp=>AO cp)) (Dk.cons O O O (λ_ _ _ cq ah=>by have ah:Sl _ _ AM.str cq c.Owners:=ah;exact AH 1 (Al O ah Jv O λcr=>AO ⟨O,(JW cr)⟩)) (Mb O O O (λ_ _ o _ ct=>by obtain⟨rfl,fj⟩:=ct;exact P3 (r:=AM.int) (zx:=0) FJ O ⟨O,by unfold AG;omega⟩ O O ck O O o u.1 λv' h' o' r' f'=>Cv o' ⟨r',f'⟩) ?_))))))))
  refine Dk.z [8,12,16,20,24,28] O O O (by kernel_rfl) ?_ ?_
  ·intro mq Q o
   intro fk cu fl a3 fm a4 fn a5 fo a6 fp a7
   have hsN:=o.st u
   obtain⟨rfl,fq⟩:=cu
   obtain⟨cv,ay,rfl,a3⟩:=a3
   obtain⟨cw,az,rfl,a4⟩:=a4
   obtain⟨cx,a0,rfl,a5⟩:=a5
   obtain⟨cy,a1,rfl,a6⟩:=a6
   obtain⟨cz,a2,rfl,a7⟩:=a7
   exact AH 1 (Hy (cs:=[vI d,(.slice (some ⟨cv,0,none⟩) (List.replicate ((↑c.Places.length:Int):Int).toNat ([]:(List Int))).length ay),(.slice (some ⟨cw,0,none⟩) (List.replicate ((↑c.Places.length:Int):Int).toNat (0:Int)).length az),vN,(.slice (some ⟨cx,0,none⟩) (List.replicate ((↑c.Links.length:Int):Int).toNat ((⟨0,0,false,false⟩:Au):Au)).length a0),(.slice (some ⟨cy,0,none⟩) (List.replicate ((↑c.Owners.length:Int):Int).toNat (0:Int)).length a1),(.slice (some ⟨cz,0,none⟩) (List.replicate ((↑c.Owners.length:Int):Int).toNat (0:Int)).length a2)]) dF O O O (AO ⟨trivial,O,O⟩))
  exact Dk.al O OT O O (Dk.skip (by kernel_rfl) (trivial))
 intro fr ai fs c0 ft c1 fu c2 fv c3 fw c4 fx c5 c6 fy f0 c7 g bu
 obtain⟨H,t,rfl,c8,c9,da⟩:=c1
 obtain⟨I,y,rfl,db,dc,dd⟩:=c2
 obtain⟨J,A,rfl,de,df,dg⟩:=c3
 obtain⟨K,C,rfl,dh,di,dj⟩:=c4
 obtain⟨M,D,rfl,dk,dl,dm⟩:=c5
 obtain⟨U,rfl,dn,dp,dq⟩:=c7
 have bv:=(TM.cons (LY (LY (LY (LY (LY (TM.nil u ai) c8 c9 da List.not_mem_nil) db dc dd (Tj (g.of_ (s:=16) (s':=12) (by kernel_rfl) O O O O) List.not_mem_nil)) de df dg (Tj (g.of_ (s:=20) (s':=16) (by kernel_rfl) O O O O) (Tj (g.of_ (s:=20) (s':=12) (by kernel_rfl) O O O O) List.not_mem_nil))) dh di dj (Tj (g.of_ (s:=24) (s':=20) (by kernel_rfl) O O O O) (Tj (g.of_ (s:=24) (s':=16) (by kernel_rfl) O O O O) (Tj (g.of_ (s:=24) (s':=12) (by kernel_rfl) O O O O) List.not_mem_nil)))) dk dl dm (Tj (g.of_ (s:=28) (s':=24) (by kernel_rfl) O O O O) (Tj (g.of_ (s:=28) (s':=20) (by kernel_rfl) O O O O) (Tj (g.of_ (s:=28) (s':=16) (by kernel_rfl) O O O O) (Tj (g.of_ (s:=28) (s':=12) (by kernel_rfl) O O O O) List.not_mem_nil))))) dn dp dq (Tj (g.of_ (s:=5) (s':=28) (by kernel_rfl) O O O O) (Tj (g.of_ (s:=5) (s':=24) (by kernel_rfl) O O O O) (Tj (g.of_ (s:=5) (s':=20) (by kernel_rfl) O O O O) (Tj (g.of_ (s:=5) (s':=16) (by kernel_rfl) O O O O) (Tj (g.of_ (s:=5) (s':=12) (by kernel_rfl) O O O O) List.not_mem_nil)))))).st
 obtain⟨rfl,dr⟩:=c0
 obtain rfl:c6=Value.agg #[vI d,(.slice (some ⟨H,0,none⟩) (List.replicate ((↑c.Places.length:Int):Int).toNat ([]:(List Int))).length t),(.slice (some ⟨I,0,none⟩) (List.replicate ((↑c.Places.length:Int):Int).toNat (0:Int)).length y),vN,(.slice (some ⟨J,0,none⟩) (List.replicate ((↑c.Links.length:Int):Int).toNat ((⟨0,0,false,false⟩:Au):Au)).length A),(.slice (some ⟨K,0,none⟩) (List.replicate ((↑c.Owners.length:Int):Int).toNat (0:Int)).length C),(.slice (some ⟨M,0,none⟩) (List.replicate ((↑c.Owners.length:Int):Int).toNat (0:Int)).length D)]:=(Option.some.inj (bu _ List.mem_cons_self 29 _ (by kernel_rfl) O O)).symm
 refine Dh (vs:=[vI d,(.slice (some ⟨H,0,none⟩) (List.replicate ((↑c.Places.length:Int):Int).toNat ([]:(List Int))).length t),(.slice (some ⟨I,0,none⟩) (List.replicate ((↑c.Places.length:Int):Int).toNat (0:Int)).length y),vN,(.slice (some ⟨J,0,none⟩) (List.replicate ((↑c.Links.length:Int):Int).toNat ((⟨0,0,false,false⟩:Au):Au)).length A),(.slice (some ⟨K,0,none⟩) (List.replicate ((↑c.Owners.length:Int):Int).toNat (0:Int)).length C),(.slice (some ⟨M,0,none⟩) (List.replicate ((↑c.Owners.length:Int):Int).toNat (0:Int)).length D)]) O O O O Gj O bv .head O λaj ak a9=>AZ (kp [5,4,2] O) (AD (AI (Ai O (k6.mono (ab.trans ((ai.ext u.1).trans a9))) BU DI O λf1 ds=>An A6 ak.1 O ds GO O λba bb=>Al O bb qZ O λf2=>AA O (AN (kp [33,32,31,5,4] O) (Am (λa w=>∃(ad:List (List Int)),IV B S2 aj (47,[]) a w [(5,vP U 0),(4,vP b7 0)] (Bx U 36 [vI d,(.slice (some ⟨H,0,none⟩) (List.replicate ((↑c.Places.length:Int):Int).toNat ([]:(List Int))).length t),(.slice (some ⟨I,0,none⟩) (List.replicate ((↑c.Places.length:Int):Int).toNat (0:Int)).length y),vN,(.slice (some ⟨J,0,none⟩) (List.replicate ((↑c.Links.length:Int):Int).toNat ((⟨0,0,false,false⟩:Au):Au)).length A),(.slice (some ⟨K,0,none⟩) (List.replicate ((↑c.Owners.length:Int):Int).toNat (0:Int)).length C),(.slice (some ⟨M,0,none⟩) (List.replicate ((↑c.Owners.length:Int):Int).toNat (0:Int)).length D)]::OS AM.int 3 (.slice (some ⟨M,0,none⟩) (List.replicate ((↑c.Owners.length:Int):Int).toNat (0:Int)).length D) (List.replicate ((↑c.Owners.length:Int):Int).toNat (0:Int))::OS AM.int 3 (.slice (some ⟨K,0,none⟩) (List.replicate ((↑c.Owners.length:Int):Int).toNat (0:Int)).length C) (List.replicate ((↑c.Owners.length:Int):Int).toNat (0:Int))::OS A8 69 (.slice (some ⟨J,0,none⟩) (List.replicate ((↑c.Links.length:Int):Int).toNat ((⟨0,0,false,false⟩:Au):Au)).length A) (List.replicate ((↑c.Links.length:Int):Int).toNat ((⟨0,0,false,false⟩:Au):Au))::OS AM.int 3 (.slice (some ⟨I,0,none⟩) (List.replicate ((↑c.Places.length:Int):Int).toNat (0:Int)).length y) (List.replicate ((↑c.Places.length:Int):Int).toNat (0:Int))::OS (AM.sl AM.int) 29 (.slice (some ⟨H,0,none⟩) (List.replicate ((↑c.Places.length:Int):Int).toNat ([]:(List Int))).length t) ad::Bx b7 36 [vI 0,vN,vN,vN,vN,vN,vN]::L) λ_ _=>I1 N c d ad=some r) ?_ ?_)))))
 ·refine A3 (λn1=>λa w=>∃(G:Int) (V:List (List Int)),IV B S2 aj (47,[]) a w [(32,vI (↑c.Places.length:Int)),(31,ba),(5,vP U 0),(4,vP b7 0),(33,vI G)] (Bx U 36 [vI d,(.slice (some ⟨H,0,none⟩) (List.replicate ((↑c.Places.length:Int):Int).toNat ([]:(List Int))).length t),(.slice (some ⟨I,0,none⟩) (List.replicate ((↑c.Places.length:Int):Int).toNat (0:Int)).length y),vN,(.slice (some ⟨J,0,none⟩) (List.replicate ((↑c.Links.length:Int):Int).toNat ((⟨0,0,false,false⟩:Au):Au)).length A),(.slice (some ⟨K,0,none⟩) (List.replicate ((↑c.Owners.length:Int):Int).toNat (0:Int)).length C),(.slice (some ⟨M,0,none⟩) (List.replicate ((↑c.Owners.length:Int):Int).toNat (0:Int)).length D)]::OS AM.int 3 (.slice (some ⟨M,0,none⟩) (List.replicate ((↑c.Owners.length:Int):Int).toNat (0:Int)).length D) (List.replicate ((↑c.Owners.length:Int):Int).toNat (0:Int))::OS AM.int 3 (.slice (some ⟨K,0,none⟩) (List.replicate ((↑c.Owners.length:Int):Int).toNat (0:Int)).length C) (List.replicate ((↑c.Owners.length:Int):Int).toNat (0:Int))::OS A8 69 (.slice (some ⟨J,0,none⟩) (List.replicate ((↑c.Links.length:Int):Int).toNat ((⟨0,0,false,false⟩:Au):Au)).length A) (List.replicate ((↑c.Links.length:Int):Int).toNat ((⟨0,0,false,false⟩:Au):Au))::OS AM.int 3 (.slice (some ⟨I,0,none⟩) (List.replicate ((↑c.Places.length:Int):Int).toNat (0:Int)).length y) (List.replicate ((↑c.Places.length:Int):Int).toNat (0:Int))::OS (AM.sl AM.int) 29 (.slice (some ⟨H,0,none⟩) (List.replicate ((↑c.Places.length:Int):Int).toNat ([]:(List Int))).length t) V::Bx b7 36 [vI 0,vN,vN,vN,vN,vN,vN]::L) λ_ _=>AG G∧H6 N c (I1 N c d) n1 G V=some r) N ?_ ?_ ?_
  ·intro aa ww hf hw
   exact⟨0,(List.replicate ((↑c.Places.length:Int):Int).toNat ([]:(List Int))),_,_,hf.sub (kp [32,31,5,4,33] O),hw,ak,(B9.refl S2 aj),(iq (n:=0) O),E⟩
  ·rintro aa ww ⟨_,_,_,_,_,_,_,_,_,E⟩
   rw[H6] at E;cases E
  rintro n1 aa ww ⟨G,V,am,f3,hf,hw,ac,an,dt,E⟩
  refine Ad ?_ hf hw
  clear hf hw ww aa
  rw[H6] at E
  refine AI (Aq O (AN (kp [34,32,31,5,4,33] O) (AD (AX O E (λdu E=>?_) (λdu E=>?_)))))
  ·refine AT (AD (A5 (WF.sl (AH 3 (AA O ?_)))))
   obtain⟨j,bw,E⟩:=bd E
   refine BD O O (bb.mono' an) qZ bw O λf4 dv=>B4 A6 ac.1 O dv Jt (λe=>by cases e) O λf5 dw=>AF (Cs OR O ac λbc f6 bx be=>AH 1 (AY O (AF ?_)))
   obtain⟨bf,bg,bh,rfl,f7,f8,f9,ga,dx,bi,gb,gc,gd,ge,gf,dy⟩:=Bw.ex (dw.mono be)
   refine HJ (vs:=[.string j.Name,vI j.Kind,vI j.Office,vI j.Cap,bf,bg,vI j.Num,vI j.Den,vI j.Down,vI j.Delay,vI j.Floor,bh]) (cs':=[.string j.Name,vI j.Kind,vI j.Office,vI j.Cap,bf,bg,vI j.Num,vI j.Den,vI j.Down,vI j.Delay,vI j.Floor,bh]) O O O (AE O (AE O (AE O (AE O (AE dx.one (AE bi.one (AE O (AE O (AE O (AE O (AE O (AE dy.one EA)))))))))))) Jt O bx .head O O λbj F bk=>AZ (kp [6,7,32,31,5,4,33] O) ?_
   obtain⟨ao,bz,E⟩:=bd E
   obtain⟨gg,b0,E⟩:=bd E
   refine ND (m:=[(6,vI G),(7,vP bc 0),(32,vI (↑c.Places.length:Int)),(31,ba),(5,vP U 0),(4,vP b7 0),(33,vI G)]) 7 (λi v Q=>match i with|0=>v=vP U 1|1=>v=(.slice (some ⟨H,0,none⟩) (List.replicate ((↑c.Places.length:Int):Int).toNat ([]:(List Int))).length t)|2=>v=vI G∧AG G|3=>v=vP bc 5|4=>Sl am Q AM.int v j.Start|5=>Sl (SN am bj Q) Q AM.int v ao|6=>EP (.slice (some ⟨H,0,none⟩) (List.replicate ((↑c.Places.length:Int):Int).toNat ([]:(List Int))).length t) (G.toNat*((AM.sl AM.int)).sz+0) v|_=>False) [[],[(0,38)],[],[],[(3,41)],[(4,42)],[(1,39),(2,40)]] [(5,43),(6,44)] mo (by kernel_rfl) [6,7,32,31,5,4,33] O (by kernel_rfl) (by kernel_rfl) (by kernel_rfl) (kp [6,7,32,31,5,4,33] O) (λi v h1 h2 o1 o2 hr=>?_) ?_ ?_
   ·match i,hr with
     |0,hr|1,hr|2,hr|3,hr|6,hr=>exact hr
     |4,hr=>exact Sl.mono' hr (o2.ext λb hb=>Nat.lt_of_lt_of_le (F.1 b hb) o1.siz)
     |5,hr=>exact Sl.mono' hr (SN.mono F.1 o1 o2)
     |_+7,hr=>exact hr.elim
   ·refine A0.cons O (λ_ _ _=>AH 1 (AC D4 O (AO O))) (A0.cons O (λ_ _ o _ dz=>by cases dz;exact AH 1 (AS A6 (o.st F) O (mt mh) O HN O (AO O))) (A0.cons O (λ_ _ _=>AH 1 (AA O (AO ⟨O,dt⟩))) (A0.cons O (λ_ _ _=>AH 1 (AC Ri O (AO O))) (A0.cons O (λ_ _ o _ d0=>by cases d0;exact AH 1 (AS A6 (o.st F) O mh O BP O (AO (bi.mono' (bk.trans (o.ext F.1)))))) ?_))))
    refine A0.cons O ?_ ?_
    ·intro mq Q o
     intro d1 X
     have hsN:=SN.st F o
     have X:=Sl.mono' (S':=(SN am bj Q)) X ⟨λb hb=> .inl hb,λ_ _=>rfl,Nat.le_refl _⟩
     have X:Sl _ _ AM.int d1 j.Start:=X
     have hsF:=hsN.fz
     refine BZ O O O P0 O hsF (C8 (St.all _) (X.mono (λb hb=>hsF.1 b hb) (λ_ _=>rfl)) bz) λgh gi gj ff d2 d3 p=>?_
     have b1:=p
     have ap:=hsF.join d3 b1 ⟨OS.flat (λ{_ _ _ _ _ _} k=>k),trivial⟩
     simp only[List.cons_append,List.nil_append] at ap
     obtain⟨gl,b2,d4,d5⟩:=ap.pubs .head
     have aq:=Fz.done o (d2.trans d4) b2
     exact Cv aq.1 (Sl.mono' d5 aq.2)
    exact A0.cons O (λ_ _ o=>by intro gm d6 gn d7;cases d6;obtain ⟨rfl,gp⟩:=d7;exact AH 1 (A4 (o.st F) (mt (mt (mt (mt (mt (mt mh)))))) O O FO b0 O λgq b3=>AO b3)) trivial
   intro gr bl d8 ar gs d9
   have b4:=SN.st F bl
   have ar:Sl _ _ AM.int d8 ao:=ar
   obtain⟨ea,b5,E⟩:=bd E
   refine En (r:=(AM.sl AM.int)) (l:=V) (i:=G) (x:=ea) O O (Mv ar) d9 b5 Lq.id BP (λ_=>rfl) b4 (.tail (.tail (.tail (.tail (.tail (.tail .head)))))) λgt b6 eb=>AZ (kp [32,31,5,4,33] O) (BK (BY (.inl O) (Af O (AA O (AN (kp [33,32,31,5,4] O) (WF.nil (λaa ww hf hw=>?_)))))))
   have b8:=b6.sel [1,1,1,1,1,1,1] 1 O
   exact⟨(BC (G+1)),(upd V G ao),_,_,hf.sub (kp [32,31,5,4,33] O),hw,b8,(an.trans (be.trans (bk.trans ((SN.ext F.1 bl).trans eb)))),(BI _),E⟩
  refine A9 O (λaa ww hf hw=>?_)
  exact⟨V,_,_,hf.sub (kp [5,4] O),hw,ac,an,E⟩
 rintro aa ww ⟨ad,gu,gv,hf,hw,au,ec,E⟩
 refine Ad ?_ hf hw
 clear hf hw ww aa
 rw[I1] at E
 refine WF.sl (AH 1 (DT (vs:=[vI d,(.slice (some ⟨H,0,none⟩) (List.replicate ((↑c.Places.length:Int):Int).toNat ([]:(List Int))).length t),(.slice (some ⟨I,0,none⟩) (List.replicate ((↑c.Places.length:Int):Int).toNat (0:Int)).length y),vN,(.slice (some ⟨J,0,none⟩) (List.replicate ((↑c.Links.length:Int):Int).toNat ((⟨0,0,false,false⟩:Au):Au)).length A),(.slice (some ⟨K,0,none⟩) (List.replicate ((↑c.Owners.length:Int):Int).toNat (0:Int)).length C),(.slice (some ⟨M,0,none⟩) (List.replicate ((↑c.Owners.length:Int):Int).toNat (0:Int)).length D)]) A6 au O mh O O Gj O O (AF (Dh (vs:=[vI d,(.slice (some ⟨H,0,none⟩) (List.replicate ((↑c.Places.length:Int):Int).toNat ([]:(List Int))).length t),(.slice (some ⟨I,0,none⟩) (List.replicate ((↑c.Places.length:Int):Int).toNat (0:Int)).length y),vN,(.slice (some ⟨J,0,none⟩) (List.replicate ((↑c.Links.length:Int):Int).toNat ((⟨0,0,false,false⟩:Au):Au)).length A),(.slice (some ⟨K,0,none⟩) (List.replicate ((↑c.Owners.length:Int):Int).toNat (0:Int)).length C),(.slice (some ⟨M,0,none⟩) (List.replicate ((↑c.Owners.length:Int):Int).toNat (0:Int)).length D)]) O O O O Gj O au (.tail (.tail (.tail (.tail (.tail (.tail .head)))))) O λgw b9 ed=>AZ (kp [4] O) (Ac (λaa ww hf hw=>?_))))))
 obtain⟨gx,ca,ee,ef⟩:=b9.pubs (.tail (.tail (.tail (.tail (.tail .head)))))
 obtain⟨gy,cb,bm,eg⟩:=ca.pubs (.tail (.tail (.tail (.tail .head))))
 obtain⟨gz,cc,av,eh⟩:=cb.pubs (.tail (.tail (.tail .head)))
 obtain⟨g0,cd,ae,ei⟩:=cc.pubs (.tail (.tail .head))
 obtain⟨g1,ce,Y,ej⟩:=cd.pubs (.tail .head)
 have aw:=ce.sel [1] 1 O
 have cf:=aw.drop .head
 cases E
 exact J9 hf O hw (IC (Xt hf hw aw O mh Gj O) J8) O (e5.trans (ab.trans ((ai.ext u.1).trans (a9.trans (ec.trans (ed.trans (ee.trans (bm.trans (av.trans (ae.trans Y)))))))))) ⟨(CJ.mk (x:=(⟨d,ad,(List.replicate ((↑c.Places.length:Int):Int).toNat (0:Int)),[],(List.replicate ((↑c.Links.length:Int):Int).toNat ((⟨0,0,false,false⟩:Au):Au)),(List.replicate ((↑c.Owners.length:Int):Int).toNat (0:Int)),(List.replicate ((↑c.Owners.length:Int):Int).toNat (0:Int))⟩:Ak)) dr (ef.mono' (bm.trans (av.trans (ae.trans Y)))) (eg.mono' (av.trans (ae.trans Y))) (.inl ⟨O,O⟩) (eh.mono' (ae.trans Y)) (ei.mono' Y) ej),cf⟩
theorem Bp (hs:St S L h) {c:Int}(i:AG c) {b:Int}(g:AG b) {a:Int}(d:AG a) {r:Bool}(E:B8 N c b a=some r):
 CG Tryz.prog 68 #[vI c,vI b,vI a] S h (λv S' h'=>v= .bool r∧St S' (L) h'):=by
 refine BB (l:=[vI c,vI b,vI a]) 15 Tryz.func68 O Tryz.ntmps68 O λB=>?_
 rw[B8] at E
 refine AI (AL O (kp [0,1,2] O) (AI (AA O (AA O (Ft O (AA O (AV 4 14 (.bool ((decide (b≤c))&&(decide (c≤a)))) ?_ ?_)))))))
 ·cases m:(decide (b≤c))
  ·exact Aa O O
  exact AB O (AA O (AB O (AA O (AB O (Ft O (AJ O (AU O)))))))
 refine AL O (kp [6] O) (Ac (λn o j k=>?_))
 cases E
 exact Dm j k O O (B9.refl S h) ⟨O,hs⟩
theorem Bv (hs:St S L h) {a:Int}(b:AG a) {r:Bool}(E:B0 N a=some r):
 CG Tryz.prog 69 #[vI a] S h (λv S' h'=>v= .bool r∧St S' (L) h'):=by
 refine BB (l:=[vI a]) 5 Tryz.func69 O Tryz.ntmps69 O λB=>?_
 rw[B0] at E
 refine AI (AL O (kp [0] O) (AD (Bl (.inl O) hs (AA O ?_))))
 obtain⟨k,c,E⟩:=bd E
 refine Az O O O Hn O (λh' o=>Bp (St.all h') b (iq (n:=0) O) (iq (n:=1125899906842624) O) c) (AY O (BJ (kp [2] O) λm d g=>Ac (λp q i j=>?_)))
 cases E
 exact Dm i j O O g ⟨O,d⟩
theorem M6 (hs:St S L h) {t:Value}{b:AW}(U:Rd S h B3 t b) {r:Bool}(E:HH N b=some r):
 CG Tryz.prog 47 #[t] S h (λv S' h'=>v= .bool r∧St S' (L) h'):=by
 refine BB (l:=[t]) 109 Tryz.func47 O Tryz.ntmps47 O λB=>?_
 rw[HH] at E
 refine WF.sl (B5 O U (λe=>by cases e) O hs λq1 S2 h3 s e5 D=>AH 1 (AY O (AF (AZ (kp [1] O) (AD (AD (Bl (.inl O) s (Ai O D AW.f_Name Rn O λq7 k8=>R3 Bb s.1 O k8 QD O λr9=>N1 O QC O (Bh O (AA O ?_))))))))))
 obtain⟨af,j,E⟩:=bd E
 refine AV 6 17 (.bool af) ?_ ?_
 ·cases ag:(decide (500<(↑b.Name.size:Int)))
  ·have j:=GB ag j
   refine AB O (Ai O D Dl HS O λb7 az=>AB O (An Bb s.1 O az KE O λb8 a0=>AB O (Al O a0 Jv O λa1=>AB O ?_)))
   obtain⟨b9,ah,j⟩:=bd j
   refine Az O O O Hn O (λh' o=>Bp (St.all h') (JW a1) (iq (n:=1) O) (iq (n:=16) O) ah) (AB O (BV O (AJ O ?_)))
   cases j
   exact AU O
  have j:=GA ag j
  cases j
  exact Aa O O
 refine AA O ?_
 obtain⟨ai,k,E⟩:=bd E
 refine AV 5 23 (.bool ai) ?_ ?_
 ·cases aj:af
  ·have k:=GB aj k
   refine AB O (Ai O D Ks Rm O λca a2=>AB O (Ah Bb s.1 O a2 Ag O λa3=>AB O ?_))
   obtain⟨cb,ak,k⟩:=bd k
   refine Az O O O Hn O (λh' o=>Bp (St.all h') a3 (iq (n:=0) O) (iq (n:=64) O) ak) (AB O (BV O (AJ O ?_)))
   cases k
   exact AU O
  have k:=GA aj k
  cases k
  exact Aa O O
 refine AA O ?_
 obtain⟨i,m,E⟩:=bd E
 refine AV 6 30 (.bool i) ?_ ?_
 ·cases al:ai
  ·have m:=GB al m
   refine AB O (Ai O D BU DI O λcc a4=>AB O (An Bb s.1 O a4 GO O λcd a5=>AB O (Al O a5 qZ O λa6=>AB O ?_)))
   obtain⟨ce,am,m⟩:=bd m
   refine Az O O O Hn O (λh' o=>Bp (St.all h') (JW a6) (iq (n:=1) O) (iq (n:=64) O) am) (AB O (BV O (AJ O ?_)))
   cases m
   exact AU O
  have m:=GA al m
  cases m
  exact Aa O O
 refine AA O (AV 5 36 (.bool (i||(decide (96<(↑b.Links.length:Int))))) ?_ ?_)
 ·cases cf:i
  ·exact AB O (Ai O D Eo HA O λcg a7=>AB O (An Bb s.1 O a7 Ju O λch a8=>AB O (Al O a8 H4 O λci=>AB O (Bh O (AJ O (AU O))))))
  exact Aa O O
 refine AA O (AV 5 42 (.bool ((i||(decide (96<(↑b.Links.length:Int))))||(decide (40<(↑b.Towns.length:Int))))) ?_ ?_)
 ·cases cj:(i||(decide (96<(↑b.Links.length:Int))))
  ·exact AB O (Ai O D Ia Nv O λck a9=>AB O (An Bb s.1 O a9 SH O λcl ba=>AB O (Al O ba PW O λcm=>AB O (Bh O (AJ O (AU O))))))
  exact Aa O O
 refine AA O (AV 5 48 (.bool (((i||(decide (96<(↑b.Links.length:Int))))||(decide (40<(↑b.Towns.length:Int))))||(decide (128<(↑b.Gauges.length:Int))))) ?_ ?_)
 ·cases cn:((i||(decide (96<(↑b.Links.length:Int))))||(decide (40<(↑b.Towns.length:Int))))
  ·exact AB O (Ai O D KD Rl O λco bb=>AB O (An Bb s.1 O bb Vu O λcp bc=>AB O (Al O bc SS O λcq=>AB O (Bh O (AJ O (AU O))))))
  exact Aa O O
 refine AA O (AV 5 54 (.bool ((((i||(decide (96<(↑b.Links.length:Int))))||(decide (40<(↑b.Towns.length:Int))))||(decide (128<(↑b.Gauges.length:Int))))||(decide (128<(↑b.Roads.length:Int))))) ?_ ?_)
 ·cases cr:(((i||(decide (96<(↑b.Links.length:Int))))||(decide (40<(↑b.Towns.length:Int))))||(decide (128<(↑b.Gauges.length:Int))))
  ·exact AB O (Ai O D Kr Rk O λcs be=>AB O (An Bb s.1 O be Vt O λct bf=>AB O (Al O bf SR O λcu=>AB O (Bh O (AJ O (AU O))))))
  exact Aa O O
 refine AA O (AV 5 60 (.bool (((((i||(decide (96<(↑b.Links.length:Int))))||(decide (40<(↑b.Towns.length:Int))))||(decide (128<(↑b.Gauges.length:Int))))||(decide (128<(↑b.Roads.length:Int))))||(decide (40<(↑b.Shelters.length:Int))))) ?_ ?_)
 ·cases cv:((((i||(decide (96<(↑b.Links.length:Int))))||(decide (40<(↑b.Towns.length:Int))))||(decide (128<(↑b.Gauges.length:Int))))||(decide (128<(↑b.Roads.length:Int))))
  ·exact AB O (Ai O D IK PL O λcw bg=>AB O (An Bb s.1 O bg T9 O λcx bh=>AB O (Al O bh Qc O λcy=>AB O (Bh O (AJ O (AU O))))))
  exact Aa O O
 refine AA O (AV 5 66 (.bool ((((((i||(decide (96<(↑b.Links.length:Int))))||(decide (40<(↑b.Towns.length:Int))))||(decide (128<(↑b.Gauges.length:Int))))||(decide (128<(↑b.Roads.length:Int))))||(decide (40<(↑b.Shelters.length:Int))))||(decide ((↑b.Room.length:Int)≠3)))) ?_ ?_)
 ·cases cz:(((((i||(decide (96<(↑b.Links.length:Int))))||(decide (40<(↑b.Towns.length:Int))))||(decide (128<(↑b.Gauges.length:Int))))||(decide (128<(↑b.Roads.length:Int))))||(decide (40<(↑b.Shelters.length:Int))))
  ·exact AB O (Ai O D AW.f_Room Ul O λc0 bi=>AB O (An Bb s.1 O bi BP O λc1 bj=>AB O (Al O bj BG O λc2=>AB O (Bc O (AJ O (AU O))))))
  exact Aa O O
 refine AA O ?_
 obtain⟨bk,p,E⟩:=bd E
 refine AV 5 72 (.bool bk) ?_ ?_
 ·cases an:((((((i||(decide (96<(↑b.Links.length:Int))))||(decide (40<(↑b.Towns.length:Int))))||(decide (128<(↑b.Gauges.length:Int))))||(decide (128<(↑b.Roads.length:Int))))||(decide (40<(↑b.Shelters.length:Int))))||(decide ((↑b.Room.length:Int)≠3)))
  ·have p:=GB an p
   refine AB O (Ai O D AW.f_Err Wt O λc3 bl=>AB O (Ah Bb s.1 O bl Ag O λbm=>AB O ?_))
   obtain⟨c4,ao,p⟩:=bd p
   refine Az O O O Hn O (λh' o=>Bp (St.all h') bm (iq (n:=0) O) (iq (n:=1099511627776) O) ao) (AB O (BV O (AJ O ?_)))
   cases p
   exact AU O
  have p:=GA an p
  cases p
  exact Aa O O
 refine BJ (kp [72,1] O) λZ F G=>AX O E (λbn E=>?_) (λbn E=>?_)
 ·refine AI (AL O (kp [2] O) (Ac (λu x c d=>?_)))
  cases E
  exact Dm c d O O (e5.trans G) ⟨O,F⟩
 refine AT (AD (AI ?_))
 have ab:=D.mono G
 refine Ai O ab AW.f_Name Rn O λc5 bo=>R3 A6 F.1 O bo QD O λc6=>N1 O QC O (AA O (AN (kp [76,75,1] O) (Am (λa w=>IV B S2 Z (109,[]) a w [(1,q1)] (L) λ_ _=>DZ N b=some r) ?_ ?_)))
 ·refine A3 (λn1=>λa w=>∃(H:Int),IV B S2 Z (109,[]) a w [(75,vI (↑b.Name.size:Int)),(1,q1),(76,vI H)] (L) λ_ _=>AG H∧DY N b (DZ N b) n1 H=some r) N ?_ ?_ ?_
  ·intro u x c d
   exact⟨0,_,_,c.sub (kp [75,1,76] O),d,F,(B9.refl S2 Z),(iq (n:=0) O),E⟩
  ·rintro u x ⟨_,_,_,_,_,_,_,_,E⟩
   rw[DY] at E;cases E
  rintro n1 u x ⟨H,c7,c8,c,d,A,V,c9,E⟩
  refine Ad ?_ c d
  clear c d x u
  rw[DY] at E
  refine AI (Aq O (AN (kp [77,75,1,76] O) (AD (AX O E (λbp E=>?_) (λbp E=>?_)))))
  ·refine AT (AD (A5 (AI (AA O (AL O (kp [3,75,1,76] O) (AI (Ai O (ab.mono V) AW.f_Name Rn O λda bq=>R3 A6 A.1 O bq QD O λdb=>AA O ?_)))))))
   obtain⟨g,W,E⟩:=bd E
   have br:=Nz W
   refine N3 O O QC W O (AL O (kp [4,75,1,76] O) (AI (AA O (Aq O (AA O (AV 3 88 (.bool ((decide (g<32))||(decide (126<g)))) ?_ ?_))))))
   ·cases bs:(decide (g<32))
    ·exact AB O (AA O (AB O (Bh O (AJ O (AU O)))))
    exact Aa O O
   refine AA O (AV 3 92 (.bool (((decide (g<32))||(decide (126<g)))||(decide (g=34)))) ?_ ?_)
   ·cases bt:((decide (g<32))||(decide (126<g)))
    ·exact AB O (AA O (AB O (BH O (AJ O (AU O)))))
    exact Aa O O
   refine AA O (AV 3 96 (.bool ((((decide (g<32))||(decide (126<g)))||(decide (g=34)))||(decide (g=92)))) ?_ ?_)
   ·cases bu:(((decide (g<32))||(decide (126<g)))||(decide (g=34)))
    ·exact AB O (AA O (AB O (BH O (AJ O (AU O)))))
    exact Aa O O
   refine AN (kp [96,75,1,76] O) (AX O E (λap E=>?_) (λap E=>?_))
   ·refine AI (AL O (kp [2] O) (Ac (λu x c d=>?_)))
    cases E
    exact Dm c d O O (e5.trans (G.trans V)) ⟨O,A⟩
   refine AT (BK (BY (.inl O) (Af O (AA O (AN (kp [76,75,1] O) (WF.nil (λu x c d=>?_)))))))
   exact⟨(BC (H+1)),_,_,c.sub (kp [75,1,76] O),d,A,V,(BI _),E⟩
  refine A9 O (λu x c d=>?_)
  exact⟨_,_,c.sub (kp [1] O),d,A,V,E⟩
 rintro u x ⟨I,J,c,d,K,M,E⟩
 refine Ad ?_ c d
 clear c d x u
 rw[DZ] at E
 refine AD (AI (Ai O (ab.mono M) AW.f_Room Ul O λbv aq=>An A6 K.1 O aq BP O λar X=>Al O X BG O λbw=>AA O (AN (kp [101,100,99] O) (Am (λa w=>IV B I J (109,[]) a w [] (L) λ_ _=>FI N=some r) ?_ ?_))))
 ·refine A3 (λn3=>λa w=>∃(y:Int),IV B I J (109,[]) a w [(100,vI (↑b.Room.length:Int)),(99,ar),(101,vI y)] (L) λ_ _=>AG y∧DX N b (FI N) n3 y=some r) N ?_ ?_ ?_
  ·intro u x c d
   exact⟨0,_,_,c.sub (kp [100,99,101] O),d,K,(B9.refl I J),(iq (n:=0) O),E⟩
  ·rintro u x ⟨_,_,_,_,_,_,_,_,E⟩
   rw[DX] at E;cases E
  rintro n3 u x ⟨y,bx,bz,c,d,z,C,b0,E⟩
  refine Ad ?_ c d
  clear c d x u
  rw[DX] at E
  refine AI (Aq O (AN (kp [102,100,99,101] O) (AD (AX O E (λau E=>?_) (λau E=>?_)))))
  ·refine AT (AD (A5 (AI ?_)))
   obtain⟨b1,ac,E⟩:=bd E
   refine BD O O (X.mono' C) BG ac O λb2 av=>Ah A6 z.1 O av Ag O λaw=>AL O (kp [6,100,99,101] O) (AD (Bl (.inl O) z (AA O ?_)))
   obtain⟨b3,ad,E⟩:=bd E
   refine Az O O O JZ O (λh' o=>Bv (St.all h') aw ad) (BV O (BJ (kp [107,100,99,101] O) λb4 Q Y=>AX O E (λax E=>?_) (λax E=>?_)))
   ·refine AI (AL O (kp [2] O) (Ac (λu x c d=>?_)))
    cases E
    exact Dm c d O O (e5.trans (G.trans (M.trans (C.trans Y)))) ⟨O,Q⟩
   refine AT (BK (BY (.inl O) (Af O (AA O (AN (kp [101,100,99] O) (WF.nil (λu x c d=>?_)))))))
   exact⟨(BC (y+1)),_,_,c.sub (kp [100,99,101] O),d,Q,(C.trans Y),(BI _),E⟩
  refine A9 O (λu x c d=>?_)
  exact⟨_,_,c.sub Ou,d,z,C,E⟩
 rintro u x ⟨b5,b6,c,d,ae,ay,E⟩
 refine Ad ?_ c d
 clear c d x u
 rw[FI] at E
 refine AI (AL O (kp [2] O) (Ac (λu x c d=>?_)))
 cases E
 exact Dm c d O O (e5.trans (G.trans (M.trans ay))) ⟨O,ae⟩
end Go.Proofs.YtblcgjadhemlbaaGreat
