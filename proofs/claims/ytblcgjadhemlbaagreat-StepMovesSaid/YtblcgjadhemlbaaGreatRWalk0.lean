import Derived.Test.YtblcgjadhemlbaaGreatRFacts
import Derived.Test.YtblcgjadhemlbaaGreatRForms
import Derived.Test.YtblcgjadhemlbaaGreatRSortD
namespace Go.Proofs.YtblcgjadhemlbaaGreat
open Go.RowKit
set_option linter.unusedVariables false
set_option linter.unusedSimpArgs false
set_option maxRecDepth 10000
set_option maxHeartbeats 2000000
variable {N:Nat}{S:Nat→Prop}{L:List HP}{h:Aw}
theorem Lt (hs:St S L h) {r:AX}(E:Ih N=some r):
 CL Tryz.prog 26 #[] S h (λv S' h'=>Rd S' h' B1 v r∧St S' (L) h'):=by
 refine BG (l:=[]) 11 Tryz.func26 O Tryz.ntmps26 O λB=>?_
 rw[Ih] at E
 refine WF.sl (Cp Yk O hs λb1 h2 ab e4=>AZ (kp [0] O) (WF.sl (AG 1 (HA (cs:=[vI 0,vI 0]) cE O O O (AF (DY (cs:=[vI 0,vI 0]) dV O O O O O O O ab λY h6 ac e8=>DY (cs:=[vI 100,vI 50]) Ef O O O O O O O ac λZ an p ad=>AG 1 ?_))))))
 have s:=p.bxos (r:=Bv) (l:=([(⟨0,0⟩:BS)]:List BS)) (.tail .head) ⟨_,_,O,⟨O,⟨(iq (n:=0) O),(iq (n:=0) O)⟩⟩,O⟩ (by simp [maxLen])
 obtain⟨ao,t,ae,af⟩:=s.pubs (.tail .head)
 have u:=t.bxos (r:=AM.int) (l:=([100,50]:List Int)) .head ⟨_,_,O,⟨O,(iq (n:=100) O)⟩,⟨_,_,O,⟨O,(iq (n:=50) O)⟩,O⟩⟩ (by simp [maxLen])
 obtain⟨ap,w,y,ag⟩:=u.pubs .head
 refine HA (cs:=[.string (ByteArray.mk #[112]),vI 0,vI 2,vI 120,(.slice (some ⟨Y,0,none⟩) 1 1),(.slice (some ⟨Z,0,none⟩) 2 2),vI 1,vI 10,vI (-1),vI 0,vI 0,vN]) cH O O O (AF (Cp OZ O w λaq ar z d=>Du (vs:=[.string (ByteArray.mk #[112]),vI 0,vI 2,vI 120,(.slice (some ⟨Y,0,none⟩) 1 1),(.slice (some ⟨Z,0,none⟩) 2 2),vI 1,vI 10,vI (-1),vI 0,vI 0,vN]) O O O O J4 O z .head O λau A g=>AZ (kp [1,0] O) (WF.sl (DY (cs:=[.string (ByteArray.mk #[97]),.string (ByteArray.mk #[99])]) dY O O O O O O O A λC av b i=>AG 1 (Db (vs:=[.string (ByteArray.mk #[112]),vI 0,vI 2,vI 120,(.slice (some ⟨Y,0,none⟩) 1 1),(.slice (some ⟨Z,0,none⟩) 2 2),vI 1,vI 10,vI (-1),vI 0,vI 0,vN]) A9 b O (mt mh) O O J4 O O (AF (DY (cs:=[.string (ByteArray.mk #[112]),vI 0,vI 2,vI 120,(.slice (some ⟨Y,0,none⟩) 1 1),(.slice (some ⟨Z,0,none⟩) 2 2),vI 1,vI 10,vI (-1),vI 0,vI 0,vN]) dX O O O O O O O b λD aw F j=>DY (cs:=[vI 0,vI 0,vI 0]) Ef O O O O O O O F λG ax H k=>AG 1 ?_)))))))
 have I:=H.bxos (r:=AM.str) (l:=Mv) (.tail (.tail .head)) ⟨_,_,O,⟨O,(by decide)⟩,⟨_,_,O,⟨O,(by decide)⟩,O⟩⟩ (by simp [maxLen,Mv])
 obtain⟨ay,J,m,ah⟩:=I.pubs (.tail (.tail .head))
 have ai:=af.mono' (y.trans (d.trans (g.trans (i.trans (j.trans (k.trans m))))))
 have aj:=ag.mono' (d.trans (g.trans (i.trans (j.trans (k.trans m)))))
 have K:=J.bxos (r:=B0) (l:=Mw) (.tail .head) ⟨_,_,O,⟨_,_,_,O,(by decide),(iq (n:=0) O),(iq (n:=2) O),(iq (n:=120) O),ai,aj,(iq (n:=1) O),(iq (n:=10) O),(iq (n:=(-1)) O),(iq (n:=0) O),(iq (n:=0) O),(.inl ⟨O,O⟩)⟩,O⟩ (by simp [maxLen,Mw])
 obtain⟨az,M,Q,ak⟩:=K.pubs (.tail .head)
 have U:=M.bxos (r:=AM.int) (l:=([0,0,0]:List Int)) .head ⟨_,_,O,⟨O,(iq (n:=0) O)⟩,⟨_,_,O,⟨O,(iq (n:=0) O)⟩,⟨_,_,O,⟨O,(iq (n:=0) O)⟩,O⟩⟩⟩ (by simp [maxLen])
 obtain⟨a0,V,o,am⟩:=U.pubs .head
 refine HA (cs:=[.string (ByteArray.mk #[98]),(.slice (some ⟨C,0,none⟩) 2 2),vI 0,(.slice (some ⟨D,0,none⟩) 1 1),vN,vN,vN,vN,vN,(.slice (some ⟨G,0,none⟩) 3 3),vI 0]) cI O O O (AF (Du (vs:=[.string (ByteArray.mk #[98]),(.slice (some ⟨C,0,none⟩) 2 2),vI 0,(.slice (some ⟨D,0,none⟩) 1 1),vN,vN,vN,vN,vN,(.slice (some ⟨G,0,none⟩) 3 3),vI 0]) O O O O G6 O V (.tail .head) O λa1 W a=>AZ (kp [0] O) (Ad (λaa ww hf hw=>?_))))
 have c:=W.sel [1] 1 O
 have X:=c.drop .head
 cases E
 exact KH hf O hw (IK (XX hf hw c O mh G6 O) KG) O (e4.trans (e8.trans (ad.trans (ae.trans (y.trans (d.trans (g.trans (i.trans (j.trans (k.trans (m.trans (Q.trans (o.trans a))))))))))))) ⟨(B1.mk (x:=(⟨(ByteArray.mk #[98]),Mv,0,Mw,[],[],[],[],[],([0,0,0]:List Int),0⟩:AX)) (by decide) (ah.mono' (Q.trans (o.trans a))) (iq (n:=0) O) (ak.mono' (o.trans a)) (.inl ⟨O,O⟩) (.inl ⟨O,O⟩) (.inl ⟨O,O⟩) (.inl ⟨O,O⟩) (.inl ⟨O,O⟩) (am.mono' a) (iq (n:=0) O)),X⟩
theorem DC (hs:St S L h) {a:Value}{c:(List Int)}(b:Sl S h AM.int a c) {r:(List Int)}(E:CG N c=some r):
 CL Tryz.prog 39 #[a] S h (λv S' h'=>St S' (OS AM.int 3 v r::L) h'):=by
 refine BG (l:=[a]) 8 Tryz.func39 O Tryz.ntmps39 O λB=>?_
 rw[CG] at E
 rcases b.cases with ⟨rfl,rfl⟩|⟨s,o,rfl,b⟩
 ·have E1:(some ([]:List Int))=some r:=by simpa [chk,Jk] using E
  refine AI (AK O (kp [0] O) (AC (AI (AA O (Uj O O O VU (AN (kp [4,0] O) (XF O (AI (AK O (kp [2] O) (Ad (λt u d g=>?_)))))))))))
  have i:=hs.nil AM.int 3
  cases E
  exact Dx d g O O (CA.refl S h) i
 refine AI (AK O (kp [0] O) (AC (AI (AA O (XQ O O O VU (AN (kp [4,0] O) (XG O (AQ (WF.sl (XS (r:=AM.int) Ef O O hs λv1 w j p=>AG 1 (AA O (AF ?_))))))))))))
 obtain⟨k,E⟩:=Lr E
 refine JJ (r:=AM.int) (l:=([]:List Int)) (xs:=c) O O Ef O (Sl.src (b.mono' p)) O k O j (λ_=> .head) λx y m n=>AG 1 (AY O (AF (AZ (kp [2] O) (Ad (λt u d g=>?_)))))
 cases E
 exact Dx d g O O (p.trans n) m
theorem PY (hs:St S L h) {W:Value}{c:AX}(ax:Rd S h B1 W c) {d:Int}(Z:AH d) {r:Aj}(E:Lq N c d=some r):
 CL Tryz.prog 15 #[W,vI d] S h (λv S' h'=>Rd S' h' CO v r∧St S' (L) h'):=by
 refine BG (l:=[W,vI d]) 47 Tryz.func15 O Tryz.ntmps15 O λB=>?_
 rw[Lq] at E
 refine WF.sl (B4 O ax (λe=>by cases e) O hs λq1 S2 h3 ek e5 k6=>Cp Oa O ek λb7 h8 u ab=>AZ (kp [4,2,1] O) (AC ?_))
 obtain⟨cg,E⟩:=Lr E
 obtain⟨ch,E⟩:=Lr E
 obtain⟨ci,E⟩:=Lr E
 obtain⟨cj,E⟩:=Lr E
 obtain⟨ck,E⟩:=Lr E
 refine YM (m:=[(4,vP b7 0),(2,q1),(1,vI d)]) [23] [] [4,8,12,16,20,22] ⟨[(21,[8,12,16,20,24,28])],λi l=>match i,l with|21,[some a8,some el,some em,some en,some eo,some ep]=>some (.agg ([a8]++[el]++[em]++[(vN:Value)]++[en]++[eo]++[ep]).toArray)|_,_=>none⟩ (by kernel_rfl) (by kernel_rfl) (λi v Q=>match i with|0=>v=vI d∧AH d|1=>Pt S2 Q (AM.sl B0) v c.Places|2=>Sl S2 Q B0 v c.Places|3=>v=vI (↑c.Places.length:Int)∧AH (↑c.Places.length:Int)|4=>VL S2 h8 (AM.sl AM.int) 29 (List.replicate ((↑c.Places.length:Int):Int).toNat ([]:(List Int))) v Q|5=>Pt S2 Q (AM.sl B0) v c.Places|6=>Sl S2 Q B0 v c.Places|7=>v=vI (↑c.Places.length:Int)∧AH (↑c.Places.length:Int)|8=>VL S2 h8 AM.int 3 (List.replicate ((↑c.Places.length:Int):Int).toNat (0:Int)) v Q|9=>Pt S2 Q (AM.sl Bu) v c.Links|10=>Sl S2 Q Bu v c.Links|11=>v=vI (↑c.Links.length:Int)∧AH (↑c.Links.length:Int)|12=>VL S2 h8 BJ 69 (List.replicate ((↑c.Links.length:Int):Int).toNat ((⟨0,0,false,false⟩:Ax):Ax)) v Q|13=>Pt S2 Q (AM.sl AM.str) v c.Owners|14=>Sl S2 Q AM.str v c.Owners|15=>v=vI (↑c.Owners.length:Int)∧AH (↑c.Owners.length:Int)|16=>VL S2 h8 AM.int 3 (List.replicate ((↑c.Owners.length:Int):Int).toNat (0:Int)) v Q|17=>Pt S2 Q (AM.sl AM.str) v c.Owners|18=>Sl S2 Q AM.str v c.Owners|19=>v=vI (↑c.Owners.length:Int)∧AH (↑c.Owners.length:Int)|20=>VL S2 h8 AM.int 3 (List.replicate ((↑c.Owners.length:Int):Int).toNat (0:Int)) v Q|21=>True|22=>Xa h8 36 [vI 0,vN,vN,vN,vN,vN,vN] v Q|_=>False) [[],[],[(1,9)],[(2,10)],[(3,11)],[],[(5,13)],[(6,14)],[(7,15)],[],[(9,17)],[(10,18)],[(11,19)],[],[(13,21)],[(14,22)],[(15,23)],[],[(17,25)],[(18,26)],[(19,27)],[(0,8),(4,12),(8,16),(12,20),(16,24),(20,28)],[],[]] [(0,8),(4,12),(8,16),(12,20),(16,24),(20,28),(21,29),(22,5)] mo (by kernel_rfl) [4,2,1] O (by kernel_rfl) (by kernel_rfl) (by kernel_rfl) O (kp [4,2,1] O) (λi v h1 h2 o1 o2 hr=>?_) (by kernel_rfl) (Mj O (Mj O (Mj O (Mj O (Mj O (YJ (T:=36) O aJ)))))) ?_ ?_ ?_
 ·match i,hr with
   |0,hr|3,hr|7,hr|11,hr|15,hr|19,hr|21,hr=>exact hr
   |1,hr|5,hr|9,hr|13,hr|17,hr=>exact Nd.mono hr (o2.ext λb hb=>Nat.lt_of_lt_of_le (u.1 b hb) o1.siz)
   |2,hr|6,hr|10,hr|14,hr|18,hr=>exact Sl.mono' hr (o2.ext λb hb=>Nat.lt_of_lt_of_le (u.1 b hb) o1.siz)
   |4,hr|8,hr|12,hr|16,hr|20,hr=>exact hr.mono u.1 o2
   |22,hr=>exact hr.mono o2
   |_+23,hr=>exact hr.elim
 ·exact trivial
 ·refine Dz.cons O O O (λ_ _ _=>AG 1 (AA O (AO ⟨O,Z⟩))) (Dz.cons O O O (λ_ _ o=>AG 1 (Ae O (k6.mono (ab.trans (o.ext u.1))) BP C1 O λg1 eq=>AO eq)) (Dz.cons O O O (λ_ _ o er bn=>by have bn:Pt _ _ (AM.sl B0) er c.Places:=bn;exact AG 1 (Ao A9 (o.st u).1 O bn F7 O λg2 es=>AO es)) (Dz.cons O O O (λ_ _ _ et bo=>by have bo:Sl _ _ B0 et c.Places:=bo;exact AG 1 (An O bo FA O λeu=>AO ⟨O,(Jl eu)⟩)) (Mm O O O (λ_ _ o _ ev=>by obtain⟨rfl,g3⟩:=ev;exact P8 (r:=(AM.sl AM.int)) (zx:=[]) Wx O ⟨_,O,.inl ⟨O,O⟩⟩ O O cg O O o u.1 λv' h' o' r' f'=>Cm o' ⟨r',f'⟩) (Dz.cons O O O (λ_ _ o=>AG 1 (Ae O (k6.mono (ab.trans (o.ext u.1))) BP C1 O λg4 ew=>AO ew)) (Dz.cons O O O (λ_ _ o ey bp=>by have bp:Pt _ _ (AM.sl B0) ey c.Places:=bp;exact AG 1 (Ao A9 (o.st u).1 O bp F7 O λg5 ez=>AO ez)) (Dz.cons O O O (λ_ _ _ e0 bq=>by have bq:Sl _ _ B0 e0 c.Places:=bq;exact AG 1 (An O bq FA O λe1=>AO ⟨O,(Jl e1)⟩)) (Mm O O O (λ_ _ o _ e2=>by obtain⟨rfl,g6⟩:=e2;exact P8 (r:=AM.int) (zx:=0) Ef O ⟨O,by unfold AH;omega⟩ O O ch O O o u.1 λv' h' o' r' f'=>Cm o' ⟨r',f'⟩) (Dz.cons O O O (λ_ _ o=>AG 1 (Ae O (k6.mono (ab.trans (o.ext u.1))) D1 Gc O λg7 e3=>AO e3)) (Dz.cons O O O (λ_ _ o e4 br=>by have br:Pt _ _ (AM.sl Bu) e4 c.Links:=br;exact AG 1 (Ao A9 (o.st u).1 O br JR O λg8 e6=>AO e6)) (Dz.cons O O O (λ_ _ _ e7 bs=>by have bs:Sl _ _ Bu e7 c.Links:=bs;exact AG 1 (An O bs Hf O λe8=>AO ⟨O,(Jl e8)⟩)) ?_)))))))))))
  refine Mm O O O (λ_ _ o _ e9=>by obtain⟨rfl,g9⟩:=e9;exact P8 (r:=BJ) (zx:=(⟨0,0,false,false⟩:Ax)) Ww O ⟨O,by unfold Ax.ok AH;simp [IntKind.has,IntKind.min,IntKind.max,IntKind.bits,IntKind.signed]⟩ O O ci O O o u.1 λv' h' o' r' f'=>Cm o' ⟨r',f'⟩) (Dz.cons O O O (λ_ _ o=>AG 1 (Ae O (k6.mono (ab.trans (o.ext u.1))) EQ H1 O λha fb=>AO fb)) (Dz.cons O O O (λ_ _ o fc bt=>by have bt:Pt _ _ (AM.sl AM.str) fc c.Owners:=bt;exact AG 1 (Ao A9 (o.st u).1 O bt Kj O λhc fd=>AO fd)) (Dz.cons O O O (λ_ _ _ fe af=>by have af:Sl _ _ AM.str fe c.Owners:=af;exact AG 1 (An O af KN O λcl=>AO ⟨O,(Jl cl)⟩)) (Mm O O O (λ_ _ o _ cm=>by obtain⟨rfl,fg⟩:=cm;exact P8 (r:=AM.int) (zx:=0) Ef O ⟨O,by unfold AH;omega⟩ O O cj O O o u.1 λv' h' o' r' f'=>Cm o' ⟨r',f'⟩) (Dz.cons O O O (λ_ _ o=>AG 1 (Ae O (k6.mono (ab.trans (o.ext u.1))) EQ H1 O λfh cn=>AO cn)) (Dz.cons O O O (λ_ _ o co ag=>by have ag:Pt _ _ (AM.sl AM.str) co c.Owners:=ag;exact AG 1 (Ao A9 (o.st u).1 O ag Kj O λfi cp=>AO cp)) (Dz.cons O O O (λ_ _ _ cq ah=>by have ah:Sl _ _ AM.str cq c.Owners:=ah;exact AG 1 (An O ah KN O λcr=>AO ⟨O,(Jl cr)⟩)) (Mm O O O (λ_ _ o _ ct=>by obtain⟨rfl,fj⟩:=ct;exact P8 (r:=AM.int) (zx:=0) Ef O ⟨O,by unfold AH;omega⟩ O O ck O O o u.1 λv' h' o' r' f'=>Cm o' ⟨r',f'⟩) ?_))))))))
  refine Dz.z [8,12,16,20,24,28] O O O (by kernel_rfl) ?_ ?_
  ·intro mq Q o
   intro fk cu fl a3 fm a4 fn a5 fo a6 fp a7
   have hsN:=o.st u
   obtain⟨rfl,fq⟩:=cu
   obtain⟨cv,ay,rfl,a3⟩:=a3
   obtain⟨cw,az,rfl,a4⟩:=a4
   obtain⟨cx,a0,rfl,a5⟩:=a5
   obtain⟨cy,a1,rfl,a6⟩:=a6
   obtain⟨cz,a2,rfl,a7⟩:=a7
   exact AG 1 (HA (cs:=[vI d,(.slice (some ⟨cv,0,none⟩) (List.replicate ((↑c.Places.length:Int):Int).toNat ([]:(List Int))).length ay),(.slice (some ⟨cw,0,none⟩) (List.replicate ((↑c.Places.length:Int):Int).toNat (0:Int)).length az),vN,(.slice (some ⟨cx,0,none⟩) (List.replicate ((↑c.Links.length:Int):Int).toNat ((⟨0,0,false,false⟩:Ax):Ax)).length a0),(.slice (some ⟨cy,0,none⟩) (List.replicate ((↑c.Owners.length:Int):Int).toNat (0:Int)).length a1),(.slice (some ⟨cz,0,none⟩) (List.replicate ((↑c.Owners.length:Int):Int).toNat (0:Int)).length a2)]) Vm O O O (AO ⟨trivial,O,O⟩))
  exact Dz.al O Oa O O (Dz.skip (by kernel_rfl) (trivial))
 intro fr ai fs c0 ft c1 fu c2 fv c3 fw c4 fx c5 c6 fy f0 c7 g bu
 obtain⟨H,t,rfl,c8,c9,da⟩:=c1
 obtain⟨I,y,rfl,db,dc,dd⟩:=c2
 obtain⟨J,A,rfl,de,df,dg⟩:=c3
 obtain⟨K,C,rfl,dh,di,dj⟩:=c4
 obtain⟨M,D,rfl,dk,dl,dm⟩:=c5
 obtain⟨U,rfl,dn,dp,dq⟩:=c7
 have bv:=(TG.cons (La (La (La (La (La (TG.nil u ai) c8 c9 da List.not_mem_nil) db dc dd (Tb (g.of_ (s:=16) (s':=12) (by kernel_rfl) O O O O) List.not_mem_nil)) de df dg (Tb (g.of_ (s:=20) (s':=16) (by kernel_rfl) O O O O) (Tb (g.of_ (s:=20) (s':=12) (by kernel_rfl) O O O O) List.not_mem_nil))) dh di dj (Tb (g.of_ (s:=24) (s':=20) (by kernel_rfl) O O O O) (Tb (g.of_ (s:=24) (s':=16) (by kernel_rfl) O O O O) (Tb (g.of_ (s:=24) (s':=12) (by kernel_rfl) O O O O) List.not_mem_nil)))) dk dl dm (Tb (g.of_ (s:=28) (s':=24) (by kernel_rfl) O O O O) (Tb (g.of_ (s:=28) (s':=20) (by kernel_rfl) O O O O) (Tb (g.of_ (s:=28) (s':=16) (by kernel_rfl) O O O O) (Tb (g.of_ (s:=28) (s':=12) (by kernel_rfl) O O O O) List.not_mem_nil))))) dn dp dq (Tb (g.of_ (s:=5) (s':=28) (by kernel_rfl) O O O O) (Tb (g.of_ (s:=5) (s':=24) (by kernel_rfl) O O O O) (Tb (g.of_ (s:=5) (s':=20) (by kernel_rfl) O O O O) (Tb (g.of_ (s:=5) (s':=16) (by kernel_rfl) O O O O) (Tb (g.of_ (s:=5) (s':=12) (by kernel_rfl) O O O O) List.not_mem_nil)))))).st
 obtain⟨rfl,dr⟩:=c0
 obtain rfl:c6=Value.agg #[vI d,(.slice (some ⟨H,0,none⟩) (List.replicate ((↑c.Places.length:Int):Int).toNat ([]:(List Int))).length t),(.slice (some ⟨I,0,none⟩) (List.replicate ((↑c.Places.length:Int):Int).toNat (0:Int)).length y),vN,(.slice (some ⟨J,0,none⟩) (List.replicate ((↑c.Links.length:Int):Int).toNat ((⟨0,0,false,false⟩:Ax):Ax)).length A),(.slice (some ⟨K,0,none⟩) (List.replicate ((↑c.Owners.length:Int):Int).toNat (0:Int)).length C),(.slice (some ⟨M,0,none⟩) (List.replicate ((↑c.Owners.length:Int):Int).toNat (0:Int)).length D)]:=(Option.some.inj (bu _ List.mem_cons_self 29 _ (by kernel_rfl) O O)).symm
 refine Du (vs:=[vI d,(.slice (some ⟨H,0,none⟩) (List.replicate ((↑c.Places.length:Int):Int).toNat ([]:(List Int))).length t),(.slice (some ⟨I,0,none⟩) (List.replicate ((↑c.Places.length:Int):Int).toNat (0:Int)).length y),vN,(.slice (some ⟨J,0,none⟩) (List.replicate ((↑c.Links.length:Int):Int).toNat ((⟨0,0,false,false⟩:Ax):Ax)).length A),(.slice (some ⟨K,0,none⟩) (List.replicate ((↑c.Owners.length:Int):Int).toNat (0:Int)).length C),(.slice (some ⟨M,0,none⟩) (List.replicate ((↑c.Owners.length:Int):Int).toNat (0:Int)).length D)]) O O O O HI O bv .head O λaj ak a9=>AZ (kp [5,4,2] O) (AC (AI (Ae O (k6.mono (ab.trans ((ai.ext u.1).trans a9))) BP C1 O λf1 ds=>Ao A9 ak.1 O ds F7 O λba bb=>An O bb FA O λf2=>AA O (AN (kp [33,32,31,5,4] O) (Am (λa w=>∃(ad:List (List Int)),IV B S2 aj (47,[]) a w [(5,vP U 0),(4,vP b7 0)] (Bx U 36 [vI d,(.slice (some ⟨H,0,none⟩) (List.replicate ((↑c.Places.length:Int):Int).toNat ([]:(List Int))).length t),(.slice (some ⟨I,0,none⟩) (List.replicate ((↑c.Places.length:Int):Int).toNat (0:Int)).length y),vN,(.slice (some ⟨J,0,none⟩) (List.replicate ((↑c.Links.length:Int):Int).toNat ((⟨0,0,false,false⟩:Ax):Ax)).length A),(.slice (some ⟨K,0,none⟩) (List.replicate ((↑c.Owners.length:Int):Int).toNat (0:Int)).length C),(.slice (some ⟨M,0,none⟩) (List.replicate ((↑c.Owners.length:Int):Int).toNat (0:Int)).length D)]::OS AM.int 3 (.slice (some ⟨M,0,none⟩) (List.replicate ((↑c.Owners.length:Int):Int).toNat (0:Int)).length D) (List.replicate ((↑c.Owners.length:Int):Int).toNat (0:Int))::OS AM.int 3 (.slice (some ⟨K,0,none⟩) (List.replicate ((↑c.Owners.length:Int):Int).toNat (0:Int)).length C) (List.replicate ((↑c.Owners.length:Int):Int).toNat (0:Int))::OS BJ 69 (.slice (some ⟨J,0,none⟩) (List.replicate ((↑c.Links.length:Int):Int).toNat ((⟨0,0,false,false⟩:Ax):Ax)).length A) (List.replicate ((↑c.Links.length:Int):Int).toNat ((⟨0,0,false,false⟩:Ax):Ax))::OS AM.int 3 (.slice (some ⟨I,0,none⟩) (List.replicate ((↑c.Places.length:Int):Int).toNat (0:Int)).length y) (List.replicate ((↑c.Places.length:Int):Int).toNat (0:Int))::OS (AM.sl AM.int) 29 (.slice (some ⟨H,0,none⟩) (List.replicate ((↑c.Places.length:Int):Int).toNat ([]:(List Int))).length t) ad::Bx b7 36 [vI 0,vN,vN,vN,vN,vN,vN]::L) λ_ _=>JG N c d ad=some r) ?_ ?_)))))
 ·refine A5 (λn1=>λa w=>∃(G:Int) (V:List (List Int)),IV B S2 aj (47,[]) a w [(32,vI (↑c.Places.length:Int)),(31,ba),(5,vP U 0),(4,vP b7 0),(33,vI G)] (Bx U 36 [vI d,(.slice (some ⟨H,0,none⟩) (List.replicate ((↑c.Places.length:Int):Int).toNat ([]:(List Int))).length t),(.slice (some ⟨I,0,none⟩) (List.replicate ((↑c.Places.length:Int):Int).toNat (0:Int)).length y),vN,(.slice (some ⟨J,0,none⟩) (List.replicate ((↑c.Links.length:Int):Int).toNat ((⟨0,0,false,false⟩:Ax):Ax)).length A),(.slice (some ⟨K,0,none⟩) (List.replicate ((↑c.Owners.length:Int):Int).toNat (0:Int)).length C),(.slice (some ⟨M,0,none⟩) (List.replicate ((↑c.Owners.length:Int):Int).toNat (0:Int)).length D)]::OS AM.int 3 (.slice (some ⟨M,0,none⟩) (List.replicate ((↑c.Owners.length:Int):Int).toNat (0:Int)).length D) (List.replicate ((↑c.Owners.length:Int):Int).toNat (0:Int))::OS AM.int 3 (.slice (some ⟨K,0,none⟩) (List.replicate ((↑c.Owners.length:Int):Int).toNat (0:Int)).length C) (List.replicate ((↑c.Owners.length:Int):Int).toNat (0:Int))::OS BJ 69 (.slice (some ⟨J,0,none⟩) (List.replicate ((↑c.Links.length:Int):Int).toNat ((⟨0,0,false,false⟩:Ax):Ax)).length A) (List.replicate ((↑c.Links.length:Int):Int).toNat ((⟨0,0,false,false⟩:Ax):Ax))::OS AM.int 3 (.slice (some ⟨I,0,none⟩) (List.replicate ((↑c.Places.length:Int):Int).toNat (0:Int)).length y) (List.replicate ((↑c.Places.length:Int):Int).toNat (0:Int))::OS (AM.sl AM.int) 29 (.slice (some ⟨H,0,none⟩) (List.replicate ((↑c.Places.length:Int):Int).toNat ([]:(List Int))).length t) V::Bx b7 36 [vI 0,vN,vN,vN,vN,vN,vN]::L) λ_ _=>AH G∧ID N c (JG N c d) n1 G V=some r) N ?_ ?_ ?_
  ·intro aa ww hf hw
   exact⟨0,(List.replicate ((↑c.Places.length:Int):Int).toNat ([]:(List Int))),_,_,hf.sub (kp [32,31,5,4,33] O),hw,ak,(CA.refl S2 aj),(iq (n:=0) O),E⟩
  ·rintro aa ww ⟨_,_,_,_,_,_,_,_,_,E⟩
   rw[ID] at E;cases E
  rintro n1 aa ww ⟨G,V,am,f3,hf,hw,ac,an,dt,E⟩
  refine Ac ?_ hf hw
  clear hf hw ww aa
  rw[ID] at E
  refine AI (Ar O (AN (kp [34,32,31,5,4,33] O) (AC (AW O E (λdu E=>?_) (λdu E=>?_)))))
  ·refine AQ (AC (BB (WF.sl (AG 3 (AA O ?_)))))
   obtain⟨j,bw,E⟩:=bd E
   refine BE O O (bb.mono' an) FA bw O λf4 dv=>B8 A9 ac.1 O dv J4 (λe=>by cases e) O λf5 dw=>AF (Cp OZ O ac λbc f6 bx be=>AG 1 (AY O (AF ?_)))
   obtain⟨bf,bg,bh,rfl,f7,f8,f9,ga,dx,bi,gb,gc,gd,ge,gf,dy⟩:=B0.ex (dw.mono be)
   refine G7 (vs:=[.string j.Name,vI j.Kind,vI j.Office,vI j.Cap,bf,bg,vI j.Num,vI j.Den,vI j.Down,vI j.Delay,vI j.Floor,bh]) (cs':=[.string j.Name,vI j.Kind,vI j.Office,vI j.Cap,bf,bg,vI j.Num,vI j.Den,vI j.Down,vI j.Delay,vI j.Floor,bh]) O O O (AE O (AE O (AE O (AE O (AE dx.one (AE bi.one (AE O (AE O (AE O (AE O (AE O (AE dy.one EH)))))))))))) J4 O bx .head O O λbj F bk=>AZ (kp [6,7,32,31,5,4,33] O) ?_
   obtain⟨ao,bz,E⟩:=bd E
   obtain⟨gg,b0,E⟩:=bd E
   refine Mk (m:=[(6,vI G),(7,vP bc 0),(32,vI (↑c.Places.length:Int)),(31,ba),(5,vP U 0),(4,vP b7 0),(33,vI G)]) 7 (λi v Q=>match i with|0=>v=vP U 1|1=>v=(.slice (some ⟨H,0,none⟩) (List.replicate ((↑c.Places.length:Int):Int).toNat ([]:(List Int))).length t)|2=>v=vI G∧AH G|3=>v=vP bc 5|4=>Sl am Q AM.int v j.Start|5=>Sl (SN am bj Q) Q AM.int v ao|6=>EP (.slice (some ⟨H,0,none⟩) (List.replicate ((↑c.Places.length:Int):Int).toNat ([]:(List Int))).length t) (G.toNat*((AM.sl AM.int)).sz+0) v|_=>False) [[],[(0,38)],[],[],[(3,41)],[(4,42)],[(1,39),(2,40)]] [(5,43),(6,44)] mo (by kernel_rfl) [6,7,32,31,5,4,33] O (by kernel_rfl) (by kernel_rfl) (by kernel_rfl) (kp [6,7,32,31,5,4,33] O) (λi v h1 h2 o1 o2 hr=>?_) ?_ ?_
   ·match i,hr with
     |0,hr|1,hr|2,hr|3,hr|6,hr=>exact hr
     |4,hr=>exact Sl.mono' hr (o2.ext λb hb=>Nat.lt_of_lt_of_le (F.1 b hb) o1.siz)
     |5,hr=>exact Sl.mono' hr (SN.mono F.1 o1 o2)
     |_+7,hr=>exact hr.elim
   ·refine A3.cons O (λ_ _ _=>AG 1 (AD Dm O (AO O))) (A3.cons O (λ_ _ o _ dz=>by cases dz;exact AG 1 (AS A9 (o.st F) O (mt mh) O Gu O (AO O))) (A3.cons O (λ_ _ _=>AG 1 (AA O (AO ⟨O,dt⟩))) (A3.cons O (λ_ _ _=>AG 1 (AD Rg O (AO O))) (A3.cons O (λ_ _ o _ d0=>by cases d0;exact AG 1 (AS A9 (o.st F) O mh O BW O (AO (bi.mono' (bk.trans (o.ext F.1)))))) ?_))))
    refine A3.cons O ?_ ?_
    ·intro mq Q o
     intro d1 X
     have hsN:=SN.st F o
     have X:=Sl.mono' (S':=(SN am bj Q)) X ⟨λb hb=> .inl hb,λ_ _=>rfl,Nat.le_refl _⟩
     have X:Sl _ _ AM.int d1 j.Start:=X
     have hsF:=hsN.fz
     refine BX O O O P5 O hsF (DC (St.all _) (X.mono (λb hb=>hsF.1 b hb) (λ_ _=>rfl)) bz) λgh gi gj ff d2 d3 p=>?_
     have b1:=p
     have ap:=hsF.join d3 b1 ⟨OS.flat (λ{_ _ _ _ _ _} k=>k),trivial⟩
     simp only[List.cons_append,List.nil_append] at ap
     obtain⟨gk,b2,d4,d5⟩:=ap.pubs .head
     have aq:=Fz.done o (d2.trans d4) b2
     exact Cm aq.1 (Sl.mono' d5 aq.2)
    exact A3.cons O (λ_ _ o=>by intro gl d6 gm d7;cases d6;obtain ⟨rfl,gn⟩:=d7;exact AG 1 (A8 (o.st F) (mt (mt (mt (mt (mt (mt mh)))))) O O Ev b0 O λgp b3=>AO b3)) trivial
   intro gq bl d8 ar gr d9
   have b4:=SN.st F bl
   have ar:Sl _ _ AM.int d8 ao:=ar
   obtain⟨ea,b5,E⟩:=bd E
   refine E3 (r:=(AM.sl AM.int)) (l:=V) (i:=G) (x:=ea) O O (M7 ar) d9 b5 Lv.id BW (λ_=>rfl) b4 (.tail (.tail (.tail (.tail (.tail (.tail .head)))))) λgs b6 eb=>AZ (kp [32,31,5,4,33] O) (BO (BZ (.inl O) (Ai O (AA O (AN (kp [33,32,31,5,4] O) (WF.nil (λaa ww hf hw=>?_)))))))
   have b8:=b6.sel [1,1,1,1,1,1,1] 1 O
   exact⟨(BD (G+1)),(upd V G ao),_,_,hf.sub (kp [32,31,5,4,33] O),hw,b8,(an.trans (be.trans (bk.trans ((SN.ext F.1 bl).trans eb)))),(BK _),E⟩
  refine BC O (λaa ww hf hw=>?_)
  exact⟨V,_,_,hf.sub (kp [5,4] O),hw,ac,an,E⟩
 rintro aa ww ⟨ad,gt,gu,hf,hw,au,ec,E⟩
 refine Ac ?_ hf hw
 clear hf hw ww aa
 rw[JG] at E
 refine WF.sl (AG 1 (Db (vs:=[vI d,(.slice (some ⟨H,0,none⟩) (List.replicate ((↑c.Places.length:Int):Int).toNat ([]:(List Int))).length t),(.slice (some ⟨I,0,none⟩) (List.replicate ((↑c.Places.length:Int):Int).toNat (0:Int)).length y),vN,(.slice (some ⟨J,0,none⟩) (List.replicate ((↑c.Links.length:Int):Int).toNat ((⟨0,0,false,false⟩:Ax):Ax)).length A),(.slice (some ⟨K,0,none⟩) (List.replicate ((↑c.Owners.length:Int):Int).toNat (0:Int)).length C),(.slice (some ⟨M,0,none⟩) (List.replicate ((↑c.Owners.length:Int):Int).toNat (0:Int)).length D)]) A9 au O mh O O HI O O (AF (Du (vs:=[vI d,(.slice (some ⟨H,0,none⟩) (List.replicate ((↑c.Places.length:Int):Int).toNat ([]:(List Int))).length t),(.slice (some ⟨I,0,none⟩) (List.replicate ((↑c.Places.length:Int):Int).toNat (0:Int)).length y),vN,(.slice (some ⟨J,0,none⟩) (List.replicate ((↑c.Links.length:Int):Int).toNat ((⟨0,0,false,false⟩:Ax):Ax)).length A),(.slice (some ⟨K,0,none⟩) (List.replicate ((↑c.Owners.length:Int):Int).toNat (0:Int)).length C),(.slice (some ⟨M,0,none⟩) (List.replicate ((↑c.Owners.length:Int):Int).toNat (0:Int)).length D)]) O O O O HI O au (.tail (.tail (.tail (.tail (.tail (.tail .head)))))) O λgv b9 ed=>AZ (kp [4] O) (Ad (λaa ww hf hw=>?_))))))
 obtain⟨gw,ca,ee,ef⟩:=b9.pubs (.tail (.tail (.tail (.tail (.tail .head)))))
 obtain⟨gx,cb,bm,eg⟩:=ca.pubs (.tail (.tail (.tail (.tail .head))))
 obtain⟨gy,cc,av,eh⟩:=cb.pubs (.tail (.tail (.tail .head)))
 obtain⟨gz,cd,ae,ei⟩:=cc.pubs (.tail (.tail .head))
 obtain⟨g0,ce,Y,ej⟩:=cd.pubs (.tail .head)
 have aw:=ce.sel [1] 1 O
 have cf:=aw.drop .head
 cases E
 exact KH hf O hw (IK (XX hf hw aw O mh HI O) KG) O (e5.trans (ab.trans ((ai.ext u.1).trans (a9.trans (ec.trans (ed.trans (ee.trans (bm.trans (av.trans (ae.trans Y)))))))))) ⟨(CO.mk (x:=(⟨d,ad,(List.replicate ((↑c.Places.length:Int):Int).toNat (0:Int)),[],(List.replicate ((↑c.Links.length:Int):Int).toNat ((⟨0,0,false,false⟩:Ax):Ax)),(List.replicate ((↑c.Owners.length:Int):Int).toNat (0:Int)),(List.replicate ((↑c.Owners.length:Int):Int).toNat (0:Int))⟩:Aj)) dr (ef.mono' (bm.trans (av.trans (ae.trans Y)))) (eg.mono' (av.trans (ae.trans Y))) (.inl ⟨O,O⟩) (eh.mono' (ae.trans Y)) (ei.mono' Y) ej),cf⟩
theorem Bs (hs:St S L h) {c:Int}(i:AH c) {b:Int}(g:AH b) {a:Int}(d:AH a) {r:Bool}(E:CD N c b a=some r):
 CL Tryz.prog 68 #[vI c,vI b,vI a] S h (λv S' h'=>v= .bool r∧St S' (L) h'):=by
 refine BG (l:=[vI c,vI b,vI a]) 15 Tryz.func68 O Tryz.ntmps68 O λB=>?_
 rw[CD] at E
 refine AI (AK O (kp [0,1,2] O) (AI (AA O (AA O (GQ O (AA O (AV 4 14 (.bool ((decide (b≤c))&&(decide (c≤a)))) ?_ ?_)))))))
 ·cases m:(decide (b≤c))
  ·exact Aa O O
  exact AB O (AA O (AB O (AA O (AB O (GQ O (AJ O (AU O)))))))
 refine AK O (kp [6] O) (Ad (λn o j k=>?_))
 cases E
 exact Dx j k O O (CA.refl S h) ⟨O,hs⟩
theorem B3 (hs:St S L h) {a:Int}(b:AH a) {r:Bool}(E:B7 N a=some r):
 CL Tryz.prog 69 #[vI a] S h (λv S' h'=>v= .bool r∧St S' (L) h'):=by
 refine BG (l:=[vI a]) 5 Tryz.func69 O Tryz.ntmps69 O λB=>?_
 rw[B7] at E
 refine AI (AK O (kp [0] O) (AC (Bq (.inl O) hs (AA O ?_))))
 obtain⟨k,c,E⟩:=bd E
 refine A6 O O O Hu O (λh' o=>Bs (St.all h') b (iq (n:=0) O) (iq (n:=1125899906842624) O) c) (AY O (BM (kp [2] O) λm d g=>Ad (λp q i j=>?_)))
 cases E
 exact Dx i j O O g ⟨O,d⟩
theorem NH (hs:St S L h) {t:Value}{b:AX}(U:Rd S h B1 t b) {r:Bool}(E:HV N b=some r):
 CL Tryz.prog 47 #[t] S h (λv S' h'=>v= .bool r∧St S' (L) h'):=by
 refine BG (l:=[t]) 109 Tryz.func47 O Tryz.ntmps47 O λB=>?_
 rw[HV] at E
 refine WF.sl (B4 O U (λe=>by cases e) O hs λq1 S2 h3 s e5 D=>AG 1 (AY O (AF (AZ (kp [1] O) (AC (AC (Bq (.inl O) s (Ae O D AX.f_Name Rn O λq7 k8=>Rz Bd s.1 O k8 QI O λr9=>N6 O QH O (Bf O (AA O ?_))))))))))
 obtain⟨af,j,E⟩:=bd E
 refine AV 6 17 (.bool af) ?_ ?_
 ·cases ag:(decide (500<(↑b.Name.size:Int)))
  ·have j:=F5 ag j
   refine AB O (Ae O D EQ H1 O λb7 az=>AB O (Ao Bd s.1 O az Kj O λb8 a0=>AB O (An O a0 KN O λa1=>AB O ?_)))
   obtain⟨b9,ah,j⟩:=bd j
   refine A6 O O O Hu O (λh' o=>Bs (St.all h') (Jl a1) (iq (n:=1) O) (iq (n:=16) O) ah) (AB O (BY O (AJ O ?_)))
   cases j
   exact AU O
  have j:=Fy ag j
  cases j
  exact Aa O O
 refine AA O ?_
 obtain⟨ai,k,E⟩:=bd E
 refine AV 5 23 (.bool ai) ?_ ?_
 ·cases aj:af
  ·have k:=F5 aj k
   refine AB O (Ae O D K0 Rm O λca a2=>AB O (Af Bd s.1 O a2 Ag O λa3=>AB O ?_))
   obtain⟨cb,ak,k⟩:=bd k
   refine A6 O O O Hu O (λh' o=>Bs (St.all h') a3 (iq (n:=0) O) (iq (n:=64) O) ak) (AB O (BY O (AJ O ?_)))
   cases k
   exact AU O
  have k:=Fy aj k
  cases k
  exact Aa O O
 refine AA O ?_
 obtain⟨i,m,E⟩:=bd E
 refine AV 6 30 (.bool i) ?_ ?_
 ·cases al:ai
  ·have m:=F5 al m
   refine AB O (Ae O D BP C1 O λcc a4=>AB O (Ao Bd s.1 O a4 F7 O λcd a5=>AB O (An O a5 FA O λa6=>AB O ?_)))
   obtain⟨ce,am,m⟩:=bd m
   refine A6 O O O Hu O (λh' o=>Bs (St.all h') (Jl a6) (iq (n:=1) O) (iq (n:=64) O) am) (AB O (BY O (AJ O ?_)))
   cases m
   exact AU O
  have m:=Fy al m
  cases m
  exact Aa O O
 refine AA O (AV 5 36 (.bool (i||(decide (96<(↑b.Links.length:Int))))) ?_ ?_)
 ·cases cf:i
  ·exact AB O (Ae O D D1 Gc O λcg a7=>AB O (Ao Bd s.1 O a7 JR O λch a8=>AB O (An O a8 Hf O λci=>AB O (Bf O (AJ O (AU O))))))
  exact Aa O O
 refine AA O (AV 5 42 (.bool ((i||(decide (96<(↑b.Links.length:Int))))||(decide (40<(↑b.Towns.length:Int))))) ?_ ?_)
 ·cases cj:(i||(decide (96<(↑b.Links.length:Int))))
  ·exact AB O (Ae O D Im Nz O λck a9=>AB O (Ao Bd s.1 O a9 SF O λcl ba=>AB O (An O ba Pc O λcm=>AB O (Bf O (AJ O (AU O))))))
  exact Aa O O
 refine AA O (AV 5 48 (.bool (((i||(decide (96<(↑b.Links.length:Int))))||(decide (40<(↑b.Towns.length:Int))))||(decide (128<(↑b.Gauges.length:Int))))) ?_ ?_)
 ·cases cn:((i||(decide (96<(↑b.Links.length:Int))))||(decide (40<(↑b.Towns.length:Int))))
  ·exact AB O (Ae O D KL Rl O λco bb=>AB O (Ao Bd s.1 O bb Va O λcp bc=>AB O (An O bc SQ O λcq=>AB O (Bf O (AJ O (AU O))))))
  exact Aa O O
 refine AA O (AV 5 54 (.bool ((((i||(decide (96<(↑b.Links.length:Int))))||(decide (40<(↑b.Towns.length:Int))))||(decide (128<(↑b.Gauges.length:Int))))||(decide (128<(↑b.Roads.length:Int))))) ?_ ?_)
 ·cases cr:(((i||(decide (96<(↑b.Links.length:Int))))||(decide (40<(↑b.Towns.length:Int))))||(decide (128<(↑b.Gauges.length:Int))))
  ·exact AB O (Ae O D Kz Rk O λcs be=>AB O (Ao Bd s.1 O be VZ O λct bf=>AB O (An O bf SP O λcu=>AB O (Bf O (AJ O (AU O))))))
  exact Aa O O
 refine AA O (AV 5 60 (.bool (((((i||(decide (96<(↑b.Links.length:Int))))||(decide (40<(↑b.Towns.length:Int))))||(decide (128<(↑b.Gauges.length:Int))))||(decide (128<(↑b.Roads.length:Int))))||(decide (40<(↑b.Shelters.length:Int))))) ?_ ?_)
 ·cases cv:((((i||(decide (96<(↑b.Links.length:Int))))||(decide (40<(↑b.Towns.length:Int))))||(decide (128<(↑b.Gauges.length:Int))))||(decide (128<(↑b.Roads.length:Int))))
  ·exact AB O (Ae O D IU PQ O λcw bg=>AB O (Ao Bd s.1 O bg T0 O λcx bh=>AB O (An O bh Qc O λcy=>AB O (Bf O (AJ O (AU O))))))
  exact Aa O O
 refine AA O (AV 5 66 (.bool ((((((i||(decide (96<(↑b.Links.length:Int))))||(decide (40<(↑b.Towns.length:Int))))||(decide (128<(↑b.Gauges.length:Int))))||(decide (128<(↑b.Roads.length:Int))))||(decide (40<(↑b.Shelters.length:Int))))||(decide ((↑b.Room.length:Int)≠3)))) ?_ ?_)
 ·cases cz:(((((i||(decide (96<(↑b.Links.length:Int))))||(decide (40<(↑b.Towns.length:Int))))||(decide (128<(↑b.Gauges.length:Int))))||(decide (128<(↑b.Roads.length:Int))))||(decide (40<(↑b.Shelters.length:Int))))
  ·exact AB O (Ae O D AX.f_Room UY O λc0 bi=>AB O (Ao Bd s.1 O bi BW O λc1 bj=>AB O (An O bj BQ O λc2=>AB O (Bt O (AJ O (AU O))))))
  exact Aa O O
 refine AA O ?_
 obtain⟨bk,p,E⟩:=bd E
 refine AV 5 72 (.bool bk) ?_ ?_
 ·cases an:((((((i||(decide (96<(↑b.Links.length:Int))))||(decide (40<(↑b.Towns.length:Int))))||(decide (128<(↑b.Gauges.length:Int))))||(decide (128<(↑b.Roads.length:Int))))||(decide (40<(↑b.Shelters.length:Int))))||(decide ((↑b.Room.length:Int)≠3)))
  ·have p:=F5 an p
   refine AB O (Ae O D AX.f_Err WW O λc3 bl=>AB O (Af Bd s.1 O bl Ag O λbm=>AB O ?_))
   obtain⟨c4,ao,p⟩:=bd p
   refine A6 O O O Hu O (λh' o=>Bs (St.all h') bm (iq (n:=0) O) (iq (n:=1099511627776) O) ao) (AB O (BY O (AJ O ?_)))
   cases p
   exact AU O
  have p:=Fy an p
  cases p
  exact Aa O O
 refine BM (kp [72,1] O) λZ F G=>AW O E (λbn E=>?_) (λbn E=>?_)
 ·refine AI (AK O (kp [2] O) (Ad (λu x c d=>?_)))
  cases E
  exact Dx c d O O (e5.trans G) ⟨O,F⟩
 refine AQ (AC (AI ?_))
 have ab:=D.mono G
 refine Ae O ab AX.f_Name Rn O λc5 bo=>Rz A9 F.1 O bo QI O λc6=>N6 O QH O (AA O (AN (kp [76,75,1] O) (Am (λa w=>IV B S2 Z (109,[]) a w [(1,q1)] (L) λ_ _=>Dj N b=some r) ?_ ?_)))
 ·refine A5 (λn1=>λa w=>∃(H:Int),IV B S2 Z (109,[]) a w [(75,vI (↑b.Name.size:Int)),(1,q1),(76,vI H)] (L) λ_ _=>AH H∧Di N b (Dj N b) n1 H=some r) N ?_ ?_ ?_
  ·intro u x c d
   exact⟨0,_,_,c.sub (kp [75,1,76] O),d,F,(CA.refl S2 Z),(iq (n:=0) O),E⟩
  ·rintro u x ⟨_,_,_,_,_,_,_,_,E⟩
   rw[Di] at E;cases E
  rintro n1 u x ⟨H,c7,c8,c,d,A,V,c9,E⟩
  refine Ac ?_ c d
  clear c d x u
  rw[Di] at E
  refine AI (Ar O (AN (kp [77,75,1,76] O) (AC (AW O E (λbp E=>?_) (λbp E=>?_)))))
  ·refine AQ (AC (BB (AI (AA O (AK O (kp [3,75,1,76] O) (AI (Ae O (ab.mono V) AX.f_Name Rn O λda bq=>Rz A9 A.1 O bq QI O λdb=>AA O ?_)))))))
   obtain⟨g,W,E⟩:=bd E
   have br:=N3 W
   refine N8 O O QH W O (AK O (kp [4,75,1,76] O) (AI (AA O (Ar O (AA O (AV 3 88 (.bool ((decide (g<32))||(decide (126<g)))) ?_ ?_))))))
   ·cases bs:(decide (g<32))
    ·exact AB O (AA O (AB O (Bf O (AJ O (AU O)))))
    exact Aa O O
   refine AA O (AV 3 92 (.bool (((decide (g<32))||(decide (126<g)))||(decide (g=34)))) ?_ ?_)
   ·cases bt:((decide (g<32))||(decide (126<g)))
    ·exact AB O (AA O (AB O (BL O (AJ O (AU O)))))
    exact Aa O O
   refine AA O (AV 3 96 (.bool ((((decide (g<32))||(decide (126<g)))||(decide (g=34)))||(decide (g=92)))) ?_ ?_)
   ·cases bu:(((decide (g<32))||(decide (126<g)))||(decide (g=34)))
    ·exact AB O (AA O (AB O (BL O (AJ O (AU O)))))
    exact Aa O O
   refine AN (kp [96,75,1,76] O) (AW O E (λap E=>?_) (λap E=>?_))
   ·refine AI (AK O (kp [2] O) (Ad (λu x c d=>?_)))
    cases E
    exact Dx c d O O (e5.trans (G.trans V)) ⟨O,A⟩
   refine AQ (BO (BZ (.inl O) (Ai O (AA O (AN (kp [76,75,1] O) (WF.nil (λu x c d=>?_)))))))
   exact⟨(BD (H+1)),_,_,c.sub (kp [75,1,76] O),d,A,V,(BK _),E⟩
  refine BC O (λu x c d=>?_)
  exact⟨_,_,c.sub (kp [1] O),d,A,V,E⟩
 rintro u x ⟨I,J,c,d,K,M,E⟩
 refine Ac ?_ c d
 clear c d x u
 rw[Dj] at E
 refine AC (AI (Ae O (ab.mono M) AX.f_Room UY O λbv aq=>Ao A9 K.1 O aq BW O λar X=>An O X BQ O λbw=>AA O (AN (kp [101,100,99] O) (Am (λa w=>IV B I J (109,[]) a w [] (L) λ_ _=>qZ N=some r) ?_ ?_))))
 ·refine A5 (λn3=>λa w=>∃(y:Int),IV B I J (109,[]) a w [(100,vI (↑b.Room.length:Int)),(99,ar),(101,vI y)] (L) λ_ _=>AH y∧Dh N b (qZ N) n3 y=some r) N ?_ ?_ ?_
  ·intro u x c d
   exact⟨0,_,_,c.sub (kp [100,99,101] O),d,K,(CA.refl I J),(iq (n:=0) O),E⟩
  ·rintro u x ⟨_,_,_,_,_,_,_,_,E⟩
   rw[Dh] at E;cases E
  rintro n3 u x ⟨y,bx,bz,c,d,z,C,b0,E⟩
  refine Ac ?_ c d
  clear c d x u
  rw[Dh] at E
  refine AI (Ar O (AN (kp [102,100,99,101] O) (AC (AW O E (λau E=>?_) (λau E=>?_)))))
  ·refine AQ (AC (BB (AI ?_)))
   obtain⟨b1,ac,E⟩:=bd E
   refine BE O O (X.mono' C) BQ ac O λb2 av=>Af A9 z.1 O av Ag O λaw=>AK O (kp [6,100,99,101] O) (AC (Bq (.inl O) z (AA O ?_)))
   obtain⟨b3,ad,E⟩:=bd E
   refine A6 O O O Jm O (λh' o=>B3 (St.all h') aw ad) (BY O (BM (kp [107,100,99,101] O) λb4 Q Y=>AW O E (λax E=>?_) (λax E=>?_)))
   ·refine AI (AK O (kp [2] O) (Ad (λu x c d=>?_)))
    cases E
    exact Dx c d O O (e5.trans (G.trans (M.trans (C.trans Y)))) ⟨O,Q⟩
   refine AQ (BO (BZ (.inl O) (Ai O (AA O (AN (kp [101,100,99] O) (WF.nil (λu x c d=>?_)))))))
   exact⟨(BD (y+1)),_,_,c.sub (kp [100,99,101] O),d,Q,(C.trans Y),(BK _),E⟩
  refine BC O (λu x c d=>?_)
  exact⟨_,_,c.sub Oy,d,z,C,E⟩
 rintro u x ⟨b5,b6,c,d,ae,ay,E⟩
 refine Ac ?_ c d
 clear c d x u
 rw[qZ] at E
 refine AI (AK O (kp [2] O) (Ad (λu x c d=>?_)))
 cases E
 exact Dx c d O O (e5.trans (G.trans (M.trans ay))) ⟨O,ae⟩
end Go.Proofs.YtblcgjadhemlbaaGreat
