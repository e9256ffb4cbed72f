import Derived.Test.YtabonambpbofgaaGreatNInst
import Derived.Test.YtabonambpbofgaaGreatNForms
import Derived.Test.YtabonambpbofgaaGreatNSort5
import Derived.Test.YtabonambpbofgaaGreatNSortD
namespace Go.Proofs.YtabonambpbofgaaGreat
set_option linter.all false
open Go.RowKit
open Go.Proofs.Tryz
set_option maxRecDepth 10000
set_option maxHeartbeats 20000000
variable {N:Nat}{S:Nat→Prop}{L:List HP}{h:AS}
def Oj (hs:St S L h) {r:AF}(E:Kj N=some r):
 CL prog 34 #[] S h (λv S' h'=>Rd S' h' B3 v r∧St S' (L) h'):=by
 refine CL.go 9 func34 O ntmps34 O λB=>?_;rw[Kj] at E;refine AU ?_;refine Dp aD O hs λb1 h2 z e4=>AU ?_;refine Ft (cs:=[.string (ByteArray.mk #[111])]) fF O O O O O O O z λb5 h6 A e8=>AU ?_;refine HO (cs:=[vI 0,vI 0]) qL O O O (AU ?_);refine Ft (cs:=[vI 0,vI 0]) Xa O O O O O O O A λX ab b ac=>Ft (cs:=[vI 100]) JU O O O O O O O b λc ad d ae=>AU ?_;have g:=d.bxos (r:=CG) (l:=([(⟨0,0⟩:Bz)]:List Bz)) (.tail .head) ⟨_,_,O,⟨O,⟨(iq (n:=0) O),(iq (n:=0) O)⟩⟩,O⟩ (by simp [maxLen]);obtain⟨af,i,ag,C⟩:=g.pubs (.tail .head);have j:=i.bxos (r:=AB) (l:=([100]:List Int)) .head ⟨_,_,O,⟨O,(iq (n:=100) O)⟩,O⟩ (by simp [maxLen]);obtain⟨ah,k,ai,D⟩:=j.pubs .head;refine HO (cs:=[.string (ByteArray.mk #[112]),vI 0,vI 2,vI 1000,(.slice (some ⟨X,0,none⟩) 1 1),(.slice (some ⟨c,0,none⟩) 1 1),vI 1,vI 10,vI (-1),vI 0,vI 0,vN]) qK O O O (AU ?_);refine Ft (cs:=[.string (ByteArray.mk #[112]),vI 0,vI 2,vI 1000,(.slice (some ⟨X,0,none⟩) 1 1),(.slice (some ⟨c,0,none⟩) 1 1),vI 1,vI 10,vI (-1),vI 0,vI 0,vN]) fE O O O O O O O k λF aj m ak=>Ft (cs:=[vI 0,vI 0,vI 0]) JU O O O O O O O m λG am o an=>AU ?_;have p:=o.bxos (r:=A5.str) (l:=([(ByteArray.mk #[111])]:List ByteArray)) (.tail (.tail .head)) ⟨_,_,O,⟨O,(by decide)⟩,O⟩ (by simp [maxLen]);obtain⟨ao,q,ap,H⟩:=p.pubs (.tail (.tail .head));have I:=C.nw;have J:=D.nw;have s:=q.bxos (r:=B1) (l:=Pn) (.tail .head) ⟨_,_,O,⟨_,_,_,O,(by decide),(iq (n:=0) O),(iq (n:=2) O),(iq (n:=1000) O),I,J,(iq (n:=1) O),(iq (n:=10) O),(iq (n:=(-1)) O),(iq (n:=0) O),(iq (n:=0) O),(.inl ⟨O,O⟩)⟩,O⟩ (by simp [maxLen,Pn]);obtain⟨aq,t,ar,K⟩:=s.pubs (.tail .head);have u:=t.bxos (r:=AB) (l:=([0,0,0]:List Int)) .head ⟨_,_,O,⟨O,(iq (n:=0) O)⟩,⟨_,_,O,⟨O,(iq (n:=0) O)⟩,⟨_,_,O,⟨O,(iq (n:=0) O)⟩,O⟩⟩⟩ (by simp [maxLen]);obtain⟨au,w,av,M⟩:=u.pubs .head;refine HO (cs:=[.string (ByteArray.mk #[98]),(.slice (some ⟨b5,0,none⟩) 1 1),vI 0,(.slice (some ⟨F,0,none⟩) 1 1),vN,vN,vN,vN,vN,(.slice (some ⟨G,0,none⟩) 3 3),vI 0]) wL O O O (AU ?_);refine FK O O O O M8.1 O w .head O λaw a Q=>AU ?_;refine CO (λaa ww Y Z=>?_);have U:=H.nw;have V:=K.nw;have W:=M.mono' Q;have y:=a.drop .head;cases E;exact K6 Y O Z (Iy (W5 Y Z a O mh M8.1 O) K5) O EX ⟨(B3.mk (x:=(⟨(ByteArray.mk #[98]),([(ByteArray.mk #[111])]:List ByteArray),0,Pn,[],[],[],[],[],([0,0,0]:List Int),0⟩:AF)) (by decide) U (iq (n:=0) O) V (.inl ⟨O,O⟩) (.inl ⟨O,O⟩) (.inl ⟨O,O⟩) (.inl ⟨O,O⟩) (.inl ⟨O,O⟩) W (iq (n:=0) O)),y⟩
def B7 (k:St S L h) {b:Value}{c:(List Int)}(a:Sl S h AB b c) {r:(List Int)}(E:BO N c=some r):
 CL prog 73 #[b] S h (λv S' h'=>St S' (OS AB 3 v r::L) h'):=by
 refine CL.go 8 func73 O ntmps73 O λB=>?_;rw[BO] at E;rcases a.cases with ⟨rfl,rfl⟩|⟨n,m,rfl,a⟩
 ·have s:(some ([]:List Int))=some r:=by simpa [chk,HQ] using E
  refine AU ?_;refine JY O O O aS (AU ?_);refine KV O (AU ?_);have d:=k.nil AB 3;cases E;exact GE d O O EX
 refine AU ?_;refine KX O O O aS (AU ?_);refine KW O (AU ?_);refine JI (r:=AB) JU O O k λv1 t g o=>AU ?_;have p:=a.mono' o;obtain⟨i,E⟩:=Lt E;refine Eb (r:=AB) (l:=([]:List Int)) (xs:=c) O O JU O (Sl.src p) O i O g (λ_=> .head) λu w j q=>AU ?_;cases E;exact GE j O O EX
def Sy (hs:St S L h) {ac:Value}{c:AF}(aq:Rd S h B3 ac c) {d:Int}(bb:AA d) {r:AI}(E:OJ N c d=some r):
 CL prog 36 #[ac,vI d] S h (λv S' h'=>Rd S' h' BU v r∧St S' (L) h'):=by
 refine CL.go 47 func36 O ntmps36 O λB=>?_;rw[OJ] at E;refine AU ?_;refine CZ O aq CE O hs λq1 S2 h3 eh e5 k6=>Dp Ou O eh λb7 h8 j ho=>AU ?_;obtain⟨b6,E⟩:=Lt E;obtain⟨b8,E⟩:=Lt E;obtain⟨b9,E⟩:=Lt E;obtain⟨ca,E⟩:=Lt E;obtain⟨cb,E⟩:=Lt E;refine lL (m:=[(4,vP b7 0),(2,q1),(1,vI d)]) [23] [] [4,8,12,16,20,22] ⟨[(21,[8,12,16,20,24,28])],λi l=>match i,l with|21,[some a8,some ei,some ej,some ek,some el,some em]=>some (.agg ([a8]++[ei]++[ej]++[(vN:Value)]++[ek]++[el]++[em]).toArray)|_,_=>none⟩ (by kernel_rfl) (by kernel_rfl) (λi v t=>match i with|0=>v=vI d∧AA d|1=>Pt S2 t (A5.sl B1) v c.A|2=>Sl S2 t B1 v c.A|3=>v=vI (↑c.A.length:Int)∧AA (↑c.A.length:Int)|4=>Z2 S2 h8 (A5.sl AB) 29 (List.replicate ((↑c.A.length:Int):Int).toNat ([]:(List Int))) v t|5=>Pt S2 t (A5.sl B1) v c.A|6=>Sl S2 t B1 v c.A|7=>v=vI (↑c.A.length:Int)∧AA (↑c.A.length:Int)|8=>Z2 S2 h8 AB 3 (List.replicate ((↑c.A.length:Int):Int).toNat (0:Int)) v t|9=>Pt S2 t (A5.sl CB) v c.C|10=>Sl S2 t CB v c.C|11=>v=vI (↑c.C.length:Int)∧AA (↑c.C.length:Int)|12=>Z2 S2 h8 BQ 107 (List.replicate ((↑c.C.length:Int):Int).toNat ((⟨0,0,false,false⟩:A3):A3)) v t|13=>Pt S2 t (A5.sl A5.str) v c.J|14=>Sl S2 t A5.str v c.J|15=>v=vI (↑c.J.length:Int)∧AA (↑c.J.length:Int)|16=>Z2 S2 h8 AB 3 (List.replicate ((↑c.J.length:Int):Int).toNat (0:Int)) v t|17=>Pt S2 t (A5.sl A5.str) v c.J|18=>Sl S2 t A5.str v c.J|19=>v=vI (↑c.J.length:Int)∧AA (↑c.J.length:Int)|20=>Z2 S2 h8 AB 3 (List.replicate ((↑c.J.length:Int):Int).toNat (0:Int)) v t|21=>True|22=>aC h8 36 [vI 0,vN,vN,vN,vN,vN,vN] v t|_=>False) [[],[],[(1,9)],[(2,10)],[(3,11)],[],[(5,13)],[(6,14)],[(7,15)],[],[(9,17)],[(10,18)],[(11,19)],[],[(13,21)],[(14,22)],[(15,23)],[],[(17,25)],[(18,26)],[(19,27)],[(0,8),(4,12),(8,16),(12,20),(16,24),(20,28)],[],[]] [(0,8),(4,12),(8,16),(12,20),(16,24),(20,28),(21,29),(22,5)] mo (by kernel_rfl) [4,2,1] O (by kernel_rfl) (by kernel_rfl) (by kernel_rfl) O (kp [4,2,1] O) (λi v h1 h2 o1 o2 D=>?_) (by kernel_rfl) (PY O (PY O (PY O (PY O (PY O (lI (T:=36) O uE)))))) ?_ ?_ ?_
 ·match i,D with
   |0,D|3,D|7,D|11,D|15,D|19,D|21,D=>exact D
   |1,D|5,D|9,D|13,D|17,D=>exact NX.mono D (o2.ext λb hb=>Acv (j.1 b hb) o1.siz)
   |2,D|6,D|10,D|14,D|18,D=>exact Sl.mono' D (o2.ext λb hb=>Acv (j.1 b hb) o1.siz)
   |4,D|8,D|12,D|16,D|20,D=>exact D.mono j.1 o2
   |22,D=>exact D.mono o2
   |_+23,D=>exact D.elim
 ·exact trivial
 ·refine FX.cons O O O Fy (FX.cons O O O ?_ ?_)
  ·intro V t o;have q:=o.st j;have en:=k6.nw;have eo:=en.fl Cp;refine AU ?_;exact B0 eo
  refine FX.cons O O O ?_ ?_
  ·intro V t o;intro ep bc;have q:=o.st j;have bc:Pt _ _ (A5.sl B1) ep c.A:=bc;obtain⟨hp,_,eq⟩:=bc.ll;refine AU ?_;exact B0 eq
  refine FX.cons O O O ?_ ?_
  ·intro V t o;intro er be;have q:=o.st j;have be:Sl _ _ B1 er c.A:=be;have es:=be.le;refine AU ?_;exact B0 ⟨O,(Ls es)⟩
  refine FX.nw O O O (λ_ _ o _ eu=>by obtain⟨rfl,hq⟩:=eu;exact Tp (r:=(A5.sl AB)) (zx:=[]) Wk O ⟨_,O,.inl ⟨O,O⟩⟩ O O b6 O O o j.1 λv' h' o' r' f'=>BB o' ⟨r',f'⟩) ?_;refine FX.cons O O O ?_ ?_
  ·intro V t o;have q:=o.st j;have ev:=k6.nw;have ew:=ev.fl Cp;refine AU ?_;exact B0 ew
  refine FX.cons O O O ?_ ?_
  ·intro V t o;intro ey bf;have q:=o.st j;have bf:Pt _ _ (A5.sl B1) ey c.A:=bf;obtain⟨ht,_,ez⟩:=bf.ll;refine AU ?_;exact B0 ez
  refine FX.cons O O O ?_ ?_
  ·intro V t o;intro e0 bg;have q:=o.st j;have bg:Sl _ _ B1 e0 c.A:=bg;have e1:=bg.le;refine AU ?_;exact B0 ⟨O,(Ls e1)⟩
  refine FX.nw O O O (λ_ _ o _ e2=>by obtain⟨rfl,hu⟩:=e2;exact Tp (r:=AB) (zx:=0) JU O ⟨O,by unfold AA;omega⟩ O O b8 O O o j.1 λv' h' o' r' f'=>BB o' ⟨r',f'⟩) ?_;refine FX.cons O O O ?_ ?_
  ·intro V t o;have q:=o.st j;have e3:=k6.nw;have e4:=e3.fl HY;refine AU ?_;exact B0 e4
  refine FX.cons O O O ?_ ?_
  ·intro V t o;intro e6 bh;have q:=o.st j;have bh:Pt _ _ (A5.sl CB) e6 c.C:=bh;obtain⟨hv,_,e7⟩:=bh.ll;refine AU ?_;exact B0 e7
  refine FX.cons O O O ?_ ?_
  ·intro V t o;intro e8 bi;have q:=o.st j;have bi:Sl _ _ CB e8 c.C:=bi;have e9:=bi.le;refine AU ?_;exact B0 ⟨O,(Ls e9)⟩
  refine FX.nw O O O (λ_ _ o _ fa=>by obtain⟨rfl,hx⟩:=fa;exact Tp (r:=BQ) (zx:=(⟨0,0,false,false⟩:A3)) fD O ⟨O,by unfold A3.ok AA;simp [IntKind.has,IntKind.min,IntKind.max,IntKind.bits,IntKind.signed]⟩ O O b9 O O o j.1 λv' h' o' r' f'=>BB o' ⟨r',f'⟩) ?_;refine FX.cons O O O ?_ ?_
  ·intro V t o;have q:=o.st j;have fb:=k6.nw;have fc:=fb.fl IJ;refine AU ?_;exact B0 fc
  refine FX.cons O O O ?_ ?_
  ·intro V t o;intro fd bj;have q:=o.st j;have bj:Pt _ _ (A5.sl A5.str) fd c.J:=bj;obtain⟨hy,_,fe⟩:=bj.ll;refine AU ?_;exact B0 fe
  refine FX.cons O O O ?_ ?_
  ·intro V t o;intro ff af;have q:=o.st j;have af:Sl _ _ A5.str ff c.J:=af;have cc:=af.le;refine AU ?_;exact B0 ⟨O,(Ls cc)⟩
  refine FX.nw O O O (λ_ _ o _ cd=>by obtain⟨rfl,fh⟩:=cd;exact Tp (r:=AB) (zx:=0) JU O ⟨O,by unfold AA;omega⟩ O O ca O O o j.1 λv' h' o' r' f'=>BB o' ⟨r',f'⟩) ?_;refine FX.cons O O O ?_ ?_
  ·intro V t o;have q:=o.st j;have ce:=k6.nw;have cf:=ce.fl IJ;refine AU ?_;exact B0 cf
  refine FX.cons O O O ?_ ?_
  ·intro V t o;intro cg ag;have q:=o.st j;have ag:Pt _ _ (A5.sl A5.str) cg c.J:=ag;obtain⟨fi,_,ch⟩:=ag.ll;refine AU ?_;exact B0 ch
  refine FX.cons O O O ?_ ?_
  ·intro V t o;intro ci ah;have q:=o.st j;have ah:Sl _ _ A5.str ci c.J:=ah;have cj:=ah.le;refine AU ?_;exact B0 ⟨O,(Ls cj)⟩
  refine FX.nw O O O (λ_ _ o _ ck=>by obtain⟨rfl,fj⟩:=ck;exact Tp (r:=AB) (zx:=0) JU O ⟨O,by unfold AA;omega⟩ O O cb O O o j.1 λv' h' o' r' f'=>BB o' ⟨r',f'⟩) ?_;refine FX.z [8,12,16,20,24,28] O O O (by kernel_rfl) ?_ ?_
  ·intro V t o;intro fk cl fm az fn a0 fo a1 fp a2 fq a3;have q:=o.st j;obtain⟨rfl,fr⟩:=cl;obtain⟨cm,ar,rfl,az⟩:=az;obtain⟨cn,au,rfl,a0⟩:=a0;obtain⟨co,av,rfl,a1⟩:=a1;obtain⟨cp,aw,rfl,a2⟩:=a2;obtain⟨cq,ax,rfl,a3⟩:=a3;refine AU ?_;refine HO (cs:=[vI d,(.slice (some ⟨cm,0,none⟩) (List.replicate ((↑c.A.length:Int):Int).toNat ([]:(List Int))).length ar),(.slice (some ⟨cn,0,none⟩) (List.replicate ((↑c.A.length:Int):Int).toNat (0:Int)).length au),vN,(.slice (some ⟨co,0,none⟩) (List.replicate ((↑c.C.length:Int):Int).toNat ((⟨0,0,false,false⟩:A3):A3)).length av),(.slice (some ⟨cp,0,none⟩) (List.replicate ((↑c.J.length:Int):Int).toNat (0:Int)).length aw),(.slice (some ⟨cq,0,none⟩) (List.replicate ((↑c.J.length:Int):Int).toNat (0:Int)).length ax)]) nK O O O (AU ?_);exact B0 ⟨trivial,O,O⟩
  exact FX.al O Ou O O (FX.skip (by kernel_rfl) (trivial))
 intro fs cr ft ct fu cu fv cv fw cw fx cx fy cy cz f0 f1 c0 g bk;obtain⟨K,u,rfl,c1,c2,c3⟩:=cu;obtain⟨W,F,rfl,c4,c5,c6⟩:=cv;obtain⟨X,G,rfl,c7,c8,c9⟩:=cw;obtain⟨Y,H,rfl,da,db,dc⟩:=cx;obtain⟨Z,I,rfl,dd,de,df⟩:=cy;obtain⟨M,rfl,dg,dh,di⟩:=c0;have bl:=(W3.cons (N9 (N9 (N9 (N9 (N9 (W3.nil j cr) c1 c2 c3 Ac0) c4 c5 c6 (XV (g.of_ (s:=16) (s':=12) (by kernel_rfl) O O O O) Ac0)) c7 c8 c9 (XV (g.of_ (s:=20) (s':=16) (by kernel_rfl) O O O O) (XV (g.of_ (s:=20) (s':=12) (by kernel_rfl) O O O O) Ac0))) da db dc (XV (g.of_ (s:=24) (s':=20) (by kernel_rfl) O O O O) (XV (g.of_ (s:=24) (s':=16) (by kernel_rfl) O O O O) (XV (g.of_ (s:=24) (s':=12) (by kernel_rfl) O O O O) Ac0)))) dd de df (XV (g.of_ (s:=28) (s':=24) (by kernel_rfl) O O O O) (XV (g.of_ (s:=28) (s':=20) (by kernel_rfl) O O O O) (XV (g.of_ (s:=28) (s':=16) (by kernel_rfl) O O O O) (XV (g.of_ (s:=28) (s':=12) (by kernel_rfl) O O O O) Ac0))))) dg dh di (XV (g.of_ (s:=5) (s':=28) (by kernel_rfl) O O O O) (XV (g.of_ (s:=5) (s':=24) (by kernel_rfl) O O O O) (XV (g.of_ (s:=5) (s':=20) (by kernel_rfl) O O O O) (XV (g.of_ (s:=5) (s':=16) (by kernel_rfl) O O O O) (XV (g.of_ (s:=5) (s':=12) (by kernel_rfl) O O O O) Ac0)))))).st;obtain⟨rfl,dj⟩:=ct;obtain rfl:cz=Value.agg #[vI d,(.slice (some ⟨K,0,none⟩) (List.replicate ((↑c.A.length:Int):Int).toNat ([]:(List Int))).length u),(.slice (some ⟨W,0,none⟩) (List.replicate ((↑c.A.length:Int):Int).toNat (0:Int)).length F),vN,(.slice (some ⟨X,0,none⟩) (List.replicate ((↑c.C.length:Int):Int).toNat ((⟨0,0,false,false⟩:A3):A3)).length G),(.slice (some ⟨Y,0,none⟩) (List.replicate ((↑c.J.length:Int):Int).toNat (0:Int)).length H),(.slice (some ⟨Z,0,none⟩) (List.replicate ((↑c.J.length:Int):Int).toNat (0:Int)).length I)]:=(Acg (bk _ Ac4 29 _ (by kernel_rfl) O O)).symm;refine FK O O O O Ij.1 O bl .head O λai bm f2=>?_;have dk:=k6.nw;have dl:=dk.fl Cp;obtain⟨a4,_,dm⟩:=dl.ll;refine AU ?_;refine AV (λa w=>∃(ad:List (List Int)),IV B S2 ai (47,[]) a w [(5,vP M 0),(4,vP b7 0)] (Bx M 36 [vI d,(.slice (some ⟨K,0,none⟩) (List.replicate ((↑c.A.length:Int):Int).toNat ([]:(List Int))).length u),(.slice (some ⟨W,0,none⟩) (List.replicate ((↑c.A.length:Int):Int).toNat (0:Int)).length F),vN,(.slice (some ⟨X,0,none⟩) (List.replicate ((↑c.C.length:Int):Int).toNat ((⟨0,0,false,false⟩:A3):A3)).length G),(.slice (some ⟨Y,0,none⟩) (List.replicate ((↑c.J.length:Int):Int).toNat (0:Int)).length H),(.slice (some ⟨Z,0,none⟩) (List.replicate ((↑c.J.length:Int):Int).toNat (0:Int)).length I)]::OS AB 3 (.slice (some ⟨Z,0,none⟩) (List.replicate ((↑c.J.length:Int):Int).toNat (0:Int)).length I) (List.replicate ((↑c.J.length:Int):Int).toNat (0:Int))::OS AB 3 (.slice (some ⟨Y,0,none⟩) (List.replicate ((↑c.J.length:Int):Int).toNat (0:Int)).length H) (List.replicate ((↑c.J.length:Int):Int).toNat (0:Int))::OS BQ 107 (.slice (some ⟨X,0,none⟩) (List.replicate ((↑c.C.length:Int):Int).toNat ((⟨0,0,false,false⟩:A3):A3)).length G) (List.replicate ((↑c.C.length:Int):Int).toNat ((⟨0,0,false,false⟩:A3):A3))::OS AB 3 (.slice (some ⟨W,0,none⟩) (List.replicate ((↑c.A.length:Int):Int).toNat (0:Int)).length F) (List.replicate ((↑c.A.length:Int):Int).toNat (0:Int))::OS (A5.sl AB) 29 (.slice (some ⟨K,0,none⟩) (List.replicate ((↑c.A.length:Int):Int).toNat ([]:(List Int))).length u) ad::Bx b7 36 [vI 0,vN,vN,vN,vN,vN,vN]::L) λ_ _=>Ky N c d ad=some r) ?_ ?_
 ·refine A9 (λn1=>λa w=>∃(y:Int) (Q:List (List Int)),IV B S2 ai (47,[]) a w [(32,vI (↑c.A.length:Int)),(31,a4),(5,vP M 0),(4,vP b7 0),(33,vI y)] (Bx M 36 [vI d,(.slice (some ⟨K,0,none⟩) (List.replicate ((↑c.A.length:Int):Int).toNat ([]:(List Int))).length u),(.slice (some ⟨W,0,none⟩) (List.replicate ((↑c.A.length:Int):Int).toNat (0:Int)).length F),vN,(.slice (some ⟨X,0,none⟩) (List.replicate ((↑c.C.length:Int):Int).toNat ((⟨0,0,false,false⟩:A3):A3)).length G),(.slice (some ⟨Y,0,none⟩) (List.replicate ((↑c.J.length:Int):Int).toNat (0:Int)).length H),(.slice (some ⟨Z,0,none⟩) (List.replicate ((↑c.J.length:Int):Int).toNat (0:Int)).length I)]::OS AB 3 (.slice (some ⟨Z,0,none⟩) (List.replicate ((↑c.J.length:Int):Int).toNat (0:Int)).length I) (List.replicate ((↑c.J.length:Int):Int).toNat (0:Int))::OS AB 3 (.slice (some ⟨Y,0,none⟩) (List.replicate ((↑c.J.length:Int):Int).toNat (0:Int)).length H) (List.replicate ((↑c.J.length:Int):Int).toNat (0:Int))::OS BQ 107 (.slice (some ⟨X,0,none⟩) (List.replicate ((↑c.C.length:Int):Int).toNat ((⟨0,0,false,false⟩:A3):A3)).length G) (List.replicate ((↑c.C.length:Int):Int).toNat ((⟨0,0,false,false⟩:A3):A3))::OS AB 3 (.slice (some ⟨W,0,none⟩) (List.replicate ((↑c.A.length:Int):Int).toNat (0:Int)).length F) (List.replicate ((↑c.A.length:Int):Int).toNat (0:Int))::OS (A5.sl AB) 29 (.slice (some ⟨K,0,none⟩) (List.replicate ((↑c.A.length:Int):Int).toNat ([]:(List Int))).length u) Q::Bx b7 36 [vI 0,vN,vN,vN,vN,vN,vN]::L) λ_ _=>AA y∧J8 N c (Ky N c d) n1 y Q=some r) N ?_ ?_ ?_
  ·intro aa ww hf hw;exact⟨0,(List.replicate ((↑c.A.length:Int):Int).toNat ([]:(List Int))),_,_,hf.sub (kp [32,31,5,4,33] O),hw,bm,(CJ.refl S2 ai),(iq (n:=0) O),E⟩
  ·rintro aa ww ⟨_,_,_,_,_,_,_,_,_,E⟩;rw[J8] at E;cases E
  rintro n1 aa ww ⟨y,Q,a5,f3,hf,hw,aj,a6,f4,E⟩;refine AK ?_ hf hw;clear hf hw ww aa;rw[J8] at E;refine AU ?_;refine AH O E (λdn E=>?_) (λdn E=>?_)
  ·refine AU ?_;refine A6 (AU ?_);have dp:=dm.mono' a6;refine BK E O O dp NZ.1 O λa7 E f5 dq=>?_;obtain⟨f6,_,dr⟩:=dq.lv;refine AU ?_;refine Dp QL O aj λa9 f7 bn ds=>AU ?_;have dt:=dr.mono ds;obtain⟨f8,f9,ga,rfl,gb,gc,ge,gf,gg,du,gh,gi,gj,gl,gm,gn⟩:=B1.ex dt;refine IH O O O ON QO.1 O bn .head O λba U gp=>AU ?_;refine Rp (kp [6,7,32,31,5,4,33] O) ?_;obtain⟨ak,bo,E⟩:=bd E;obtain⟨gq,bp,E⟩:=bd E;refine Nd (m:=[(6,vI y),(7,vP a9 0),(32,vI (↑c.A.length:Int)),(31,a4),(5,vP M 0),(4,vP b7 0),(33,vI y)]) 7 (λi v t=>match i with|0=>v=vP M 1|1=>v=(.slice (some ⟨K,0,none⟩) (List.replicate ((↑c.A.length:Int):Int).toNat ([]:(List Int))).length u)|2=>v=vI y∧AA y|3=>v=vP a9 5|4=>Sl a5 t AB v a7.An|5=>Sl (SN a5 ba t) t AB v ak|6=>EP (.slice (some ⟨K,0,none⟩) (List.replicate ((↑c.A.length:Int):Int).toNat ([]:(List Int))).length u) (y.toNat*((A5.sl AB)).sz+0) v|_=>False) [[],[(0,38)],[],[],[(3,41)],[(4,42)],[(1,39),(2,40)]] [(5,43),(6,44)] mo (by kernel_rfl) [6,7,32,31,5,4,33] O (by kernel_rfl) (by kernel_rfl) (by kernel_rfl) (kp [6,7,32,31,5,4,33] O) MO ?_ ?_
   ·refine A7.cons O Fy (A7.cons O Fy (A7.cons O Fy (A7.cons O Fy (A7.cons O ?_ ?_))))
    ·intro V t o;intro gr dv;have q:=o.st U;cases dv;refine AU ?_;have dw:=du.nw;exact B0 dw
    refine A7.cons O ?_ ?_
    ·intro V t o;intro dx ab;have q:=SN.st U o;have ab:=Sl.sn ba ab;have ab:Sl _ _ AB dx a7.An:=ab;have ay:=q.fz;refine E9 O O O NN O ay (B7 (St.all _) (ab.mono ay.ea.1 ay.ea.2) bo) λgs gu gv fg gw dy p=>?_;have bq:=p;have am:=ay.join dy bq ⟨OS.flat (λ{_ _ _ _ _ _} k=>k),trivial⟩;simp only[Acu,Acs] at am;obtain⟨gx,br,gy,dz⟩:=am.pubs .head;have an:=Fz.done o EX br;exact BB an.1 (Sl.mono' dz an.2)
    refine A7.cons O ?_ ?_
    ·intro V t o;intro gz d0 g0 d1;have q:=o.st U;cases d0;obtain⟨rfl,g1⟩:=d1;refine AU ?_;refine BY q (mt (mt (mt (mt (mt (mt mh)))))) O O Jl.1 bp O λg2 bs=>AU ?_;exact B0 bs
    exact trivial
   intro g3 d2 d3 ao g4 d4;have bt:=SN.st U d2;have ao:Sl _ _ AB d3 ak:=ao;obtain⟨d5,bu,E⟩:=bd E;refine Ed (r:=(A5.sl AB)) (l:=Q) (i:=y) (x:=d5) O O (KH ao) d4 bu Mh.id GH.1 (λ_=>rfl) bt (.tail (.tail (.tail (.tail (.tail (.tail .head)))))) λg5 bv g6=>AU ?_;refine BP (AU ?_);refine WF.nil (λaa ww hf hw=>?_);have bw:=bv.sel [1,1,1,1,1,1,1] 1 O;exact⟨(BT (y+1)),(upd Q y ak),_,_,hf.sub (kp [32,31,5,4,33] O),hw,bw,EX,(BV _),E⟩
  refine BM O (λaa ww hf hw=>?_);exact⟨Q,_,_,hf.sub (kp [5,4] O),hw,aj,a6,E⟩
 rintro aa ww ⟨ad,g7,g8,hf,hw,bx,g9,E⟩;refine AK ?_ hf hw;clear hf hw ww aa;rw[Ky] at E;refine AU ?_;refine FK O O O O Ij.1 O bx (.tail (.tail (.tail (.tail (.tail (.tail .head)))))) O λha bz hc=>AU ?_;refine CO (λaa ww hf hw=>?_);obtain⟨hd,b0,he,d6⟩:=bz.pubs (.tail (.tail (.tail (.tail (.tail .head)))));obtain⟨hg,b1,hi,d7⟩:=b0.pubs (.tail (.tail (.tail (.tail .head))));obtain⟨hj,b2,hk,d8⟩:=b1.pubs (.tail (.tail (.tail .head)));obtain⟨hl,b3,hm,d9⟩:=b2.pubs (.tail (.tail .head));obtain⟨hn,b4,eb,ec⟩:=b3.pubs (.tail .head);have ap:=b4.sel [1] 1 O;have ed:=d6.nw;have ee:=d7.nw;have ef:=d8.nw;have eg:=d9.mono' eb;have b5:=ap.drop .head;cases E;exact K6 hf O hw (Iy (W5 hf hw ap O mh Ij.1 O) K5) O EX ⟨(BU.mk (x:=(⟨d,ad,(List.replicate ((↑c.A.length:Int):Int).toNat (0:Int)),[],(List.replicate ((↑c.C.length:Int):Int).toNat ((⟨0,0,false,false⟩:A3):A3)),(List.replicate ((↑c.J.length:Int):Int).toNat (0:Int)),(List.replicate ((↑c.J.length:Int):Int).toNat (0:Int))⟩:AI)) dj ed ee (.inl ⟨O,O⟩) ef eg ec),b5⟩
def Ci (j:St S L h) {c:Int}(i:AA c) {b:Int}(g:AA b) {a:Int}(d:AA a) {r:Bool}(E:DE N c b a=some r):
 CL prog 143 #[vI c,vI b,vI a] S h (λv S' h'=>v= .bool r∧St S' (L) h'):=by
 refine CL.go 15 func143 O ntmps143 O λB=>?_;rw[DE] at E;exact RT
def Cu (d:St S L h) {a:Int}(b:AA a) {r:Bool}(E:C2 N a=some r):
 CL prog 144 #[vI a] S h (λv S' h'=>v= .bool r∧St S' (L) h'):=by
 refine CL.go 5 func144 O ntmps144 O λB=>?_;rw[C2] at E;refine AU ?_;refine CX (.inl O) d (AU ?_);refine BE E O O O Hw O (λg c h' o=>Ci (St.all h') b (iq (n:=0) O) (iq (n:=1125899906842624) O) c) λg E=>AU ?_;exact By (kp [2] O) λj i k=>RT
def P6 (hs:St S L h) {t:Value}{b:AF}(W:Rd S h B3 t b) {r:Bool}(E:IB N b=some r):
 CL prog 74 #[t] S h (λv S' h'=>v= .bool r∧St S' (L) h'):=by
 refine CL.go (l:=[t]) 109 func74 O ntmps74 O λB=>?_;rw[IB] at E;refine WF.sl (CZ O W (λe=>by cases e) O hs λq1 S2 h3 s e5 G=>AJ 1 (DB O (AE (LF.nil (kp [1] O) (CU (CU (CX (.inl O) s (Nf O G AF.f_Name VH.1 O λq7 k8=>Vb P3 s.1 O k8 pQ.1 O λr9=>Pv O Tw O (KI O (AD O ?_))))))))));obtain⟨ak,j,E⟩:=bd E;refine AZ 6 17 (.bool ak) ?_ ?_
 ·cases al:(decide (500<(↑b.F.size:Int)))
  ·have j:=HX al j;refine AO O (Nf O G IJ kQ.1 O λcf a6=>AO O (G6 P3 s.1 O a6 nH.1 O λcg a7=>AO O (LE O a7 nN.1 O λa8=>AO O ?_)));obtain⟨ch,am,j⟩:=bd j;refine JH O O O Hw O (λh' o=>Ci (St.all h') (Ls a8) (iq (n:=1) O) (iq (n:=16) O) am) (AO O (Ld O (AW O ?_)));cases j;exact A0 O
  have j:=HW al j;cases j;exact BI O O
 refine AD O ?_;obtain⟨an,k,E⟩:=bd E;refine AZ 5 23 (.bool an) ?_ ?_
 ·cases ao:ak
  ·have k:=HX ao k;refine AO O (Nf O G NV kP.1 O λci a9=>AO O (Fs P3 s.1 O a9 Fa.1 O λba=>AO O ?_));obtain⟨cj,ap,k⟩:=bd k;refine JH O O O Hw O (λh' o=>Ci (St.all h') ba (iq (n:=0) O) (iq (n:=64) O) ap) (AO O (Ld O (AW O ?_)));cases k;exact A0 O
  have k:=HW ao k;cases k;exact BI O O
 refine AD O ?_;obtain⟨i,m,E⟩:=bd E;refine AZ 6 30 (.bool i) ?_ ?_
 ·cases aq:an
  ·have m:=HX aq m;refine AO O (Nf O G Cp kO.1 O λck bb=>AO O (G6 P3 s.1 O bb nG.1 O λcl bc=>AO O (LE O bc NZ.1 O λbe=>AO O ?_)));obtain⟨cm,ar,m⟩:=bd m;refine JH O O O Hw O (λh' o=>Ci (St.all h') (Ls be) (iq (n:=1) O) (iq (n:=64) O) ar) (AO O (Ld O (AW O ?_)));cases m;exact A0 O
  have m:=HW aq m;cases m;exact BI O O
 refine AD O (AZ 5 36 (.bool (i||(decide (96<(↑b.C.length:Int))))) ?_ ?_)
 ·cases cn:i
  ·exact AO O (Nf O G HY kN.1 O λco bf=>AO O (G6 P3 s.1 O bf nF.1 O λcp bg=>AO O (LE O bg Ob.1 O λcq=>AO O (KI O (AW O (A0 O))))))
  exact BI O O
 refine AD O (AZ 5 42 (.bool ((i||(decide (96<(↑b.C.length:Int))))||(decide (40<(↑b.Af.length:Int))))) ?_ ?_)
 ·cases cr:(i||(decide (96<(↑b.C.length:Int))))
  ·exact AO O (Nf O G KZ kM.1 O λcs bh=>AO O (G6 P3 s.1 O bh nE.1 O λct bi=>AO O (LE O bi cI.1 O λcu=>AO O (KI O (AW O (A0 O))))))
  exact BI O O
 refine AD O (AZ 5 48 (.bool (((i||(decide (96<(↑b.C.length:Int))))||(decide (40<(↑b.Af.length:Int))))||(decide (128<(↑b.Ah.length:Int))))) ?_ ?_)
 ·cases cv:((i||(decide (96<(↑b.C.length:Int))))||(decide (40<(↑b.Af.length:Int))))
  ·exact AO O (Nf O G K2 kL.1 O λcw bj=>AO O (G6 P3 s.1 O bj nD.1 O λcx bk=>AO O (LE O bk cH.1 O λcy=>AO O (KI O (AW O (A0 O))))))
  exact BI O O
 refine AD O (AZ 5 54 (.bool ((((i||(decide (96<(↑b.C.length:Int))))||(decide (40<(↑b.Af.length:Int))))||(decide (128<(↑b.Ah.length:Int))))||(decide (128<(↑b.Ai.length:Int))))) ?_ ?_)
 ·cases cz:(((i||(decide (96<(↑b.C.length:Int))))||(decide (40<(↑b.Af.length:Int))))||(decide (128<(↑b.Ah.length:Int))))
  ·exact AO O (Nf O G Lo kK.1 O λc0 bl=>AO O (G6 P3 s.1 O bl nC.1 O λc1 bm=>AO O (LE O bm cG.1 O λc2=>AO O (KI O (AW O (A0 O))))))
  exact BI O O
 refine AD O (AZ 5 60 (.bool (((((i||(decide (96<(↑b.C.length:Int))))||(decide (40<(↑b.Af.length:Int))))||(decide (128<(↑b.Ah.length:Int))))||(decide (128<(↑b.Ai.length:Int))))||(decide (40<(↑b.Ak.length:Int))))) ?_ ?_)
 ·cases c3:((((i||(decide (96<(↑b.C.length:Int))))||(decide (40<(↑b.Af.length:Int))))||(decide (128<(↑b.Ah.length:Int))))||(decide (128<(↑b.Ai.length:Int))))
  ·exact AO O (Nf O G KK kJ.1 O λc4 bn=>AO O (G6 P3 s.1 O bn nB.1 O λc5 bo=>AO O (LE O bo cF.1 O λc6=>AO O (KI O (AW O (A0 O))))))
  exact BI O O
 refine AD O (AZ 5 66 (.bool ((((((i||(decide (96<(↑b.C.length:Int))))||(decide (40<(↑b.Af.length:Int))))||(decide (128<(↑b.Ah.length:Int))))||(decide (128<(↑b.Ai.length:Int))))||(decide (40<(↑b.Ak.length:Int))))||(decide ((↑b.Aj.length:Int)≠3)))) ?_ ?_)
 ·cases c7:(((((i||(decide (96<(↑b.C.length:Int))))||(decide (40<(↑b.Af.length:Int))))||(decide (128<(↑b.Ah.length:Int))))||(decide (128<(↑b.Ai.length:Int))))||(decide (40<(↑b.Ak.length:Int))))
  ·exact AO O (Nf O G AF.f_Room Yk.1 O λc8 bp=>AO O (G6 P3 s.1 O bp GH.1 O λc9 bq=>AO O (LE O bq Ck.1 O λda=>AO O (K0 O (AW O (A0 O))))))
  exact BI O O
 refine AD O ?_;obtain⟨br,p,E⟩:=bd E;refine AZ 5 72 (.bool br) ?_ ?_
 ·cases au:((((((i||(decide (96<(↑b.C.length:Int))))||(decide (40<(↑b.Af.length:Int))))||(decide (128<(↑b.Ah.length:Int))))||(decide (128<(↑b.Ai.length:Int))))||(decide (40<(↑b.Ak.length:Int))))||(decide ((↑b.Aj.length:Int)≠3)))
  ·have p:=HX au p;refine AO O (Nf O G AF.f_Err eU.1 O λdb bs=>AO O (Fs P3 s.1 O bs Fa.1 O λbt=>AO O ?_));obtain⟨dc,av,p⟩:=bd p;refine JH O O O Hw O (λh' o=>Ci (St.all h') bt (iq (n:=0) O) (iq (n:=1099511627776) O) av) (AO O (Ld O (AW O ?_)));cases p;exact A0 O
  have p:=HW au p;cases p;exact BI O O
 refine By (kp [72,1] O) λac H I=>AH O E (λbu E=>?_) (λbu E=>?_)
 ·refine Ct (C3 O (kp [2] O) (CO (λu x c d=>?_)));cases E;exact TH c d O O (e5.trans I) ⟨O,H⟩
 refine Dv (CU (Ct ?_));have ad:=G.mono I;refine Nf O ad AF.f_Name VH.1 O λdd bv=>Vb Hc H.1 O bv pQ.1 O λde=>Pv O Tw O (AD O (Ea (kp [76,75,1] O) (AV (λa w=>IV B S2 ac (109,[]) a w [(1,q1)] (L) λ_ _=>E8 N b=some r) ?_ ?_)))
 ·refine A9 (λn1=>λa w=>∃(J:Int),IV B S2 ac (109,[]) a w [(75,vI (↑b.F.size:Int)),(1,q1),(76,vI J)] (L) λ_ _=>AA J∧E7 N b (E8 N b) n1 J=some r) N ?_ ?_ ?_
  ·intro u x c d;exact⟨0,_,_,c.sub (kp [75,1,76] O),d,H,(CJ.refl S2 ac),(iq (n:=0) O),E⟩
  ·rintro u x ⟨_,_,_,_,_,_,_,_,E⟩;rw[E7] at E;cases E
  rintro n1 u x ⟨J,df,dg,c,d,A,X,dh,E⟩;refine AK ?_ c d;clear c d x u;rw[E7] at E;refine Ct (JX O (Ea (kp [77,75,1,76] O) (CU (AH O E (λbw E=>?_) (λbw E=>?_)))))
  ·refine Dv (CU (A6 (Ct (AD O (C3 O (kp [3,75,1,76] O) (Ct ?_))))));have bx:=ad.mono X;refine Nf O bx AF.f_Name VH.1 O λdi bz=>Vb Hc A.1 O bz pQ.1 O λdj=>AD O ?_;obtain⟨g,Y,E⟩:=bd E;have b0:=RL Y;refine RQ O O Tw Y O (C3 O (kp [4,75,1,76] O) (Ct (AD O (JX O (AD O (AZ 3 88 (.bool ((decide (g<32))||(decide (126<g)))) ?_ ?_))))))
   ·cases b1:(decide (g<32))
    ·exact AO O (AD O (AO O (KI O (AW O (A0 O)))))
    exact BI O O
   refine AD O (AZ 3 92 (.bool (((decide (g<32))||(decide (126<g)))||(decide (g=34)))) ?_ ?_)
   ·cases b2:((decide (g<32))||(decide (126<g)))
    ·exact AO O (AD O (AO O (C6 O (AW O (A0 O)))))
    exact BI O O
   refine AD O (AZ 3 96 (.bool ((((decide (g<32))||(decide (126<g)))||(decide (g=34)))||(decide (g=92)))) ?_ ?_)
   ·cases b3:(((decide (g<32))||(decide (126<g)))||(decide (g=34)))
    ·exact AO O (AD O (AO O (C6 O (AW O (A0 O)))))
    exact BI O O
   refine Ea (kp [96,75,1,76] O) (AH O E (λaw E=>?_) (λaw E=>?_))
   ·refine Ct (C3 O (kp [2] O) (CO (λu x c d=>?_)));cases E;have ae:=e5.trans (I.trans X);exact TH c d O O ae ⟨O,A⟩
   refine Dv (BP (ID (.inl O) (Ja O (AD O (Ea (kp [76,75,1] O) (WF.nil (λu x c d=>?_)))))));exact⟨(BT (J+1)),_,_,c.sub (kp [75,1,76] O),d,A,X,(BV _),E⟩
  refine BM O (λu x c d=>?_);exact⟨_,_,c.sub (kp [1] O),d,A,X,E⟩
 rintro u x ⟨K,M,c,d,Q,U,E⟩;refine AK ?_ c d;clear c d x u;rw[E8] at E;refine CU (Ct ?_);have ax:=ad.mono U;refine Nf O ax AF.f_Room Yk.1 O λb4 ay=>G6 Hc Q.1 O ay GH.1 O λaz Z=>LE O Z Ck.1 O λb5=>AD O (Ea (kp [101,100,99] O) (AV (λa w=>IV B K M (109,[]) a w [] (L) λ_ _=>HL N=some r) ?_ ?_))
 ·refine A9 (λn3=>λa w=>∃(y:Int),IV B K M (109,[]) a w [(100,vI (↑b.Aj.length:Int)),(99,az),(101,vI y)] (L) λ_ _=>AA y∧E6 N b (HL N) n3 y=some r) N ?_ ?_ ?_
  ·intro u x c d;exact⟨0,_,_,c.sub (kp [100,99,101] O),d,Q,(CJ.refl K M),(iq (n:=0) O),E⟩
  ·rintro u x ⟨_,_,_,_,_,_,_,_,E⟩;rw[E6] at E;cases E
  rintro n3 u x ⟨y,b6,b7,c,d,z,D,b8,E⟩;refine AK ?_ c d;clear c d x u;rw[E6] at E;refine Ct (JX O (Ea (kp [102,100,99,101] O) (CU (AH O E (λa0 E=>?_) (λa0 E=>?_)))))
  ·refine Dv (CU (A6 (Ct ?_)));have a1:=Z.mono' D;obtain⟨b9,af,E⟩:=bd E;refine Pb O O a1 Ck.1 af O λca a2=>Fs Hc z.1 O a2 Fa.1 O λa3=>C3 O (kp [6,100,99,101] O) (CU (CX (.inl O) z (AD O ?_)));obtain⟨cb,ag,E⟩:=bd E;refine JH O O O KD O (λh' o=>Cu (St.all h') a3 ag) (Ld O (By (kp [107,100,99,101] O) λcc V ab=>AH O E (λa4 E=>?_) (λa4 E=>?_)))
   ·refine Ct (C3 O (kp [2] O) (CO (λu x c d=>?_)));cases E;have ah:=e5.trans (I.trans (U.trans (D.trans ab)));exact TH c d O O ah ⟨O,V⟩
   refine Dv (BP (ID (.inl O) (Ja O (AD O (Ea (kp [101,100,99] O) (WF.nil (λu x c d=>?_)))))));exact⟨(BT (y+1)),_,_,c.sub (kp [100,99,101] O),d,V,(D.trans ab),(BV _),E⟩
  refine BM O (λu x c d=>?_);exact⟨_,_,c.sub R5,d,z,D,E⟩
 rintro u x ⟨cd,ce,c,d,ai,a5,E⟩;refine AK ?_ c d;clear c d x u;rw[HL] at E;refine Ct (C3 O (kp [2] O) (CO (λu x c d=>?_)));cases E;have aj:=e5.trans (I.trans (U.trans a5));exact TH c d O O aj ⟨O,ai⟩
def Rn (F:St S L h) {b:ByteArray}(y:b.size≤maxLen) {r:Bool}(E:KT N b=some r):
 CL prog 200 #[.string b] S h (λv S' h'=>v= .bool r∧St S' (L) h'):=by
 refine CL.go (l:=[.string b]) 54 func200 O ntmps200 O λB=>?_;rw[KT] at E;refine Ct (C3 O (kp [0] O) (CU (Ct (AD O (Pv O Tw O (JX O (AD O (AZ 4 12 (.bool ((decide ((↑b.size:Int)<1))||(decide (24<(↑b.size:Int))))) ?_ ?_))))))))
 ·cases c1:(decide ((↑b.size:Int)<1))
  ·exact AO O (AD O (AO O (Pv O Tw O (AO O (KI O (AW O (A0 O)))))))
  exact BI O O
 refine AD O (AZ 3 16 (.bool (((decide ((↑b.size:Int)<1))||(decide (24<(↑b.size:Int))))||(b==(ByteArray.mk #[111,117,116])))) ?_ ?_)
 ·cases c2:((decide ((↑b.size:Int)<1))||(decide (24<(↑b.size:Int))))
  ·exact AO O (AD O (AO O (W0 O O O (AW O (A0 O)))))
  exact BI O O
 refine AD O ?_;obtain⟨G,d,E⟩:=bd E;refine AZ 4 21 (.bool G) ?_ ?_
 ·cases H:(((decide ((↑b.size:Int)<1))||(decide (24<(↑b.size:Int))))||(b==(ByteArray.mk #[111,117,116])))
  ·have d:=HX H d;refine AO O (AD O (AO O ?_));obtain⟨z5,t,d⟩:=bd d;have r6:=RL t;refine RQ O O Tw t O (AO O (JX O (AW O ?_)));cases d;exact A0 O
  have d:=HW H d;cases d;exact BI O O
 refine AD O ?_;obtain⟨K,g,E⟩:=bd E;refine AZ 4 26 (.bool K) ?_ ?_
 ·cases I:G
  ·have g:=HX I g;refine AO O (AD O (AO O ?_));obtain⟨z9,u,g⟩:=bd g;have M:=RL u;refine RQ O O Tw u O (AO O (KI O (AW O ?_)));cases g;exact A0 O
  have g:=HW I g;cases g;exact BI O O
 refine Ea (kp [26,0] O) (AH O E (λz E=>?_) (λz E=>?_))
 ·refine Ct (C3 O (kp [2] O) (CO (λo p i j=>?_)));cases E;exact TH i j O O (CJ.refl S h) ⟨O,F⟩
 refine Dv (CU (Ct (C3 O (kp [3,0] O) (AV (λa w=>IV B S h (54,[]) a w [] (L) λ_ _=>IC N=some r) ?_ ?_))))
 ·refine A9 (λJ=>λa w=>∃(k:Int),IV B S h (54,[]) a w [(0,.string b),(3,vI k)] (L) λ_ _=>AA k∧Gj N b (IC N) J k=some r) N ?_ ?_ ?_
  ·intro o p i j;exact⟨1,_,_,i.sub (kp [0,3] O),j,F,(CJ.refl S h),(iq (n:=1) O),E⟩
  ·rintro o p ⟨_,_,_,_,_,_,_,_,E⟩;rw[Gj] at E;cases E
  rintro J o p ⟨k,Q,U,i,j,m,s,V,E⟩;refine AK ?_ i j;clear i j p o;rw[Gj] at E;refine CU (Ct (AD O (AD O (Pv O Tw O (JX O (Ea (kp [30,0,3] O) (AH O E (λA E=>?_) (λA E=>?_))))))))
  ·refine Dv (CU (A6 (Ct (AD O (AD O ?_)))));obtain⟨c,q,E⟩:=bd E;have W:=RL q;refine RQ O O Tw q O (C3 O (kp [4,0,3] O) (Ct (AD O (JX O (AD O (AZ 3 41 (.bool ((decide (c<97))||(decide (122<c)))) ?_ ?_))))))
   ·cases X:(decide (c<97))
    ·exact AO O (AD O (AO O (KI O (AW O (A0 O)))))
    exact BI O O
   refine AD O (AZ 7 49 (.bool (((decide (c<97))||(decide (122<c)))&&((decide (c<48))||(decide (57<c))))) ?_ ?_)
   ·cases Y:((decide (c<97))||(decide (122<c)))
    ·exact BI O O
    refine AO O (AD O (AO O (JX O (AO O (AD O (AZ 3 48 (.bool ((decide (c<48))||(decide (57<c)))) ?_ ?_))))))
    ·cases Z:(decide (c<48))
     ·exact AO O (AD O (AO O (KI O (AO O (AW O (A0 O))))))
     exact BI O O
    exact AW O (A0 O)
   refine AD O (AZ 3 53 (.bool ((((decide (c<97))||(decide (122<c)))&&((decide (c<48))||(decide (57<c))))&&(decide (c≠95)))) ?_ ?_)
   ·cases ab:(((decide (c<97))||(decide (122<c)))&&((decide (c<48))||(decide (57<c))))
    ·exact BI O O
    exact AO O (AD O (AO O (K0 O (AW O (A0 O)))))
   refine Ea (kp [53,0,3] O) (AH O E (λC E=>?_) (λC E=>?_))
   ·refine Ct (C3 O (kp [2] O) (CO (λo p i j=>?_)));cases E;exact TH i j O O s ⟨O,m⟩
   refine Dv (BP (ID (.inl O) (AD O (Ja O (C3 O (kp [3,0] O) (WF.nil (λo p i j=>?_)))))));exact⟨(BT (k+1)),_,_,i.sub (kp [0,3] O),j,m,s,(BV _),E⟩
  refine BM O (λo p i j=>?_);exact⟨_,_,i.sub R5,j,m,s,E⟩
 rintro o p ⟨ac,ad,i,j,x,D,E⟩;refine AK ?_ i j;clear i j p o;rw[IC] at E;refine Ct (C3 O (kp [2] O) (CO (λo p i j=>?_)));cases E;exact TH i j O O D ⟨O,x⟩
def SW {c:Nat}{d:(List (AG×Bool))}(F:St S (MP (λk:AG=>Value.agg (AG.v k).toArray) Value.bool c d::L) h) {g:ByteArray}(i:g.size≤maxLen) {b:ByteArray}(j:b.size≤maxLen) {r:Bool×(List (AG×Bool))}(E:Kq N d g b=some r):
 CL prog 146 #[.map (some c),.string g,.string b] S h (λv S' h'=>v= .bool r.1∧St S' (MP (λk:AG=>Value.agg (AG.v k).toArray) Value.bool c r.2::L) h'):=by
 refine CL.go 23 func146 O ntmps146 O λB=>?_;rw[Kq] at E;refine AU ?_;refine W0 O O O (AU ?_);refine H6 (λa w=>∃(l:ByteArray),IV B S h (23,[]) a w [(0,.map (some c)),(2,.string b),(1,.string l)] (MP (λk:AG=>Value.agg (AG.v k).toArray) Value.bool c d::L) λ_ _=>l.size≤maxLen∧Ii N d b l=some r) ?_ ?_
 ·refine AH O E (λH E=>?_) (λH E=>?_)
  ·refine AU ?_;refine WF.nil (λy A p q=>?_);exact⟨(ByteArray.mk #[116,111,119,110]),_,_,p.sub (kp [0,2,1] O),q,F,(CJ.refl S h),(by decide),E⟩
  refine AU ?_;refine WF.nil (λy A p q=>?_);exact⟨g,_,_,p.sub (kp [0,2,1] O),q,F,(CJ.refl S h),i,E⟩
 rintro y A ⟨l,X,Y,p,q,C,Z,r2,E⟩;refine AK ?_ p q;clear p q A y;rw[Ii] at E;refine AU ?_;refine HO (cs:=[.string l,.string b]) qE O O O (AU ?_);refine Dp pB O C λb8 h9 s I=>?_;refine FK O O O O pR.1 O s .head O λJ m K=>AU ?_;refine CX (.inl O) m (AU ?_);refine BE E O O O sT O (λn t h' o=>Rn (St.all h') j t) λn E=>AU ?_;refine AZ 4 20 (.bool ((!n)||((Lr (λk:AG=>Value.agg (AG.v k).toArray) d (⟨l,b⟩:AG)).getD false))) ?_ ?_
 ·cases M:(!n)
  ·refine AU ?_;refine Nn (k0:=(⟨l,b⟩:AG)) (z:=false) P3 m (mt mh) O O bB YZ Aan O O (AU ?_);exact A0 O
  exact BI O O
 refine By (kp [20,7,0] O) λQ u U=>AH O E (λD E=>?_) (λD E=>?_)
 ·exact RT
 refine AU ?_;exact Vh (k0:=(⟨l,b⟩:AG)) (x:=true) u (.tail .head) O O O bB YZ λV G W=>RT
def FJ {d:Nat}{c2_:(List (AG×Bool))}{a:Nat}{g:Nat}{c3_:Bool}(s:St S (Bx d 225 [.map (some a)]::MP (λk:AG=>Value.agg (AG.v k).toArray) Value.bool a c2_::Bx g 4 [.bool c3_]::L) h) {b:ByteArray}(i:b.size≤maxLen) {c:ByteArray}(j:c.size≤maxLen) {r:(List (AG×Bool))×Bool}(E:Di N c2_ c3_ b c=some r):
 CL prog 145 #[.string b,.string c,vP d 0,vP g 0] S h (λv S' h'=>v= .tuple #[]∧St S' (Bx d 225 [.map (some a)]::MP (λk:AG=>Value.agg (AG.v k).toArray) Value.bool a r.1::Bx g 4 [.bool r.2]::L) h'):=by
 refine CL.go 13 func145 O ntmps145 O λB=>?_;rw[Di] at E;refine DQ (AU ?_);have n:=s.pick (.tail .head);refine Ga E O O O tH O (λt o=>SW n i j o) λt E y z A C p=>?_;obtain⟨rfl,q⟩:=p;refine AU ?_;refine FK O O O O XD.1 O q (.tail (.tail .head)) O λD l u=>AU ?_;refine WF.nil (λF G w x=>?_);have m:=l.sel [1,0,0] 0 O;cases E;exact K6 w O x K5 O EX ⟨O,m⟩
def PU (hs:St S L h) {Q:Value}{b:AF}(a9:Rd S h B3 Q b) {r:Bool}(E:J4 N b=some r):
 CL prog 75 #[Q] S h (λv S' h'=>v= .bool r∧St S' (L) h'):=by
 refine CL.go 106 func75 O ntmps75 O λB=>?_;rw[J4] at E;refine AU ?_;refine CZ O a9 CE O hs λq1 S2 h3 e4 e5 k6=>AU ?_;refine Xo (K:=0) (E:=0) O e4 (λk:AG=>Value.agg (AG.v k).toArray) Value.bool λm h8 e6 jp=>Dp pD O e6 λl jq c1 jr=>?_;refine FK O O O O pT.1 O c1 .head O λjs c2 jt=>AU ?_;refine Dp Aao O c2 λc ju c3 jv=>?_;refine FK O O O O XD.1 O c3 .head O λbq c4 jw=>AU ?_;refine Rv O O O ?_;have c5:=k6.nw;have e7:=c5.fl IJ;obtain⟨e8,_,e9⟩:=e7.ll;refine AU ?_;refine AV (λa w=>∃(ba:Bool) (bb:(List (AG×Bool))),IV B S2 bq (106,[]) a w [(5,.func (.func 145) #[] #[vP l 0,vP c 0]),(4,vP c 0),(1,q1)] (Bx c 4 [.bool ba]::Bx l 225 [.map (some m)]::MP (λk:AG=>Value.agg (AG.v k).toArray) Value.bool m bb::L) λ_ _=>Fp N b ba bb=some r) ?_ ?_
 ·refine A9 (λn1=>λa w=>∃(ae:Int) (af:Bool) (ag:(List (AG×Bool))),IV B S2 bq (106,[]) a w [(24,vI (↑b.J.length:Int)),(23,e8),(5,.func (.func 145) #[] #[vP l 0,vP c 0]),(4,vP c 0),(1,q1),(25,vI ae)] (Bx c 4 [.bool af]::Bx l 225 [.map (some m)]::MP (λk:AG=>Value.agg (AG.v k).toArray) Value.bool m ag::L) λ_ _=>AA ae∧EE N b (Fp N b) n1 ae af ag=some r) N ?_ ?_ ?_
  ·intro i j d g;exact⟨0,true,([]:(List (AG×Bool))),_,_,d.sub (kp [24,23,5,4,1,25] O),g,c4,(CJ.refl S2 bq),(iq (n:=0) O),E⟩
  ·rintro i j ⟨_,_,_,_,_,_,_,_,_,_,E⟩;rw[EE] at E;cases E
  rintro n1 i j ⟨ae,af,ag,jx,jy,d,g,bf,c6,jz,E⟩;refine AK ?_ d g;clear d g j i;rw[EE] at E;refine AU ?_;refine AH O E (λfa E=>?_) (λfa E=>?_)
  ·refine AU ?_;refine A6 (AU ?_);have fb:=e9.mono' c6;refine BK E O O fb nN.1 O λj0 E j1 fc=>?_;have fd:=fc.sz;refine AU ?_;refine DQ (AU ?_);have c7:=bf.sel [1,1,0] 0 O;refine Ga E O O O Qd O (λbr c8=>FJ (c2_:=ag) (c3_:=af) c7 (by decide) fd c8) λbr E j2 j3 j4 j5 p=>?_;obtain⟨rfl,c9⟩:=p;refine AU ?_;refine BP (AU ?_);refine WF.nil (λi j d g=>?_);have da:=c9.sel [2,0,0] 0 O;exact⟨(BT (ae+1)),br.2,br.1,_,_,d.sub (kp [24,23,5,4,1,25] O),g,da,EX,(BV _),E⟩
  refine BM O (λi j d g=>?_);exact⟨af,ag,_,_,d.sub (kp [5,4,1] O),g,bf,c6,E⟩
 rintro i j ⟨ba,bb,bs,bt,d,g,db,fe,E⟩;refine AK ?_ d g;clear d g j i;rw[Fp] at E;have dc:=c5.mono fe;have ff:=dc.fl Cp;obtain⟨fg,_,fh⟩:=ff.ll;refine AU ?_;refine AV (λa w=>∃(bc:Bool) (be:(List (AG×Bool))),IV B bs bt (106,[]) a w [(5,.func (.func 145) #[] #[vP l 0,vP c 0]),(4,vP c 0),(1,q1)] (Bx c 4 [.bool bc]::Bx l 225 [.map (some m)]::MP (λk:AG=>Value.agg (AG.v k).toArray) Value.bool m be::L) λ_ _=>Fo N b bc be=some r) ?_ ?_
 ·refine A9 (λn3=>λa w=>∃(ah:Int) (ai:Bool) (aj:(List (AG×Bool))),IV B bs bt (106,[]) a w [(35,vI (↑b.A.length:Int)),(34,fg),(5,.func (.func 145) #[] #[vP l 0,vP c 0]),(4,vP c 0),(1,q1),(36,vI ah)] (Bx c 4 [.bool ai]::Bx l 225 [.map (some m)]::MP (λk:AG=>Value.agg (AG.v k).toArray) Value.bool m aj::L) λ_ _=>AA ah∧ED N b (Fo N b) n3 ah ai aj=some r) N ?_ ?_ ?_
  ·intro i j d g;exact⟨0,ba,bb,_,_,d.sub (kp [35,34,5,4,1,36] O),g,db,(CJ.refl bs bt),(iq (n:=0) O),E⟩
  ·rintro i j ⟨_,_,_,_,_,_,_,_,_,_,E⟩;rw[ED] at E;cases E
  rintro n3 i j ⟨ah,ai,aj,j6,j7,d,g,bg,dd,j8,E⟩;refine AK ?_ d g;clear d g j i;rw[ED] at E;refine AU ?_;refine AH O E (λfi E=>?_) (λfi E=>?_)
  ·refine AU ?_;refine A6 (AU ?_);have fj:=fh.mono' dd;refine BK E O O fj NZ.1 O λj9 E ka fk=>?_;obtain⟨kb,_,fm⟩:=fk.lv;refine AU ?_;refine Dp QL O bg λkc kd de fn=>?_;have fo:=fm.mono fn;obtain⟨fr,fs,ft,rfl,fp,ke,kf,fu,fv,fw,fx,fy,fz,f0,f1,f2⟩:=B1.ex fo;refine IH O O O ON QO.1 O de .head O λf3 bu f4=>AU ?_;refine DQ (AU ?_);have bv:=bu.sel [2,2,1,0] 0 O;refine Ga E O O O Qd O (λak bw=>FJ (c2_:=aj) (c3_:=ai) bv (by decide) fp bw) λak E f5 f6 f7 f8 p=>?_;obtain⟨rfl,bx⟩:=p;refine AU ?_;refine BP (AU ?_);refine WF.nil (λi j d g=>?_);have bz:=bx.sel [2,0,0] 1 O;exact⟨(BT (ah+1)),ak.2,ak.1,_,_,d.sub (kp [35,34,5,4,1,36] O),g,bz,EX,(BV _),E⟩
  refine BM O (λi j d g=>?_);exact⟨ai,aj,_,_,d.sub (kp [5,4,1] O),g,bg,dd,E⟩
 rintro i j ⟨bc,be,am,an,d,g,b0,df,E⟩;refine AK ?_ d g;clear d g j i;rw[Fo] at E;have bh:=dc.mono df;have dg:=bh.fl HY;obtain⟨dh,_,di⟩:=dg.ll;refine AU ?_;refine AV (λa w=>∃(U:Bool) (V:(List (AG×Bool))),IV B am an (106,[]) a w [(5,.func (.func 145) #[] #[vP l 0,vP c 0]),(4,vP c 0),(1,q1)] (Bx c 4 [.bool U]::Bx l 225 [.map (some m)]::MP (λk:AG=>Value.agg (AG.v k).toArray) Value.bool m V::L) λ_ _=>Fm N b U V=some r) ?_ ?_
 ·refine A9 (λn5=>λa w=>∃(o:Int) (q:Bool) (s:(List (AG×Bool))),IV B am an (106,[]) a w [(47,vI (↑b.C.length:Int)),(46,dh),(5,.func (.func 145) #[] #[vP l 0,vP c 0]),(4,vP c 0),(1,q1),(48,vI o)] (Bx c 4 [.bool q]::Bx l 225 [.map (some m)]::MP (λk:AG=>Value.agg (AG.v k).toArray) Value.bool m s::L) λ_ _=>AA o∧EC N b (Fm N b) n5 o q s=some r) N ?_ ?_ ?_
  ·intro i j d g;exact⟨0,bc,be,_,_,d.sub (kp [47,46,5,4,1,48] O),g,b0,(CJ.refl am an),(iq (n:=0) O),E⟩
  ·rintro i j ⟨_,_,_,_,_,_,_,_,_,_,E⟩;rw[EC] at E;cases E
  rintro n5 i j ⟨o,q,s,f9,ga,d,g,ao,bi,gb,E⟩;refine AK ?_ d g;clear d g j i;rw[EC] at E;refine AU ?_;refine AH O E (λdj E=>?_) (λdj E=>?_)
  ·refine AU ?_;refine A6 (AU ?_);have dk:=di.mono' bi;refine BK E O O dk Ob.1 O λgc E ge dl=>?_;obtain⟨gf,_,dm⟩:=dl.lv;refine AU ?_;refine Dp Ov O ao λgg gh b1 dn=>?_;have dp:=dm.mono dn;obtain⟨gi,gj,gl,rfl,dq,gm,gn,gp,gq,gr,gs,gu,gv,gw,gx,gy,gz,g0,g1,g2,g3,g4⟩:=CB.ex dp;refine IH O O O ON Oy.1 O b1 .head O λg5 b2 g6=>AU ?_;refine DQ (AU ?_);have b3:=b2.sel [2,2,1,0] 0 O;refine Ga E O O O Qd O (λap b4=>FJ (c2_:=s) (c3_:=q) b3 (by decide) dq b4) λap E g7 g8 g9 ha p=>?_;obtain⟨rfl,b5⟩:=p;refine AU ?_;refine BP (AU ?_);refine WF.nil (λi j d g=>?_);have b6:=b5.sel [2,0,0] 1 O;exact⟨(BT (o+1)),ap.2,ap.1,_,_,d.sub (kp [47,46,5,4,1,48] O),g,b6,EX,(BV _),E⟩
  refine BM O (λi j d g=>?_);exact⟨q,s,_,_,d.sub (kp [5,4,1] O),g,ao,bi,E⟩
 rintro i j ⟨U,V,aq,ar,d,g,b8,dr,E⟩;refine AK ?_ d g;clear d g j i;rw[Fm] at E;have bj:=bh.mono dr;have ds:=bj.fl KZ;obtain⟨dt,_,du⟩:=ds.ll;refine AU ?_;refine AV (λa w=>∃(W:Bool) (X:(List (AG×Bool))),IV B aq ar (106,[]) a w [(5,.func (.func 145) #[] #[vP l 0,vP c 0]),(4,vP c 0),(1,q1)] (Bx c 4 [.bool W]::Bx l 225 [.map (some m)]::MP (λk:AG=>Value.agg (AG.v k).toArray) Value.bool m X::L) λ_ _=>Fl N b W X=some r) ?_ ?_
 ·refine A9 (λn7=>λa w=>∃(t:Int) (u:Bool) (x:(List (AG×Bool))),IV B aq ar (106,[]) a w [(59,vI (↑b.Af.length:Int)),(58,dt),(5,.func (.func 145) #[] #[vP l 0,vP c 0]),(4,vP c 0),(1,q1),(60,vI t)] (Bx c 4 [.bool u]::Bx l 225 [.map (some m)]::MP (λk:AG=>Value.agg (AG.v k).toArray) Value.bool m x::L) λ_ _=>AA t∧EB N b (Fl N b) n7 t u x=some r) N ?_ ?_ ?_
  ·intro i j d g;exact⟨0,U,V,_,_,d.sub (kp [59,58,5,4,1,60] O),g,b8,(CJ.refl aq ar),(iq (n:=0) O),E⟩
  ·rintro i j ⟨_,_,_,_,_,_,_,_,_,_,E⟩;rw[EB] at E;cases E
  rintro n7 i j ⟨t,u,x,hb,hc,d,g,au,bk,hd,E⟩;refine AK ?_ d g;clear d g j i;rw[EB] at E;refine AU ?_;refine AH O E (λdv E=>?_) (λdv E=>?_)
  ·refine AU ?_;refine A6 (AU ?_);have dw:=du.mono' bk;refine BK E O O dw cI.1 O λhe E hg dx=>?_;obtain⟨hh,_,dy⟩:=dx.lv;refine AU ?_;refine Dp aH O au λhi hj b9 dz=>?_;have d0:=dy.mono dz;obtain⟨rfl,⟨d1,hk,hl,hm,hn,ho,hp⟩⟩:=HN.ex d0;refine FK O O O O bG.1 O b9 .head O λhq ca hr=>AU ?_;refine DQ (AU ?_);have cb:=ca.sel [2,2,1,0] 0 O;refine Ga E O O O Qd O (λav cc=>FJ (c2_:=x) (c3_:=u) cb (by decide) d1 cc) λav E ht hu hv hx p=>?_;obtain⟨rfl,cd⟩:=p;refine AU ?_;refine BP (AU ?_);refine WF.nil (λi j d g=>?_);have ce:=cd.sel [2,0,0] 1 O;exact⟨(BT (t+1)),av.2,av.1,_,_,d.sub (kp [59,58,5,4,1,60] O),g,ce,EX,(BV _),E⟩
  refine BM O (λi j d g=>?_);exact⟨u,x,_,_,d.sub (kp [5,4,1] O),g,au,bk,E⟩
 rintro i j ⟨W,X,aw,ax,d,g,cf,d2,E⟩;refine AK ?_ d g;clear d g j i;rw[Fl] at E;have bl:=bj.mono d2;have d3:=bl.fl KK;obtain⟨d4,_,d5⟩:=d3.ll;refine AU ?_;refine AV (λa w=>∃(Y:Bool) (Z:(List (AG×Bool))),IV B aw ax (106,[]) a w [(5,.func (.func 145) #[] #[vP l 0,vP c 0]),(4,vP c 0),(1,q1)] (Bx c 4 [.bool Y]::Bx l 225 [.map (some m)]::MP (λk:AG=>Value.agg (AG.v k).toArray) Value.bool m Z::L) λ_ _=>Fk N b Y Z=some r) ?_ ?_
 ·refine A9 (λn9=>λa w=>∃(y:Int) (z:Bool) (D:(List (AG×Bool))),IV B aw ax (106,[]) a w [(71,vI (↑b.Ak.length:Int)),(70,d4),(5,.func (.func 145) #[] #[vP l 0,vP c 0]),(4,vP c 0),(1,q1),(72,vI y)] (Bx c 4 [.bool z]::Bx l 225 [.map (some m)]::MP (λk:AG=>Value.agg (AG.v k).toArray) Value.bool m D::L) λ_ _=>AA y∧EA N b (Fk N b) n9 y z D=some r) N ?_ ?_ ?_
  ·intro i j d g;exact⟨0,W,X,_,_,d.sub (kp [71,70,5,4,1,72] O),g,cf,(CJ.refl aw ax),(iq (n:=0) O),E⟩
  ·rintro i j ⟨_,_,_,_,_,_,_,_,_,_,E⟩;rw[EA] at E;cases E
  rintro n9 i j ⟨y,z,D,hy,hz,d,g,ay,bm,h0,E⟩;refine AK ?_ d g;clear d g j i;rw[EA] at E;refine AU ?_;refine AH O E (λd6 E=>?_) (λd6 E=>?_)
  ·refine AU ?_;refine A6 (AU ?_);have d7:=d5.mono' bm;refine BK E O O d7 cF.1 O λh1 E h2 d8=>?_;obtain⟨h4,_,d9⟩:=d8.lv;refine AU ?_;refine Dp aE O ay λh5 h6 cg ea=>?_;have eb:=d9.mono ea;obtain⟨rfl,⟨ec,h7⟩⟩:=DW.ex eb;refine FK O O O O bD.1 O cg .head O λh9 ch ia=>AU ?_;refine DQ (AU ?_);have ci:=ch.sel [2,2,1,0] 0 O;refine Ga E O O O Qd O (λaz cj=>FJ (c2_:=D) (c3_:=z) ci (by decide) ec cj) λaz E ib ic id ie p=>?_;obtain⟨rfl,ck⟩:=p;refine AU ?_;refine BP (AU ?_);refine WF.nil (λi j d g=>?_);have cl:=ck.sel [2,0,0] 1 O;exact⟨(BT (y+1)),az.2,az.1,_,_,d.sub (kp [71,70,5,4,1,72] O),g,cl,EX,(BV _),E⟩
  refine BM O (λi j d g=>?_);exact⟨z,D,_,_,d.sub (kp [5,4,1] O),g,ay,bm,E⟩
 rintro i j ⟨Y,Z,a0,a1,d,g,cm,ed,E⟩;refine AK ?_ d g;clear d g j i;rw[Fk] at E;have bn:=bl.mono ed;have ee:=bn.fl K2;obtain⟨ef,_,eg⟩:=ee.ll;refine AU ?_;refine AV (λa w=>∃(ab:Bool) (ac:(List (AG×Bool))),IV B a0 a1 (106,[]) a w [(5,.func (.func 145) #[] #[vP l 0,vP c 0]),(4,vP c 0),(1,q1)] (Bx c 4 [.bool ab]::Bx l 225 [.map (some m)]::MP (λk:AG=>Value.agg (AG.v k).toArray) Value.bool m ac::L) λ_ _=>FG N b ab ac=some r) ?_ ?_
 ·refine A9 (λeh=>λa w=>∃(F:Int) (G:Bool) (H:(List (AG×Bool))),IV B a0 a1 (106,[]) a w [(83,vI (↑b.Ah.length:Int)),(82,ef),(5,.func (.func 145) #[] #[vP l 0,vP c 0]),(4,vP c 0),(1,q1),(84,vI F)] (Bx c 4 [.bool G]::Bx l 225 [.map (some m)]::MP (λk:AG=>Value.agg (AG.v k).toArray) Value.bool m H::L) λ_ _=>AA F∧Dz N b (FG N b) eh F G H=some r) N ?_ ?_ ?_
  ·intro i j d g;exact⟨0,Y,Z,_,_,d.sub (kp [83,82,5,4,1,84] O),g,cm,(CJ.refl a0 a1),(iq (n:=0) O),E⟩
  ·rintro i j ⟨_,_,_,_,_,_,_,_,_,_,E⟩;rw[Dz] at E;cases E
  rintro eh i j ⟨F,G,H,ig,ih,d,g,a2,bo,ii,E⟩;refine AK ?_ d g;clear d g j i;rw[Dz] at E;refine AU ?_;refine AH O E (λei E=>?_) (λei E=>?_)
  ·refine AU ?_;refine A6 (AU ?_);have ej:=eg.mono' bo;refine BK E O O ej cH.1 O λij E ik ek=>?_;obtain⟨il,_,el⟩:=ek.lv;refine AU ?_;refine Dp aG O a2 λim io cn em=>?_;have en:=el.mono em;obtain⟨rfl,⟨eo,ip,ir,it,iu⟩⟩:=Et.ex en;refine FK O O O O bF.1 O cn .head O λiv co iw=>AU ?_;refine DQ (AU ?_);have cp:=co.sel [2,2,1,0] 0 O;refine Ga E O O O Qd O (λa3 cq=>FJ (c2_:=H) (c3_:=G) cp (by decide) eo cq) λa3 E iy iz i0 i1 p=>?_;obtain⟨rfl,cr⟩:=p;refine AU ?_;refine BP (AU ?_);refine WF.nil (λi j d g=>?_);have cs:=cr.sel [2,0,0] 1 O;exact⟨(BT (F+1)),a3.2,a3.1,_,_,d.sub (kp [83,82,5,4,1,84] O),g,cs,EX,(BV _),E⟩
  refine BM O (λi j d g=>?_);exact⟨G,H,_,_,d.sub (kp [5,4,1] O),g,a2,bo,E⟩
 rintro i j ⟨ab,ac,a4,a5,d,g,ct,ep,E⟩;refine AK ?_ d g;clear d g j i;rw[FG] at E;have eq:=bn.mono ep;have er:=eq.fl Lo;obtain⟨es,_,eu⟩:=er.ll;refine AU ?_;refine AV (λa w=>∃(a6:Bool),IV B a4 a5 (106,[]) a w [(4,vP c 0)] (Bx c 4 [.bool a6]::L) λ_ _=>FE N a6=some r) ?_ ?_
 ·refine A9 (λev=>λa w=>∃(I:Int) (M:Bool) (ad:(List (AG×Bool))),IV B a4 a5 (106,[]) a w [(95,vI (↑b.Ai.length:Int)),(94,es),(5,.func (.func 145) #[] #[vP l 0,vP c 0]),(4,vP c 0),(96,vI I)] (Bx c 4 [.bool M]::Bx l 225 [.map (some m)]::MP (λk:AG=>Value.agg (AG.v k).toArray) Value.bool m ad::L) λ_ _=>AA I∧Dy N b (FE N) ev I M ad=some r) N ?_ ?_ ?_
  ·intro i j d g;exact⟨0,ab,ac,_,_,d.sub (kp [95,94,5,4,96] O),g,ct,(CJ.refl a4 a5),(iq (n:=0) O),E⟩
  ·rintro i j ⟨_,_,_,_,_,_,_,_,_,_,E⟩;rw[Dy] at E;cases E
  rintro ev i j ⟨I,M,ad,i2,i3,d,g,a7,bp,i4,E⟩;refine AK ?_ d g;clear d g j i;rw[Dy] at E;refine AU ?_;refine AH O E (λew E=>?_) (λew E=>?_)
  ·refine AU ?_;refine A6 (AU ?_);have ey:=eu.mono' bp;refine BK E O O ey cG.1 O λi5 E i6 ez=>?_;obtain⟨i7,_,e0⟩:=ez.lv;refine AU ?_;refine Dp aF O a7 λi8 i9 cu e1=>?_;have e2:=e0.mono e1;obtain⟨rfl,⟨e3,ja,jb,jc,jd,je,jf⟩⟩:=G5.ex e2;refine FK O O O O bE.1 O cu .head O λjg cv jh=>AU ?_;refine DQ (AU ?_);have cw:=cv.sel [2,2,1,0] 0 O;refine Ga E O O O Qd O (λa8 cx=>FJ (c2_:=ad) (c3_:=M) cw (by decide) e3 cx) λa8 E ji jj jk jl p=>?_;obtain⟨rfl,cy⟩:=p;refine AU ?_;refine BP (AU ?_);refine WF.nil (λi j d g=>?_);have cz:=cy.sel [2,0,0] 1 O;exact⟨(BT (I+1)),a8.2,a8.1,_,_,d.sub (kp [95,94,5,4,96] O),g,cz,EX,(BV _),E⟩
  refine BM O (λi j d g=>?_);have c0:=a7.sel [0] 2 O;exact⟨M,_,_,d.sub (kp [4] O),g,c0,bp,E⟩
 rintro i j ⟨a6,jm,jn,d,g,fq,jo,E⟩;refine AK ?_ d g;clear d g j i;rw[FE] at E;exact RT
def IF (Z:St S L h) {d:Value}{i:(List Bz)}(g:Sl S h CG d i) {r:Bool}(E:Fe N i=some r):
 CL prog 147 #[d] S h (λv S' h'=>v= .bool r∧St S' (L) h'):=by
 refine CL.go 63 func147 O ntmps147 O λB=>?_;rw[Fe] at E;refine AU ?_;refine AH O E (λc4 E=>?_) (λc4 E=>?_)
 ·exact RT
 refine AU ?_;refine AV (λa w=>IV B S h (63,[]) a w [] (L) λ_ _=>Ht N=some r) ?_ ?_
 ·refine A9 (λX=>λa w=>∃(p:Int),IV B S h (63,[]) a w [(14,vI (↑i.length:Int)),(13,d),(0,d),(15,vI p)] (L) λ_ _=>AA p∧Fd N i (Ht N) X p=some r) N ?_ ?_ ?_
  ·intro m o j k;exact⟨0,_,_,j.sub (kp [14,13,0,15] O),k,Z,(CJ.refl S h),(iq (n:=0) O),E⟩
  ·rintro m o ⟨_,_,_,_,_,_,_,_,E⟩;rw[Fd] at E;cases E
  rintro X m o ⟨p,ab,ac,j,k,l,q,r9,E⟩;refine AK ?_ j k;clear j k o m;rw[Fd] at E;refine AU ?_;refine AH O E (λz E=>?_) (λz E=>?_)
  ·refine AU ?_;refine A6 (AU ?_);have A:=g.mono' q;refine BK E O O A LR.1 O λC E ad D=>?_;obtain⟨ae,_,F⟩:=D.lv;refine AU ?_;refine Dp Uq O l λaf ag s G=>AU ?_;have H:=F.mono G;obtain⟨rfl,⟨ah,ai⟩⟩:=CG.ex H;refine FK O O O O Ut.1 O s .head O λaj t ak=>AU ?_;refine AH O E (λI E=>?_) (λI E=>?_)
   ·exact RT
   refine AU ?_;refine ID (.inr ⟨mo,by kernel_rfl⟩) (AU ?_);obtain⟨J,b,E⟩:=bd E;refine AZ 21 61 (.bool J) ?_ ?_
   ·cases u:(decide (0<p))
    ·have b:=HX u b;cases b;exact BI O O
    have b:=HW u b;refine AU ?_;have K:=g.nw;refine BK b O O K LR.1 O λM b am an=>AU ?_;obtain⟨U,c,b⟩:=bd b;refine AZ 10 60 (.bool U) ?_ ?_
    ·cases x:(decide (C.Q≤M.Q))
     ·have c:=HX x c;refine AU ?_;have V:=g.nw;refine BK c O O V LR.1 O λao c ap aq=>AU ?_;cases c;exact A0 O
     have c:=HW x c;cases c;exact BI O O
    refine AU ?_;cases b;exact A0 O
   refine AU ?_;refine AH O E (λW E=>?_) (λW E=>?_)
   ·exact RT
   refine AU ?_;refine BP (AU ?_);refine WF.nil (λm o j k=>?_);have y:=t.drop .head;exact⟨(BT (p+1)),_,_,j.sub (kp [14,13,0,15] O),k,y,EX,(BV _),E⟩
  refine BM O (λm o j k=>?_);exact⟨_,_,j.sub R5,k,l,q,E⟩
 rintro m o ⟨ar,au,j,k,Y,av,E⟩;refine AK ?_ j k;clear j k o m;rw[Ht] at E;exact RT
end Go.Proofs.YtabonambpbofgaaGreat
