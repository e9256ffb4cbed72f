import Derived.Test.YtabonambpbofgaaGreatKInst
import Derived.Test.YtabonambpbofgaaGreatKForms
import Derived.Test.YtabonambpbofgaaGreatKSort5
import Derived.Test.YtabonambpbofgaaGreatKSortD
namespace Go.Proofs.YtabonambpbofgaaGreat
set_option linter.all false
open Go.RowKit
open Go.Proofs.Tryz
set_option maxRecDepth 10000
set_option maxHeartbeats 20000000
variable {N:Nat}{S:Nat→Prop}{L:List HP}{h:AS}
def OY (hs:St S L h) {r:AF}(E:Kb N=some r):
 CM prog 34 #[] S h (λv S' h'=>Rd S' h' B5 v r∧St S' (L) h'):=by
 refine CM.go 9 func34 O ntmps34 O λB=>?_;rw[Kb] at E;refine AU ?_;refine D0 Z0 O hs λb1 h2 z e4=>AU ?_;refine JJ (cs:=[.string (ByteArray.mk #[111])]) eI O O O O O O O z λb5 h6 A e8=>AU ?_;refine Gz (cs:=[vI 0,vI 0]) pN O O O (AU ?_);refine JJ (cs:=[vI 0,vI 0]) XI O O O O O O O A λX ab b ac=>JJ (cs:=[vI 100]) JU O O O O O O O b λc ad d ae=>AU ?_;have g:=d.bxos (r:=CH) (l:=([(⟨0,0⟩:By)]:List By)) (.tail .head) ⟨_,_,O,⟨O,⟨(iq (n:=0) O),(iq (n:=0) O)⟩⟩,O⟩ (by simp [maxLen]);obtain⟨af,i,ag,C⟩:=g.pubs (.tail .head);have j:=i.bxos (r:=AB) (l:=([100]:List Int)) .head ⟨_,_,O,⟨O,(iq (n:=100) O)⟩,O⟩ (by simp [maxLen]);obtain⟨ah,k,ai,D⟩:=j.pubs .head;refine Gz (cs:=[.string (ByteArray.mk #[112]),vI 0,vI 2,vI 1000,(.slice (some ⟨X,0,none⟩) 1 1),(.slice (some ⟨c,0,none⟩) 1 1),vI 1,vI 10,vI (-1),vI 0,vI 0,vN]) pM O O O (AU ?_);refine JJ (cs:=[.string (ByteArray.mk #[112]),vI 0,vI 2,vI 1000,(.slice (some ⟨X,0,none⟩) 1 1),(.slice (some ⟨c,0,none⟩) 1 1),vI 1,vI 10,vI (-1),vI 0,vI 0,vN]) eH O O O O O O O k λF aj m ak=>JJ (cs:=[vI 0,vI 0,vI 0]) JU O O O O O O O m λG am o an=>AU ?_;have p:=o.bxos (r:=A7.str) (l:=([(ByteArray.mk #[111])]:List ByteArray)) (.tail (.tail .head)) ⟨_,_,O,⟨O,(by decide)⟩,O⟩ (by simp [maxLen]);obtain⟨ao,q,ap,H⟩:=p.pubs (.tail (.tail .head));have I:=C.nw;have J:=D.nw;have s:=q.bxos (r:=B4) (l:=PY) (.tail .head) ⟨_,_,O,⟨_,_,_,O,(by decide),(iq (n:=0) O),(iq (n:=2) O),(iq (n:=1000) O),I,J,(iq (n:=1) O),(iq (n:=10) O),(iq (n:=(-1)) O),(iq (n:=0) O),(iq (n:=0) O),(.inl ⟨O,O⟩)⟩,O⟩ (by simp [maxLen,PY]);obtain⟨aq,t,ar,K⟩:=s.pubs (.tail .head);have u:=t.bxos (r:=AB) (l:=([0,0,0]:List Int)) .head ⟨_,_,O,⟨O,(iq (n:=0) O)⟩,⟨_,_,O,⟨O,(iq (n:=0) O)⟩,⟨_,_,O,⟨O,(iq (n:=0) O)⟩,O⟩⟩⟩ (by simp [maxLen]);obtain⟨au,w,av,M⟩:=u.pubs .head;refine Gz (cs:=[.string (ByteArray.mk #[98]),(.slice (some ⟨b5,0,none⟩) 1 1),vI 0,(.slice (some ⟨F,0,none⟩) 1 1),vN,vN,vN,vN,vN,(.slice (some ⟨G,0,none⟩) 3 3),vI 0]) vD O O O (AU ?_);refine FL O O O O NJ.1 O w .head O λaw a Q=>AU ?_;refine CO (λaa ww Y Z=>?_);have U:=H.nw;have V:=K.nw;have W:=M.mono' Q;have y:=a.drop .head;cases E;exact LC Y O Z (I4 (W4 Y Z a O mh NJ.1 O) LB) O EX ⟨(B5.mk (x:=(⟨(ByteArray.mk #[98]),([(ByteArray.mk #[111])]:List ByteArray),0,PY,[],[],[],[],[],([0,0,0]:List Int),0⟩:AF)) (by decide) U (iq (n:=0) O) V (.inl ⟨O,O⟩) (.inl ⟨O,O⟩) (.inl ⟨O,O⟩) (.inl ⟨O,O⟩) (.inl ⟨O,O⟩) W (iq (n:=0) O)),y⟩
def B8 (k:St S L h) {b:Value}{c:(List Int)}(a:Sl S h AB b c) {r:(List Int)}(E:BK N c=some r):
 CM prog 73 #[b] S h (λv S' h'=>St S' (OS AB 3 v r::L) h'):=by
 refine CM.go 8 func73 O ntmps73 O λB=>?_;rw[BK] at E;rcases a.cases with ⟨rfl,rfl⟩|⟨n,m,rfl,a⟩
 ·have s:(some ([]:List Int))=some r:=by simpa [chk,Ha] using E
  refine AU ?_;refine JX O O O aF (AU ?_);refine KK O (AU ?_);have d:=k.nil AB 3;cases E;exact GF d O O EX
 refine AU ?_;refine KM O O O aF (AU ?_);refine KL O (AU ?_);refine KO (r:=AB) JU O O k λv1 t g o=>AU ?_;have p:=a.mono' o;obtain⟨i,E⟩:=Lp E;refine Gl (r:=AB) (l:=([]:List Int)) (xs:=c) O O JU O (Sl.src p) O i O g (λ_=> .head) λu w j q=>AU ?_;cases E;exact GF j O O EX
def Sg (hs:St S L h) {ac:Value}{c:AF}(aq:Rd S h B5 ac c) {d:Int}(bb:AA d) {r:AI}(E:N9 N c d=some r):
 CM prog 36 #[ac,vI d] S h (λv S' h'=>Rd S' h' BO v r∧St S' (L) h'):=by
 refine CM.go 47 func36 O ntmps36 O λB=>?_;rw[N9] at E;refine AU ?_;refine Cg O aq CE O hs λq1 S2 h3 eh e5 k6=>D0 Ng O eh λb7 h8 j hm=>AU ?_;obtain⟨b6,E⟩:=Lp E;obtain⟨b8,E⟩:=Lp E;obtain⟨b9,E⟩:=Lp E;obtain⟨ca,E⟩:=Lp E;obtain⟨cb,E⟩:=Lp E;refine kR (m:=[(4,vP b7 0),(2,q1),(1,vI d)]) [23] [] [4,8,12,16,20,22] ⟨[(21,[8,12,16,20,24,28])],λi l=>match i,l with|21,[some a8,some ei,some ej,some ek,some el,some em]=>some (.agg ([a8]++[ei]++[ej]++[(vN:Value)]++[ek]++[el]++[em]).toArray)|_,_=>none⟩ (by kernel_rfl) (by kernel_rfl) (λi v t=>match i with|0=>v=vI d∧AA d|1=>Pt S2 t (A7.sl B4) v c.A|2=>Sl S2 t B4 v c.A|3=>v=vI (↑c.A.length:Int)∧AA (↑c.A.length:Int)|4=>Zn S2 h8 (A7.sl AB) 29 (List.replicate ((↑c.A.length:Int):Int).toNat ([]:(List Int))) v t|5=>Pt S2 t (A7.sl B4) v c.A|6=>Sl S2 t B4 v c.A|7=>v=vI (↑c.A.length:Int)∧AA (↑c.A.length:Int)|8=>Zn S2 h8 AB 3 (List.replicate ((↑c.A.length:Int):Int).toNat (0:Int)) v t|9=>Pt S2 t (A7.sl CD) v c.C|10=>Sl S2 t CD v c.C|11=>v=vI (↑c.C.length:Int)∧AA (↑c.C.length:Int)|12=>Zn S2 h8 BT 107 (List.replicate ((↑c.C.length:Int):Int).toNat ((⟨0,0,false,false⟩:A4):A4)) v t|13=>Pt S2 t (A7.sl A7.str) v c.H|14=>Sl S2 t A7.str v c.H|15=>v=vI (↑c.H.length:Int)∧AA (↑c.H.length:Int)|16=>Zn S2 h8 AB 3 (List.replicate ((↑c.H.length:Int):Int).toNat (0:Int)) v t|17=>Pt S2 t (A7.sl A7.str) v c.H|18=>Sl S2 t A7.str v c.H|19=>v=vI (↑c.H.length:Int)∧AA (↑c.H.length:Int)|20=>Zn S2 h8 AB 3 (List.replicate ((↑c.H.length:Int):Int).toNat (0:Int)) v t|21=>True|22=>Zy h8 36 [vI 0,vN,vN,vN,vN,vN,vN] v t|_=>False) [[],[],[(1,9)],[(2,10)],[(3,11)],[],[(5,13)],[(6,14)],[(7,15)],[],[(9,17)],[(10,18)],[(11,19)],[],[(13,21)],[(14,22)],[(15,23)],[],[(17,25)],[(18,26)],[(19,27)],[(0,8),(4,12),(8,16),(12,20),(16,24),(20,28)],[],[]] [(0,8),(4,12),(8,16),(12,20),(16,24),(20,28),(21,29),(22,5)] mo (by kernel_rfl) [4,2,1] O (by kernel_rfl) (by kernel_rfl) (by kernel_rfl) O (kp [4,2,1] O) (λi v h1 h2 o1 o2 D=>?_) (by kernel_rfl) (PJ O (PJ O (PJ O (PJ O (PJ O (kO (T:=36) O tG)))))) ?_ ?_ ?_
 ·match i,D with
   |0,D|3,D|7,D|11,D|15,D|19,D|21,D=>exact D
   |1,D|5,D|9,D|13,D|17,D=>exact NI.mono D (o2.ext λb hb=>Ab0 (j.1 b hb) o1.siz)
   |2,D|6,D|10,D|14,D|18,D=>exact Sl.mono' D (o2.ext λb hb=>Ab0 (j.1 b hb) o1.siz)
   |4,D|8,D|12,D|16,D|20,D=>exact D.mono j.1 o2
   |22,D=>exact D.mono o2
   |_+23,D=>exact D.elim
 ·exact trivial
 ·refine FW.cons O O O Fx (FW.cons O O O ?_ ?_)
  ·intro V t o;have q:=o.st j;have en:=k6.nw;have eo:=en.fl Cv;refine AU ?_;exact B1 eo
  refine FW.cons O O O ?_ ?_
  ·intro V t o;intro ep bc;have q:=o.st j;have bc:Pt _ _ (A7.sl B4) ep c.A:=bc;obtain⟨hn,_,eq⟩:=bc.ll;refine AU ?_;exact B1 eq
  refine FW.cons O O O ?_ ?_
  ·intro V t o;intro er be;have q:=o.st j;have be:Sl _ _ B4 er c.A:=be;have es:=be.le;refine AU ?_;exact B1 ⟨O,(Lj es)⟩
  refine FW.nw O O O (λ_ _ o _ eu=>by obtain⟨rfl,ho⟩:=eu;exact TY (r:=(A7.sl AB)) (zx:=[]) WV O ⟨_,O,.inl ⟨O,O⟩⟩ O O b6 O O o j.1 λv' h' o' r' f'=>BA o' ⟨r',f'⟩) ?_;refine FW.cons O O O ?_ ?_
  ·intro V t o;have q:=o.st j;have ev:=k6.nw;have ew:=ev.fl Cv;refine AU ?_;exact B1 ew
  refine FW.cons O O O ?_ ?_
  ·intro V t o;intro ey bf;have q:=o.st j;have bf:Pt _ _ (A7.sl B4) ey c.A:=bf;obtain⟨hp,_,ez⟩:=bf.ll;refine AU ?_;exact B1 ez
  refine FW.cons O O O ?_ ?_
  ·intro V t o;intro e0 bg;have q:=o.st j;have bg:Sl _ _ B4 e0 c.A:=bg;have e1:=bg.le;refine AU ?_;exact B1 ⟨O,(Lj e1)⟩
  refine FW.nw O O O (λ_ _ o _ e2=>by obtain⟨rfl,hq⟩:=e2;exact TY (r:=AB) (zx:=0) JU O ⟨O,by unfold AA;omega⟩ O O b8 O O o j.1 λv' h' o' r' f'=>BA o' ⟨r',f'⟩) ?_;refine FW.cons O O O ?_ ?_
  ·intro V t o;have q:=o.st j;have e3:=k6.nw;have e4:=e3.fl HW;refine AU ?_;exact B1 e4
  refine FW.cons O O O ?_ ?_
  ·intro V t o;intro e6 bh;have q:=o.st j;have bh:Pt _ _ (A7.sl CD) e6 c.C:=bh;obtain⟨ht,_,e7⟩:=bh.ll;refine AU ?_;exact B1 e7
  refine FW.cons O O O ?_ ?_
  ·intro V t o;intro e8 bi;have q:=o.st j;have bi:Sl _ _ CD e8 c.C:=bi;have e9:=bi.le;refine AU ?_;exact B1 ⟨O,(Lj e9)⟩
  refine FW.nw O O O (λ_ _ o _ fa=>by obtain⟨rfl,hu⟩:=fa;exact TY (r:=BT) (zx:=(⟨0,0,false,false⟩:A4)) eG O ⟨O,by unfold A4.ok AA;simp [IntKind.has,IntKind.min,IntKind.max,IntKind.bits,IntKind.signed]⟩ O O b9 O O o j.1 λv' h' o' r' f'=>BA o' ⟨r',f'⟩) ?_;refine FW.cons O O O ?_ ?_
  ·intro V t o;have q:=o.st j;have fb:=k6.nw;have fc:=fb.fl IH;refine AU ?_;exact B1 fc
  refine FW.cons O O O ?_ ?_
  ·intro V t o;intro fd bj;have q:=o.st j;have bj:Pt _ _ (A7.sl A7.str) fd c.H:=bj;obtain⟨hv,_,fe⟩:=bj.ll;refine AU ?_;exact B1 fe
  refine FW.cons O O O ?_ ?_
  ·intro V t o;intro ff af;have q:=o.st j;have af:Sl _ _ A7.str ff c.H:=af;have cc:=af.le;refine AU ?_;exact B1 ⟨O,(Lj cc)⟩
  refine FW.nw O O O (λ_ _ o _ cd=>by obtain⟨rfl,fh⟩:=cd;exact TY (r:=AB) (zx:=0) JU O ⟨O,by unfold AA;omega⟩ O O ca O O o j.1 λv' h' o' r' f'=>BA o' ⟨r',f'⟩) ?_;refine FW.cons O O O ?_ ?_
  ·intro V t o;have q:=o.st j;have ce:=k6.nw;have cf:=ce.fl IH;refine AU ?_;exact B1 cf
  refine FW.cons O O O ?_ ?_
  ·intro V t o;intro cg ag;have q:=o.st j;have ag:Pt _ _ (A7.sl A7.str) cg c.H:=ag;obtain⟨fi,_,ch⟩:=ag.ll;refine AU ?_;exact B1 ch
  refine FW.cons O O O ?_ ?_
  ·intro V t o;intro ci ah;have q:=o.st j;have ah:Sl _ _ A7.str ci c.H:=ah;have cj:=ah.le;refine AU ?_;exact B1 ⟨O,(Lj cj)⟩
  refine FW.nw O O O (λ_ _ o _ ck=>by obtain⟨rfl,fj⟩:=ck;exact TY (r:=AB) (zx:=0) JU O ⟨O,by unfold AA;omega⟩ O O cb O O o j.1 λv' h' o' r' f'=>BA o' ⟨r',f'⟩) ?_;refine FW.z [8,12,16,20,24,28] O O O (by kernel_rfl) ?_ ?_
  ·intro V t o;intro fk cl fm az fn a0 fo a1 fp a2 fq a3;have q:=o.st j;obtain⟨rfl,fr⟩:=cl;obtain⟨cm,ar,rfl,az⟩:=az;obtain⟨cn,au,rfl,a0⟩:=a0;obtain⟨co,av,rfl,a1⟩:=a1;obtain⟨cp,aw,rfl,a2⟩:=a2;obtain⟨cq,ax,rfl,a3⟩:=a3;refine AU ?_;refine Gz (cs:=[vI d,(.slice (some ⟨cm,0,none⟩) (List.replicate ((↑c.A.length:Int):Int).toNat ([]:(List Int))).length ar),(.slice (some ⟨cn,0,none⟩) (List.replicate ((↑c.A.length:Int):Int).toNat (0:Int)).length au),vN,(.slice (some ⟨co,0,none⟩) (List.replicate ((↑c.C.length:Int):Int).toNat ((⟨0,0,false,false⟩:A4):A4)).length av),(.slice (some ⟨cp,0,none⟩) (List.replicate ((↑c.H.length:Int):Int).toNat (0:Int)).length aw),(.slice (some ⟨cq,0,none⟩) (List.replicate ((↑c.H.length:Int):Int).toNat (0:Int)).length ax)]) mN O O O (AU ?_);exact B1 ⟨trivial,O,O⟩
  exact FW.al O Ng O O (FW.skip (by kernel_rfl) (trivial))
 intro fs cr ft ct fu cu fv cv fw cw fx cx fy cy cz f0 f1 c0 g bk;obtain⟨K,u,rfl,c1,c2,c3⟩:=cu;obtain⟨W,F,rfl,c4,c5,c6⟩:=cv;obtain⟨X,G,rfl,c7,c8,c9⟩:=cw;obtain⟨Y,I,rfl,da,db,dc⟩:=cx;obtain⟨Z,J,rfl,dd,de,df⟩:=cy;obtain⟨M,rfl,dg,dh,di⟩:=c0;have bl:=(Wo.cons (Nx (Nx (Nx (Nx (Nx (Wo.nil j cr) c1 c2 c3 Ab5) c4 c5 c6 (XC (g.of_ (s:=16) (s':=12) (by kernel_rfl) O O O O) Ab5)) c7 c8 c9 (XC (g.of_ (s:=20) (s':=16) (by kernel_rfl) O O O O) (XC (g.of_ (s:=20) (s':=12) (by kernel_rfl) O O O O) Ab5))) da db dc (XC (g.of_ (s:=24) (s':=20) (by kernel_rfl) O O O O) (XC (g.of_ (s:=24) (s':=16) (by kernel_rfl) O O O O) (XC (g.of_ (s:=24) (s':=12) (by kernel_rfl) O O O O) Ab5)))) dd de df (XC (g.of_ (s:=28) (s':=24) (by kernel_rfl) O O O O) (XC (g.of_ (s:=28) (s':=20) (by kernel_rfl) O O O O) (XC (g.of_ (s:=28) (s':=16) (by kernel_rfl) O O O O) (XC (g.of_ (s:=28) (s':=12) (by kernel_rfl) O O O O) Ab5))))) dg dh di (XC (g.of_ (s:=5) (s':=28) (by kernel_rfl) O O O O) (XC (g.of_ (s:=5) (s':=24) (by kernel_rfl) O O O O) (XC (g.of_ (s:=5) (s':=20) (by kernel_rfl) O O O O) (XC (g.of_ (s:=5) (s':=16) (by kernel_rfl) O O O O) (XC (g.of_ (s:=5) (s':=12) (by kernel_rfl) O O O O) Ab5)))))).st;obtain⟨rfl,dj⟩:=ct;obtain rfl:cz=Value.agg #[vI d,(.slice (some ⟨K,0,none⟩) (List.replicate ((↑c.A.length:Int):Int).toNat ([]:(List Int))).length u),(.slice (some ⟨W,0,none⟩) (List.replicate ((↑c.A.length:Int):Int).toNat (0:Int)).length F),vN,(.slice (some ⟨X,0,none⟩) (List.replicate ((↑c.C.length:Int):Int).toNat ((⟨0,0,false,false⟩:A4):A4)).length G),(.slice (some ⟨Y,0,none⟩) (List.replicate ((↑c.H.length:Int):Int).toNat (0:Int)).length I),(.slice (some ⟨Z,0,none⟩) (List.replicate ((↑c.H.length:Int):Int).toNat (0:Int)).length J)]:=(Abo (bk _ Ab8 29 _ (by kernel_rfl) O O)).symm;refine FL O O O O II.1 O bl .head O λai bm f2=>?_;have dk:=k6.nw;have dl:=dk.fl Cv;obtain⟨a4,_,dm⟩:=dl.ll;refine AU ?_;refine AQ (λa w=>∃(ad:List (List Int)),IV B S2 ai (47,[]) a w [(5,vP M 0),(4,vP b7 0)] (Bx M 36 [vI d,(.slice (some ⟨K,0,none⟩) (List.replicate ((↑c.A.length:Int):Int).toNat ([]:(List Int))).length u),(.slice (some ⟨W,0,none⟩) (List.replicate ((↑c.A.length:Int):Int).toNat (0:Int)).length F),vN,(.slice (some ⟨X,0,none⟩) (List.replicate ((↑c.C.length:Int):Int).toNat ((⟨0,0,false,false⟩:A4):A4)).length G),(.slice (some ⟨Y,0,none⟩) (List.replicate ((↑c.H.length:Int):Int).toNat (0:Int)).length I),(.slice (some ⟨Z,0,none⟩) (List.replicate ((↑c.H.length:Int):Int).toNat (0:Int)).length J)]::OS AB 3 (.slice (some ⟨Z,0,none⟩) (List.replicate ((↑c.H.length:Int):Int).toNat (0:Int)).length J) (List.replicate ((↑c.H.length:Int):Int).toNat (0:Int))::OS AB 3 (.slice (some ⟨Y,0,none⟩) (List.replicate ((↑c.H.length:Int):Int).toNat (0:Int)).length I) (List.replicate ((↑c.H.length:Int):Int).toNat (0:Int))::OS BT 107 (.slice (some ⟨X,0,none⟩) (List.replicate ((↑c.C.length:Int):Int).toNat ((⟨0,0,false,false⟩:A4):A4)).length G) (List.replicate ((↑c.C.length:Int):Int).toNat ((⟨0,0,false,false⟩:A4):A4))::OS AB 3 (.slice (some ⟨W,0,none⟩) (List.replicate ((↑c.A.length:Int):Int).toNat (0:Int)).length F) (List.replicate ((↑c.A.length:Int):Int).toNat (0:Int))::OS (A7.sl AB) 29 (.slice (some ⟨K,0,none⟩) (List.replicate ((↑c.A.length:Int):Int).toNat ([]:(List Int))).length u) ad::Bx b7 36 [vI 0,vN,vN,vN,vN,vN,vN]::L) λ_ _=>Kr N c d ad=some r) ?_ ?_
 ·refine A8 (λn1=>λa w=>∃(y:Int) (Q:List (List Int)),IV B S2 ai (47,[]) a w [(32,vI (↑c.A.length:Int)),(31,a4),(5,vP M 0),(4,vP b7 0),(33,vI y)] (Bx M 36 [vI d,(.slice (some ⟨K,0,none⟩) (List.replicate ((↑c.A.length:Int):Int).toNat ([]:(List Int))).length u),(.slice (some ⟨W,0,none⟩) (List.replicate ((↑c.A.length:Int):Int).toNat (0:Int)).length F),vN,(.slice (some ⟨X,0,none⟩) (List.replicate ((↑c.C.length:Int):Int).toNat ((⟨0,0,false,false⟩:A4):A4)).length G),(.slice (some ⟨Y,0,none⟩) (List.replicate ((↑c.H.length:Int):Int).toNat (0:Int)).length I),(.slice (some ⟨Z,0,none⟩) (List.replicate ((↑c.H.length:Int):Int).toNat (0:Int)).length J)]::OS AB 3 (.slice (some ⟨Z,0,none⟩) (List.replicate ((↑c.H.length:Int):Int).toNat (0:Int)).length J) (List.replicate ((↑c.H.length:Int):Int).toNat (0:Int))::OS AB 3 (.slice (some ⟨Y,0,none⟩) (List.replicate ((↑c.H.length:Int):Int).toNat (0:Int)).length I) (List.replicate ((↑c.H.length:Int):Int).toNat (0:Int))::OS BT 107 (.slice (some ⟨X,0,none⟩) (List.replicate ((↑c.C.length:Int):Int).toNat ((⟨0,0,false,false⟩:A4):A4)).length G) (List.replicate ((↑c.C.length:Int):Int).toNat ((⟨0,0,false,false⟩:A4):A4))::OS AB 3 (.slice (some ⟨W,0,none⟩) (List.replicate ((↑c.A.length:Int):Int).toNat (0:Int)).length F) (List.replicate ((↑c.A.length:Int):Int).toNat (0:Int))::OS (A7.sl AB) 29 (.slice (some ⟨K,0,none⟩) (List.replicate ((↑c.A.length:Int):Int).toNat ([]:(List Int))).length u) Q::Bx b7 36 [vI 0,vN,vN,vN,vN,vN,vN]::L) λ_ _=>AA y∧J2 N c (Kr N c d) n1 y Q=some r) N ?_ ?_ ?_
  ·intro aa ww hf hw;exact⟨0,(List.replicate ((↑c.A.length:Int):Int).toNat ([]:(List Int))),_,_,hf.sub (kp [32,31,5,4,33] O),hw,bm,(C2.refl S2 ai),(iq (n:=0) O),E⟩
  ·rintro aa ww ⟨_,_,_,_,_,_,_,_,_,E⟩;rw[J2] at E;cases E
  rintro n1 aa ww ⟨y,Q,a5,f3,hf,hw,aj,a6,f4,E⟩;refine AK ?_ hf hw;clear hf hw ww aa;rw[J2] at E;refine AU ?_;refine AH O E (λdn E=>?_) (λdn E=>?_)
  ·refine AU ?_;refine A5 (AU ?_);have dp:=dm.mono' a6;refine BI E O O dp NM.1 O λa7 E f5 dq=>?_;obtain⟨f6,_,dr⟩:=dq.lv;refine AU ?_;refine D0 P5 O aj λa9 f7 bn ds=>AU ?_;have dt:=dr.mono ds;obtain⟨f8,f9,ga,rfl,gb,gc,gd,ge,gf,du,gg,gh,gi,gj,gl,gm⟩:=B4.ex dt;refine JI O O O ON P7.1 O bn .head O λba U gn=>AU ?_;refine RW (kp [6,7,32,31,5,4,33] O) ?_;obtain⟨ak,bo,E⟩:=bd E;obtain⟨gp,bp,E⟩:=bd E;refine NS (m:=[(6,vI y),(7,vP a9 0),(32,vI (↑c.A.length:Int)),(31,a4),(5,vP M 0),(4,vP b7 0),(33,vI y)]) 7 (λi v t=>match i with|0=>v=vP M 1|1=>v=(.slice (some ⟨K,0,none⟩) (List.replicate ((↑c.A.length:Int):Int).toNat ([]:(List Int))).length u)|2=>v=vI y∧AA y|3=>v=vP a9 5|4=>Sl a5 t AB v a7.An|5=>Sl (SN a5 ba t) t AB v ak|6=>EP (.slice (some ⟨K,0,none⟩) (List.replicate ((↑c.A.length:Int):Int).toNat ([]:(List Int))).length u) (y.toNat*((A7.sl AB)).sz+0) v|_=>False) [[],[(0,38)],[],[],[(3,41)],[(4,42)],[(1,39),(2,40)]] [(5,43),(6,44)] mo (by kernel_rfl) [6,7,32,31,5,4,33] O (by kernel_rfl) (by kernel_rfl) (by kernel_rfl) (kp [6,7,32,31,5,4,33] O) MO ?_ ?_
   ·refine A6.cons O Fx (A6.cons O Fx (A6.cons O Fx (A6.cons O Fx (A6.cons O ?_ ?_))))
    ·intro V t o;intro gq dv;have q:=o.st U;cases dv;refine AU ?_;have dw:=du.nw;exact B1 dw
    refine A6.cons O ?_ ?_
    ·intro V t o;intro dx ab;have q:=SN.st U o;have ab:=Sl.sn ba ab;have ab:Sl _ _ AB dx a7.An:=ab;have ay:=q.fz;refine Fv O O O M8 O ay (B8 (St.all _) (ab.mono ay.ea.1 ay.ea.2) bo) λgr gs gt fg gu dy p=>?_;have bq:=p;have am:=ay.join dy bq ⟨OS.flat (λ{_ _ _ _ _ _} k=>k),trivial⟩;simp only[Abx,Abz] at am;obtain⟨gv,br,gw,dz⟩:=am.pubs .head;have an:=Fz.done o EX br;exact BA an.1 (Sl.mono' dz an.2)
    refine A6.cons O ?_ ?_
    ·intro V t o;intro gx d0 gy d1;have q:=o.st U;cases d0;obtain⟨rfl,gz⟩:=d1;refine AU ?_;refine BR q (mt (mt (mt (mt (mt (mt mh)))))) O O Jh.1 bp O λg0 bs=>AU ?_;exact B1 bs
    exact trivial
   intro g1 d2 d3 ao g2 d4;have bt:=SN.st U d2;have ao:Sl _ _ AB d3 ak:=ao;obtain⟨d5,bu,E⟩:=bd E;refine Ee (r:=(A7.sl AB)) (l:=Q) (i:=y) (x:=d5) O O (KB ao) d4 bu L4.id GU.1 (λ_=>rfl) bt (.tail (.tail (.tail (.tail (.tail (.tail .head)))))) λg3 bv g4=>AU ?_;refine BJ (AU ?_);refine WF.nil (λaa ww hf hw=>?_);have bw:=bv.sel [1,1,1,1,1,1,1] 1 O;exact⟨(BQ (y+1)),(upd Q y ak),_,_,hf.sub (kp [32,31,5,4,33] O),hw,bw,EX,(BW _),E⟩
  refine BL O (λaa ww hf hw=>?_);exact⟨Q,_,_,hf.sub (kp [5,4] O),hw,aj,a6,E⟩
 rintro aa ww ⟨ad,g5,g6,hf,hw,bx,g7,E⟩;refine AK ?_ hf hw;clear hf hw ww aa;rw[Kr] at E;refine AU ?_;refine FL O O O O II.1 O bx (.tail (.tail (.tail (.tail (.tail (.tail .head)))))) O λg8 bz g9=>AU ?_;refine CO (λaa ww hf hw=>?_);obtain⟨ha,b0,hc,d6⟩:=bz.pubs (.tail (.tail (.tail (.tail (.tail .head)))));obtain⟨hd,b1,he,d7⟩:=b0.pubs (.tail (.tail (.tail (.tail .head))));obtain⟨hg,b2,hi,d8⟩:=b1.pubs (.tail (.tail (.tail .head)));obtain⟨hj,b3,hk,d9⟩:=b2.pubs (.tail (.tail .head));obtain⟨hl,b4,eb,ec⟩:=b3.pubs (.tail .head);have ap:=b4.sel [1] 1 O;have ed:=d6.nw;have ee:=d7.nw;have ef:=d8.nw;have eg:=d9.mono' eb;have b5:=ap.drop .head;cases E;exact LC hf O hw (I4 (W4 hf hw ap O mh II.1 O) LB) O EX ⟨(BO.mk (x:=(⟨d,ad,(List.replicate ((↑c.A.length:Int):Int).toNat (0:Int)),[],(List.replicate ((↑c.C.length:Int):Int).toNat ((⟨0,0,false,false⟩:A4):A4)),(List.replicate ((↑c.H.length:Int):Int).toNat (0:Int)),(List.replicate ((↑c.H.length:Int):Int).toNat (0:Int))⟩:AI)) dj ed ee (.inl ⟨O,O⟩) ef eg ec),b5⟩
def Co (j:St S L h) {c:Int}(i:AA c) {b:Int}(g:AA b) {a:Int}(d:AA a) {r:Bool}(E:DJ N c b a=some r):
 CM prog 143 #[vI c,vI b,vI a] S h (λv S' h'=>v= .bool r∧St S' (L) h'):=by
 refine CM.go 15 func143 O ntmps143 O λB=>?_;rw[DJ] at E;exact RT
def C1 (d:St S L h) {a:Int}(b:AA a) {r:Bool}(E:DA N a=some r):
 CM prog 144 #[vI a] S h (λv S' h'=>v= .bool r∧St S' (L) h'):=by
 refine CM.go 5 func144 O ntmps144 O λB=>?_;rw[DA] at E;refine AU ?_;refine CV (.inl O) d (AU ?_);refine BC E O O O Hu O (λg c h' o=>Co (St.all h') b (iq (n:=0) O) (iq (n:=1125899906842624) O) c) λg E=>AU ?_;exact BZ (kp [2] O) λj i k=>RT
def Po (hs:St S L h) {t:Value}{b:AF}(V:Rd S h B5 t b) {r:Bool}(E:IB N b=some r):
 CM prog 74 #[t] S h (λv S' h'=>v= .bool r∧St S' (L) h'):=by
 refine CM.go (l:=[t]) 109 func74 O ntmps74 O λB=>?_;rw[IB] at E;refine WF.sl (Cg O V (λe=>by cases e) O hs λq1 S2 h3 s e5 F=>AJ 1 (Cs O (AE (LF.nil (kp [1] O) (CN (CN (CV (.inl O) s (Lq O F AF.f_Name U1.1 O λq7 k8=>VM OM s.1 O k8 oR.1 O λr9=>Pd O Tf O (KX O (AC O ?_))))))))));obtain⟨aj,j,E⟩:=bd E;refine AY 6 17 (.bool aj) ?_ ?_
 ·cases ak:(decide (500<(↑b.E.size:Int)))
  ·have j:=HV ak j;refine AN O (Lq O F IH jX.1 O λce a5=>AN O (H5 OM s.1 O a5 mK.1 O λcf a6=>AN O (Kc O a6 mP.1 O λa7=>AN O ?_)));obtain⟨cg,al,j⟩:=bd j;refine IW O O O Hu O (λh' o=>Co (St.all h') (Lj a7) (iq (n:=1) O) (iq (n:=16) O) al) (AN O (Kt O (AV O ?_)));cases j;exact AZ O
  have j:=HU ak j;cases j;exact BE O O
 refine AC O ?_;obtain⟨am,k,E⟩:=bd E;refine AY 5 23 (.bool am) ?_ ?_
 ·cases an:aj
  ·have k:=HV an k;refine AN O (Lq O F NG jW.1 O λch a8=>AN O (Eh OM s.1 O a8 Fi.1 O λa9=>AN O ?_));obtain⟨ci,ao,k⟩:=bd k;refine IW O O O Hu O (λh' o=>Co (St.all h') a9 (iq (n:=0) O) (iq (n:=64) O) ao) (AN O (Kt O (AV O ?_)));cases k;exact AZ O
  have k:=HU an k;cases k;exact BE O O
 refine AC O ?_;obtain⟨i,m,E⟩:=bd E;refine AY 6 30 (.bool i) ?_ ?_
 ·cases ap:am
  ·have m:=HV ap m;refine AN O (Lq O F Cv jV.1 O λcj ba=>AN O (H5 OM s.1 O ba mJ.1 O λck bb=>AN O (Kc O bb NM.1 O λbc=>AN O ?_)));obtain⟨cl,aq,m⟩:=bd m;refine IW O O O Hu O (λh' o=>Co (St.all h') (Lj bc) (iq (n:=1) O) (iq (n:=64) O) aq) (AN O (Kt O (AV O ?_)));cases m;exact AZ O
  have m:=HU ap m;cases m;exact BE O O
 refine AC O (AY 5 36 (.bool (i||(decide (96<(↑b.C.length:Int))))) ?_ ?_)
 ·cases cm:i
  ·exact AN O (Lq O F HW jU.1 O λcn be=>AN O (H5 OM s.1 O be mI.1 O λco bf=>AN O (Kc O bf OK.1 O λcp=>AN O (KX O (AV O (AZ O))))))
  exact BE O O
 refine AC O (AY 5 42 (.bool ((i||(decide (96<(↑b.C.length:Int))))||(decide (40<(↑b.Af.length:Int))))) ?_ ?_)
 ·cases cq:(i||(decide (96<(↑b.C.length:Int))))
  ·exact AN O (Lq O F KP jT.1 O λcr bg=>AN O (H5 OM s.1 O bg mH.1 O λcs bh=>AN O (Kc O bh bV.1 O λct=>AN O (KX O (AV O (AZ O))))))
  exact BE O O
 refine AC O (AY 5 48 (.bool (((i||(decide (96<(↑b.C.length:Int))))||(decide (40<(↑b.Af.length:Int))))||(decide (128<(↑b.Ah.length:Int))))) ?_ ?_)
 ·cases cu:((i||(decide (96<(↑b.C.length:Int))))||(decide (40<(↑b.Af.length:Int))))
  ·exact AN O (Lq O F Kw jS.1 O λcv bi=>AN O (H5 OM s.1 O bi mG.1 O λcw bj=>AN O (Kc O bj bU.1 O λcx=>AN O (KX O (AV O (AZ O))))))
  exact BE O O
 refine AC O (AY 5 54 (.bool ((((i||(decide (96<(↑b.C.length:Int))))||(decide (40<(↑b.Af.length:Int))))||(decide (128<(↑b.Ah.length:Int))))||(decide (128<(↑b.Ai.length:Int))))) ?_ ?_)
 ·cases cy:(((i||(decide (96<(↑b.C.length:Int))))||(decide (40<(↑b.Af.length:Int))))||(decide (128<(↑b.Ah.length:Int))))
  ·exact AN O (Lq O F Lf jR.1 O λcz bk=>AN O (H5 OM s.1 O bk mF.1 O λc0 bl=>AN O (Kc O bl bT.1 O λc1=>AN O (KX O (AV O (AZ O))))))
  exact BE O O
 refine AC O (AY 5 60 (.bool (((((i||(decide (96<(↑b.C.length:Int))))||(decide (40<(↑b.Af.length:Int))))||(decide (128<(↑b.Ah.length:Int))))||(decide (128<(↑b.Ai.length:Int))))||(decide (40<(↑b.Ak.length:Int))))) ?_ ?_)
 ·cases c2:((((i||(decide (96<(↑b.C.length:Int))))||(decide (40<(↑b.Af.length:Int))))||(decide (128<(↑b.Ah.length:Int))))||(decide (128<(↑b.Ai.length:Int))))
  ·exact AN O (Lq O F KC jQ.1 O λc3 bm=>AN O (H5 OM s.1 O bm mE.1 O λc4 bn=>AN O (Kc O bn bS.1 O λc5=>AN O (KX O (AV O (AZ O))))))
  exact BE O O
 refine AC O (AY 5 66 (.bool ((((((i||(decide (96<(↑b.C.length:Int))))||(decide (40<(↑b.Af.length:Int))))||(decide (128<(↑b.Ah.length:Int))))||(decide (128<(↑b.Ai.length:Int))))||(decide (40<(↑b.Ak.length:Int))))||(decide ((↑b.Aj.length:Int)≠3)))) ?_ ?_)
 ·cases c6:(((((i||(decide (96<(↑b.C.length:Int))))||(decide (40<(↑b.Af.length:Int))))||(decide (128<(↑b.Ah.length:Int))))||(decide (128<(↑b.Ai.length:Int))))||(decide (40<(↑b.Ak.length:Int))))
  ·exact AN O (Lq O F AF.f_Room YO.1 O λc7 bo=>AN O (H5 OM s.1 O bo GU.1 O λc8 bp=>AN O (Kc O bp CY.1 O λc9=>AN O (Ku O (AV O (AZ O))))))
  exact BE O O
 refine AC O ?_;obtain⟨bq,p,E⟩:=bd E;refine AY 5 72 (.bool bq) ?_ ?_
 ·cases ar:((((((i||(decide (96<(↑b.C.length:Int))))||(decide (40<(↑b.Af.length:Int))))||(decide (128<(↑b.Ah.length:Int))))||(decide (128<(↑b.Ai.length:Int))))||(decide (40<(↑b.Ak.length:Int))))||(decide ((↑b.Aj.length:Int)≠3)))
  ·have p:=HV ar p;refine AN O (Lq O F AF.f_Err dT.1 O λda br=>AN O (Eh OM s.1 O br Fi.1 O λbs=>AN O ?_));obtain⟨db,au,p⟩:=bd p;refine IW O O O Hu O (λh' o=>Co (St.all h') bs (iq (n:=0) O) (iq (n:=1099511627776) O) au) (AN O (Kt O (AV O ?_)));cases p;exact AZ O
  have p:=HU ar p;cases p;exact BE O O
 refine BZ (kp [72,1] O) λab G H=>AH O E (λbt E=>?_) (λbt E=>?_)
 ·refine Ce (Cb O (kp [2] O) (CO (λu x c d=>?_)));cases E;exact SH c d O O (e5.trans H) ⟨O,G⟩
 refine Dz (CN (Ce ?_));have ac:=F.mono H;refine Lq O ac AF.f_Name U1.1 O λdc bu=>VM Hj G.1 O bu oR.1 O λdd=>Pd O Tf O (AC O (Ec (kp [76,75,1] O) (AQ (λa w=>IV B S2 ab (109,[]) a w [(1,q1)] (L) λ_ _=>FC N b=some r) ?_ ?_)))
 ·refine A8 (λn1=>λa w=>∃(I:Int),IV B S2 ab (109,[]) a w [(75,vI (↑b.E.size:Int)),(1,q1),(76,vI I)] (L) λ_ _=>AA I∧FB N b (FC N b) n1 I=some r) N ?_ ?_ ?_
  ·intro u x c d;exact⟨0,_,_,c.sub (kp [75,1,76] O),d,G,(C2.refl S2 ab),(iq (n:=0) O),E⟩
  ·rintro u x ⟨_,_,_,_,_,_,_,_,E⟩;rw[FB] at E;cases E
  rintro n1 u x ⟨I,de,df,c,d,A,W,dg,E⟩;refine AK ?_ c d;clear c d x u;rw[FB] at E;refine Ce (JW O (Ec (kp [77,75,1,76] O) (CN (AH O E (λbv E=>?_) (λbv E=>?_)))))
  ·refine Dz (CN (A5 (Ce (AC O (Cb O (kp [3,75,1,76] O) (Ce ?_))))));have bw:=ac.mono W;refine Lq O bw AF.f_Name U1.1 O λdh bx=>VM Hj A.1 O bx oR.1 O λdi=>AC O ?_;obtain⟨g,X,E⟩:=bd E;have bz:=Qz X;refine Q7 O O Tf X O (Cb O (kp [4,75,1,76] O) (Ce (AC O (JW O (AC O (AY 3 88 (.bool ((decide (g<32))||(decide (126<g)))) ?_ ?_))))))
   ·cases b0:(decide (g<32))
    ·exact AN O (AC O (AN O (KX O (AV O (AZ O)))))
    exact BE O O
   refine AC O (AY 3 92 (.bool (((decide (g<32))||(decide (126<g)))||(decide (g=34)))) ?_ ?_)
   ·cases b1:((decide (g<32))||(decide (126<g)))
    ·exact AN O (AC O (AN O (Ct O (AV O (AZ O)))))
    exact BE O O
   refine AC O (AY 3 96 (.bool ((((decide (g<32))||(decide (126<g)))||(decide (g=34)))||(decide (g=92)))) ?_ ?_)
   ·cases b2:(((decide (g<32))||(decide (126<g)))||(decide (g=34)))
    ·exact AN O (AC O (AN O (Ct O (AV O (AZ O)))))
    exact BE O O
   refine Ec (kp [96,75,1,76] O) (AH O E (λav E=>?_) (λav E=>?_))
   ·refine Ce (Cb O (kp [2] O) (CO (λu x c d=>?_)));cases E;have ad:=e5.trans (H.trans W);exact SH c d O O ad ⟨O,A⟩
   refine Dz (BJ (Hv (.inl O) (H6 O (AC O (Ec (kp [76,75,1] O) (WF.nil (λu x c d=>?_)))))));exact⟨(BQ (I+1)),_,_,c.sub (kp [75,1,76] O),d,A,W,(BW _),E⟩
  refine BL O (λu x c d=>?_);exact⟨_,_,c.sub (kp [1] O),d,A,W,E⟩
 rintro u x ⟨J,K,c,d,M,Q,E⟩;refine AK ?_ c d;clear c d x u;rw[FC] at E;refine CN (Ce ?_);have aw:=ac.mono Q;refine Lq O aw AF.f_Room YO.1 O λb3 ax=>H5 Hj M.1 O ax GU.1 O λay Y=>Kc O Y CY.1 O λb4=>AC O (Ec (kp [101,100,99] O) (AQ (λa w=>IV B J K (109,[]) a w [] (L) λ_ _=>HM N=some r) ?_ ?_))
 ·refine A8 (λn3=>λa w=>∃(y:Int),IV B J K (109,[]) a w [(100,vI (↑b.Aj.length:Int)),(99,ay),(101,vI y)] (L) λ_ _=>AA y∧FA N b (HM N) n3 y=some r) N ?_ ?_ ?_
  ·intro u x c d;exact⟨0,_,_,c.sub (kp [100,99,101] O),d,M,(C2.refl J K),(iq (n:=0) O),E⟩
  ·rintro u x ⟨_,_,_,_,_,_,_,_,E⟩;rw[FA] at E;cases E
  rintro n3 u x ⟨y,b5,b6,c,d,z,D,b7,E⟩;refine AK ?_ c d;clear c d x u;rw[FA] at E;refine Ce (JW O (Ec (kp [102,100,99,101] O) (CN (AH O E (λaz E=>?_) (λaz E=>?_)))))
  ·refine Dz (CN (A5 (Ce ?_)));have a0:=Y.mono' D;obtain⟨b8,ae,E⟩:=bd E;refine M9 O O a0 CY.1 ae O λb9 a1=>Eh Hj z.1 O a1 Fi.1 O λa2=>Cb O (kp [6,100,99,101] O) (CN (CV (.inl O) z (AC O ?_)));obtain⟨ca,af,E⟩:=bd E;refine IW O O O J7 O (λh' o=>C1 (St.all h') a2 af) (Kt O (BZ (kp [107,100,99,101] O) λcb U Z=>AH O E (λa3 E=>?_) (λa3 E=>?_)))
   ·refine Ce (Cb O (kp [2] O) (CO (λu x c d=>?_)));cases E;have ag:=e5.trans (H.trans (Q.trans (D.trans Z)));exact SH c d O O ag ⟨O,U⟩
   refine Dz (BJ (Hv (.inl O) (H6 O (AC O (Ec (kp [101,100,99] O) (WF.nil (λu x c d=>?_)))))));exact⟨(BQ (y+1)),_,_,c.sub (kp [100,99,101] O),d,U,(D.trans Z),(BW _),E⟩
  refine BL O (λu x c d=>?_);exact⟨_,_,c.sub Ri,d,z,D,E⟩
 rintro u x ⟨cc,cd,c,d,ah,a4,E⟩;refine AK ?_ c d;clear c d x u;rw[HM] at E;refine Ce (Cb O (kp [2] O) (CO (λu x c d=>?_)));cases E;have ai:=e5.trans (H.trans (Q.trans a4));exact SH c d O O ai ⟨O,ah⟩
def RS (F:St S L h) {b:ByteArray}(y:b.size≤maxLen) {r:Bool}(E:KI N b=some r):
 CM prog 200 #[.string b] S h (λv S' h'=>v= .bool r∧St S' (L) h'):=by
 refine CM.go (l:=[.string b]) 54 func200 O ntmps200 O λB=>?_;rw[KI] at E;refine Ce (Cb O (kp [0] O) (CN (Ce (AC O (Pd O Tf O (JW O (AC O (AY 4 12 (.bool ((decide ((↑b.size:Int)<1))||(decide (24<(↑b.size:Int))))) ?_ ?_))))))))
 ·cases c1:(decide ((↑b.size:Int)<1))
  ·exact AN O (AC O (AN O (Pd O Tf O (AN O (KX O (AV O (AZ O)))))))
  exact BE O O
 refine AC O (AY 3 16 (.bool (((decide ((↑b.size:Int)<1))||(decide (24<(↑b.size:Int))))||(b==(ByteArray.mk #[111,117,116])))) ?_ ?_)
 ·cases c2:((decide ((↑b.size:Int)<1))||(decide (24<(↑b.size:Int))))
  ·exact AN O (AC O (AN O (Wl O O O (AV O (AZ O)))))
  exact BE O O
 refine AC O ?_;obtain⟨G,d,E⟩:=bd E;refine AY 4 21 (.bool G) ?_ ?_
 ·cases H:(((decide ((↑b.size:Int)<1))||(decide (24<(↑b.size:Int))))||(b==(ByteArray.mk #[111,117,116])))
  ·have d:=HV H d;refine AN O (AC O (AN O ?_));obtain⟨z5,t,d⟩:=bd d;have r6:=Qz t;refine Q7 O O Tf t O (AN O (JW O (AV O ?_)));cases d;exact AZ O
  have d:=HU H d;cases d;exact BE O O
 refine AC O ?_;obtain⟨K,g,E⟩:=bd E;refine AY 4 26 (.bool K) ?_ ?_
 ·cases I:G
  ·have g:=HV I g;refine AN O (AC O (AN O ?_));obtain⟨z9,u,g⟩:=bd g;have M:=Qz u;refine Q7 O O Tf u O (AN O (KX O (AV O ?_)));cases g;exact AZ O
  have g:=HU I g;cases g;exact BE O O
 refine Ec (kp [26,0] O) (AH O E (λz E=>?_) (λz E=>?_))
 ·refine Ce (Cb O (kp [2] O) (CO (λo p i j=>?_)));cases E;exact SH i j O O (C2.refl S h) ⟨O,F⟩
 refine Dz (CN (Ce (Cb O (kp [3,0] O) (AQ (λa w=>IV B S h (54,[]) a w [] (L) λ_ _=>IC N=some r) ?_ ?_))))
 ·refine A8 (λJ=>λa w=>∃(k:Int),IV B S h (54,[]) a w [(0,.string b),(3,vI k)] (L) λ_ _=>AA k∧Gj N b (IC N) J k=some r) N ?_ ?_ ?_
  ·intro o p i j;exact⟨1,_,_,i.sub (kp [0,3] O),j,F,(C2.refl S h),(iq (n:=1) O),E⟩
  ·rintro o p ⟨_,_,_,_,_,_,_,_,E⟩;rw[Gj] at E;cases E
  rintro J o p ⟨k,Q,U,i,j,m,s,V,E⟩;refine AK ?_ i j;clear i j p o;rw[Gj] at E;refine CN (Ce (AC O (AC O (Pd O Tf O (JW O (Ec (kp [30,0,3] O) (AH O E (λA E=>?_) (λA E=>?_))))))))
  ·refine Dz (CN (A5 (Ce (AC O (AC O ?_)))));obtain⟨c,q,E⟩:=bd E;have W:=Qz q;refine Q7 O O Tf q O (Cb O (kp [4,0,3] O) (Ce (AC O (JW O (AC O (AY 3 41 (.bool ((decide (c<97))||(decide (122<c)))) ?_ ?_))))))
   ·cases X:(decide (c<97))
    ·exact AN O (AC O (AN O (KX O (AV O (AZ O)))))
    exact BE O O
   refine AC O (AY 7 49 (.bool (((decide (c<97))||(decide (122<c)))&&((decide (c<48))||(decide (57<c))))) ?_ ?_)
   ·cases Y:((decide (c<97))||(decide (122<c)))
    ·exact BE O O
    refine AN O (AC O (AN O (JW O (AN O (AC O (AY 3 48 (.bool ((decide (c<48))||(decide (57<c)))) ?_ ?_))))))
    ·cases Z:(decide (c<48))
     ·exact AN O (AC O (AN O (KX O (AN O (AV O (AZ O))))))
     exact BE O O
    exact AV O (AZ O)
   refine AC O (AY 3 53 (.bool ((((decide (c<97))||(decide (122<c)))&&((decide (c<48))||(decide (57<c))))&&(decide (c≠95)))) ?_ ?_)
   ·cases ab:(((decide (c<97))||(decide (122<c)))&&((decide (c<48))||(decide (57<c))))
    ·exact BE O O
    exact AN O (AC O (AN O (Ku O (AV O (AZ O)))))
   refine Ec (kp [53,0,3] O) (AH O E (λC E=>?_) (λC E=>?_))
   ·refine Ce (Cb O (kp [2] O) (CO (λo p i j=>?_)));cases E;exact SH i j O O s ⟨O,m⟩
   refine Dz (BJ (Hv (.inl O) (AC O (H6 O (Cb O (kp [3,0] O) (WF.nil (λo p i j=>?_)))))));exact⟨(BQ (k+1)),_,_,i.sub (kp [0,3] O),j,m,s,(BW _),E⟩
  refine BL O (λo p i j=>?_);exact⟨_,_,i.sub Ri,j,m,s,E⟩
 rintro o p ⟨ac,ad,i,j,x,D,E⟩;refine AK ?_ i j;clear i j p o;rw[IC] at E;refine Ce (Cb O (kp [2] O) (CO (λo p i j=>?_)));cases E;exact SH i j O O D ⟨O,x⟩
def SA {c:Nat}{d:(List (AG×Bool))}(F:St S (MP (λk:AG=>Value.agg (AG.v k).toArray) Value.bool c d::L) h) {g:ByteArray}(i:g.size≤maxLen) {b:ByteArray}(j:b.size≤maxLen) {r:Bool×(List (AG×Bool))}(E:Kj N d g b=some r):
 CM prog 146 #[.map (some c),.string g,.string b] S h (λv S' h'=>v= .bool r.1∧St S' (MP (λk:AG=>Value.agg (AG.v k).toArray) Value.bool c r.2::L) h'):=by
 refine CM.go 23 func146 O ntmps146 O λB=>?_;rw[Kj] at E;refine AU ?_;refine Wl O O O (AU ?_);refine JH (λa w=>∃(l:ByteArray),IV B S h (23,[]) a w [(0,.map (some c)),(2,.string b),(1,.string l)] (MP (λk:AG=>Value.agg (AG.v k).toArray) Value.bool c d::L) λ_ _=>l.size≤maxLen∧Ih N d b l=some r) ?_ ?_
 ·refine AH O E (λH E=>?_) (λH E=>?_)
  ·refine AU ?_;refine WF.nil (λy A p q=>?_);exact⟨(ByteArray.mk #[116,111,119,110]),_,_,p.sub (kp [0,2,1] O),q,F,(C2.refl S h),(by decide),E⟩
  refine AU ?_;refine WF.nil (λy A p q=>?_);exact⟨g,_,_,p.sub (kp [0,2,1] O),q,F,(C2.refl S h),i,E⟩
 rintro y A ⟨l,X,Y,p,q,C,Z,r2,E⟩;refine AK ?_ p q;clear p q A y;rw[Ih] at E;refine AU ?_;refine Gz (cs:=[.string l,.string b]) pG O O O (AU ?_);refine D0 oA O C λb8 h9 s I=>?_;refine FL O O O O oU.1 O s .head O λJ m K=>AU ?_;refine CV (.inl O) m (AU ?_);refine BC E O O O rV O (λn t h' o=>RS (St.all h') j t) λn E=>AU ?_;refine AY 4 20 (.bool ((!n)||((Li (λk:AG=>Value.agg (AG.v k).toArray) d (⟨l,b⟩:AG)).getD false))) ?_ ?_
 ·cases M:(!n)
  ·refine AU ?_;refine Na (k0:=(⟨l,b⟩:AG)) (z:=false) OM m (mt mh) O O aO YE zK O O (AU ?_);exact AZ O
  exact BE O O
 refine BZ (kp [20,7,0] O) λQ u U=>AH O E (λD E=>?_) (λD E=>?_)
 ·exact RT
 refine AU ?_;exact VR (k0:=(⟨l,b⟩:AG)) (x:=true) u (.tail .head) O O O aO YE λV G W=>RT
def FK {d:Nat}{c2_:(List (AG×Bool))}{a:Nat}{g:Nat}{c3_:Bool}(s:St S (Bx d 225 [.map (some a)]::MP (λk:AG=>Value.agg (AG.v k).toArray) Value.bool a c2_::Bx g 4 [.bool c3_]::L) h) {b:ByteArray}(i:b.size≤maxLen) {c:ByteArray}(j:c.size≤maxLen) {r:(List (AG×Bool))×Bool}(E:Dt N c2_ c3_ b c=some r):
 CM prog 145 #[.string b,.string c,vP d 0,vP g 0] S h (λv S' h'=>v= .tuple #[]∧St S' (Bx d 225 [.map (some a)]::MP (λk:AG=>Value.agg (AG.v k).toArray) Value.bool a r.1::Bx g 4 [.bool r.2]::L) h'):=by
 refine CM.go 13 func145 O ntmps145 O λB=>?_;rw[Dt] at E;refine De (AU ?_);have n:=s.pick (.tail .head);refine GY E O O O sJ O (λt o=>SA n i j o) λt E y z A C p=>?_;obtain⟨rfl,q⟩:=p;refine AU ?_;refine FL O O O O Tg.1 O q (.tail (.tail .head)) O λD l u=>AU ?_;refine WF.nil (λF G w x=>?_);have m:=l.sel [1,0,0] 0 O;cases E;exact LC w O x LB O EX ⟨O,m⟩
def PG (hs:St S L h) {Q:Value}{b:AF}(a9:Rd S h B5 Q b) {r:Bool}(E:Jz N b=some r):
 CM prog 75 #[Q] S h (λv S' h'=>v= .bool r∧St S' (L) h'):=by
 refine CM.go 106 func75 O ntmps75 O λB=>?_;rw[Jz] at E;refine AU ?_;refine Cg O a9 CE O hs λq1 S2 h3 e4 e5 k6=>AU ?_;refine XX (K:=0) (E:=0) O e4 (λk:AG=>Value.agg (AG.v k).toArray) Value.bool λm h8 e6 jn=>D0 oD O e6 λl jo c1 jp=>?_;refine FL O O O O oW.1 O c1 .head O λjq c2 jr=>AU ?_;refine D0 zL O c2 λc js c3 jt=>?_;refine FL O O O O Tg.1 O c3 .head O λbq c4 ju=>AU ?_;refine Ra O O O ?_;have c5:=k6.nw;have e7:=c5.fl IH;obtain⟨e8,_,e9⟩:=e7.ll;refine AU ?_;refine AQ (λa w=>∃(ba:Bool) (bb:(List (AG×Bool))),IV B S2 bq (106,[]) a w [(5,.func (.func 145) #[] #[vP l 0,vP c 0]),(4,vP c 0),(1,q1)] (Bx c 4 [.bool ba]::Bx l 225 [.map (some m)]::MP (λk:AG=>Value.agg (AG.v k).toArray) Value.bool m bb::L) λ_ _=>Fp N b ba bb=some r) ?_ ?_
 ·refine A8 (λn1=>λa w=>∃(ae:Int) (af:Bool) (ag:(List (AG×Bool))),IV B S2 bq (106,[]) a w [(24,vI (↑b.H.length:Int)),(23,e8),(5,.func (.func 145) #[] #[vP l 0,vP c 0]),(4,vP c 0),(1,q1),(25,vI ae)] (Bx c 4 [.bool af]::Bx l 225 [.map (some m)]::MP (λk:AG=>Value.agg (AG.v k).toArray) Value.bool m ag::L) λ_ _=>AA ae∧EL N b (Fp N b) n1 ae af ag=some r) N ?_ ?_ ?_
  ·intro i j d g;exact⟨0,true,([]:(List (AG×Bool))),_,_,d.sub (kp [24,23,5,4,1,25] O),g,c4,(C2.refl S2 bq),(iq (n:=0) O),E⟩
  ·rintro i j ⟨_,_,_,_,_,_,_,_,_,_,E⟩;rw[EL] at E;cases E
  rintro n1 i j ⟨ae,af,ag,jv,jw,d,g,bf,c6,jx,E⟩;refine AK ?_ d g;clear d g j i;rw[EL] at E;refine AU ?_;refine AH O E (λfa E=>?_) (λfa E=>?_)
  ·refine AU ?_;refine A5 (AU ?_);have fb:=e9.mono' c6;refine BI E O O fb mP.1 O λjy E jz fc=>?_;have fd:=fc.sz;refine AU ?_;refine De (AU ?_);have c7:=bf.sel [1,1,0] 0 O;refine GY E O O O QN O (λbr c8=>FK (c2_:=ag) (c3_:=af) c7 (by decide) fd c8) λbr E j0 j1 j2 j3 p=>?_;obtain⟨rfl,c9⟩:=p;refine AU ?_;refine BJ (AU ?_);refine WF.nil (λi j d g=>?_);have da:=c9.sel [2,0,0] 0 O;exact⟨(BQ (ae+1)),br.2,br.1,_,_,d.sub (kp [24,23,5,4,1,25] O),g,da,EX,(BW _),E⟩
  refine BL O (λi j d g=>?_);exact⟨af,ag,_,_,d.sub (kp [5,4,1] O),g,bf,c6,E⟩
 rintro i j ⟨ba,bb,bs,bt,d,g,db,fe,E⟩;refine AK ?_ d g;clear d g j i;rw[Fp] at E;have dc:=c5.mono fe;have ff:=dc.fl Cv;obtain⟨fg,_,fh⟩:=ff.ll;refine AU ?_;refine AQ (λa w=>∃(bc:Bool) (be:(List (AG×Bool))),IV B bs bt (106,[]) a w [(5,.func (.func 145) #[] #[vP l 0,vP c 0]),(4,vP c 0),(1,q1)] (Bx c 4 [.bool bc]::Bx l 225 [.map (some m)]::MP (λk:AG=>Value.agg (AG.v k).toArray) Value.bool m be::L) λ_ _=>Fo N b bc be=some r) ?_ ?_
 ·refine A8 (λn3=>λa w=>∃(ah:Int) (ai:Bool) (aj:(List (AG×Bool))),IV B bs bt (106,[]) a w [(35,vI (↑b.A.length:Int)),(34,fg),(5,.func (.func 145) #[] #[vP l 0,vP c 0]),(4,vP c 0),(1,q1),(36,vI ah)] (Bx c 4 [.bool ai]::Bx l 225 [.map (some m)]::MP (λk:AG=>Value.agg (AG.v k).toArray) Value.bool m aj::L) λ_ _=>AA ah∧EK N b (Fo N b) n3 ah ai aj=some r) N ?_ ?_ ?_
  ·intro i j d g;exact⟨0,ba,bb,_,_,d.sub (kp [35,34,5,4,1,36] O),g,db,(C2.refl bs bt),(iq (n:=0) O),E⟩
  ·rintro i j ⟨_,_,_,_,_,_,_,_,_,_,E⟩;rw[EK] at E;cases E
  rintro n3 i j ⟨ah,ai,aj,j4,j5,d,g,bg,dd,j6,E⟩;refine AK ?_ d g;clear d g j i;rw[EK] at E;refine AU ?_;refine AH O E (λfi E=>?_) (λfi E=>?_)
  ·refine AU ?_;refine A5 (AU ?_);have fj:=fh.mono' dd;refine BI E O O fj NM.1 O λj7 E j8 fk=>?_;obtain⟨j9,_,fm⟩:=fk.lv;refine AU ?_;refine D0 P5 O bg λka kb de fn=>?_;have fo:=fm.mono fn;obtain⟨fr,fs,ft,rfl,fp,kc,kd,fu,fv,fw,fx,fy,fz,f0,f1,f2⟩:=B4.ex fo;refine JI O O O ON P7.1 O de .head O λf3 bu f4=>AU ?_;refine De (AU ?_);have bv:=bu.sel [2,2,1,0] 0 O;refine GY E O O O QN O (λak bw=>FK (c2_:=aj) (c3_:=ai) bv (by decide) fp bw) λak E f5 f6 f7 f8 p=>?_;obtain⟨rfl,bx⟩:=p;refine AU ?_;refine BJ (AU ?_);refine WF.nil (λi j d g=>?_);have bz:=bx.sel [2,0,0] 1 O;exact⟨(BQ (ah+1)),ak.2,ak.1,_,_,d.sub (kp [35,34,5,4,1,36] O),g,bz,EX,(BW _),E⟩
  refine BL O (λi j d g=>?_);exact⟨ai,aj,_,_,d.sub (kp [5,4,1] O),g,bg,dd,E⟩
 rintro i j ⟨bc,be,am,an,d,g,b0,df,E⟩;refine AK ?_ d g;clear d g j i;rw[Fo] at E;have bh:=dc.mono df;have dg:=bh.fl HW;obtain⟨dh,_,di⟩:=dg.ll;refine AU ?_;refine AQ (λa w=>∃(U:Bool) (V:(List (AG×Bool))),IV B am an (106,[]) a w [(5,.func (.func 145) #[] #[vP l 0,vP c 0]),(4,vP c 0),(1,q1)] (Bx c 4 [.bool U]::Bx l 225 [.map (some m)]::MP (λk:AG=>Value.agg (AG.v k).toArray) Value.bool m V::L) λ_ _=>Fm N b U V=some r) ?_ ?_
 ·refine A8 (λn5=>λa w=>∃(o:Int) (q:Bool) (s:(List (AG×Bool))),IV B am an (106,[]) a w [(47,vI (↑b.C.length:Int)),(46,dh),(5,.func (.func 145) #[] #[vP l 0,vP c 0]),(4,vP c 0),(1,q1),(48,vI o)] (Bx c 4 [.bool q]::Bx l 225 [.map (some m)]::MP (λk:AG=>Value.agg (AG.v k).toArray) Value.bool m s::L) λ_ _=>AA o∧EJ N b (Fm N b) n5 o q s=some r) N ?_ ?_ ?_
  ·intro i j d g;exact⟨0,bc,be,_,_,d.sub (kp [47,46,5,4,1,48] O),g,b0,(C2.refl am an),(iq (n:=0) O),E⟩
  ·rintro i j ⟨_,_,_,_,_,_,_,_,_,_,E⟩;rw[EJ] at E;cases E
  rintro n5 i j ⟨o,q,s,f9,ga,d,g,ao,bi,gb,E⟩;refine AK ?_ d g;clear d g j i;rw[EJ] at E;refine AU ?_;refine AH O E (λdj E=>?_) (λdj E=>?_)
  ·refine AU ?_;refine A5 (AU ?_);have dk:=di.mono' bi;refine BI E O O dk OK.1 O λgc E gd dl=>?_;obtain⟨ge,_,dm⟩:=dl.lv;refine AU ?_;refine D0 Og O ao λgf gg b1 dn=>?_;have dp:=dm.mono dn;obtain⟨gh,gi,gj,rfl,dq,gl,gm,gn,gp,gq,gr,gs,gt,gu,gv,gw,gx,gy,gz,g0,g1,g2⟩:=CD.ex dp;refine JI O O O ON Ok.1 O b1 .head O λg3 b2 g4=>AU ?_;refine De (AU ?_);have b3:=b2.sel [2,2,1,0] 0 O;refine GY E O O O QN O (λap b4=>FK (c2_:=s) (c3_:=q) b3 (by decide) dq b4) λap E g5 g6 g7 g8 p=>?_;obtain⟨rfl,b5⟩:=p;refine AU ?_;refine BJ (AU ?_);refine WF.nil (λi j d g=>?_);have b6:=b5.sel [2,0,0] 1 O;exact⟨(BQ (o+1)),ap.2,ap.1,_,_,d.sub (kp [47,46,5,4,1,48] O),g,b6,EX,(BW _),E⟩
  refine BL O (λi j d g=>?_);exact⟨q,s,_,_,d.sub (kp [5,4,1] O),g,ao,bi,E⟩
 rintro i j ⟨U,V,aq,ar,d,g,b8,dr,E⟩;refine AK ?_ d g;clear d g j i;rw[Fm] at E;have bj:=bh.mono dr;have ds:=bj.fl KP;obtain⟨dt,_,du⟩:=ds.ll;refine AU ?_;refine AQ (λa w=>∃(W:Bool) (X:(List (AG×Bool))),IV B aq ar (106,[]) a w [(5,.func (.func 145) #[] #[vP l 0,vP c 0]),(4,vP c 0),(1,q1)] (Bx c 4 [.bool W]::Bx l 225 [.map (some m)]::MP (λk:AG=>Value.agg (AG.v k).toArray) Value.bool m X::L) λ_ _=>Fl N b W X=some r) ?_ ?_
 ·refine A8 (λn7=>λa w=>∃(t:Int) (u:Bool) (x:(List (AG×Bool))),IV B aq ar (106,[]) a w [(59,vI (↑b.Af.length:Int)),(58,dt),(5,.func (.func 145) #[] #[vP l 0,vP c 0]),(4,vP c 0),(1,q1),(60,vI t)] (Bx c 4 [.bool u]::Bx l 225 [.map (some m)]::MP (λk:AG=>Value.agg (AG.v k).toArray) Value.bool m x::L) λ_ _=>AA t∧EI N b (Fl N b) n7 t u x=some r) N ?_ ?_ ?_
  ·intro i j d g;exact⟨0,U,V,_,_,d.sub (kp [59,58,5,4,1,60] O),g,b8,(C2.refl aq ar),(iq (n:=0) O),E⟩
  ·rintro i j ⟨_,_,_,_,_,_,_,_,_,_,E⟩;rw[EI] at E;cases E
  rintro n7 i j ⟨t,u,x,g9,ha,d,g,au,bk,hb,E⟩;refine AK ?_ d g;clear d g j i;rw[EI] at E;refine AU ?_;refine AH O E (λdv E=>?_) (λdv E=>?_)
  ·refine AU ?_;refine A5 (AU ?_);have dw:=du.mono' bk;refine BI E O O dw bV.1 O λhc E hd dx=>?_;obtain⟨he,_,dy⟩:=dx.lv;refine AU ?_;refine D0 Z4 O au λhg hh b9 dz=>?_;have d0:=dy.mono dz;obtain⟨rfl,⟨d1,hi,hj,hk,hl,hm,hn⟩⟩:=HN.ex d0;refine FL O O O O aT.1 O b9 .head O λho ca hp=>AU ?_;refine De (AU ?_);have cb:=ca.sel [2,2,1,0] 0 O;refine GY E O O O QN O (λav cc=>FK (c2_:=x) (c3_:=u) cb (by decide) d1 cc) λav E hq hr ht hu p=>?_;obtain⟨rfl,cd⟩:=p;refine AU ?_;refine BJ (AU ?_);refine WF.nil (λi j d g=>?_);have ce:=cd.sel [2,0,0] 1 O;exact⟨(BQ (t+1)),av.2,av.1,_,_,d.sub (kp [59,58,5,4,1,60] O),g,ce,EX,(BW _),E⟩
  refine BL O (λi j d g=>?_);exact⟨u,x,_,_,d.sub (kp [5,4,1] O),g,au,bk,E⟩
 rintro i j ⟨W,X,aw,ax,d,g,cf,d2,E⟩;refine AK ?_ d g;clear d g j i;rw[Fl] at E;have bl:=bj.mono d2;have d3:=bl.fl KC;obtain⟨d4,_,d5⟩:=d3.ll;refine AU ?_;refine AQ (λa w=>∃(Y:Bool) (Z:(List (AG×Bool))),IV B aw ax (106,[]) a w [(5,.func (.func 145) #[] #[vP l 0,vP c 0]),(4,vP c 0),(1,q1)] (Bx c 4 [.bool Y]::Bx l 225 [.map (some m)]::MP (λk:AG=>Value.agg (AG.v k).toArray) Value.bool m Z::L) λ_ _=>Fk N b Y Z=some r) ?_ ?_
 ·refine A8 (λn9=>λa w=>∃(y:Int) (z:Bool) (D:(List (AG×Bool))),IV B aw ax (106,[]) a w [(71,vI (↑b.Ak.length:Int)),(70,d4),(5,.func (.func 145) #[] #[vP l 0,vP c 0]),(4,vP c 0),(1,q1),(72,vI y)] (Bx c 4 [.bool z]::Bx l 225 [.map (some m)]::MP (λk:AG=>Value.agg (AG.v k).toArray) Value.bool m D::L) λ_ _=>AA y∧EH N b (Fk N b) n9 y z D=some r) N ?_ ?_ ?_
  ·intro i j d g;exact⟨0,W,X,_,_,d.sub (kp [71,70,5,4,1,72] O),g,cf,(C2.refl aw ax),(iq (n:=0) O),E⟩
  ·rintro i j ⟨_,_,_,_,_,_,_,_,_,_,E⟩;rw[EH] at E;cases E
  rintro n9 i j ⟨y,z,D,hv,hx,d,g,ay,bm,hy,E⟩;refine AK ?_ d g;clear d g j i;rw[EH] at E;refine AU ?_;refine AH O E (λd6 E=>?_) (λd6 E=>?_)
  ·refine AU ?_;refine A5 (AU ?_);have d7:=d5.mono' bm;refine BI E O O d7 bS.1 O λhz E h0 d8=>?_;obtain⟨h1,_,d9⟩:=d8.lv;refine AU ?_;refine D0 Z1 O ay λh2 h4 cg ea=>?_;have eb:=d9.mono ea;obtain⟨rfl,⟨ec,h5⟩⟩:=Dc.ex eb;refine FL O O O O aQ.1 O cg .head O λh6 ch h7=>AU ?_;refine De (AU ?_);have ci:=ch.sel [2,2,1,0] 0 O;refine GY E O O O QN O (λaz cj=>FK (c2_:=D) (c3_:=z) ci (by decide) ec cj) λaz E h9 ia ib ic p=>?_;obtain⟨rfl,ck⟩:=p;refine AU ?_;refine BJ (AU ?_);refine WF.nil (λi j d g=>?_);have cl:=ck.sel [2,0,0] 1 O;exact⟨(BQ (y+1)),az.2,az.1,_,_,d.sub (kp [71,70,5,4,1,72] O),g,cl,EX,(BW _),E⟩
  refine BL O (λi j d g=>?_);exact⟨z,D,_,_,d.sub (kp [5,4,1] O),g,ay,bm,E⟩
 rintro i j ⟨Y,Z,a0,a1,d,g,cm,ed,E⟩;refine AK ?_ d g;clear d g j i;rw[Fk] at E;have bn:=bl.mono ed;have ee:=bn.fl Kw;obtain⟨ef,_,eg⟩:=ee.ll;refine AU ?_;refine AQ (λa w=>∃(ab:Bool) (ac:(List (AG×Bool))),IV B a0 a1 (106,[]) a w [(5,.func (.func 145) #[] #[vP l 0,vP c 0]),(4,vP c 0),(1,q1)] (Bx c 4 [.bool ab]::Bx l 225 [.map (some m)]::MP (λk:AG=>Value.agg (AG.v k).toArray) Value.bool m ac::L) λ_ _=>FI N b ab ac=some r) ?_ ?_
 ·refine A8 (λeh=>λa w=>∃(F:Int) (G:Bool) (I:(List (AG×Bool))),IV B a0 a1 (106,[]) a w [(83,vI (↑b.Ah.length:Int)),(82,ef),(5,.func (.func 145) #[] #[vP l 0,vP c 0]),(4,vP c 0),(1,q1),(84,vI F)] (Bx c 4 [.bool G]::Bx l 225 [.map (some m)]::MP (λk:AG=>Value.agg (AG.v k).toArray) Value.bool m I::L) λ_ _=>AA F∧D7 N b (FI N b) eh F G I=some r) N ?_ ?_ ?_
  ·intro i j d g;exact⟨0,Y,Z,_,_,d.sub (kp [83,82,5,4,1,84] O),g,cm,(C2.refl a0 a1),(iq (n:=0) O),E⟩
  ·rintro i j ⟨_,_,_,_,_,_,_,_,_,_,E⟩;rw[D7] at E;cases E
  rintro eh i j ⟨F,G,I,id,ie,d,g,a2,bo,ig,E⟩;refine AK ?_ d g;clear d g j i;rw[D7] at E;refine AU ?_;refine AH O E (λei E=>?_) (λei E=>?_)
  ·refine AU ?_;refine A5 (AU ?_);have ej:=eg.mono' bo;refine BI E O O ej bU.1 O λih E ii ek=>?_;obtain⟨ij,_,el⟩:=ek.lv;refine AU ?_;refine D0 Z3 O a2 λik il cn em=>?_;have en:=el.mono em;obtain⟨rfl,⟨eo,im,io,ip,ir⟩⟩:=Ex.ex en;refine FL O O O O aS.1 O cn .head O λit co iu=>AU ?_;refine De (AU ?_);have cp:=co.sel [2,2,1,0] 0 O;refine GY E O O O QN O (λa3 cq=>FK (c2_:=I) (c3_:=G) cp (by decide) eo cq) λa3 E iv iw iy iz p=>?_;obtain⟨rfl,cr⟩:=p;refine AU ?_;refine BJ (AU ?_);refine WF.nil (λi j d g=>?_);have cs:=cr.sel [2,0,0] 1 O;exact⟨(BQ (F+1)),a3.2,a3.1,_,_,d.sub (kp [83,82,5,4,1,84] O),g,cs,EX,(BW _),E⟩
  refine BL O (λi j d g=>?_);exact⟨G,I,_,_,d.sub (kp [5,4,1] O),g,a2,bo,E⟩
 rintro i j ⟨ab,ac,a4,a5,d,g,ct,ep,E⟩;refine AK ?_ d g;clear d g j i;rw[FI] at E;have eq:=bn.mono ep;have er:=eq.fl Lf;obtain⟨es,_,eu⟩:=er.ll;refine AU ?_;refine AQ (λa w=>∃(a6:Bool),IV B a4 a5 (106,[]) a w [(4,vP c 0)] (Bx c 4 [.bool a6]::L) λ_ _=>FH N a6=some r) ?_ ?_
 ·refine A8 (λev=>λa w=>∃(J:Int) (M:Bool) (ad:(List (AG×Bool))),IV B a4 a5 (106,[]) a w [(95,vI (↑b.Ai.length:Int)),(94,es),(5,.func (.func 145) #[] #[vP l 0,vP c 0]),(4,vP c 0),(96,vI J)] (Bx c 4 [.bool M]::Bx l 225 [.map (some m)]::MP (λk:AG=>Value.agg (AG.v k).toArray) Value.bool m ad::L) λ_ _=>AA J∧D6 N b (FH N) ev J M ad=some r) N ?_ ?_ ?_
  ·intro i j d g;exact⟨0,ab,ac,_,_,d.sub (kp [95,94,5,4,96] O),g,ct,(C2.refl a4 a5),(iq (n:=0) O),E⟩
  ·rintro i j ⟨_,_,_,_,_,_,_,_,_,_,E⟩;rw[D6] at E;cases E
  rintro ev i j ⟨J,M,ad,i0,i1,d,g,a7,bp,i2,E⟩;refine AK ?_ d g;clear d g j i;rw[D6] at E;refine AU ?_;refine AH O E (λew E=>?_) (λew E=>?_)
  ·refine AU ?_;refine A5 (AU ?_);have ey:=eu.mono' bp;refine BI E O O ey bT.1 O λi3 E i4 ez=>?_;obtain⟨i5,_,e0⟩:=ez.lv;refine AU ?_;refine D0 Z2 O a7 λi6 i7 cu e1=>?_;have e2:=e0.mono e1;obtain⟨rfl,⟨e3,i8,i9,ja,jb,jc,jd⟩⟩:=G7.ex e2;refine FL O O O O aR.1 O cu .head O λje cv jf=>AU ?_;refine De (AU ?_);have cw:=cv.sel [2,2,1,0] 0 O;refine GY E O O O QN O (λa8 cx=>FK (c2_:=ad) (c3_:=M) cw (by decide) e3 cx) λa8 E jg jh ji jj p=>?_;obtain⟨rfl,cy⟩:=p;refine AU ?_;refine BJ (AU ?_);refine WF.nil (λi j d g=>?_);have cz:=cy.sel [2,0,0] 1 O;exact⟨(BQ (J+1)),a8.2,a8.1,_,_,d.sub (kp [95,94,5,4,96] O),g,cz,EX,(BW _),E⟩
  refine BL O (λi j d g=>?_);have c0:=a7.sel [0] 2 O;exact⟨M,_,_,d.sub (kp [4] O),g,c0,bp,E⟩
 rintro i j ⟨a6,jk,jl,d,g,fq,jm,E⟩;refine AK ?_ d g;clear d g j i;rw[FH] at E;exact RT
def IE (Z:St S L h) {d:Value}{i:(List By)}(g:Sl S h CH d i) {r:Bool}(E:Fa N i=some r):
 CM prog 147 #[d] S h (λv S' h'=>v= .bool r∧St S' (L) h'):=by
 refine CM.go 63 func147 O ntmps147 O λB=>?_;rw[Fa] at E;refine AU ?_;refine AH O E (λc4 E=>?_) (λc4 E=>?_)
 ·exact RT
 refine AU ?_;refine AQ (λa w=>IV B S h (63,[]) a w [] (L) λ_ _=>Hs N=some r) ?_ ?_
 ·refine A8 (λX=>λa w=>∃(p:Int),IV B S h (63,[]) a w [(14,vI (↑i.length:Int)),(13,d),(0,d),(15,vI p)] (L) λ_ _=>AA p∧FZ N i (Hs N) X p=some r) N ?_ ?_ ?_
  ·intro m o j k;exact⟨0,_,_,j.sub (kp [14,13,0,15] O),k,Z,(C2.refl S h),(iq (n:=0) O),E⟩
  ·rintro m o ⟨_,_,_,_,_,_,_,_,E⟩;rw[FZ] at E;cases E
  rintro X m o ⟨p,ab,ac,j,k,l,q,r9,E⟩;refine AK ?_ j k;clear j k o m;rw[FZ] at E;refine AU ?_;refine AH O E (λz E=>?_) (λz E=>?_)
  ·refine AU ?_;refine A5 (AU ?_);have A:=g.mono' q;refine BI E O O A LN.1 O λC E ad D=>?_;obtain⟨ae,_,F⟩:=D.lv;refine AU ?_;refine D0 UZ O l λaf ag s G=>AU ?_;have H:=F.mono G;obtain⟨rfl,⟨ah,ai⟩⟩:=CH.ex H;refine FL O O O O Ud.1 O s .head O λaj t ak=>AU ?_;refine AH O E (λI E=>?_) (λI E=>?_)
   ·exact RT
   refine AU ?_;refine Hv (.inr ⟨mo,by kernel_rfl⟩) (AU ?_);obtain⟨J,b,E⟩:=bd E;refine AY 21 61 (.bool J) ?_ ?_
   ·cases u:(decide (0<p))
    ·have b:=HV u b;cases b;exact BE O O
    have b:=HU u b;refine AU ?_;have K:=g.nw;refine BI b O O K LN.1 O λM b am an=>AU ?_;obtain⟨U,c,b⟩:=bd b;refine AY 10 60 (.bool U) ?_ ?_
    ·cases x:(decide (C.Q≤M.Q))
     ·have c:=HV x c;refine AU ?_;have V:=g.nw;refine BI c O O V LN.1 O λao c ap aq=>AU ?_;cases c;exact AZ O
     have c:=HU x c;cases c;exact BE O O
    refine AU ?_;cases b;exact AZ O
   refine AU ?_;refine AH O E (λW E=>?_) (λW E=>?_)
   ·exact RT
   refine AU ?_;refine BJ (AU ?_);refine WF.nil (λm o j k=>?_);have y:=t.drop .head;exact⟨(BQ (p+1)),_,_,j.sub (kp [14,13,0,15] O),k,y,EX,(BW _),E⟩
  refine BL O (λm o j k=>?_);exact⟨_,_,j.sub Ri,k,l,q,E⟩
 rintro m o ⟨ar,au,j,k,Y,av,E⟩;refine AK ?_ j k;clear j k o m;rw[Hs] at E;exact RT
end Go.Proofs.YtabonambpbofgaaGreat
