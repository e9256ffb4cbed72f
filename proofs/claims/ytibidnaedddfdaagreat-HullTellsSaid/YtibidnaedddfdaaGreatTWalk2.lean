import Derived.Test.YtibidnaedddfdaaGreatTFacts
import Derived.Test.YtibidnaedddfdaaGreatTForms
import Derived.Test.YtibidnaedddfdaaGreatTWalk0
namespace Go.Proofs.YtibidnaedddfdaaGreat
set_option linter.all false
open Go.RowKit
open Go.Proofs.Tryz
set_option maxRecDepth 10000
set_option maxHeartbeats 2000000
variable {N:Nat}{S:Nat→Prop}{L:List HP}{h:A4}
def LD (d:St S L h) {a:Value}{c:AB}(b:Rd S h AC a c) {r:Bool}(E:Ei N c=some r):
 CA prog 13 #[a] S h (λv g h'=>v= .bool r∧St g (L) h'):=by
 refine A8 8 func13 O ntmps13 O λB=>?_;rw[Ei] at E;refine AU ?_;exact A6 O b CE O d λj k l i m n=>RT
def On (Z:St S L h) {a:Value}{g:AB}(c:Rd S h AC a g) {b:Value}{j:AB}(d:Rd S h AC b j) {r:AB}(E:HV N g j=some r):
 CA prog 102 #[a,b] S h (λv S' h'=>v= .agg #[vI r.B,vI r.A]∧AB.ok r∧St S' (L) h'):=by
 refine A8 16 func102 O ntmps102 O λB=>?_;rw[HV] at E;refine AU ?_;refine A6 O c CE O Z λq1 S2 h3 y e5 k6=>?_;have k7:=d.mono e5;refine A6 O k7 CE O y λq8 S9 ab l ac z=>BZ EU O l λad ae m C=>AU ?_;refine GZ 11 mo (by kernel_rfl) O m ?_;have n:=k6.nw;have D:=n.fl AB.f_Lo;have F:=D.i;have p:=z.mono C;have G:=p.fl AB.f_Lo;have H:=G.i;refine AU ?_;refine A5 E O O O PN O (λq s h' o=>Ge (St.all h') F H s) λq E I=>?_;have J:=I;have K:=n.fl AB.f_Hi;have M:=K.i;have Q:=p.fl AB.f_Hi;have U:=Q.i;refine AU ?_;refine A5 E O O O PN O (λt u h' o=>Ge (St.all h') M U u) λt E V=>?_;have W:=V;refine CT (cs:=[vI q,vI t]) HY O O O (ET λaf w ag=>?_);refine BI O O O O ty_51.1 O w .head O λah k ai=>AU ?_;refine WF.ret (λaa ww X Y=>?_);have x:=k.drop .head;cases E;exact Jw X O Y (Hr (NS X Y k O mh ty_51.1 O) Jr) O EX ⟨O,⟨J,W⟩,x⟩
def Me (w:St S L h) {a:Value}{b:AB}(c:Rd S h AC a b) {r:AB}(E:Jj N b=some r):
 CA prog 103 #[a] S h (λv x h'=>v= .agg #[vI r.B,vI r.A]∧AB.ok r∧St x (L) h'):=by
 refine A8 10 func103 O ntmps103 O λB=>?_;rw[Jj] at E;refine AU ?_;refine A6 O c CE O w λD F G k H y=>BZ EU O k λI J l m=>?_;have g:=y.mono m;have o:=g.fl AB.f_Lo;have p:=o.i;refine AU ?_;refine Lb O O O ?_;have q:=g.fl AB.f_Hi;have s:=q.i;refine AU ?_;refine Lb O O O (CT (cs:=[vI (min b.B 1125899906842624),vI (min b.A 1125899906842624)]) HY O O O (AU ?_));refine BI O O O O ty_51.1 O l .head O λz d C=>AU ?_;refine WF.ret (λK M t u=>?_);have j:=d.drop .head;cases E;exact Jw t O u (Hr (NS t u d O mh ty_51.1 O) Jr) O EX ⟨O,⟨(IR p (iq (n:=1125899906842624) O)),(IR s (iq (n:=1125899906842624) O))⟩,j⟩
def SU (s:St S L h) {a:Value}{g:AS}(c:Rd S h BL a g) {b:Value}{i:AB}(d:Rd S h AC b i) {r:AB×AS}(E:LI N g i=some r):
 CA prog 148 #[a,b] S h (λv m h'=>∃j k:Value,v= .func (.func 172) #[] #[j,k]∧Pt m h' AC j r.1∧Pt m h' BL k r.2∧St m (L) h'):=by
 refine A8 6 func148 O ntmps148 O λB=>?_;rw[LI] at E;refine AU ?_;refine A6 O c CE O s λy z A n t u=>?_;have w:=d.mono t;refine A6 O w CE O n λC D x l o p=>AU ?_;refine OG O O O (AU ?_);have q:=u.mono o;cases E;exact Ma ⟨_,_,O,p,q,l⟩ O O EX
def Kj (i:St S L h) {a:Value}{d:AB}(c:Rd S h AC a d) {b:Int}(g:AA b) {r:Bool}(E:GM N d b=some r):
 CA prog 73 #[a,vI b] S h (λv j h'=>v= .bool r∧St j (L) h'):=by
 refine A8 15 func73 O ntmps73 O λB=>?_;rw[GM] at E;refine AU ?_;exact A6 O c CE O i λl m n k o p=>RT
def RQ {σ:Type}{yv:Value}{Y:Bool→σ→HP}{y:Int→σ→Option (Bool×σ)}{S0:Nat→Prop}{h0:A4}(V:YC prog yv Y gU y S0 h0) (e0:CX S0 h0 S h) {s:σ}(W:St S (Y true s::L) h) {d:Value}{z:AB}(g:Pt S h AC d z) {i:Value}{c2_:AS}(n:Pt S h BL i c2_) {r:Bool×σ}(E:Jd N z c2_ y s=some r):
 CA prog 172 #[yv,d,i] S h (λv S' h'=>v= .tuple #[]∧St S' (Y r.1 r.2::L) h'):=by
 refine A8 36 func172 O ntmps172 O λB=>?_;rw[Jd] at E;refine Dj (Dj (iX (PO 1 Sa (Iz K1 W.1 O g ty_51.1 CE O λv1 k2=>PR (tJ 1 Sa ?_)))));refine Ia E O O O Wk O W (λy3 X=>LD (St.all _) (k2.mono W.ea) X) λy3 E v4 S5 h6 q e7 ax p=>?_;obtain⟨rfl,ay⟩:=p;refine tQ (PO 2 Sa (NP O (Cv O (PR ?_))));cases A:(!y3)
 ·have E:=HX A E;refine PO 3 Sa (Dw O (Cv O (Dw O ?_)));have C:=g.mono e7;refine Lk O C AB.f_Lo fa_51_0.1 O λaz Z=>Dw O (G0 K1 q.1 O Z ty_3.1 O λab=>PR (YL.gy O O O ?_));obtain⟨a0,D,E⟩:=bd E;refine dI V O O D EX q ⟨O,ab⟩ O (λt ac ad F c=>?_) (λt ac ad F c=>?_)
  ·have E:=HU t E;refine PO 3 Sa (Dw O (NP O (Ho O (Cv O (PR (PO 3 Sa (Dw O (Cv O (Dw O ?_)))))))));have G:=C.mono F;refine Lk O G AB.f_Hi fa_51_1.1 O λa1 ae=>Dw O (G0 K1 c.1 O ae ty_3.1 O λaf=>PR (YL.gy O O O ?_));obtain⟨a2,H,E⟩:=bd E;refine dI V O O H EX c ⟨O,af⟩ O (λu ag ah I b=>?_) (λu ag ah I b=>?_)
   ·have E:=HU u E;refine PO 2 Sa (Dw O (NP O (Ho O (PR (YL.nil (kp [20,0,1,2] O) (UJ O (KT (Dj (WF.rc (.inl O) b ?_)))))))));have w:=n.nw;refine Lk O w KO fa_102_13.1 O λa3 ai=>G0 RG b.1 O ai ty_3.1 O λa4=>SJ O (Cv O ?_);obtain⟨aj,a,E⟩:=bd E;refine A0 6 30 (.bool aj) ?_ ?_
    ·cases J:(decide (c2_.Ab<9223372036854775807))
     ·have a:=HX J a;cases a;exact BM O O
     have a:=HU J a;refine Dw O ?_;have ak:=G.mono I;refine Iz RG b.1 O ak ty_51.1 CE O λa5 al=>Dw O (Lk O w KO fa_102_13.1 O λa6 am=>Dw O (G0 RG b.1 O am ty_3.1 O λa7=>Dw O (QY O (Dw O ?_))));refine BE a O O O UE O (λan K h' o=>Kj (St.all h') (al.mono (o.all b.1)) (BY _) K) λan a=>Ho O ?_;cases a;exact AZ O
    refine BB (kp [30,0,2] O) λa8 j ao=>AE O E (λap E=>?_) (λap E=>?_)
    ·refine iX (PO 4 Sa (Cv O ?_));have aq:=w.mono ao;refine Lk O aq KO fa_102_13.1 O λa9 ar=>G0 K1 j.1 O ar ty_3.1 O λba=>QY O (PR ?_);obtain⟨bb,M,E⟩:=bd E;refine dI V O O M EX j ⟨O,(BY _)⟩ O (λx au av aw k=>?_) (λx au av aw k=>?_)
     ·have E:=HU x E;refine YL.nil PJ (WF.nil (λQ U l m=>?_));cases E;exact Jw l O m Jr O EX ⟨O,k⟩
     have E:=HX x E;refine YL.nil PJ (WF.nil (λQ U l m=>?_));cases E;exact Jw l O m Jr O EX ⟨O,k⟩
    refine KT (WF.nil (λQ U l m=>?_));cases E;exact Jw l O m Jr O EX ⟨O,j⟩
   have E:=HX u E;refine PO 2 Sa (Dw O (NP O (Ho O (PR (YL.nil (kp [20,0,1,2] O) (QV O (WF.ret (λQ U l m=>?_))))))));cases E;exact Jw l O m Jr O EX ⟨O,b⟩
  have E:=HX t E;refine PO 3 Sa (Dw O (NP O (Ho O (Cv O (PR (PO 6 Sa (L3 O O O O O (L3 O O O O O (L3 O O O O O (L3 O O O O O (L3 O O O O O (Ho O (PR (YL.nil (kp [20,0,1,2] O) (QV O (WF.ret (λQ U l m=>?_)))))))))))))))));cases E;exact Jw l O m Jr O EX ⟨O,c⟩
 have E:=HU A E;refine PO 7 Sa (L3 O O O O O (L3 O O O O O (L3 O O O O O (L3 O O O O O (L3 O O O O O (Ho O (Cv O (PR (PO 6 Sa (L3 O O O O O (L3 O O O O O (L3 O O O O O (L3 O O O O O (L3 O O O O O (Ho O (PR (YL.nil (kp [20,0,1,2] O) (QV O (WF.ret (λQ U l m=>?_))))))))))))))))))));cases E;exact Jw l O m Jr O e7 ⟨O,q⟩
def TK (hs:St S L h) {c:Value}{n:AS}(l:Rd S h BL c n) {d:Value}{b:Cs}(m:Rd S h FU d b) {k:Int}(K:AA k) {r:Cs}(E:KI N n b k=some r):
 CA prog 149 #[c,d,vI k] S h (λv S' h'=>v= .agg #[vI r.P,vI r.S,.bool r.Bd,.bool r.N]∧Cs.ok r∧St S' (L) h'):=by
 refine A8 24 func149 O ntmps149 O λB=>?_;rw[KI] at E;refine AU ?_;refine A6 O l CE O hs λq1 Y h3 M e5 k6=>?_;have k7:=m.mono e5;obtain⟨rfl,⟨Z,u⟩⟩:=FU.ex k7;refine OI O O O M λx ab y ac=>BZ Rl O y λz A g ad=>?_;have ae:=k6.nw;refine AU ?_;refine AE O E (λQ E=>?_) (λQ E=>?_)
 ·refine AU ?_;refine BI O O O O ty_81.1 O g .head O λaf C ag=>AU ?_;refine WF.ret (λs t i j=>?_);have o:=C.drop (.tail .head);have D:=o.drop .head;cases E;exact Jw i O j (Hr (NS i j o O mh ty_81.1 O) Jr) O EX ⟨O,⟨Z,u⟩,D⟩
 refine AU ?_;refine AN (λa w=>∃(q:Bool),IV B Y A (24,[]) a w [(6,vP z 0),(4,vP x 0)] (Bx z 81 [vI 0,vI 0,.bool false,.bool false]::Bx x 81 [vI b.P,vI b.S,.bool b.Bd,.bool q]::L) λ_ _=>IS N b q=some r) ?_ ?_
 ·refine AU ?_;refine AE O E (λU E=>?_) (λU E=>?_)
  ·refine AU ?_;refine HH (cs':=[vI b.P,vI b.S,.bool b.Bd,.bool true]) O O O O ty_4.1 O g (.tail .head) O O λah F V=>AU ?_;refine WF.nil (λs t i j=>?_);exact⟨true,_,_,i.sub (kp [6,4] O),j,F,V,E⟩
  refine AU ?_;refine AE O E (λW E=>?_) (λW E=>?_)
  ·refine AU ?_;refine HH (cs':=[vI b.P,vI b.S,.bool b.Bd,.bool false]) O O O O ty_4.1 O g (.tail .head) O O λai G X=>AU ?_;refine WF.nil (λs t i j=>?_);exact⟨false,_,_,i.sub (kp [6,4] O),j,G,X,E⟩
  refine AU ?_;refine WF.nil (λs t i j=>?_);exact⟨b.N,_,_,i.sub (kp [6,4] O),j,g,(CX.refl Y A),E⟩
 rintro s t ⟨q,aj,ak,i,j,H,am,E⟩;refine AI ?_ i j;clear i j t s;rw[IS] at E;refine AU ?_;refine BI O O O O ty_81.1 O H .head O λan I ao=>AU ?_;refine WF.ret (λs t i j=>?_);have p:=I.drop (.tail .head);have J:=p.drop .head;cases E;exact Jw i O j (Hr (NS i j p O mh ty_81.1 O) Jr) O EX ⟨O,⟨Z,u⟩,J⟩
def OA (I:St S L h) {a:Value}{b:AB}(g:Rd S h AC a b) {c:Value}{d:AB}(j:Rd S h AC c d) {r:AB}(E:LG N b d=some r):
 CA prog 54 #[a,c] S h (λv J h'=>v= .agg #[vI r.B,vI r.A]∧AB.ok r∧St J (L) h'):=by
 refine A8 16 func54 O ntmps54 O λB=>?_;rw[LG] at E;refine AU ?_;refine A6 O g CE O I λq1 S2 h3 q K M=>?_;have Q:=j.mono K;refine A6 O Q CE O q λq8 S9 U l V s=>BZ EU O l λW X m t=>?_;have n:=M.nw;have u:=n.fl AB.f_Lo;have w:=u.i;have o:=s.mono t;have x:=o.fl AB.f_Lo;have y:=x.i;refine AU ?_;refine Lb O O O ?_;have z:=n.fl AB.f_Hi;have C:=z.i;have D:=o.fl AB.f_Hi;have F:=D.i;refine AU ?_;refine Lc O O O (CT (cs:=[vI (min b.B d.B),vI (max b.A d.A)]) HY O O O (AU ?_));refine BI O O O O ty_51.1 O m .head O λY k Z=>AU ?_;refine WF.ret (λaa ww G H=>?_);have p:=k.drop .head;cases E;exact Jw G O H (Hr (NS G H k O mh ty_51.1 O) Jr) O EX ⟨O,⟨(IR w y),(Iq C F)⟩,p⟩
def Ts (hs:St S L h) {K:Value}{q:AS}(am:Rd S h BL K q) {M:Value}{b:AF}(an:Rd S h AJ M b) {Q:Value}{av:AB}(ao:Rd S h AC Q av) {r:AF}(E:J5 N q b av=some r):
 CA prog 104 #[K,M,Q] S h (λv S' h'=>v= .agg #[vI r.P.B,vI r.P.A,vI r.S,vI r.N.B,vI r.N.A]∧AF.ok r∧St S' (L) h'):=by
 refine A8 47 func104 O ntmps104 O λB=>?_;rw[J5] at E;have c6:=nL hs;refine AU ?_;refine A6 O am CE O c6 λq1 S2 h3 c7 e5 k6=>?_;have k7:=an.mono e5;obtain⟨rfl,⟨r9,br,bs,a1,a2⟩⟩:=AJ.ex k7;refine OI O O O c7 λm ev bt ew=>?_;have c8:=ao.nw;refine A6 O c8 CE O bt λey ez e0 bu e2 c9=>BZ So O bu λa3 e3 aw e4=>?_;have da:=k6.nw;refine AU ?_;refine AE O E (λdb E=>?_) (λdb E=>?_)
 ·refine AU ?_;refine BI O O O O ty_97.1 O aw .head O λe6 bv e7=>AU ?_;refine WF.ret (λt u c d=>?_);have bw:=bv.sel [2,0] 1 O;refine pO (vs:=[.agg #[vI b.P.B,vI b.P.A,vI b.S,vI b.N.B,vI b.N.A]]) c O d bw O EX λw9 e8 a4 ax e9=>?_;have bx:=ax.drop .head;cases E;exact⟨(Hr (NS c a4 ax O mh ty_97.1 O) Jr),⟨O,⟨r9,br,bs,a1,a2⟩,bx⟩⟩
 refine AU ?_;refine BZ oP O aw λy fa bz fb=>?_;refine BI O O O O ty_4.1 O bz .head O λfc b0 fd=>AU ?_;refine BZ EU O b0 λz fe b1 ff=>AU ?_;refine Es ?_;have b2:=da.nw;obtain⟨fg,_,dc⟩:=b2.lv;have dd:=c9.nw;obtain⟨fh,_,de⟩:=dd.lv;refine AU ?_;refine E4 E O O O mJ O (λdf b3=>SU b1 dc de b3) λdf E fi fj fk fl p=>?_;obtain⟨b4,b5,rfl,dg,dh,b6⟩:=p;refine AU ?_;refine BG ?_;have b7:=b6.sel [0,0,1,1,0] 0 O;obtain⟨C,b8,E⟩:=bd E;refine nJ (Ds:=([])) 0 (λ(ss:Int×Int×Bool)=>[Pu (AA ss.1∧AA ss.2.1),Bx z 51 [vI ss.1,vI ss.2.1],Bx y 4 [.bool ss.2.2],Bx m 97 [vI b.P.B,vI b.P.A,vI b.S,vI b.N.B,vI b.N.A]]) (0,0,false) gU (λxx ss=>Ga N q b xx ss.1 ss.2.1 ss.2.2) C (λvs=>[(9,vs.getD 0 undef),(8,vP z 0),(7,vP y 0),(4,vP m 0),(3,q1)]) O mA (by kernel_rfl) (Ye b7 ⟨(iq (n:=0) O),(iq (n:=0) O)⟩) (λk=>gU.len k) (λk e=>gU.mono k e) ?_ ?_ ?_ ?_ ?_
 ·intro yv Y S1 h1 L1 e1 yc di;have dj:=dg.mono e1;have dk:=dh.mono e1;rw[show ((#[yv]:Array Value)++ #[b4,b5])= #[yv,b4,b5] from vF _ _];exact(RQ yc (CX.refl _ _) di dj dk b8).mono λ_ _ _ _ p=>p.2
 ·intro vs B h1 hl
  match vs,hl with
  |[v0],_=>
   refine JL (.inl O) ?_;refine ND O (kp [9,19,8,7,4,3] O) ?_;refine WF.nil (λt u c d=>?_);exact⟨c.sub (kp [9,8,7,4,3] O),d⟩
 ·rintro I ⟨ap,aq,a5⟩ ar vs a6 a7 au B b9 fm ca cb;have E:Ga N q b I ap aq a5=some ar:=b9;rw[Ga] at E;obtain⟨rfl,dl⟩:=ca;have X:St a6 (Pu (AA ap∧AA aq)::Bx z 51 [vI ap,vI aq]::Bx y 4 [.bool a5]::Bx m 97 [vI b.P.B,vI b.P.A,vI b.S,vI b.N.B,vI b.N.A]::au) a7:=cb;obtain⟨⟨dm,dn⟩,X⟩:=iY X;refine BG (AU ?_);refine BG (BA (λn1=>λa w=>∃(g:Int) (j:Int) (l:Int) (s:Bool),IV B a6 a7 (47,[]) a w [(9,vI I),(8,vP z 0),(7,vP y 0),(4,vP m 0),(3,q1),(20,vI g)] (Bx z 51 [vI j,vI l]::Bx y 4 [.bool s]::Bx m 97 [vI b.P.B,vI b.P.A,vI b.S,vI b.N.B,vI b.N.A]::au) λ_ _=>AA g∧AA j∧AA l∧CZ N q b I n1 g j l s=some ar) N ?_ ?_ ?_)
  ·intro t u c d;exact⟨0,ap,aq,a5,_,_,c.sub (kp [9,8,7,4,3,20] O),d,X,(CX.refl a6 a7),(iq (n:=0) O),dm,dn,E⟩
  ·rintro t u ⟨_,_,_,_,_,_,_,_,_,_,_,_,_,E⟩;rw[CZ] at E;cases E
  rintro n1 t u ⟨g,j,l,s,U,cc,c,d,Z,cd,ce,ab,ac,E⟩;refine AI ?_ c d;clear c d u t;rw[CZ] at E;refine AU ?_;refine AE O E (λcf E=>?_) (λcf E=>?_)
  ·refine AU ?_;refine AN (λa w=>∃(D:Int) (F:Int) (V:Bool),IV B U cc (47,[]) a w [(9,vI I),(8,vP z 0),(7,vP y 0),(4,vP m 0),(3,q1),(20,vI g)] (Bx z 51 [vI D,vI F]::Bx y 4 [.bool V]::Bx m 97 [vI b.P.B,vI b.P.A,vI b.S,vI b.N.B,vI b.N.A]::au) λ_ _=>AA D∧AA F∧EK N g (CZ N q b I n1) D F V=some ar) ?_ ?_
   ·refine AU ?_;refine WF.rc (.inl O) Z (AU ?_);obtain⟨dr,a8,E⟩:=bd E;refine KN O O O UE O (λh' o=>Kj (St.all h') (AC.mk (x:=b.N) ⟨a1,a2⟩) ce a8) (AU ?_);refine BB (kp [27,10,9,8,7,4,3,20] O) λds J cg=>AE O E (λch E=>?_) (λch E=>?_)
    ·refine WF.exit O (λt u c d=>?_);exact⟨j,l,s,_,_,c.sub (kp [9,8,7,4,3,20] O),d,J,cg,ab,ac,E⟩
    refine AU ?_;refine WF.rc (.inl O) J ?_;have ci:=b2.nw;obtain⟨dt,_,cj⟩:=ci.lv;refine AU ?_;refine CT (cs:=[vI 0,vI 0,.bool false,.bool (decide (g=1))]) Xm O O O (AU ?_);obtain⟨du,a9,E⟩:=bd E;refine IZ O O O mI O (λh' o=>TK (St.all h') (cj.mono (o.all J.1)) (FU.mk (x:=(⟨0,0,false,(decide (g=1))⟩:Cs)) ⟨(iq (n:=0) O),(iq (n:=0) O)⟩) dl a9) λck=>?_;obtain⟨dv,dw⟩:=ck;refine XU O fQ O O (BB (kp [34,11,9,8,7,4,3,20] O) λad ae dx=>F2 (λa w=>∃(W:Int),IV B U ad (47,[]) a w [(9,vI I),(8,vP z 0),(7,vP y 0),(4,vP m 0),(3,q1),(20,vI g),(11,vI W)] (Bx z 51 [vI j,vI l]::Bx y 4 [.bool s]::Bx m 97 [vI b.P.B,vI b.P.A,vI b.S,vI b.N.B,vI b.N.A]::au) λ_ _=>AA W∧HN N j l s (EK N g (CZ N q b I n1)) W=some ar) ?_ ?_)
    ·refine AE O E (λcl E=>?_) (λcl E=>?_)
     ·refine AU ?_;refine WF.nil (λt u c d=>?_);exact⟨1,_,_,c.sub (kp [9,8,7,4,3,20,11] O),d,ae,(CX.refl U ad),(iq (n:=1) O),E⟩
     refine AU ?_;refine WF.nil (λt u c d=>?_);exact⟨0,_,_,c.sub (kp [9,8,7,4,3,20,11] O),d,ae,(CX.refl U ad),(iq (n:=0) O),E⟩
    rintro t u ⟨W,dy,dz,c,d,af,d0,ay,E⟩;refine AI ?_ c d;clear c d u t;rw[HN] at E;refine AU ?_;refine AE O E (λcm E=>?_) (λcm E=>?_)
    ·refine GZ 4 mo (by kernel_rfl) O af (AU ?_);refine A5 E O O O N6 O (λaz ba h' o=>G2 (St.all h') ay ba) λaz E cn=>?_;obtain⟨co,cp⟩:=cn;obtain⟨a0,bb,E⟩:=bd E;refine IZ O O O bX O (λh' o=>OA (St.all h') (AC.mk (x:=(⟨j,l⟩:AB)) ⟨ab,ac⟩) (AC.mk (x:=az) ⟨co,cp⟩) bb) λcq=>?_;obtain⟨cr,ct⟩:=cq;refine ET λd1 bc d2=>?_;refine BI O O O O ty_51.1 O bc .head O λd3 be d4=>AU ?_;refine WF.nil (λt u c d=>?_);exact⟨a0.B,a0.A,s,_,_,c.sub (kp [9,8,7,4,3,20] O),d,be,EX,cr,ct,E⟩
    refine Es (AU ?_);refine Ia E O O O N6 O af (λag bf=>G2 (St.all _) ay bf) λag E d5 d6 d7 bg d8 d9 p=>?_;obtain⟨rfl,⟨cu,cv⟩,dp⟩:=p;refine BI O O O O ty_51.1 O bg .head O λea bh eb=>?_;refine BI O O O O ty_4.1 O bh (.tail .head) O λec bi ed=>AU ?_;refine WF.nil (λt u c d=>?_);exact⟨ag.B,ag.A,true,_,_,c.sub (kp [9,8,7,4,3,20] O),d,bi,EX,cu,cv,E⟩
   rintro t u ⟨D,F,V,ee,ef,c,d,bj,eg,cw,cx,E⟩;refine AI ?_ c d;clear c d u t;rw[EK] at E;refine AU ?_;refine WF.nil (λt u c d=>?_);exact⟨(BV (g+1)),D,F,V,_,_,c.sub (kp [9,8,7,4,3,20] O),d,bj,EX,(BY _),cw,cx,E⟩
  refine M1 O (BP (WF.nil (λt u c d=>?_)));cases E;exact⟨O,_,_,d,cd,(Ye Z ⟨ab,ac⟩)⟩
 ·intro cy ah ai aj eh i;have E:=HU cy E;have i:St ah (Pu (AA C.2.1∧AA C.2.2.1)::Bx z 51 [vI C.2.1,vI C.2.2.1]::Bx y 4 [.bool C.2.2.2]::Bx m 97 [vI b.P.B,vI b.P.A,vI b.S,vI b.N.B,vI b.N.A]::eC (aj::[])::Bx a3 97 [vI 0,vI 0,vI 0,vI 0,vI 0]::L) ai:=i;obtain⟨⟨cz,c0⟩,i⟩:=iY i;refine BP (AU ?_);refine F2 (λa w=>∃(G:Int) (H:Int),IV B ah ai (47,Su (aj::[])) a w [(6,vP a3 0),(4,vP m 0)] (Bx m 97 [vI b.P.B,vI b.P.A,vI b.S,vI G,vI H]::eC (aj::[])::Bx a3 97 [vI 0,vI 0,vI 0,vI 0,vI 0]::L) λ_ _=>AA G∧AA H∧Kt N b G H=some r) ?_ ?_
  ·refine AE O E (λc1 E=>?_) (λc1 E=>?_)
   ·refine AU ?_;refine HH (cs':=[vI b.P.B,vI b.P.A,vI b.S,vI C.2.1,vI C.2.2.1]) O O O O ty_51.1 O i (.tail (.tail .head)) O O λei bk c2=>AU ?_;refine WF.nil (λt u c d=>?_);have bl:=bk.sel [2,2,2] 2 O;exact⟨C.2.1,C.2.2.1,_,_,c.sub (kp [6,4] O),d,bl,c2,cz,c0,E⟩
   refine AU ?_;refine WF.nil (λt u c d=>?_);have bm:=i.sel [2,2,2] 2 O;exact⟨b.N.B,b.N.A,_,_,c.sub (kp [6,4] O),d,bm,(CX.refl ah ai),a1,a2,E⟩
  rintro t u ⟨G,H,ej,ek,c,d,bn,el,c3,c4,E⟩;refine AI ?_ c d;clear c d u t;rw[Kt] at E;refine AU ?_;refine BI O O O O ty_97.1 O bn (.tail (.tail .head)) O λem bo en=>AU ?_;refine WF.ret (λt u c d=>?_);have bp:=bo.sel [1,1] 1 O;refine pO (vs:=[.agg #[vI b.P.B,vI b.P.A,vI b.S,vI G,vI H]]) c O d bp O EX λw9 eo a4 ak ep=>?_;have bq:=ak.drop .head;cases E;exact⟨(Hr (NS c a4 ak O mh ty_97.1 O) Jr),⟨O,⟨r9,br,bs,c3,c4⟩,bq⟩⟩
 intro c5 eq er es eu dq;have E:=HX c5 E;cases E
def Ox {j:Nat}{p0_w:B0}{m:Value}{p:Value}{k:Value}{q:Value}{s:Value}{t:Value}{u:Value}{y:Value}{c:Value}{z:Value}{g:Value}{d:Value}(hs:St S (Bx j 106 [.string p0_w.b.O,m,vI p0_w.b.T,p,k,q,s,t,u,y,vI p0_w.b.U,vI p0_w.h.H,c,z,g,d]::OS AC 51 c p0_w.h.G::OS AJ 97 g p0_w.h.D::OS AC 51 d p0_w.peaks::L) h) (db:p0_w.b.O.size≤maxLen) (dc:Sl S h BX.str m p0_w.b.Z) (dd:AA p0_w.b.T) (de:Sl S h B3 p p0_w.b.F) (a5:Sl S h BL k p0_w.b.D) (df:Sl S h Gn q p0_w.b.Ak) (dg:Sl S h ED s p0_w.b.Ap) (dh:Sl S h Gp t p0_w.b.Aq) (di:Sl S h DC u p0_w.b.As) (dj:Sl S h AW y p0_w.b.Ar) (bs:AA p0_w.b.U) (bt:AA p0_w.h.H) (aw:Sl S h BU z p0_w.h.E) {Y:Value}{ad:(List AB)}(ab:Sl S h AC Y ad) {r:(List AY)×(List AF)×(List AB)}(E:Eu N p0_w ad=some r):
 CA prog 51 #[vP j 0,Y] S h (λv S' h'=>∃ax ay az:Value,v= .tuple #[]∧St S' (Bx j 106 [.string p0_w.b.O,m,vI p0_w.b.T,p,k,q,s,t,u,y,vI p0_w.b.U,vI p0_w.h.H,c,ax,ay,az]::OS AC 51 c p0_w.h.G::OS BU 93 ax r.1::OS AJ 97 ay r.2.1::OS AC 51 az r.2.2::L) h'):=by
 refine A8 162 func51 O ntmps51 O λB=>?_;rw[Eu] at E;refine AU ?_;refine AN (λa w=>∃(l2:List AB),IV B S h (162,[]) a w [(0,vP j 0)] (Bx j 106 [.string p0_w.b.O,m,vI p0_w.b.T,p,k,q,s,t,u,y,vI p0_w.b.U,vI p0_w.h.H,c,z,g,d]::OS AC 51 c p0_w.h.G::OS AJ 97 g p0_w.h.D::OS AC 51 d l2::L) λ_ _=>BT N p0_w l2=some r) ?_ ?_
 ·refine BA (λn1=>λa w=>∃(i6:Int) (l8:List AB),IV B S h (162,[]) a w [(18,vI (↑p0_w.h.G.length:Int)),(17,c),(0,vP j 0),(1,Y),(19,vI i6)] (Bx j 106 [.string p0_w.b.O,m,vI p0_w.b.T,p,k,q,s,t,u,y,vI p0_w.b.U,vI p0_w.h.H,c,z,g,d]::OS AC 51 c p0_w.h.G::OS AJ 97 g p0_w.h.D::OS AC 51 d l8::L) λ_ _=>AA i6∧BS N p0_w ad (BT N p0_w) n1 i6 l8=some r) N ?_ ?_ ?_
  ·intro W X I J;exact⟨0,p0_w.peaks,_,_,I.sub (kp [18,17,0,1,19] O),J,hs,(CX.refl S h),(iq (n:=0) O),E⟩
  ·rintro W X ⟨_,_,_,_,_,_,_,_,_,E⟩;rw[BS] at E;cases E
  rintro n1 W X ⟨i6,l8,S9,jd,I,J,a0,gc,r7,E⟩;refine AI ?_ I J;clear I J X W;rw[BS] at E;refine AU ?_;refine AE O E (λge E=>?_) (λge E=>?_)
  ·refine AU ?_;refine BG (AU ?_);obtain⟨je,dk,E⟩:=bd E;refine CR a0 (mt mh) O O sl_32.1 dk O λjf dl=>?_;obtain⟨bu,dm,E⟩:=bd E;have gf:=a0.epAt (mt mh) dm Gs.id dl;refine Iz K1 (λ_ x=>x) O gf ty_51.1 CE O λjg gg=>AU ?_;refine BZ EU O a0 λdn jh dp gh=>AU ?_;have gi:=gg.mono gh;obtain⟨rfl,⟨dq,dr⟩⟩:=AC.ex gi;refine BI O O O O ty_51.1 O dp .head O λji bi jj=>AU ?_;refine WF.rc (.inl O) bi ?_;have jk:=ab.nw;refine AU ?_;obtain⟨ds,ae,E⟩:=bd E;refine A0 6 34 (.bool ds) ?_ ?_
   ·cases dt:(decide (i6<(↑ad.length:Int)))
    ·have ae:=HX dt ae;cases ae;exact BM O O
    have ae:=HU dt ae;refine AU ?_;have gj:=ab.nw;refine AO ae O O gj sl_32.1 O λjl ae jm gk=>?_;obtain⟨jn,_,gl⟩:=gk.lv;refine AU ?_;refine BE ae O O O Wk O (λgm du h' o=>LD (St.all h') (gl.mono (o.all bi.1)) du) λgm ae=>AU ?_;cases ae;exact AZ O
   refine AU ?_;obtain⟨gn,ai,E⟩:=bd E;refine A0 7 42 (.bool gn) ?_ ?_
   ·cases dv:ds
    ·have ai:=HX dv ai;cases ai;exact BM O O
    have ai:=HU dv ai;refine AU ?_;have gp:=ab.nw;refine AO ai O O gp sl_32.1 O λjo ai jp jq=>AU ?_;cases ai;exact AZ O
   refine BB (kp [42,4,5,18,17,0,1,19] O) λdw a8 jr=>F2 (λa w=>∃(a6:Int) (a7:Int),IV B S9 dw (162,[]) a w [(4,vI i6),(5,vP dn 0),(18,vI (↑p0_w.h.G.length:Int)),(17,c),(0,vP j 0),(1,Y),(19,vI i6)] (Bx dn 51 [vI a6,vI a7]::Bx j 106 [.string p0_w.b.O,m,vI p0_w.b.T,p,k,q,s,t,u,y,vI p0_w.b.U,vI p0_w.h.H,c,z,g,d]::OS AC 51 c p0_w.h.G::OS AJ 97 g p0_w.h.D::OS AC 51 d l8::L) λ_ _=>AA a6∧AA a7∧EE N i6 l8 (BS N p0_w ad (BT N p0_w) n1) a6 a7=some r) ?_ ?_
   ·refine AE O E (λgq E=>?_) (λgq E=>?_)
    ·refine GZ 6 mo (by kernel_rfl) O a8 (AU ?_);have gr:=ab.nw;refine AO E O O gr sl_32.1 O λjs E jt gs=>?_;obtain⟨ju,_,gu⟩:=gs.lv;refine AU ?_;obtain⟨dx,dy,E⟩:=bd E;refine IZ O O O XK O (λh' o=>On (St.all h') (AC.mk (x:=bu) ⟨dq,dr⟩) (gu.mono (o.all a8.1)) dy) λgv=>?_;obtain⟨gw,gx⟩:=gv;refine ET λjv dz jw=>?_;refine BI O O O O ty_51.1 O dz .head O λjx d0 jy=>AU ?_;refine WF.nil (λW X I J=>?_);exact⟨dx.B,dx.A,_,_,I.sub (kp [4,5,18,17,0,1,19] O),J,d0,EX,gw,gx,E⟩
    refine AU ?_;refine WF.nil (λW X I J=>?_);exact⟨bu.B,bu.A,_,_,I.sub (kp [4,5,18,17,0,1,19] O),J,a8,(CX.refl S9 dw),dq,dr,E⟩
   rintro W X ⟨a6,a7,jz,j0,I,J,bj,j1,gy,gz,E⟩;refine AI ?_ I J;clear I J X W;rw[EE] at E;refine QU 7 mo (by kernel_rfl) O (AU ?_);obtain⟨j2,d1,E⟩:=bd E;refine CR bj (mt (mt (mt (mt mh)))) O O sl_32.1 d1 O λj3 d2=>AU ?_;obtain⟨g0,d3,E⟩:=bd E;refine JS (r:=AC) (l:=l8) (i:=i6) (x:=g0) O O (AC.mk (x:=(⟨a6,a7⟩:AB)) ⟨gy,gz⟩) d2 d3 RI.id ty_51.1 CE bj (.tail (.tail (.tail (.tail .head)))) λj4 d4 j5=>AU ?_;refine BP (AU ?_);refine WF.nil (λW X I J=>?_);have d5:=d4.sel [1,1,1,1] 1 O;exact⟨(BV (i6+1)),(upd l8 i6 (⟨a6,a7⟩:AB)),_,_,I.sub (kp [18,17,0,1,19] O),J,d5,EX,(BY _),E⟩
  refine WF.exit O (λW X I J=>?_);exact⟨l8,_,_,I.sub (kp [0] O),J,a0,gc,E⟩
 rintro W X ⟨l2,bv,bw,I,J,d6,g1,E⟩;refine AI ?_ I J;clear I J X W;rw[BT] at E;have g2:=aw.mono' g1;refine AU ?_;refine AN (λa w=>∃(a9:Value) (M:List AY) (ap:List AB),IV B bv bw (162,[]) a w [(0,vP j 0),(6,a9)] (OS BU 93 a9 M::Bx j 106 [.string p0_w.b.O,m,vI p0_w.b.T,p,k,q,s,t,u,y,vI p0_w.b.U,vI p0_w.h.H,c,z,g,d]::OS AC 51 c p0_w.h.G::OS AJ 97 g p0_w.h.D::OS AC 51 d ap::L) λ_ _=>B9 N p0_w M ap=some r) ?_ ?_
 ·refine BA (λn4=>λa w=>∃(av:Value) (aj:List AY) (ak:Int) (am:List AB),IV B bv bw (162,[]) a w [(62,vI (↑p0_w.h.E.length:Int)),(61,z),(0,vP j 0),(6,av),(63,vI ak)] (OS BU 93 av aj::Bx j 106 [.string p0_w.b.O,m,vI p0_w.b.T,p,k,q,s,t,u,y,vI p0_w.b.U,vI p0_w.h.H,c,z,g,d]::OS AC 51 c p0_w.h.G::OS AJ 97 g p0_w.h.D::OS AC 51 d am::L) λ_ _=>AA ak∧B8 N p0_w (B9 N p0_w) n4 aj ak am=some r) N ?_ ?_ ?_
  ·intro W X I J;have bx:=d6.nil BU 93;exact⟨(vN),([]:List AY),0,l2,_,_,I.sub (kp [62,61,0,6,63] O),J,bx,(CX.refl bv bw),(iq (n:=0) O),E⟩
  ·rintro W X ⟨_,_,_,_,_,_,_,_,_,_,_,E⟩;rw[B8] at E;cases E
  rintro n4 W X ⟨av,aj,ak,am,d7,d8,I,J,ba,bk,g3,E⟩;refine AI ?_ I J;clear I J X W;rw[B8] at E;refine AU ?_;refine AE O E (λd9 E=>?_) (λd9 E=>?_)
  ·refine AU ?_;refine AN (λa w=>∃(a1:Value) (a2:List AY) (a3:List AB),IV B d7 d8 (162,[]) a w [(62,vI (↑p0_w.h.E.length:Int)),(61,z),(0,vP j 0),(63,vI ak),(6,a1)] (OS BU 93 a1 a2::Bx j 106 [.string p0_w.b.O,m,vI p0_w.b.T,p,k,q,s,t,u,y,vI p0_w.b.U,vI p0_w.h.H,c,z,g,d]::OS AC 51 c p0_w.h.G::OS AJ 97 g p0_w.h.D::OS AC 51 d a3::L) λ_ _=>GJ N ak (B8 N p0_w (B9 N p0_w) n4) a2 a3=some r) ?_ ?_
   ·refine AU ?_;have ea:=g2.mono' bk;refine AO E O O ea sl_33.1 O λaf E g4 eb=>?_;obtain⟨g5,_,ec⟩:=eb.lv;refine AU ?_;refine BZ Sq O ba λg6 g7 bz ed=>?_;have ee:=ec.mono ed;obtain⟨rfl,⟨ef,eg,bl,bm⟩⟩:=BU.ex ee;refine BI O O O O ty_93.1 O bz .head O λg8 ah g9=>AU ?_;refine JL (.inr ⟨mo,by kernel_rfl⟩) (AU ?_);refine AE O E (λeh E=>?_) (λeh E=>?_)
    ·refine GZ 18 mo (by kernel_rfl) O ah (AU ?_);obtain⟨ha,b0,E⟩:=bd E;refine CR ah (mt (mt (mt (mt (mt mh))))) O O sl_32.1 b0 O λhb b1=>?_;obtain⟨hc,b2,E⟩:=bd E;have ei:=ah.epAt (mt (mt (mt (mt (mt mh))))) b2 Gs.id b1;refine Iz RG (λ_ x=>x) O ei ty_51.1 CE O λhd ej=>AU ?_;obtain⟨bn,b3,E⟩:=bd E;refine IZ O O O XK O (λh' o=>On (St.all h') (ej.mono (o.all ah.1)) (AC.mk (x:=af.G) ⟨bl,bm⟩) b3) λek=>?_;obtain⟨el,em⟩:=ek;obtain⟨he,b4,E⟩:=bd E;refine CR ah (mt (mt (mt (mt (mt mh))))) O O sl_32.1 b4 O λhg b5=>ET λhh b6 hi=>?_;obtain⟨en,b7,E⟩:=bd E;refine JS (r:=AC) (l:=am) (i:=af.C) (x:=en) O O (AC.mk (x:=bn) ⟨el,em⟩) b5 b7 RI.id ty_51.1 CE b6 (.tail (.tail (.tail (.tail (.tail .head))))) λhj b8 hk=>AU ?_;refine WF.nil (λW X I J=>?_);have b9:=b8.sel [1,1,1,1,1] 1 O;exact⟨av,aj,(upd am af.C bn),_,_,I.sub (kp [62,61,0,63,6] O),J,b9,EX,E⟩
    refine AU ?_;refine IB (cs:=[vI af.K,vI af.C,vI af.G.B,vI af.G.A]) Ob O O O O O O O ah λhl hm ca hn=>?_;obtain⟨cb,E⟩:=Qw E;refine LA (r:=BU) (l:=aj) (xs:=([af]:List AY)) O O Ob O mh ⟨_,_,O,⟨O,⟨ef,eg,bl,bm⟩⟩,O⟩ O O cb O ca (λ_=>(.tail (.tail .head))) λeo ho cc hp=>?_;have cd:=cc.drop .head;refine AU ?_;refine WF.nil (λW X I J=>?_);have ce:=cd.sel [1,1,1,1,1] 1 O;exact⟨eo,(aj++([af]:List AY)),am,_,_,I.sub (kp [62,61,0,63,6] O),J,ce,EX,E⟩
   rintro W X ⟨a1,a2,a3,hq,hr,I,J,cf,ht,E⟩;refine AI ?_ I J;clear I J X W;rw[GJ] at E;refine AU ?_;refine WF.nil (λW X I J=>?_);exact⟨a1,a2,(BV (ak+1)),a3,_,_,I.sub (kp [62,61,0,6,63] O),J,cf,EX,(BY _),E⟩
  refine WF.exit O (λW X I J=>?_);exact⟨av,aj,am,_,_,I.sub (kp [0,6] O),J,ba,bk,E⟩
 rintro W X ⟨a9,M,ap,bb,hu,I,J,bc,hv,E⟩;refine AI ?_ I J;clear I J X W;rw[B9] at E;refine AU ?_;obtain⟨ac,V,rfl,hx⟩:=bc.oslen mh;refine HH (cs':=[.string p0_w.b.O,m,vI p0_w.b.T,p,k,q,s,t,u,y,vI p0_w.b.U,vI p0_w.h.H,c,(.slice ac M.length V),g,d]) O O O O ty_33.1 O bc (.tail .head) O O λbe cg hy=>AU ?_;refine AN (λa w=>∃(an:List AB),IV B bb be (162,[]) a w [(0,vP j 0)] (OS BU 93 (.slice ac M.length V) M::Bx j 106 [.string p0_w.b.O,m,vI p0_w.b.T,p,k,q,s,t,u,y,vI p0_w.b.U,vI p0_w.h.H,c,(.slice ac M.length V),g,d]::OS AC 51 c p0_w.h.G::OS AJ 97 g p0_w.h.D::OS AC 51 d an::L) λ_ _=>CW N p0_w M an=some r) ?_ ?_
 ·refine BA (λn7=>λa w=>∃(ao:Int) (aq:List AB),IV B bb be (162,[]) a w [(107,vI (↑ap.length:Int)),(106,d),(0,vP j 0),(108,vI ao)] (OS BU 93 (.slice ac M.length V) M::Bx j 106 [.string p0_w.b.O,m,vI p0_w.b.T,p,k,q,s,t,u,y,vI p0_w.b.U,vI p0_w.h.H,c,(.slice ac M.length V),g,d]::OS AC 51 c p0_w.h.G::OS AJ 97 g p0_w.h.D::OS AC 51 d aq::L) λ_ _=>AA ao∧CV N ap (CW N p0_w M) n7 ao aq=some r) N ?_ ?_ ?_
  ·intro W X I J;exact⟨0,ap,_,_,I.sub (kp [107,106,0,108] O),J,cg,(CX.refl bb be),(iq (n:=0) O),E⟩
  ·rintro W X ⟨_,_,_,_,_,_,_,_,_,E⟩;rw[CV] at E;cases E
  rintro n7 W X ⟨ao,aq,hz,h0,I,J,au,ep,h1,E⟩;refine AI ?_ I J;clear I J X W;rw[CV] at E;refine AU ?_;refine AE O E (λeq E=>?_) (λeq E=>?_)
  ·refine AU ?_;refine BG (AU ?_);obtain⟨h2,ch,E⟩:=bd E;refine CR au (mt (mt (mt (mt mh)))) O O sl_32.1 ch O λh3 ci=>?_;obtain⟨er,cj,E⟩:=bd E;have es:=au.epAt (mt (mt (mt (mt mh)))) cj Gs.id ci;refine Iz K1 (λ_ x=>x) O es ty_51.1 CE O λh4 eu=>AU ?_;refine BZ EU O au λh5 h6 ck ev=>AU ?_;have ew:=eu.mono ev;obtain⟨rfl,⟨ey,ez⟩⟩:=AC.ex ew;refine BI O O O O ty_51.1 O ck .head O λh7 bf h8=>AU ?_;refine GZ 8 mo (by kernel_rfl) O bf (AU ?_);obtain⟨bo,cl,E⟩:=bd E;refine IZ O O O XJ O (λh' o=>Me (St.all h') (AC.mk (x:=er) ⟨ey,ez⟩) cl) λe0=>?_;obtain⟨e1,e2⟩:=e0;obtain⟨h9,cm,E⟩:=bd E;refine CR bf (mt (mt (mt (mt (mt mh))))) O O sl_32.1 cm O λia cn=>ET λib co ic=>?_;obtain⟨e3,cp,E⟩:=bd E;refine JS (r:=AC) (l:=aq) (i:=ao) (x:=e3) O O (AC.mk (x:=bo) ⟨e1,e2⟩) cn cp RI.id ty_51.1 CE co (.tail (.tail (.tail (.tail (.tail .head))))) λie cq ig=>AU ?_;refine BP (AU ?_);refine WF.nil (λW X I J=>?_);have cr:=cq.sel [1,1,1,1,1] 1 O;exact⟨(BV (ao+1)),(upd aq ao bo),_,_,I.sub (kp [107,106,0,108] O),J,cr,EX,(BY _),E⟩
  refine WF.exit O (λW X I J=>?_);exact⟨aq,_,_,I.sub (kp [0] O),J,au,ep,E⟩
 rintro W X ⟨an,bp,bq,I,J,ct,ih,E⟩;refine AI ?_ I J;clear I J X W;rw[CW] at E;have e4:=a5.nw;refine AU ?_;refine BG (BA (λn8=>λa w=>∃(ag:Int) (ar:List AF),IV B bp bq (162,[]) a w [(127,vI (↑p0_w.b.D.length:Int)),(126,k),(0,vP j 0),(128,vI ag)] (OS BU 93 (.slice ac M.length V) M::Bx j 106 [.string p0_w.b.O,m,vI p0_w.b.T,p,k,q,s,t,u,y,vI p0_w.b.U,vI p0_w.h.H,c,(.slice ac M.length V),g,d]::OS AC 51 c p0_w.h.G::OS AJ 97 g ar::OS AC 51 d an::L) λ_ _=>AA ag∧CU N p0_w M an n8 ag ar=some r) N ?_ ?_ ?_)
 ·intro W X I J;exact⟨0,p0_w.h.D,_,_,I.sub (kp [127,126,0,128] O),J,ct,(CX.refl bp bq),(iq (n:=0) O),E⟩
 ·rintro W X ⟨_,_,_,_,_,_,_,_,_,E⟩;rw[CU] at E;cases E
 rintro n8 W X ⟨ag,ar,e5,e6,I,J,bg,e7,ii,E⟩;refine AI ?_ I J;clear I J X W;rw[CU] at E;refine AU ?_;refine AE O E (λe8 E=>?_) (λe8 E=>?_)
 ·refine AU ?_;refine AN (λa w=>∃(a4:List AF),IV B e5 e6 (162,[]) a w [(127,vI (↑p0_w.b.D.length:Int)),(126,k),(0,vP j 0),(128,vI ag)] (OS BU 93 (.slice ac M.length V) M::Bx j 106 [.string p0_w.b.O,m,vI p0_w.b.T,p,k,q,s,t,u,y,vI p0_w.b.U,vI p0_w.h.H,c,(.slice ac M.length V),g,d]::OS AC 51 c p0_w.h.G::OS AJ 97 g a4::OS AC 51 d an::L) λ_ _=>GI N ag (CU N p0_w M an n8) a4=some r) ?_ ?_
  ·refine AU ?_;have e9:=e4.mono' e7;refine AO E O O e9 sl_24.1 O λfa E ij fb=>?_;obtain⟨ik,_,fc⟩:=fb.lv;refine AU ?_;refine BZ NW O bg λil im cu fd=>AU ?_;have fe:=fc.mono fd;obtain⟨io,ip,ir,rfl,ff,fg,fh,fi,fj,fk,fl,fm,fn,fo,fp,fq,fr,fs,ft,fu,fv,fw⟩:=BL.ex fe;refine G1 O O O ON ty_102.1 O cu .head O λit Q bh=>AU ?_;refine AE O E (λfx E=>?_) (λfx E=>?_)
   ·refine GZ 25 mo (by kernel_rfl) O Q (AU ?_);obtain⟨iu,cv,E⟩:=bd E;refine CR Q (mt (mt (mt (mt mh)))) O O sl_34.1 cv O λiv cw=>?_;obtain⟨iw,cx,E⟩:=bd E;have fy:=Q.epAt (mt (mt (mt (mt mh)))) cx Gs.id cw;refine Iz RG (λ_ x=>x) O fy ty_97.1 CE O λiy fz=>AU ?_;obtain⟨iz,cy,E⟩:=bd E;refine CR Q (mt (mt (mt (mt (mt mh))))) O O sl_32.1 cy O λi0 cz=>?_;obtain⟨i1,c0,E⟩:=bd E;have f0:=Q.epAt (mt (mt (mt (mt (mt mh))))) c0 Gs.id cz;refine Iz RG (λ_ x=>x) O f0 ty_51.1 CE O λi2 f1=>?_;have f2:=fj.mono' bh;have f3:=fk.mono' bh;have f4:=fl.mono' bh;obtain⟨br,c1,E⟩:=bd E;refine IZ O O O nB O (λh' o=>Ts (St.all h') (BL.mk (x:=fa) ff fg fh fi (f2.mono' (o.all Q.1)) (f3.mono' (o.all Q.1)) (f4.mono' (o.all Q.1)) fm fn fo fp fq fr fs ft fu fv fw) (fz.mono (o.all Q.1)) (f1.mono (o.all Q.1)) c1) λf5=>?_;obtain⟨f6,f7,f8,f9,ga⟩:=f5;obtain⟨i3,c2,E⟩:=bd E;refine CR Q (mt (mt (mt (mt mh)))) O O sl_34.1 c2 O λi4 c3=>ET λi5 c4 i7=>?_;obtain⟨gb,c5,E⟩:=bd E;refine JS (r:=AJ) (l:=ar) (i:=ag) (x:=gb) O O (AJ.mk (x:=br) ⟨f6,f7,f8,f9,ga⟩) c3 c5 RI.id ty_97.1 CE c4 (.tail (.tail (.tail (.tail .head)))) λi8 c6 i9=>AU ?_;refine WF.nil (λW X I J=>?_);have c7:=c6.sel [1,1,1,1,1] 1 O;exact⟨(upd ar ag br),_,_,I.sub (kp [127,126,0,128] O),J,c7,EX,E⟩
   refine AU ?_;refine WF.nil (λW X I J=>?_);have c8:=Q.sel [1,1,1,1,1] 1 O;exact⟨ar,_,_,I.sub (kp [127,126,0,128] O),J,c8,EX,E⟩
  rintro W X ⟨a4,ja,jb,I,J,c9,jc,E⟩;refine AI ?_ I J;clear I J X W;rw[GI] at E;refine AU ?_;refine WF.nil (λW X I J=>?_);exact⟨(BV (ag+1)),a4,_,_,I.sub (kp [127,126,0,128] O),J,c9,EX,(BY _),E⟩
 refine M1 O (WF.nil (λW X I J=>?_));have da:=bg.sel [1,1,0,0,0] 0 O;cases E;exact Jw I O J Jr O EX ⟨_,_,_,O,da⟩
def Pa (p:St S L h) {c:Int}(k:AA c) {a:Value}{d:Jb}(g:Pt S h F3 a d) {r:AB}(E:DJ N d c=some r):
 CA prog 108 #[vI c,a] S h (λv q h'=>v= .agg #[vI r.B,vI r.A]∧AB.ok r∧St q (L) h'):=by
 refine A8 7 func108 O ntmps108 O λB=>?_;rw[DJ] at E;refine AU ?_;refine BZ EU O p λy z l s=>?_;have t:=g.mono s;have u:=t.fl Jb.f_Litres;have w:=u.i;refine AU ?_;refine CT (cs:=[vI 0,vI d.Al]) HY O O O (AU ?_);refine BI O O O O ty_51.1 O l .head O λC b x=>AU ?_;refine WF.ret (λD F m o=>?_);have j:=b.drop .head;cases E;exact Jw m O o (Hr (NS m o b O mh ty_51.1 O) Jr) O EX ⟨O,⟨(iq (n:=0) O),w⟩,j⟩
def NF (i:St S L h) {a:Int}(c:IntKind.has .u64 a) {b:Int}(d:IntKind.has .u64 b) {r:Int×Int}(E:Is N a b=some r):
 CA prog 142 #[.int .u64 a,.int .u64 b] S h (λv k h'=>v= .tuple #[.int .u64 r.1,.int .u64 r.2]∧IntKind.has .u64 r.1∧IntKind.has .u64 r.2∧St k (L) h'):=by
 refine A8 51 func142 O ntmps142 O λB=>?_;rw[Is] at E;refine AU ?_;refine K9 (j:=32) O O O O (AU ?_);refine K9 (j:=32) O O O O (AU ?_);refine K9 (j:=32) O O O O (AU ?_);refine K9 (j:=32) O O O O (AU ?_);refine K9 (j:=32) O O O O (AU ?_);refine WF.ret (λm n g l=>?_);cases E;exact Jw g O l (Hr (K5 g (v:=_) O) (Hr (K5 g (v:=_) O) Jr)) O (CX.refl S h) ⟨O,(F5 _ _),(F5 _ _),i⟩
def Qr (I:St S L h) {d:Int}(g:IntKind.has .u64 d) {r:Int}(E:J6 N d=some r):
 CA prog 184 #[.int .u64 d] S h (λv M h'=>v=vI r∧AA r∧St M (L) h'):=by
 refine A8 25 func184 O ntmps184 O λB=>?_;rw[J6] at E;refine AU ?_;refine F2 (λa w=>∃(x:Int) (y:Int),IV B S h (25,[]) a w [(0,.int .u64 x),(2,vI y)] (L) λ_ _=>IntKind.has .u64 x∧AA y∧Hf N x y=some r) ?_ ?_
 ·refine AE O E (λQ E=>?_) (λQ E=>?_)
  ·refine AU ?_;refine K9 (j:=32) O O O O (AU ?_);refine WF.nil (λl m b c=>?_);exact⟨(E6 .u64 d 32),32,_,_,b.sub (kp [0,2] O),c,I,(CX.refl S h),(Td _ g _),(iq (n:=32) O),E⟩
  refine AU ?_;refine WF.nil (λl m b c=>?_);exact⟨d,0,_,_,b.sub (kp [0,2] O),c,I,(CX.refl S h),g,(iq (n:=0) O),E⟩
 rintro l m ⟨x,y,C,D,b,c,z,e9,J,U,E⟩;refine AI ?_ b c;clear b c m l;rw[Hf] at E;refine AU ?_;refine F2 (λa w=>∃(i:Int) (k:Int),IV B C D (25,[]) a w [(0,.int .u64 i),(2,vI k)] (L) λ_ _=>IntKind.has .u64 i∧AA k∧He N i k=some r) ?_ ?_
 ·refine AE O E (λF E=>?_) (λF E=>?_)
  ·refine AU ?_;refine K9 (j:=16) O O O O (AU ?_);refine WF.nil (λl m b c=>?_);exact⟨(E6 .u64 x 16),(BV (y+16)),_,_,b.sub (kp [0,2] O),c,z,(CX.refl C D),(Td _ J _),(BY _),E⟩
  refine AU ?_;refine WF.nil (λl m b c=>?_);exact⟨x,y,_,_,b.sub (kp [0,2] O),c,z,(CX.refl C D),J,U,E⟩
 rintro l m ⟨i,k,t,u,b,c,q,V,A,G,E⟩;refine AI ?_ b c;clear b c m l;rw[He] at E;refine AU ?_;refine F2 (λa w=>∃(o:Int) (p:Int),IV B t u (25,[]) a w [(0,.int .u64 o),(2,vI p)] (L) λ_ _=>IntKind.has .u64 o∧AA p∧Hc N o p=some r) ?_ ?_
 ·refine AE O E (λH E=>?_) (λH E=>?_)
  ·refine AU ?_;refine K9 (j:=8) O O O O (AU ?_);refine WF.nil (λl m b c=>?_);exact⟨(E6 .u64 i 8),(BV (k+8)),_,_,b.sub (kp [0,2] O),c,q,(CX.refl t u),(Td _ A _),(BY _),E⟩
  refine AU ?_;refine WF.nil (λl m b c=>?_);exact⟨i,k,_,_,b.sub (kp [0,2] O),c,q,(CX.refl t u),A,G,E⟩
 rintro l m ⟨o,p,W,X,b,c,K,Y,Z,ab,E⟩;refine AI ?_ b c;clear b c m l;rw[Hc] at E;refine AU ?_;refine JM O N8 oZ O ?_;obtain⟨ac,s,E⟩:=bd E;have ad:=SD s;exact SL O O us_9.1 s O (JM O oZ RM O (RT))
def M6 (d:St S L h) {a:Int}(b:IntKind.has .u64 a) {r:Int}(E:GN N a=some r):
 CA prog 171 #[.int .u64 a] S h (λv g h'=>v=vI r∧AA r∧St g (L) h'):=by
 refine A8 6 func171 O ntmps171 O λB=>?_;rw[GN] at E;refine AU ?_;refine WF.rc (.inl O) d (AU ?_);refine A5 E O O O lV O (λi c h' o=>Qr (St.all h') b c) λi E j=>?_;have l:=j;refine AU ?_;exact BB (kp [2] O) λm k n=>RT
def NG (hs:St S L h) {d:Int}(X:IntKind.has .u64 d) {b:Int}(x:IntKind.has .u64 b) {c:Int}(D:IntKind.has .u64 c) {r:Int×Int}(E:G4 N d b c=some r):
 CA prog 143 #[.int .u64 d,.int .u64 b,.int .u64 c] S h (λv S' h'=>v= .tuple #[.int .u64 r.1,.int .u64 r.2]∧IntKind.has .u64 r.1∧IntKind.has .u64 r.2∧St S' (L) h'):=by
 refine A8 135 func143 O ntmps143 O λB=>?_;rw[G4] at E;refine AU ?_;refine AE O E (λc1 E=>?_) (λc1 E=>?_)
 ·cases E
 refine AU ?_;refine AE O E (λc2 E=>?_) (λc2 E=>?_)
 ·cases E
 refine AU ?_;refine AE O E (λc3 E=>?_) (λc3 E=>?_)
 ·refine AU ?_;refine JL (.inr ⟨mo,by kernel_rfl⟩) (AU ?_);obtain⟨z4,Y,E⟩:=bd E;have r5:IntKind.has .u64 z4:=NY Y;refine SG O O O Y (AU ?_);obtain⟨z6,Z,E⟩:=bd E;have r7:IntKind.has .u64 z6:=WH x Z;refine Yq O O O Z (AU ?_);refine WF.ret (λq s i l=>?_);cases E;exact Jw i O l (Hr (K5 i (v:=_) O) (Hr (K5 i (v:=_) O) Jr)) O (CX.refl S h) ⟨O,r5,r7,hs⟩
 refine AU ?_;refine WF.rc (.inl O) hs (AU ?_);refine A5 E O O O mB O (λF aj h' o=>M6 (St.all h') D aj) λF E r9=>?_;have av:=r9;refine JM O RM Th O (AU ?_);refine BB (kp [8,0,1,2] O) λJ ab aw=>AU ?_;obtain⟨g,ac,E⟩:=bd E;refine Vp (j:=g) O O O ac (AU ?_);refine K9 (j:=32) O O O O (AU ?_);obtain⟨m,ad,E⟩:=bd E;refine Vp (j:=m) O O O ad (AU ?_);obtain⟨n,ae,E⟩:=bd E;refine K9 (j:=n) O O O ae (nS O O O (AU ?_));obtain⟨k,af,E⟩:=bd E;refine Vp (j:=k) O O O af (AU ?_);refine K9 (j:=32) O O O O (AU ?_);obtain⟨K,H,E⟩:=bd E;have ak:IntKind.has .u64 K:=NY H;refine SG O O O H (AU ?_);refine AN (λa w=>∃(p:Int),IV B S J (135,[]) a w [(14,.int .u64 (Jp .and .u64 (Ea .u64 b k) 4294967295)),(13,.int .u64 (E6 .u64 (Ea .u64 b k) 32)),(11,.int .u64 (Jp .or .u64 (Ea .u64 d m) (E6 .u64 b n))),(10,.int .u64 (Jp .and .u64 (Ea .u64 c g) 4294967295)),(9,.int .u64 (E6 .u64 (Ea .u64 c g) 32)),(2,.int .u64 (Ea .u64 c g)),(8,.int .u64 (IntKind.wrap .u64 F)),(15,.int .u64 p)] (L) λ_ _=>IntKind.has .u64 p∧EN N d b c F g m n k p=some r) ?_ ?_
 ·refine BA (λn1=>λa w=>∃(t:Int) (y:Int),IV B S J (135,[]) a w [(14,.int .u64 (Jp .and .u64 (Ea .u64 b k) 4294967295)),(13,.int .u64 (E6 .u64 (Ea .u64 b k) 32)),(11,.int .u64 (Jp .or .u64 (Ea .u64 d m) (E6 .u64 b n))),(10,.int .u64 (Jp .and .u64 (Ea .u64 c g) 4294967295)),(9,.int .u64 (E6 .u64 (Ea .u64 c g) 32)),(2,.int .u64 (Ea .u64 c g)),(8,.int .u64 (IntKind.wrap .u64 F)),(15,.int .u64 t),(16,.int .u64 y)] (L) λ_ _=>IntKind.has .u64 t∧IntKind.has .u64 y∧Dx N b c g k (EN N d b c F g m n k) n1 t y=some r) N ?_ ?_ ?_
  ·intro q s i l;exact⟨K,(IntKind.wrap .u64 ((Jp .or .u64 (Ea .u64 d m) (E6 .u64 b n))-(IntKind.wrap .u64 (K*(E6 .u64 (Ea .u64 c g) 32))))),_,_,i.sub (kp [14,13,11,10,9,2,8,15,16] O),l,ab,(CX.refl S J),ak,(F5 _ _),E⟩
  ·rintro q s ⟨_,_,_,_,_,_,_,_,_,_,E⟩;rw[Dx] at E;cases E
  rintro n1 q s ⟨t,y,ax,ay,i,l,z,M,al,az,E⟩;refine AI ?_ i l;clear i l s q;rw[Dx] at E;refine AU ?_;refine AE O E (λam E=>?_) (λam E=>?_)
  ·refine AU ?_;refine BG (AU ?_);refine AE O E (λan E=>?_) (λan E=>?_)
   ·refine WF.exit O (λq s i l=>?_);exact⟨(IntKind.wrap .u64 (t-1)),_,_,i.sub (kp [14,13,11,10,9,2,8,15] O),l,z,M,(F5 _ _),E⟩
   refine AU ?_;refine BP (WF.nil (λq s i l=>?_));exact⟨(IntKind.wrap .u64 (t-1)),(IntKind.wrap .u64 (y+(E6 .u64 (Ea .u64 c g) 32))),_,_,i.sub (kp [14,13,11,10,9,2,8,15,16] O),l,z,M,(F5 _ _),(F5 _ _),E⟩
  refine WF.exit O (λq s i l=>?_);exact⟨t,_,_,i.sub (kp [14,13,11,10,9,2,8,15] O),l,z,M,al,E⟩
 rintro q s ⟨p,Q,U,i,l,ag,a0,a1,E⟩;refine AI ?_ i l;clear i l s q;rw[EN] at E;refine AU ?_;obtain⟨V,I,E⟩:=bd E;have ao:IntKind.has .u64 V:=NY I;refine SG O O O I (AU ?_);refine AN (λa w=>∃(G:Int),IV B Q U (135,[]) a w [(17,.int .u64 (IntKind.wrap .u64 ((IntKind.wrap .u64 ((IntKind.wrap .u64 ((Jp .or .u64 (Ea .u64 d m) (E6 .u64 b n))*4294967296))+(E6 .u64 (Ea .u64 b k) 32)))-(IntKind.wrap .u64 (p*(Ea .u64 c g)))))),(14,.int .u64 (Jp .and .u64 (Ea .u64 b k) 4294967295)),(2,.int .u64 (Ea .u64 c g)),(8,.int .u64 (IntKind.wrap .u64 F)),(15,.int .u64 p),(18,.int .u64 G)] (L) λ_ _=>IntKind.has .u64 G∧GO N d b c F g m n k p G=some r) ?_ ?_
 ·refine BA (λn3=>λa w=>∃(A:Int) (u:Int),IV B Q U (135,[]) a w [(17,.int .u64 (IntKind.wrap .u64 ((IntKind.wrap .u64 ((IntKind.wrap .u64 ((Jp .or .u64 (Ea .u64 d m) (E6 .u64 b n))*4294967296))+(E6 .u64 (Ea .u64 b k) 32)))-(IntKind.wrap .u64 (p*(Ea .u64 c g)))))),(14,.int .u64 (Jp .and .u64 (Ea .u64 b k) 4294967295)),(10,.int .u64 (Jp .and .u64 (Ea .u64 c g) 4294967295)),(9,.int .u64 (E6 .u64 (Ea .u64 c g) 32)),(2,.int .u64 (Ea .u64 c g)),(8,.int .u64 (IntKind.wrap .u64 F)),(15,.int .u64 p),(16,.int .u64 A),(18,.int .u64 u)] (L) λ_ _=>IntKind.has .u64 A∧IntKind.has .u64 u∧EM N b c g k (GO N d b c F g m n k p) n3 A u=some r) N ?_ ?_ ?_
  ·intro q s i l;exact⟨(IntKind.wrap .u64 ((IntKind.wrap .u64 ((IntKind.wrap .u64 ((IntKind.wrap .u64 ((Jp .or .u64 (Ea .u64 d m) (E6 .u64 b n))*4294967296))+(E6 .u64 (Ea .u64 b k) 32)))-(IntKind.wrap .u64 (p*(Ea .u64 c g)))))-(IntKind.wrap .u64 (V*(E6 .u64 (Ea .u64 c g) 32))))),V,_,_,i.sub (kp [17,14,10,9,2,8,15,16,18] O),l,ag,(CX.refl Q U),(F5 _ _),ao,E⟩
  ·rintro q s ⟨_,_,_,_,_,_,_,_,_,_,E⟩;rw[EM] at E;cases E
  rintro n3 q s ⟨A,u,a2,a3,i,l,C,W,a4,ap,E⟩;refine AI ?_ i l;clear i l s q;rw[EM] at E;refine AU ?_;refine AE O E (λaq E=>?_) (λaq E=>?_)
  ·refine AU ?_;refine BG (AU ?_);refine AE O E (λar E=>?_) (λar E=>?_)
   ·refine WF.exit O (λq s i l=>?_);exact⟨(IntKind.wrap .u64 (u-1)),_,_,i.sub (kp [17,14,2,8,15,18] O),l,C,W,(F5 _ _),E⟩
   refine AU ?_;refine BP (WF.nil (λq s i l=>?_));exact⟨(IntKind.wrap .u64 (A+(E6 .u64 (Ea .u64 c g) 32))),(IntKind.wrap .u64 (u-1)),_,_,i.sub (kp [17,14,10,9,2,8,15,16,18] O),l,C,W,(F5 _ _),(F5 _ _),E⟩
  refine WF.exit O (λq s i l=>?_);exact⟨u,_,_,i.sub (kp [17,14,2,8,15,18] O),l,C,W,ap,E⟩
 rintro q s ⟨G,a5,a6,i,l,ah,a7,a8,E⟩;refine AI ?_ i l;clear i l s q;rw[GO] at E;refine AU ?_;obtain⟨au,ai,E⟩:=bd E;refine K9 (j:=au) O O O ai (AU ?_);refine WF.ret (λq s i l=>?_);cases E;exact Jw i O l (Hr (K5 i (v:=_) O) (Hr (K5 i (v:=_) O) Jr)) O EX ⟨O,(F5 _ _),(Td _ (F5 _ _) _),ah⟩
def Lr (F:St S L h) {d:Int}(s:AA d) {a:Int}(l:AA a) {b:Int}(m:AA b) {r:Int×Int×Bool}(E:HC N d a b=some r):
 CA prog 152 #[vI d,vI a,vI b] S h (λv G h'=>v= .tuple #[vI r.1,vI r.2.1,.bool r.2.2]∧AA r.1∧AA r.2.1∧St G (L) h'):=by
 refine A8 61 func152 O ntmps152 O λB=>?_;rw[HC] at E;refine AU ?_;refine AE O E (λH E=>?_) (λH E=>?_)
 ·refine AU ?_;refine WF.ret (λu w c k=>?_);cases E;exact Jw c O k (Hr (K5 c (v:=_) O) (Hr (K5 c (v:=_) O) (Hr (K5 c (v:=_) O) Jr))) O (CX.refl S h) ⟨O,(iq (n:=0) O),(iq (n:=0) O),F⟩
 refine AU ?_;refine WF.rc (.inl O) F (AU ?_);refine JM O RM N8 O (AU ?_);refine JM O RM N8 O ?_;obtain⟨t,x,E⟩:=bd E;refine IQ (v:= .tuple #[.int .u64 t.1,.int .u64 t.2]) (Ψ:=IntKind.has .u64 t.1∧IntKind.has .u64 t.2) O O O cQ O (λh' o=>(NF (St.all h') (F5 _ _) (F5 _ _) x).mono λ_ _ _ _ p=>⟨p.1,⟨p.2.1,p.2.2.1⟩⟩) λI=>?_;obtain⟨J,y⟩:=I;refine AU ?_;refine BB (kp [10,9,2] O) λK i z=>AU ?_;refine JM O RM N8 O (AU ?_);refine AE O E (λA E=>?_) (λA E=>?_)
 ·refine AU ?_;refine WF.ret (λu w c k=>?_);cases E;exact Jw c O k (Hr (K5 c (v:=_) O) (Hr (K5 c (v:=_) O) (Hr (K5 c (v:=_) O) Jr))) O z ⟨O,(iq (n:=0) O),(iq (n:=0) O),i⟩
 refine AU ?_;refine WF.rc (.inl O) i (AU ?_);refine JM O RM N8 O ?_;obtain⟨g,q,E⟩:=bd E;refine IQ (v:= .tuple #[.int .u64 g.1,.int .u64 g.2]) (Ψ:=IntKind.has .u64 g.1∧IntKind.has .u64 g.2) O O O cP O (λh' o=>(NG (St.all h') J y (F5 _ _) q).mono λ_ _ _ _ p=>⟨p.1,⟨p.2.1,p.2.2.1⟩⟩) λC=>?_;obtain⟨M,Q⟩:=C;refine AU ?_;refine BB (kp [12,11] O) λU j V=>AU ?_;refine AE O E (λD E=>?_) (λD E=>?_)
 ·refine AU ?_;refine WF.ret (λu w c k=>?_);cases E;exact Jw c O k (Hr (K5 c (v:=_) O) (Hr (K5 c (v:=_) O) (Hr (K5 c (v:=_) O) Jr))) O EX ⟨O,(iq (n:=0) O),(iq (n:=0) O),j⟩
 refine AU ?_;refine JM O N8 RM O (AU ?_);refine JM O N8 RM O (AU ?_);refine WF.ret (λu w c k=>?_);cases E;exact Jw c O k (Hr (K5 c (v:=_) O) (Hr (K5 c (v:=_) O) (Hr (K5 c (v:=_) O) Jr))) O EX ⟨O,(BY _),(BY _),j⟩
def Lg (l:St S L h) {g:Int}(i:AA g) {a:Int}(c:AA a) {b:Int}(d:AA b) {r:Int}(E:Ii N g a b=some r):
 CA prog 173 #[vI g,vI a,vI b] S h (λv m h'=>v=vI r∧AA r∧St m (L) h'):=by
 refine A8 21 func173 O ntmps173 O λB=>?_;rw[Ii] at E;refine AU ?_;refine WF.rc (.inl O) l (AU ?_);obtain⟨j,k,E⟩:=bd E;refine IQ (v:= .tuple #[vI j.1,vI j.2.1,.bool j.2.2]) (Ψ:=AA j.1∧AA j.2.1) O O O Vc O (λh' o=>(Lr (St.all h') i c d k).mono λ_ _ _ _ p=>⟨p.1,⟨p.2.1,p.2.2.1⟩⟩) λn=>?_;obtain⟨t,u⟩:=n;refine AU ?_;refine BB (kp [9,7] O) λw q x=>AU ?_;refine AE O E (λs E=>?_) (λs E=>?_)
 ·exact RT
 exact RT
def UZ (H:St S L h) {d:Value}{k:AS}(j:Rd S h BL d k) {a:Int}(b:AA a) {c:Int}(g:AA c) {r:Int}(E:Mv N k a c=some r):
 CA prog 175 #[d,vI a,vI c] S h (λv I h'=>v=vI r∧AA r∧St I (L) h'):=by
 refine A8 20 func175 O ntmps175 O λB=>?_;rw[Mv] at E;refine AU ?_;refine A6 O j CE O H λM Q U q V G=>AU ?_;refine AE O E (λs E=>?_) (λs E=>?_)
 ·exact RT
 refine AU ?_;refine WF.rc (.inl O) q ?_;have t:=G.fl JA;have u:=t.i;have w:=G.fl JB;have x:=w.i;refine AU ?_;refine A5 E O O O UG O (λy l h' o=>Lg (St.all h') g u x l) λy E z=>?_;have A:=z;refine A5 E O O O Mj O (λC m h' o=>Fh (St.all h') b A m) λC E D=>?_;have F:=D;refine Lc O O O (AU ?_);refine BB (kp [6] O) λJ p K=>?_;cases E;exact Ma ⟨O,(Iq (iq (n:=0) O) F),p⟩ O O EX
def I0 (Z:St S L h) {d:Value}{i:(List A9)}(g:Sl S h CJ d i) {r:Bool}(E:EV N i=some r):
 CA prog 89 #[d] S h (λv S' h'=>v= .bool r∧St S' (L) h'):=by
 refine A8 63 func89 O ntmps89 O λB=>?_;rw[EV] at E;refine AU ?_;refine AE O E (λc4 E=>?_) (λc4 E=>?_)
 ·exact RT
 refine AU ?_;refine AN (λa w=>IV B S h (63,[]) a w [] (L) λ_ _=>Hj N=some r) ?_ ?_
 ·refine BA (λX=>λa w=>∃(p:Int),IV B S h (63,[]) a w [(14,vI (↑i.length:Int)),(13,d),(0,d),(15,vI p)] (L) λ_ _=>AA p∧DK N i (Hj N) X p=some r) N ?_ ?_ ?_
  ·intro m o j k;exact⟨0,_,_,j.sub (kp [14,13,0,15] O),k,Z,(CX.refl S h),(iq (n:=0) O),E⟩
  ·rintro m o ⟨_,_,_,_,_,_,_,_,E⟩;rw[DK] at E;cases E
  rintro X m o ⟨p,ab,ac,j,k,l,q,r9,E⟩;refine AI ?_ j k;clear j k o m;rw[DK] at E;refine AU ?_;refine AE O E (λz E=>?_) (λz E=>?_)
  ·refine AU ?_;refine BG (AU ?_);have A:=g.mono' q;refine AO E O O A sl_54.1 O λC E ad D=>?_;obtain⟨ae,_,F⟩:=D.lv;refine AU ?_;refine BZ Xd O l λaf ag s G=>AU ?_;have H:=F.mono G;obtain⟨rfl,⟨ah,ai⟩⟩:=CJ.ex H;refine BI O O O O ty_90.1 O s .head O λaj t ak=>AU ?_;refine AE O E (λI E=>?_) (λI E=>?_)
   ·exact RT
   refine AU ?_;refine JL (.inr ⟨mo,by kernel_rfl⟩) (AU ?_);obtain⟨J,b,E⟩:=bd E;refine A0 21 61 (.bool J) ?_ ?_
   ·cases u:(decide (0<p))
    ·have b:=HX u b;cases b;exact BM O O
    have b:=HU u b;refine AU ?_;have K:=g.nw;refine AO b O O K sl_54.1 O λQ b am an=>AU ?_;obtain⟨U,c,b⟩:=bd b;refine A0 10 60 (.bool U) ?_ ?_
    ·cases x:(decide (C.M≤Q.M))
     ·have c:=HX x c;refine AU ?_;have V:=g.nw;refine AO c O O V sl_54.1 O λao c ap aq=>AU ?_;cases c;exact AZ O
     have c:=HU x c;cases c;exact BM O O
    refine AU ?_;cases b;exact AZ O
   refine AU ?_;refine AE O E (λW E=>?_) (λW E=>?_)
   ·exact RT
   refine AU ?_;refine BP (AU ?_);refine WF.nil (λm o j k=>?_);have y:=t.drop .head;exact⟨(BV (p+1)),_,_,j.sub (kp [14,13,0,15] O),k,y,EX,(BY _),E⟩
  refine WF.exit O (λm o j k=>?_);exact⟨_,_,j.sub PJ,k,l,q,E⟩
 rintro m o ⟨ar,au,j,k,Y,av,E⟩;refine AI ?_ j k;clear j k o m;rw[Hj] at E;exact RT
def TH (X:St S L h) {g:Int}(q:AA g) {i:Value}{p:(Int→Option Bool)}(s:Rd S h (BX.fn prog (λx:Int=>([vI x]:List Value)) (λx:Int=>AA x) (λy:Bool=> .bool y) (λy:Bool=>True)) i p) {r:Int}(E:Mm N g p=some r):
 CA prog 165 #[vI g,i] S h (λv Y h'=>v=vI r∧AA r∧St Y (L) h'):=by
 refine A8 26 func165 O ntmps165 O λB=>?_;rw[Mm] at E;obtain⟨H,I,rfl,J,K⟩:=s.fn;refine AU ?_;refine AN (λa w=>∃(F:Int),IV B S h (26,[]) a w [(5,vI F)] (L) λ_ _=>AA F∧KX N F=some r) ?_ ?_
 ·refine BA (λV=>λa w=>∃(c:Int) (d:Int),IV B S h (26,[]) a w [(1,(.func (.func H) #[] I)),(5,vI c),(6,vI d)] (L) λ_ _=>AA c∧AA d∧Hb N p (KX N) V c d=some r) N ?_ ?_ ?_
  ·intro u z l m;exact⟨0,g,_,_,l.sub (kp [1,5,6] O),m,X,(CX.refl S h),(iq (n:=0) O),q,E⟩
  ·rintro u z ⟨_,_,_,_,_,_,_,_,_,_,E⟩;rw[Hb] at E;cases E
  rintro V u z ⟨c,d,Z,ab,l,m,k,t,C,M,E⟩;refine AI ?_ l m;clear l m z u;rw[Hb] at E;refine AU ?_;refine AE O E (λQ E=>?_) (λQ E=>?_)
  ·refine AU ?_;refine BG (AU ?_);refine JM O RM Th O (K9 (j:=1) O O O O (JM O Th RM O (AU ?_)));refine WF.rc (.inl O) k (AU ?_);obtain⟨ac,D,E⟩:=bd E;refine KN O O O J O (λh' o=>K _ h' (λb G=>wX (k.1 b (t.sub b G)) o.siz) (λb G=>(o.same b (k.1 b (t.sub b G))).trans (t.same b G)) [] (St.all h') _ _ (BY _) D) (AU ?_);refine BB (kp [21,7,1,5,6] O) λad A ae=>AE O E (λU E=>?_) (λU E=>?_)
   ·refine AU ?_;refine BP (WF.nil (λu z l m=>?_));exact⟨(BV ((BV (E6 .u64 (IntKind.wrap .u64 (BV (c+d))) 1))+1)),d,_,_,l.sub (kp [1,5,6] O),m,A,EX,(BY _),M,E⟩
   refine AU ?_;refine BP (WF.nil (λu z l m=>?_));exact⟨c,(BV (E6 .u64 (IntKind.wrap .u64 (BV (c+d))) 1)),_,_,l.sub (kp [1,5,6] O),m,A,EX,C,(BY _),E⟩
  refine WF.exit O (λu z l m=>?_);exact⟨c,_,_,l.sub (kp [5] O),m,k,t,C,E⟩
 rintro u z ⟨F,af,ag,l,m,W,ah,r6,E⟩;refine AI ?_ l m;clear l m z u;rw[KX] at E;exact RT
end Go.Proofs.YtibidnaedddfdaaGreat
