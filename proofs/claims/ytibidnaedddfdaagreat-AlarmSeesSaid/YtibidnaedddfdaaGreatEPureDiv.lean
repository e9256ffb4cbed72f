import Derived.Test.YtibidnaedddfdaaGreatEFacts
import Derived.Test.YtibidnaedddfdaaGreatEForms
import Derived.Test.YtibidnaedddfdaaGreatEInsert
import Derived.Test.YtibidnaedddfdaaGreatEWalk7
import Derived.Test.YtibidnaedddfdaaGreatEWalk16
import Derived.Test.YtibidnaedddfdaaGreatEWalk22
import Derived.Test.YtibidnaedddfdaaGreatEWalk23
import Derived.Test.YtibidnaedddfdaaGreatEWalk24
import Derived.Test.YtibidnaedddfdaaGreatEWalk25
import Derived.Lib.Mul64
namespace Go.Proofs.YtibidnaedddfdaaGreat
set_option linter.all false
open Go.RowKit
open Go.Proofs.Tryz
set_option maxRecDepth 10000
set_option maxHeartbeats 2000000
variable {N:Nat}{S:Nat→Prop}{L:List HP}{h:AX}
def Ol (hs:St S L h) {z:Value}{u:AF}(U:Rd S h B7 z u) {C:Value}{D:Dr}(V:Rd S h Dn C D) {c:Value}{d:(List BW)}(j:Sl S h Dj c d) {g:Int}(X:AA g) {r:Bool}(E:Ir N u D d g=some r):
 CD prog 83 #[z,C,c,vI g] S h (λv S' h'=>v= .bool r∧St S' (L) h'):=by
 refine A7 60 func83 O ntmps83 O λB=>?_;rw[Ir] at E;refine AU ?_;refine AT O U CE O hs λq1 S2 h3 a4 e5 k6=>?_;have k7:=V.mono e5;refine AT O k7 CE O a4 λq8 S9 ab ak a5 a6=>AU ?_;refine Ix (.inr ⟨mo,by kernel_rfl⟩) ?_;have ac:=k6.mono a5;have a7:=ac.fl H5;obtain⟨cn,_,a8⟩:=a7.ll;refine AU ?_;refine AN E O O a8 sl_26.1 O λa9 E co cp=>AU ?_;obtain⟨ba,q,E⟩:=bd E;refine A6 10 29 (.bool ba) ?_ ?_
 ·cases al:(decide (a9.F≠0))
  ·have q:=H8 al q;have bb:=ac.fl H5;obtain⟨cq,_,bc⟩:=bb.ll;refine AU ?_;refine AN q O O bc sl_26.1 O λcr q cs ct=>AU ?_;cases q;exact A5 O
  have q:=H7 al q;cases q;exact BO O O
 refine AU ?_;refine AE O E (λbe E=>?_) (λbe E=>?_)
 ·exact RT
 refine AU ?_;refine AQ (λa w=>IV B S9 ab (60,[]) a w [] (L) λ_ _=>Gl N=some r) ?_ ?_
 ·refine BJ (λn1=>λa w=>∃(s:Int),IV B S9 ab (60,[]) a w [(5,q8),(4,q1),(2,c),(3,vI g),(9,vI s)] (L) λ_ _=>AA s∧Du N u D d g (Gl N) n1 s=some r) N ?_ ?_ ?_
  ·intro I J x y;exact⟨0,_,_,x.sub (kp [5,4,2,3,9] O),y,ak,(Cc.refl S9 ab),(iq (n:=0) O),E⟩
  ·rintro I J ⟨_,_,_,_,_,_,_,_,E⟩;rw[Du] at E;cases E
  rintro n1 I J ⟨s,H,K,x,y,k,bf,cu,E⟩;refine AI ?_ x y;clear x y J I;rw[Du] at E;have cv:=j.nw;refine AU ?_;refine AE O E (λbg E=>?_) (λbg E=>?_)
  ·refine AU ?_;refine AQ (λa w=>IV B H K (60,[]) a w [(5,q8),(4,q1),(2,c),(3,vI g),(9,vI s)] (L) λ_ _=>Hm N s (Du N u D d g (Gl N) n1)=some r) ?_ ?_
   ·refine AU ?_;have bh:=j.nw;refine AN E O O bh sl_86.1 O λcw E cx cy=>AU ?_;refine AE O E (λbi E=>?_) (λbi E=>?_)
    ·refine WF.exit O (λI J x y=>?_);exact⟨_,_,x.sub (kp [5,4,2,3,9] O),y,k,(Cc.refl H K),E⟩
    refine AU ?_;obtain⟨W,am,E⟩:=bd E;obtain⟨l,an,E⟩:=bd E;refine TX (m:=[(5,q8),(4,q1),(2,c),(3,vI g),(9,vI s)]) 10 [8] (λi v G=>match i with|0=>Rd H G B7 v u|1=>Sl H G Dj v d|2=>v=vI s∧AA s|3=>Pt H G Dj v W|4=>Rd H G Dj v W|5=>v= .tuple #[.agg #[vI l.1.B,vI l.1.A],.bool l.2]∧AA l.1.B∧AA l.1.A|6=>v= .tuple #[.agg #[vI l.1.B,vI l.1.A],.bool l.2]∧AA l.1.B∧AA l.1.A|7=>v= .agg #[vI l.1.B,vI l.1.A]∧AA l.1.B∧AA l.1.A|8=>v= .bool l.2|9=>RP K 51 [vI 0,vI 0] v G|_=>False) [[],[],[],[(1,45),(2,46)],[(3,47)],[(0,44),(4,48)],[(5,49)],[(6,43)],[(6,43)],[]] [(7,50),(8,51),(9,10)] mo (by kernel_rfl) [5,4,2,3,9] O (by kernel_rfl) (by kernel_rfl) (by kernel_rfl) (kp [5,4,2,3,9] O) MO ?_ ?_ ?_
    ·refine Rv.cons [(6,43)] (by kernel_rfl) O O (by kernel_rfl) ?_ ?_
     ·intro Y G o;intro cz bj;obtain⟨rfl,c0,c1⟩:=bj;intro a x;exact⟨.bool l.2,Mv x O O,O⟩
     exact trivial
    ·refine BM.cons O ?_ ?_
     ·intro Y G o;have t:=o.st k;have bk:=ac.nw;obtain⟨c2,_,bl⟩:=bk.lv;refine AU ?_;exact B0 bl
     refine BM.cons O ?_ ?_
     ·intro Y G o;have t:=o.st k;refine AU ?_;have bm:=j.nw;exact B0 bm
     refine BM.cons O EY (BM.cons O ?_ ?_)
     ·intro Y G o;intro bn ad c3 bo;have t:=o.st k;have ad:Sl _ _ Dj bn d:=ad;obtain⟨rfl,c4⟩:=bo;refine AU ?_;refine Mc O O ad sl_86.1 am O λc5 bp=>AU ?_;exact B0 bp
     refine BM.cons O ?_ ?_
     ·intro Y G o;intro bq af;have t:=o.st k;have af:Pt _ _ Dj bq W:=af;obtain⟨c6,_,br⟩:=af.lv;refine AU ?_;exact B0 br
     refine BM.cons O ?_ ?_
     ·intro Y G o;intro bs M bt Q;have t:=SN.st k o;have M:=Rd.sn K M;have M:Rd _ _ B7 bs u:=M;have Q:=Rd.sn K Q;have Q:Rd _ _ Dj bt W:=Q;refine EQ O O O lF O t (OE (St.all _) (M.mono t.ea) (Q.mono t.ea) an) λbx bz b0 bu b1 Z p=>?_;obtain⟨rfl,⟨ao,ap⟩,bv⟩:=p;exact EB ⟨Z.siz,λb hb=>Z.same b hb⟩ ⟨O,ao,ap⟩
     refine BM.cons O ?_ ?_
     ·intro Y G o;intro b2 aq;have t:=o.st k;obtain⟨rfl,ar,au⟩:=aq;refine AU ?_;exact B0 ⟨O,ar,au⟩
     refine BM.cons O ?_ ?_
     ·intro Y G o;intro b3 av;have t:=o.st k;obtain⟨rfl,aw,ax⟩:=av;refine AU ?_;exact B0 ⟨O,aw,ax⟩
     refine BM.cons O ?_ ?_
     ·intro Y G o;intro b4 ay;have t:=o.st k;obtain⟨rfl,b5,b6⟩:=ay;refine AU ?_;exact B0 O
     exact BM.cons O (λ_ _ o=>Nk o EA O λ_ h' o' r'=>EB o' r') trivial
    intro b7 az b8 a0 b9 a1 ca a2;obtain⟨cb,rfl,ag⟩:=a2.st k az;obtain⟨rfl,cc,cd⟩:=a0;cases a1;refine AW O O O O ty_51.1 O ag .head O λce ah cf=>?_;have cg:=a6.nw;refine AU ?_;refine AE O E (λa3 E=>?_) (λa3 E=>?_)
    ·exact RT
    refine AU ?_;refine WF.nil (λI J x y=>?_);have ai:=ah.drop .head;exact⟨_,_,x.sub (kp [5,4,2,3,9] O),y,ai,EX,E⟩
   rintro I J ⟨ch,ci,x,y,aj,cj,E⟩;refine AI ?_ x y;clear x y J I;rw[Hm] at E;refine AU ?_;refine WF.nil (λI J x y=>?_);exact⟨(BR (s+1)),_,_,x.sub (kp [5,4,2,3,9] O),y,aj,EX,(B1 _),E⟩
  refine WF.exit O (λI J x y=>?_);exact⟨_,_,x.sub Ob,y,k,bf,E⟩
 rintro I J ⟨ck,cl,x,y,bw,cm,E⟩;refine AI ?_ x y;clear x y J I;rw[Gl] at E;exact RT
def OC (hs:St S L h) {s:Value}{i:AF}(y:Rd S h B7 s i) {b:Int}(C:AA b) {c:Value}{d:(List BW)}(j:Sl S h Dj c d) {r:Bool}(E:HV N i b d=some r):
 CD prog 34 #[s,vI b,c] S h (λv S' h'=>v= .bool r∧St S' (L) h'):=by
 refine A7 55 func34 O ntmps34 O λB=>?_;rw[HV] at E;refine AU ?_;refine AT O y CE O hs λQ U V W e5 k6=>AU ?_;refine AE O E (λX E=>?_) (λX E=>?_)
 ·exact RT
 refine AU ?_;refine AQ (λa w=>∃(z:Int),IV B U V (55,[]) a w [(3,Q),(1,vI b),(7,vI z)] (L) λ_ _=>AA z∧Dh N i b z=some r) ?_ ?_
 ·refine BJ (λY=>λa w=>∃(p:Int) (q:Int),IV B U V (55,[]) a w [(3,Q),(1,vI b),(2,c),(7,vI p),(8,vI q)] (L) λ_ _=>AA p∧AA q∧C0 N i b d (Dh N i b) Y p q=some r) N ?_ ?_ ?_
  ·intro t u k l;exact⟨0,0,_,_,k.sub (kp [3,1,2,7,8] O),l,W,(Cc.refl U V),(iq (n:=0) O),(iq (n:=0) O),E⟩
  ·rintro t u ⟨_,_,_,_,_,_,_,_,_,_,E⟩;rw[C0] at E;cases E
  rintro Y t u ⟨p,q,Z,ab,k,l,m,D,F,ac,E⟩;refine AI ?_ k l;clear k l u t;rw[C0] at E;have G:=k6.mono D;refine AU ?_;refine AE O E (λad E=>?_) (λad E=>?_)
  ·refine AU ?_;refine AQ (λa w=>∃(x:Int),IV B Z ab (55,[]) a w [(3,Q),(1,vI b),(2,c),(8,vI q),(7,vI x)] (L) λ_ _=>AA x∧HU N q (C0 N i b d (Dh N i b) Y) x=some r) ?_ ?_
   ·refine AU ?_;refine WF.rc (.inr ⟨mo,by kernel_rfl⟩) m ?_;obtain⟨ax,_,ae⟩:=G.lv;have af:=G.fl GT;obtain⟨ay,_,ag⟩:=af.ll;refine AU ?_;refine AN E O O ag sl_25.1 O λaz E a0 ah=>?_;obtain⟨a1,_,ai⟩:=ah.lv;refine AU ?_;have aj:=j.nw;refine BC E O O O pX O (λak H h' o=>Ol (St.all h') (ae.mono (o.all m.1)) (ai.mono (o.all m.1)) (aj.mono' (o.all m.1)) ac H) λak E=>AU ?_;refine BD (kp [9,3,1,2,7,8] O) λa2 A I=>AU ?_;refine AE O E (λal E=>?_) (λal E=>?_)
    ·refine AU ?_;refine WF.nil (λt u k l=>?_);exact⟨(BR (p+1)),_,_,k.sub (kp [3,1,2,8,7] O),l,A,I,(B1 _),E⟩
    refine AU ?_;refine WF.nil (λt u k l=>?_);exact⟨p,_,_,k.sub (kp [3,1,2,8,7] O),l,A,I,F,E⟩
   rintro t u ⟨x,a3,a4,k,l,J,a5,am,E⟩;refine AI ?_ k l;clear k l u t;rw[HU] at E;refine AU ?_;refine WF.nil (λt u k l=>?_);exact⟨x,(BR (q+1)),_,_,k.sub (kp [3,1,2,7,8] O),l,J,EX,am,(B1 _),E⟩
  refine WF.exit O (λt u k l=>?_);exact⟨p,_,_,k.sub (kp [3,1,7] O),l,m,D,F,E⟩
 rintro t u ⟨z,a6,a7,k,l,aw,an,a8,E⟩;refine AI ?_ k l;clear k l u t;rw[Dh] at E;have K:=k6.mono an;have ao:=K.fl GT;obtain⟨a9,_,ap⟩:=ao.ll;refine AU ?_;refine AN E O O ap sl_25.1 O λaq E ba bb=>AU ?_;obtain⟨ar,g,E⟩:=bd E;refine A6 9 54 (.bool ar) ?_ ?_
 ·cases M:(decide (0<aq.Ay))
  ·have g:=H8 M g;cases g;exact BO O O
  have g:=H7 M g;have au:=K.fl GT;obtain⟨bc,_,av⟩:=au.ll;refine AU ?_;refine AN g O O av sl_25.1 O λbe g bf bg=>AU ?_;cases g;exact A5 O
 exact RT
def NN (hs:St S L h) {A:Value}{M:AF}(J:Rd S h B7 A M) {u:Int}(d:AA u) {C:Value}{Q:BV}(K:Rd S h DL C Q) {p:Value}{y:(List Ci)}(c:Sl S h GR p y) {z:Value}{D:(List BT)}(n:Sl S h D2 z D) {w:Value}{x:(List Bool)}(m:Sl S h BU.bool w x) {j:Int}(q:AA j) {i:Value}{g:(List BW)}(a:Sl S h Dj i g) {r:Bool}(E:HZ N M u Q y D x j g=some r):
 CD prog 7 #[A,vI u,C,p,z,w,vI j,i] S h (λv S' h'=>v= .bool r∧St S' (L) h'):=by
 refine A7 91 func7 O ntmps7 O λB=>?_;rw[HZ] at E;refine AU ?_;refine AT O J CE O hs λq1 S2 h3 a2 e5 k6=>?_;have k7:=K.mono e5;refine AT O k7 CE O a2 λq8 S9 b4 X b5 Y=>AU ?_;refine WF.rc (.inl O) X ?_;refine BC E O O O rG O (λZ aa h' o=>Oq (St.all h') aa) λZ E=>AU ?_;refine BD (kp [17,10,8,1,3,4,5,6,7] O) λb6 F b7=>AU ?_;refine WF.rc (.inl O) F ?_;have ab:=k6.nw;obtain⟨b8,_,a3⟩:=ab.lv;refine AU ?_;have a4:=c.nw;have a5:=n.nw;refine BC E O O O rF O (λac ad h' o=>P4 (St.all h') (a3.mono (o.all F.1)) (a4.mono' (o.all F.1)) (a5.mono' (o.all F.1)) ad) λac E=>AU ?_;refine BD (kp [18,17,10,8,1,3,4,5,6,7] O) λb9 H ae=>AU ?_;refine WF.rc (.inl O) H ?_;have I:=ab.mono ae;obtain⟨ca,_,a6⟩:=I.lv;refine AU ?_;have a7:=c.mono' ((e5.trans EX).trans ae);refine BC E O O O rE O (λaf ag h' o=>PR (St.all h') (a6.mono (o.all H.1)) (a7.mono' (o.all H.1)) ag) λaf E=>AU ?_;refine BD (kp [19,18,17,10,8,1,3,4,5,6,7] O) λcb G ah=>AU ?_;refine WF.rc (.inl O) G ?_;have cc:=m.nw;have cd:=a.nw;refine AU ?_;obtain⟨ai,s,E⟩:=bd E;refine A6 4 52 (.bool ai) ?_ ?_
 ·cases aj:(((((!ac)||(!af))||(decide (8<j)))||(decide (8<(↑x.length:Int))))||(decide (12<(↑g.length:Int))))
  ·have s:=H8 aj s;have a8:=I.mono ah;obtain⟨ce,_,a9⟩:=a8.lv;refine AU ?_;refine BC s O O O rJ O (λba ak h' o=>SQ (St.all h') (a9.mono (o.all G.1)) ak) λba s=>AU ?_;cases s;exact A5 O
  have s:=H7 aj s;cases s;exact BO O O
 refine AU ?_;obtain⟨bb,t,E⟩:=bd E;refine A6 5 58 (.bool bb) ?_ ?_
 ·cases al:ai
  ·have t:=H8 al t;have bc:=I.mono ah;obtain⟨cf,_,be⟩:=bc.lv;have bf:=Y.nw;obtain⟨cg,_,bg⟩:=bf.lv;refine AU ?_;refine BC t O O O rI O (λbh am h' o=>TB (St.all h') (be.mono (o.all G.1)) (bg.mono (o.all G.1)) am) λbh t=>AU ?_;cases t;exact A5 O
  have t:=H7 al t;cases t;exact BO O O
 refine BD (kp [58,17,10,8,1,3,4,5,6,7] O) λch b ci=>AE O E (λbi E=>?_) (λbi E=>?_)
 ·exact RT
 refine AU ?_;refine WF.rc (.inr ⟨mo,by kernel_rfl⟩) b (AU ?_);obtain⟨an,k,E⟩:=bd E;refine A6 18 79 (.bool an) ?_ ?_
 ·cases ao:Z
  ·have k:=H8 ao k;cases k;exact BO O O
  have k:=H7 ao k;have ap:=I.nw;obtain⟨cj,_,bj⟩:=ap.lv;have aq:=Y.nw;obtain⟨ck,_,bk⟩:=aq.lv;refine AU ?_;have bl:=c.nw;have bm:=n.nw;have bn:=m.nw;refine BB k O O O rD O (λbo ar h' o=>SS (St.all h') (bj.mono (o.all b.1)) d (bk.mono (o.all b.1)) (bl.mono' (o.all b.1)) (bm.mono' (o.all b.1)) (bn.mono' (o.all b.1)) q ar) λbo k bp=>?_;have cl:=bp;obtain⟨cm,_,bq⟩:=ap.lv;obtain⟨cn,_,br⟩:=aq.lv;refine AU ?_;have bs:=c.nw;have bt:=n.nw;have bu:=m.nw;refine BB k O O O rB O (λbv au h' o=>Oj (St.all h') (bq.mono (o.all b.1)) d (br.mono (o.all b.1)) (bs.mono' (o.all b.1)) (bt.mono' (o.all b.1)) (bu.mono' (o.all b.1)) q au) λbv k bw=>?_;have co:=bw;refine AU ?_;refine Rp O O pM O O O O (AU ?_);cases k;exact A5 O
 refine AU ?_;obtain⟨bx,l,E⟩:=bd E;refine A6 10 90 (.bool bx) ?_ ?_
 ·cases av:an
  ·have l:=H8 av l;cases l;exact BO O O
  have l:=H7 av l;have U:=I.nw;obtain⟨b0,_,aw⟩:=U.lv;refine AU ?_;have ax:=a.nw;refine BC l O O O rA O (λay V h' o=>Rm (St.all h') (aw.mono (o.all b.1)) d (ax.mono' (o.all b.1)) V) λay l=>?_;obtain⟨b1,_,az⟩:=U.lv;refine AU ?_;have a0:=a.nw;refine BC l O O O qZ O (λa1 W h' o=>OC (St.all h') (az.mono (o.all b.1)) d (a0.mono' (o.all b.1)) W) λa1 l=>AU ?_;refine mX O O sS O (AU ?_);cases l;exact A5 O
 refine AU ?_;exact BD (kp [16] O) λb2 bz b3=>RT
abbrev Df {α}(x:Option α):Prop:=∃v,x=some v
def Nm (n:Int):IntKind.u64.wrap n=n%18446744073709551616:=by simp [IntKind.wrap,IntKind.bits,IntKind.signed]
def FH (a:Nat) (h:a<18446744073709551616):IntKind.u64.wrap (a:Int)=a:=by rw[Nm];omega
def RQ {n:Int}(h:IntKind.u64.has n):IntKind.u64.wrap n=n:=by
 simp [IntKind.has,IntKind.min,IntKind.max,IntKind.bits,IntKind.signed] at h;rw[Nm];omega
def Oi {n:Int}:IntKind.u64.has n↔0≤n∧n≤18446744073709551615:=by simp [IntKind.has,IntKind.min,IntKind.max,IntKind.bits,IntKind.signed]
def Zt {n:Int}(h:IntKind.u64.has n):∃a:Nat,n=a∧a<18446744073709551616:=by
 rw[Oi] at h;exact⟨n.toNat,by omega,by omega⟩
def WU (a j:Nat) (b:j≤64):FI .u64 (a:Int) j=((a/2^j:Nat):Int):=by
 unfold FI;have e:min j IntKind.u64.bits=j:=by simp [IntKind.bits];omega
 rw[e,Int.fdiv_eq_ediv_of_nonneg _ (Int.le_of_lt (Int.pow_pos (by decide)))];simp
def tO (a b:Nat) (g:a<18446744073709551616) (i:b<18446744073709551616):Ja .and .u64 (a:Int) (b:Int)=((a&&&b:Nat):Int):=by
 have c:(BitVec.ofInt 64 (a:Int)).toNat=a:=by rw[zI,zJ];exact xS (by omega)
 have d:(BitVec.ofInt 64 (b:Int)).toNat=b:=by rw[zI,zJ];exact xS (by omega)
 have j:a&&&b<2^64:=Nat.and_lt_two_pow _ (by omega);show IntKind.u64.wrap (((BitVec.ofInt 64 (a:Int))&&&(BitVec.ofInt 64 (b:Int))).toNat:Int)=_
 rw[BitVec.toNat_and,c,d,FH _ (by omega)]
def S3 (a:Nat) (b:a<18446744073709551616):Ja .and .u64 (a:Int) 4294967295=((a%4294967296:Nat):Int):=by
 have h:=tO a 4294967295 b (by omega);have e:a&&&4294967295=a%4294967296:=Nat.and_two_pow_sub_one_eq_mod a 32;rw[e] at h;exact h
def O6 (a:Nat):FI .u64 (a:Int) 32=((a/4294967296:Nat):Int):=WU a 32 (by omega)
def PE (a b:Nat):(a:Int)*(b:Int)=((a*b:Nat):Int):=(xV a b).symm
def RB (a b:Nat):(a:Int)+(b:Int)=((a+b:Nat):Int):=(Int.natCast_add a b).symm
def fS (a:Nat):IntKind.u64.wrap (a:Int)=((a%18446744073709551616:Nat):Int):=by rw[Nm];omega
def Qv (N x y:Nat) (k:x<18446744073709551616) (l:y<18446744073709551616):Ie N (x:Int) (y:Int)=some (((x*y/18446744073709551616:Nat):Int),((x*y%18446744073709551616:Nat):Int)):=by
 obtain⟨bd,m,n,c⟩:=Lib.mul64_hi x y k l;have p:=Lib.half_mul_le (a:=x/4294967296) (b:=y/4294967296) (by omega) (by omega);have q:=Lib.half_mul_le (a:=x/4294967296) (b:=y%4294967296) (by omega) (by omega);have s:=Lib.half_mul_le (a:=x%4294967296) (b:=y/4294967296) (by omega) (by omega);have d:x/4294967296*(y/4294967296)<18446744073709551616:=by omega
 have g:x/4294967296*(y%4294967296)<18446744073709551616:=by omega
 have i:x%4294967296*(y/4294967296)<18446744073709551616:=by omega
 have j:x/4294967296*(y/4294967296)+(x/4294967296*(y%4294967296)+x%4294967296*(y%4294967296)/4294967296)/4294967296<18446744073709551616:=by omega
 have o:x/4294967296*(y/4294967296)+(x/4294967296*(y%4294967296)+x%4294967296*(y%4294967296)/4294967296)/4294967296+((x/4294967296*(y%4294967296)+x%4294967296*(y%4294967296)/4294967296)%4294967296+x%4294967296*(y/4294967296))/4294967296<18446744073709551616:=by omega
 simp only[Ie,O6,S3 x k,S3 y l,PE,RB,FH _ bd,FH _ g,FH _ m,S3 _ m,FH _ i,FH _ n,FH _ d,FH _ j,FH _ o,fS (x*y)];rw[c]
def Ln (x n:Nat):Prop:=1≤n∧2^(n-1)≤x∧x<2^n
def Ln.shift {x m s:Nat}(h:Ln (x/2^s) m):Ln x (m+s):=by
 obtain⟨d,b,c⟩:=h;have a:0<2^s:=yV s;refine⟨by omega,?_,?_⟩
 ·have:2^(m-1)*2^s≤x:=(Nat.le_div_iff_mul_le a).1 b;rw[show m+s-1=(m-1)+s by omega,Nat.pow_add];exact this
 ·have:=(zU a).1 c;rw[Nat.pow_add];exact this
set_option maxRecDepth 20000 in
def sT:∀k:Nat,k<256→Xs Nf (k:Int)=some (((if k=0 then 0 else k.log2+1:Nat)):Int):=by decide +kernel
def cX {k:Nat}(h0:0<k) (h:k<256):∃n:Nat,Xs Nf (k:Int)=some (n:Int)∧Ln k n∧n≤8:=by
 have e:=sT k h;rw[uI (by omega)] at e;refine⟨_,e,⟨by omega,?_,Nat.lt_log2_self⟩,?_⟩
 ·rw[yW];exact Nat.log2_self_le (by omega)
 ·have:k.log2<8:=(Nat.log2_lt (by omega)).2 h;omega
def Zm (N:Nat) {x:Nat}(h0:0<x) (u:x<18446744073709551616):∃n:Nat,Jm N (x:Int)=some (n:Int)∧Ln x n∧n≤64:=by
 have c:∀a:Nat,a<9223372036854775808→BR (a:Int)=a:=λa h=>QM (by unfold AA;omega);have l:∀a:Nat,a<256→IntKind.u8.wrap (a:Int)=a:=λa h=>by simp [IntKind.wrap,IntKind.bits,IntKind.signed];omega
 have o:∀a b:Nat,0<a→a<256→b≤56→∃n:Nat,HM N (a:Int) (b:Int)=some ((n+b:Nat):Int)∧Ln a n∧n≤8:=λa b j k p=>by
  obtain⟨n,d,g,i⟩:=cX j k;refine⟨n,?_,g,i⟩;simp only[HM,l a k,d,uF,c n (by omega),RB,Nat.add_comm b n,c (n+b) (by omega)]
 have q:∀a b:Nat,0<a→a<65536→b≤48→∃n:Nat,HN N (a:Int) (b:Int)=some ((n+b:Nat):Int)∧Ln a n∧n≤16:=λa b j k p=>by
  unfold HN;by_cases s:256≤a
  ·rw[show decide ((256:Int)≤(a:Int))=true by simp;omega,uG,WU a 8 (by omega)];have m:BR ((b:Int)+8)=((b+8:Nat):Int):=by rw[show ((b:Int)+8)=((b+8:Nat):Int) by omega];exact c _ (by omega)
   rw[m];obtain⟨n,d,g,i⟩:=o (a/2^8) (b+8) (by omega) (by omega) (by omega);exact⟨n+8,by rw[d,show n+(b+8)=n+8+b by omega],g.shift,by omega⟩
  ·rw[show decide ((256:Int)≤(a:Int))=false by simp;omega,uH];obtain⟨n,d,g,i⟩:=o a b j (by omega) (by omega);exact⟨n,d,g,by omega⟩
 have t:∀a b:Nat,0<a→a<4294967296→b≤32→∃n:Nat,HO N (a:Int) (b:Int)=some ((n+b:Nat):Int)∧Ln a n∧n≤32:=λa b j k p=>by
  unfold HO;by_cases s:65536≤a
  ·rw[show decide ((65536:Int)≤(a:Int))=true by simp;omega,uG,WU a 16 (by omega)];have m:BR ((b:Int)+16)=((b+16:Nat):Int):=by rw[show ((b:Int)+16)=((b+16:Nat):Int) by omega];exact c _ (by omega)
   rw[m];obtain⟨n,d,g,i⟩:=q (a/2^16) (b+16) (by omega) (by omega) (by omega);exact⟨n+16,by rw[d,show n+(b+16)=n+16+b by omega],g.shift,by omega⟩
  ·rw[show decide ((65536:Int)≤(a:Int))=false by simp;omega,uH];obtain⟨n,d,g,i⟩:=q a b j (by omega) (by omega);exact⟨n,d,g,by omega⟩
 unfold Jm;by_cases s:4294967296≤x
 ·rw[show decide ((4294967296:Int)≤(x:Int))=true by simp;omega,uG,WU x 32 (by omega)];obtain⟨n,d,g,i⟩:=t (x/2^32) 32 (by omega) (by omega) (by omega);exact⟨n+32,by rw[show ((32:Int))=((32:Nat):Int) from rfl,d],g.shift,by omega⟩
 ·rw[show decide ((4294967296:Int)≤(x:Int))=false by simp;omega,uH];obtain⟨n,d,g,i⟩:=t x 0 h0 (by omega) (by omega);exact⟨n,d,g,by omega⟩
def gC (N:Nat) {y:Nat}(h0:0<y) (a:y<18446744073709551616):∃s:Nat,GI N (y:Int)=some (s:Int)∧s≤63∧9223372036854775808≤y*2^s∧y*2^s<18446744073709551616:=by
 obtain⟨n,b,⟨g,c,d⟩,i⟩:=Zm N h0 a;refine⟨64-n,?_,by omega,?_,?_⟩
 ·simp only[GI,b,uF];rw[QM (by unfold AA;omega)];congr 1;omega
 ·have:=wM (2^(64-n)) c;rw[←Nat.pow_add,show n-1+(64-n)=63 by omega] at this;exact this
 ·have:=Nat.mul_lt_mul_of_pos_right d (yV (64-n));rw[←Nat.pow_add,show n+(64-n)=64 by omega] at this;exact this
def Df.mk {α}(v:α):Df (some v):=⟨v,rfl⟩
def Df.bind {α β}{a:Option α}{f:α→Option β}(h:Df a) (k:∀v,a=some v→Df (f v)):Df (a.bind f):=by
 obtain⟨v,b⟩:=h;obtain⟨u,c⟩:=k v b;exact⟨u,by rw[b];exact c⟩
def Df.cond {α}{b:Bool}{x y:Option α}(a:b=true→Df x) (c:b=false→Df y):Df (cond b x y):=by
 cases b
 ·exact c rfl
 ·exact a rfl
def Fb {α}(b:Bool) (x y:α):cond b (some x) (some y)=some (cond b x y):=by cases b<;>rfl
def A9 {α}{l:List α}{i:Nat}(h:i<l.length):ix l (i:Int)=some l[i]:=by simp [ix,h]
def Df.ix {α}{l:List α}{i:Int}(h0:0≤i) (h:i<l.length):Df (ix l i):=by
 obtain⟨j,rfl⟩:∃j:Nat,i=j:=⟨i.toNat,by omega⟩
 exact⟨_,A9 (by omega)⟩
def CT {n:Int}(h0: -9223372036854775808≤n) (a:n≤9223372036854775807):BR n=n:=QM ⟨h0,a⟩
def kN {n:Int}:∃j,QZ (IntKind.u64.wrap n)=some j∧(j:Int)=IntKind.u64.wrap n:=by
 have:=(Oi.1 (Fw .u64 n)).1;exact⟨(IntKind.u64.wrap n).toNat,by unfold QZ;rw[uI (by omega)],by omega⟩
def WY {k:IntKind}{x y:Int}(h:y≠0):Df (PC k x y):=⟨_,by unfold PC;rw[uI h]⟩
def iV {x y:Int}(h:y≠0):Df (Tm x y):=⟨_,by unfold Tm;rw[uI h]⟩
def Z8 (N:Nat) (c y:Int) (b a:Nat) (d:Int→Option (Int×Int)) (g:∀v,Df (d v)):∀(n:Nat) (q r:Int),IntKind.u64.has q→q.toNat<n→Df (D4 N c y b a d n q r)
 |0,q,r,h,i=>by omega
 |n+1,q,r,h,i=>by
  have k:=Oi.1 h;unfold D4;refine Df.cond (λj=>?_) λ_=>g _;have h0:q≠0:=by
   rintro rfl;have:=(Oi.1 (Fw .u64 (IntKind.u64.wrap (4294967296*r)+FI .u64 (En .u64 c a) 32))).1;simp [Nm] at j this;omega
  have e:IntKind.u64.wrap (q-1)=q-1:=RQ (Oi.2 (by omega));refine Df.cond (λ_=>g _) λ_=>?_;exact Z8 N c y b a d g n _ _ (Fw _ _) (by rw[e];omega)
def Z7 (N:Nat) (c y:Int) (b a:Nat) (d:Int→Option (Int×Int)) (g:∀v,Df (d v)):∀(n:Nat) (r q:Int),IntKind.u64.has q→q.toNat<n→Df (EZ N c y b a d n r q)
 |0,r,q,h,i=>by omega
 |n+1,r,q,h,i=>by
  have k:=Oi.1 h;unfold EZ;refine Df.cond (λj=>?_) λ_=>g _;have h0:q≠0:=by
   rintro rfl;have:=(Oi.1 (Fw .u64 (IntKind.u64.wrap (4294967296*r)+Ja .and .u64 (En .u64 c a) 4294967295))).1;simp [Nm] at j this;omega
  have e:IntKind.u64.wrap (q-1)=q-1:=RQ (Oi.2 (by omega));refine Df.cond (λ_=>g _) λ_=>?_;exact Z7 N c y b a d g n _ _ (Fw _ _) (by rw[e];omega)
def BN:Nat:=36893488147419103232
def dR {a s:Nat}(j:s≤63) (c:9223372036854775808≤a*2^s) (b:a*2^s<18446744073709551616):FI .u64 (En .u64 (a:Int) s) 32≠0:=by
 have d:En .u64 (a:Int) s=((a*2^s:Nat):Int):=by
  unfold En;have g:min s IntKind.u64.bits=s:=by simp [IntKind.bits];omega
  have i:((a:Int)*2^s)=((a*2^s:Nat):Int):=by simp
  rw[g,i];exact FH _ b
 rw[d,O6];generalize a*2^s=t at c b
 omega
def kJ (N:Nat) (i k y g:Int) (a b c d:Nat) (q v:Int):Df (GJ N i k y g a b c d q v):=by
 unfold GJ;obtain⟨j,l,_⟩:=kN (n:=g);rw[l];exact Df.mk _
def kL {N:Nat}(o:18446744073709551616<N) (l k y m:Int) (b g i c:Nat) (q:Int) (hd:FI .u64 (En .u64 y b) 32≠0):Df (Ea N l k y m b g i c q):=by
 unfold Ea;refine Df.bind (WY hd) λj d=>?_;have a:=MF d;have n:=(Oi.1 a)
 exact Z7 N k y b c _ (λv=>kJ _ _ _ _ _ _ _ _ _ _ _) N _ j a (by omega)
def V3 {N:Nat}(A:18446744073709551616<N) {o q y:Int}(B:IntKind.u64.has o) (h2:IntKind.u64.has q) (C:IntKind.u64.has y) (h:o<y):Df (Gz N o q y):=by
 have g1:=Oi.1 B;have g:y≠0:=by omega
 have t:¬y≤o:=by omega
 unfold Gz;refine Df.cond (λp=>absurd (xI p) g) λ_=>Df.cond (λp=>absurd (xI p) t) λ_=>Df.cond (λ_=>?_) λ_=>?_
 ·exact Df.bind (WY g) λ_ _=>Df.bind (iV g) λ_ _=>Df.mk _
 ·obtain⟨D,u,F⟩:=Zt C;obtain⟨s,G,H,I,J⟩:=gC N (show 0<D by omega) F;have hd:∀j:Nat,(j:Int)=IntKind.u64.wrap (s:Int)→FI .u64 (En .u64 y j) 32≠0:=λj K=>by
   rw[FH s (by omega)] at K;have:j=s:=by omega
   rw[this,u];exact dR H I J
  rw[u,G];rw[←u];refine Df.bind (Df.mk _) λw x=>?_;have i:w=(s:Int):=(uX x).symm;obtain⟨k,M,Q⟩:=kN (n:=w);obtain⟨U,V,_⟩:=kN (n:=(64-IntKind.u64.wrap w));have l:=hd k (by rw[Q,i]);rw[M,V];refine Df.bind (Df.mk _) λa W=>Df.bind (Df.mk _) λb hb=>Df.bind (Df.mk _) λc p=>Df.bind (Df.mk _) λd X=>?_;have Y:=uX W;rw[←Y];refine Df.bind (WY l) λz Z=>?_;have m:=MF Z;have aa:=Oi.1 m;exact Z8 N q y k d _ (λv=>kL A _ _ _ _ _ _ _ _ _ l) N z _ m (by omega)
def VZ {N:Nat}(g:18446744073709551616<N) (a num den:Int):Df (Ga N a num den):=by
 unfold Ga;refine Df.cond (λ_=>Df.mk _) λb=>?_;simp only[vH,vC] at b;obtain⟨⟨⟨⟨⟨l,m⟩,o⟩,p⟩,q⟩,s⟩:=b;obtain⟨c,i⟩:∃n:Nat,a=n:=⟨a.toNat,by omega⟩
 obtain⟨d,j⟩:∃n:Nat,num=n:=⟨num.toNat,by omega⟩
 subst i;subst j;rw[FH c (by omega),FH d (by omega),Qv N c d (by omega) (by omega)];simp only[uF];have hd:IntKind.u64.wrap den=den:=RQ (Oi.2 (by omega));rw[hd];refine Df.cond (λ_=>Df.mk _) λb=>?_;simp only[vC] at b;have k:c*d<18446744073709551616*18446744073709551616:=Nat.mul_lt_mul'' (by omega) (by omega);refine Df.bind (V3 g (Oi.2 ⟨by omega,by omega⟩) (Oi.2 ⟨by omega,by omega⟩) (Oi.2 (by omega)) (by omega)) λv _=>?_;exact Df.cond (λ_=>Df.mk _) λ_=>Df.mk _
def Nn {N:Nat}(c:18446744073709551616<N) {num den:Int}(h0:0≤num) (k:0≤den) (l:den≤9223372036854775807):Df (E6 N num den):=by
 unfold E6;refine Df.cond (λ_=>Df.mk _) λd=>?_;simp only[vC] at d;refine Df.cond (λ_=>Df.mk _) λa=>?_;simp only[vC] at a;obtain⟨b,g⟩:∃n:Nat,num=n:=⟨num.toNat,by omega⟩
 obtain⟨i,j⟩:∃n:Nat,den=n:=⟨den.toNat,by omega⟩
 subst g;subst j;rw[FH b (by omega),FH i (by omega),show(1099511627776:Int)=((1099511627776:Nat):Int) from rfl,Qv N b 1099511627776 (by omega) (by omega)];simp only[uF];refine Df.bind (V3 c (Oi.2 ⟨by omega,by omega⟩) (Oi.2 ⟨by omega,by omega⟩) (Oi.2 (by omega)) (by omega)) λv _=>?_;exact Df.cond (λ_=>Df.mk _) λ_=>Df.mk _
def Zh {i j:Nat}(h:i+j<9223372036854775808):BR (FI .u64 (IntKind.u64.wrap (BR ((i:Int)+(j:Int)))) 1)=(((i+j)/2:Nat):Int):=by
 have a:BR ((i:Int)+(j:Int))=((i+j:Nat):Int):=by rw[CT (by omega) (by omega)];rfl
 rw[a,FH _ (by omega),WU _ 1 (by omega),CT (by omega) (by omega)]
def Ra {N:Nat}(f:Int→Option Bool) (L:Nat) (d:L<4611686018427387904) (b:∀i:Nat,i<L→Df (f i)) (a:Int→Option Int):∀(n i j:Nat),i≤j→j≤L→j-i<n→(0<i→f ((i-1:Nat):Int)=some false)→(j<L→f (j:Int)=some true)→
  ∃r:Nat,HL N f a n (i:Int) (j:Int)=a (r:Int)∧r≤L∧(0<r→f ((r-1:Nat):Int)=some false)∧(r<L→f (r:Int)=some true)
 |0,i,j,_,_,h,_,_=>by omega
 |n+1,i,j,o,g,p,k,l=>by
  unfold HL;by_cases m:i<j
  ·rw[show decide ((i:Int)<(j:Int))=true by simp;omega,uG,Zh (by omega)];obtain⟨v,c⟩:=b ((i+j)/2) (by omega);rw[c];simp only[uF];cases v
   ·simp only[Bool.not_false,uG];have e:BR ((((i+j)/2:Nat):Int)+1)=(((i+j)/2+1:Nat):Int):=by rw[CT (by omega) (by omega)];rfl
    rw[e];exact Ra f L d b a n _ j (by omega) g (by omega) (λ_=>by rw[yW];exact c) l
   ·simp only[vL,uH];exact Ra f L d b a n i _ (by omega) (by omega) (by omega) k (λ_=>c)
  ·have e:i=j:=by omega
   subst e;rw[show decide ((i:Int)<(i:Int))=false by simp,uH];exact⟨i,rfl,g,k,l⟩
def Pf {N:Nat}(f:Int→Option Bool) (L:Nat) (a:L<4611686018427387904) (g:L<N) (b:∀i:Nat,i<L→Df (f i)):∃r:Nat,LB N (L:Int) f=some (r:Int)∧r≤L∧(0<r→f ((r-1:Nat):Int)=some false)∧(r<L→f (r:Int)=some true):=by
 obtain⟨r,c,d⟩:=Ra (N:=N) f L a b (J5 N) N 0 L (uO _) (uW _) (by omega) (λh=>absurd h (by omega)) (λh=>absurd h (by omega));exact⟨r,c,d⟩
def JK (n:Int):Prop:=0≤n∧n≤1125899906842624
def Cp (c:List AV):Prop:=1≤c.length∧c.length≤32∧∀(k:Nat) p,c[k]? =some p→JK p.H∧JK p.L∧∀q,0<k→c[k-1]? =some q→q.H<p.H∧q.L≤p.L
def V5 {N:Nat}(c:List AV) (o:c.length≤32):∀(n k:Nat),c.length<n+k→k≤c.length→∃v,DI N c (HT N) n (k:Int)=some v∧(v=true→∀(i:Nat) p,k≤i→c[i]? =some p→JK p.H∧JK p.L∧∀q,0<i→c[i-1]? =some q→q.H<p.H∧q.L≤p.L)
 |0,k,h,s=>by omega
 |n+1,k,h,s=>by
  unfold DI;by_cases g:k<c.length
  ·rw[show decide ((k:Int)<(c.length:Int))=true by simp;omega,uG,A9 g];simp only[uF];cases t:(decide ((c[k]).H<0)||decide (1125899906842624<(c[k]).H)||decide ((c[k]).L<0)||decide (1125899906842624<(c[k]).L))
   ·simp only[uH];simp only[vH,vC] at t;obtain⟨v,u,l⟩:=V5 (N:=N) c o n (k+1) (by omega) (by omega);have w:BR ((k:Int)+1)=((k+1:Nat):Int):=by rw[CT (by omega) (by omega)];rfl
    rw[w,u];by_cases h0:0<k
    ·have x:BR ((k:Int)-1)=((k-1:Nat):Int):=by rw[CT (by omega) (by omega)];omega
     rw[show decide ((0:Int)<(k:Int))=true by simp;omega,x,A9 (show k-1<c.length by omega)];simp only[uG,uF,Fb];cases b:cond (decide ((c[k]).H≤(c[k-1]).H)) true (decide ((c[k]).L<(c[k-1]).L))
     ·simp only[uH];refine⟨v,rfl,λd i p m a=>?_⟩;by_cases e:i=k
      ·subst e;have:p=c[i]:=by simpa [g] using a.symm
       subst this;refine⟨⟨by omega,by omega⟩,⟨by omega,by omega⟩,λq _ y=>?_⟩;have:q=c[i-1]:=by simpa [show i-1<c.length by omega] using y.symm
       subst this;cases j:decide ((c[i]).H≤(c[i-1]).H) with
       |true=>rw[j] at b;simp at b
       |false=>
        rw[j] at b;simp only[uH,vC] at b j;omega
      ·exact l d i p (by omega) a
     ·exact⟨false,rfl,λh=>by cases h⟩
    ·have z:k=0:=by omega
     subst z;rw[show decide ((0:Int)<((0:Nat):Int))=false by simp];simp only[uH,uF];refine⟨v,rfl,λd i p m a=>?_⟩;by_cases e:i=0
     ·subst e;have:p=c[0]:=by simpa [g] using a.symm
      subst this;exact⟨⟨by omega,by omega⟩,⟨by omega,by omega⟩,λq h _=>absurd h (by omega)⟩
     ·exact l d i p (by omega) a
   ·exact⟨false,rfl,λh=>by cases h⟩
  ·rw[show decide ((k:Int)<(c.length:Int))=false by simp;omega,uH];refine⟨true,rfl,λ_ i p m a=>?_⟩;have:=(uV.1 a).1;omega
def KH {N:Nat}(j:33<N) (c:List AV):∃v,D6 N c=some v∧(v=true→Cp c):=by
 unfold D6;cases a:(decide ((c.length:Int)<1)||decide (32<(c.length:Int)))
 ·simp only[vH,vC] at a;obtain⟨v,b,d⟩:=V5 (N:=N) c (by omega) N 0 (by omega) (by omega);exact⟨v,b,λg=>⟨by omega,by omega,λk p i=>d g k p (by omega) i⟩⟩
 ·exact⟨false,rfl,λh=>by cases h⟩
def VP {N:Nat}(b:18446744073709551616<N) {c:List AV}(l:1≤c.length) (m:c.length≤32) (x:Int):Df (Fd N c x):=by
 unfold Fd;obtain⟨r,d,n,_⟩:=Pf (N:=N) (λy=>Gb N c x y) c.length (by omega) (by omega) λi g=>by
  unfold Gb;rw[A9 g];exact Df.mk _
 rw[d];simp only[uF];refine Df.cond (λ_=>Df.bind (Df.ix (by omega) (by omega)) λ_ _=>Df.mk _) λj=>?_;simp only[vC] at j;have k:BR ((r:Int)-1)=((r-1:Nat):Int):=by rw[CT (by omega) (by omega)];omega
 rw[k];refine Df.bind (Df.ix (by omega) (by omega)) λ_ _=>Df.cond (λ_=>Df.mk _) λa=>?_;simp only[vC] at a;exact Df.bind (Df.ix (by omega) (by omega)) λ_ _=>Df.bind (Df.ix (by omega) (by omega)) λ_ _=>Df.bind (VZ b _ _ _) λ_ _=>Df.mk _
end Go.Proofs.YtibidnaedddfdaaGreat
