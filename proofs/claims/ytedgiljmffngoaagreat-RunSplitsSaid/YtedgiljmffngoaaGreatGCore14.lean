import Derived.Test.YtedgiljmffngoaaGreatGCore10
import Derived.MapKept
namespace Go.Proofs.YtedgiljmffngoaaGreat
set_option linter.all false
open Go.RowKit
abbrev AR:=Nat→Value→AW→Prop
def D6 (ops:Array Oper) (i:Nat):Option Nat:=(ops[i]?).bind (·.dst)
def Kb (o:Oper):List Nat:=(o.after.toList.filter (Region.binds .any)).map (·.on)
def cS (ops:Array Oper) (kk:Nat) (n:FN) (m:List Nat):Bool:=
 (List.range kk).all λi=>match D6 ops i with
  |some d=>Nat.blt d n.1&& !(m.contains d)&&(List.range kk).all λj=>Nat.beq i j|| !((D6 ops j).any (Nat.beq d ·))
  |none=>false
def pG (ops:Array Oper) (kk:Nat):Bool:=Nat.ble kk ops.size&&(Nat.beq kk ops.size||(Region.sinkB .any ops kk&&Region.chainB .any ops kk))&&Lu ops
def KS (B:World) (n:FN) (d:Nat) (R:Value→AW→Prop) (h:AW) (m:SM):Act→World→Prop:=λa w=>
 ∃v h',Fr n a ((d,v)::m)∧Wd B h' w∧C5 h h'∧R v h'
def PA (R:AR) (h:AW) (K:SM→Prop):List (Nat×Nat)→SM→Prop
 |[],fr=>K fr
 |(j,d)::a,fr=>∀u,R j u h→PA R h K a ((d,u)::fr)
def yb:Value→Option Bool
 | .bool b=>some b
 |_=>none
def Td (P:Program) (ops:Array Oper) (Q:Exit→Act→World→Prop) (B:World) (n:FN) (m:SM) (h0:AW) (R:AR) (i:Nat) (o:Oper) (d:Nat) (c:List (Nat×Nat)):Prop:=
 ∀mt h,C5 h0 h→PA R h (λfr=>match o.guard with
  |none=>LF P ops (Exit.then (KS B n d (R i) h (fr++(m++mt))) Q) [o] B h n (fr++(m++mt))
  |some (g,b)=>∃a,D6 ops g=some a∧((lk fr a=some (.bool b)∧LF P ops (Exit.then (KS B n d (R i) h (fr++(m++mt))) Q) [{ o with guard:=none}] B h n (fr++(m++mt)))∨∃v,lk fr a=some v∧yb v≠some b∧R i undef h)) c []
def QP (ops:Array Oper) (o:Oper) (a:List (Nat×Nat)):Bool:=a.all λp=>(Kb o).contains p.1&&(D6 ops p.1).any (Nat.beq p.2 ·)
def IC {m mt:SM}{i:Nat}:lk (m++mt) i=(lk m i).or (lk mt i):=by
 induction m with
 |nil=>simp [lk]
 |cons e r a=>
  obtain⟨j,v⟩:=e;simp only[uV,lk];cases Nat.beq j i with
  |true=>simp
  |false=>simpa using a
def Fr.append {n a m mt}(c:Fr n a m) (g:Fr n a mt):Fr n a (m++mt):=⟨c.dfr,c.siz,λi v b=>by
 rw[IC] at b;cases d:lk m i with
 |some u=>rw[d] at b;simp at b;subst b;exact c.at_ i _ d
 |none=>rw[d] at b;simp at b;exact g.at_ i v b⟩
def Gl (a:Act):SM:=(List.range a.tmps.size).map λi=>(i,a.tmps.getD i undef)
def Q4 (f:Nat→Value):∀(k s i:Nat),s≤i→i<s+k→lk ((List.range' s k).map λi=>(i,f i)) i=some (f i)
 |0,s,i,a,b=>by omega
 |k+1,s,i,a,b=>by
  simp only[List.range'_succ,uY,lk];by_cases e:s=i
  ·subst e;simp
  ·have:Nat.beq s i=false:=by
    cases c:Nat.beq s i with
    |false=>rfl
    |true=>exact absurd (tV c) e
   rw[this];exact Q4 f k (s+1) i (by omega) (by omega)
def Oz {a:Act}{i:Nat}(h:i<a.tmps.size):lk (Gl a) i=some (a.tmps.getD i undef):=by
 unfold Gl;rw[List.range_eq_range'];exact Q4 _ _ 0 i (by omega) (by omega)
def Q3 (f:Nat→Value):∀(k s i:Nat),s+k≤i→lk ((List.range' s k).map λi=>(i,f i)) i=none
 |0,s,i,h=>rfl
 |k+1,s,i,h=>by
  simp only[List.range'_succ,uY,lk];have:Nat.beq s i=false:=by
   cases a:Nat.beq s i with
   |false=>rfl
   |true=>exact absurd (tV a) (by omega)
  rw[this];exact Q3 f k (s+1) i (by omega)
def Fr.full {n a m}(h:Fr n a m):Fr n a (Gl a):=⟨h.dfr,h.siz,λi v b=>by
 by_cases c:i<a.tmps.size
 ·rw[Oz c] at b;injection b with b
  subst b;simp [vQ,xC c]
 ·unfold Gl at b;rw[List.range_eq_range',Q3 _ _ 0 i (by omega)] at b;cases b⟩
section
variable {P:Program}{ops:Array Oper}{Q:Exit→Act→World→Prop}{a:Act}{w:World}
def HQ {o:Oper}{K:Act→World→Prop}(l:o.guard=none) (h:wpList P ops (Exit.then K Q) [o] a w):o.wp P a w K Q∨(o.asks P a w∧LetsOut Q):=by
 unfold wpList at h;rw[tT (by simp [Region.wanted,l])] at h;rcases h with b|⟨b,g,i,h2⟩
 ·refine .inl ?_;unfold Oper.wp at b ⊢;generalize (execOp a.eval o).run P w=r at b
  cases r with
  |ok m w'=>
   cases m<;>simp only[Oper.upon] at b ⊢
   case value v=>exact b
   case skip=>exact b
   case defer d=>exact b
   case enter f args=>
    refine b.mono λe j k=>?_;cases e with
    |returned v=>exact k
    |panicked c=>exact k
    |outgrown=>obtain⟨g,i,h0⟩:=k;exact⟨g,i,h0⟩
   case row r args=>obtain b:=b;exact Rows.mono b λv j n=>n
  |halt x w'=>cases x<;>simp only[Oper.upon] at b ⊢;exact b
 ·exact .inr ⟨b,g,i,h2⟩
def L9 {o:Oper}{K:Act→World→Prop}(h:({ o with guard:=none}:Oper).wp P a w K Q∨(({ o with guard:=none}:Oper).asks P a w∧LetsOut Q)):o.wp P a w K Q∨(o.asks P a w∧LetsOut Q):=h
def Pw (a:Array Bool):Nat:=a.toList.count false
def J8 {a:Array Bool}{i:Nat}(h:a.getD i true=false):Pw (a.setIfInBounds i true)+1=Pw a:=by
 have b:i<a.size:=by
  rcases uM i a.size with h'|h'
  ·exact h'
  ·simp [Array.getElem?_eq_none h'] at h
 have c:a[i]=false:=by simpa [b] using h
 have g:false∈a.toList:=by rw[←c];simp
 have d:0<a.toList.count false:=List.count_pos_iff.2 g;unfold Pw;rw[Array.toList_setIfInBounds,List.count_set (by simpa using b)];have j:a.toList[i]'(by simpa using b)=false:=by simpa using c
 rw[j];rw[show (if (false==false)=true then 1 else 0:Nat)=1 from rfl,show(if (true==false)=true then 1 else 0:Nat)=0 from rfl];omega
def OH {a:Array Bool}(h:Pw a=0) {i:Nat}:a.getD i true=true:=by
 cases b:a.getD i true with
 |true=>rfl
 |false=>have:=J8 b;omega
def Ow {a:Array Bool}(h:∀i,i<ops.size→a.getD i true=true):Region.ready .any ops a=[]:=by
 apply List.eq_nil_iff_forall_not_mem.2;intro j c;obtain⟨b,o,d,_⟩:=mem_ready.1 c;rw[h j (uH.1 d).1] at b;cases b
def IJ {a:Array Bool}(n:Lu ops=true) (w:a.size=ops.size) {k:Nat}(x:k<ops.size) (o:a.getD k true=false):∃i,i≤k∧i∈Region.ready .any ops a∧∀j,j<i→a.getD j true=true:=by
 obtain⟨i,q,s,g⟩:=Kf (p:=λi=>a.getD i true) k o;have b:i<ops.size:=by omega
 refine⟨i,q,mem_ready.2 ⟨s,ops[i],by simp [b],λe t c=>?_⟩,g⟩;have d:=tS.1 n i (uG.2 b);have u:ops[i]? =some ops[i]:=by simp [b]
 rw[u] at d;simp only[wK,vK,wL] at d;have l:=d e t;simp only[c,uP,wC,uF] at l;have m:=g e.on l;have v:e.on<a.size:=by omega
 simp only[vQ,xC v,vK] at m ⊢;exact m
def PV {kk:Nat}(F:Region.chainB .any ops kk=true) (G:Lu ops=true):∀(c t:Nat) (b:Array Bool) (a:Act) (w:World),kk≤t→t+c=ops.size→b.size=ops.size→(∀j,j<t→b.getD j true=true)→(∀j,t≤j→j<ops.size→b.getD j true=false)→
  wpList P ops Q (ops.toList.drop t) a w→wpAny P .any ops Q c b a w
 |0,t,b,a,w,_,U,q,l,p,g=>by
  rw[wX (by simp;omega)] at g;exact⟨Ow λi H=>l i (by omega),g⟩
 |c+1,t,b,a,w,hk,U,q,l,p,g=>by
  have d:t<ops.size:=by omega
  have s:=p t (tX _) d;obtain⟨i,V,I,q3⟩:=IJ G q d s;have u:i=t:=by
   rcases yM V with h|h
   ·exact absurd (l i h) (by rw[(mem_ready.1 I).1];exact Bool.false_ne_true)
   ·exact h
  subst u;refine⟨λh0=>absurd (h0▸I) (by simp),λj W=>?_⟩;have v:j=i:=by
   obtain⟨J,X,k,m⟩:=mem_ready.1 W;have n:=(uH.1 k).1;by_cases x:j<i
   ·rw[l j x] at J;cases J
   ·by_cases e:j=i
    ·exact e
    ·have o:=tS.1 F j (uG.2 n);simp only[uD,uF] at o;rcases o with o|o
     ·omega
     ·obtain⟨Y,y,Z,z,A,B⟩:=Region.waitsFor_spec o;have:Y=X:=tN (y.symm.trans k);subst this;have K:=m Z z A;have g4:=p (j-1) (by omega) (by omega);rw[B,getD_both g4] at K;cases K
  subst v;have k:ops[j]? =some ops[j]:=by simp [d]
  rw[yL (by simpa using d)] at g;simp only[Array.getElem_toList] at g;have M:=λa w=>PV F G c (j+1) (b.setIfInBounds j true) a w (by omega) (by omega) (by simpa using q)
   (λi H=>by
    by_cases e:i=j
    ·subst e;have:i<b.size:=by omega
     simp [vQ,vE,this]
    ·rw[getD_set_ne true (by omega)];exact l i (by omega))
   (λi H C=>by rw[getD_set_ne true (by omega)];exact p i (by omega) C)
  unfold wpOp;simp only[k];unfold wpList at g;split
  ·rename_i D;rw[tT D] at g;exact g.imp (Oper.wp_mono M) id
  ·rename_i D;rw[tQ D] at g;exact M _ _ g
structure qO (B:World) (h0:AW) (n:FN) (m:SM) (ops:Array Oper) (kk:Nat) (R:AR) (listed:Array Bool) (a:Act) (w:World):Prop where
 ex:∃h,Wd B h w∧C5 h0 h∧Fr n a m∧∀i,i<kk→listed.getD i false=true→∃d v,D6 ops i=some d∧a.tmps[d]? =some v∧R i v h
def Fr.same {n:FN}{a b:Act}{d:Nat}{v:Value}{l k:SM}(hd:d<n.1) (h:Fr n a l) (h':Fr n b ((d,v)::k)) (m:∀i u,i≠d→a.tmps[i]? =some u→lk ((d,v)::k) i=some u):b=a.put (some d) v:=by
 obtain⟨t,o⟩:=a;obtain⟨t',c⟩:=b;have p:o=n.2:=h.dfr;have q:c=n.2:=h'.dfr;subst p;subst q;have w:t.size=n.1:=h.siz;have x:t'.size=n.1:=h'.siz;simp only[Act.put,Act.mk.injEq,and_true];apply Array.ext_getElem?;intro i;rw[vE];by_cases e:d=i
 ·subst e;rw[tT rfl,tT (by omega)];exact h'.at_ d v (by simp [lk])
 ·rw[tQ e];cases g:t[i]? with
  |some u=>exact h'.at_ i u (m i u (λs=>e s.symm) g)
  |none=>
   have:t.size≤i:=by
    rcases uM i t.size with j|j
    ·rw[xC j] at g;cases g
    ·exact j
   exact Array.getElem?_eq_none (by omega)
def Sz {a:Array Bool}{kk:Nat}(o:kk≤a.size) (k:∀i,i<kk→a.getD i true=true) (l:∀i,kk≤i→i<a.size→a.getD i true=false):kk+Pw a=a.size:=by
 have e:a.toList=a.toList.take kk++a.toList.drop kk:=(yA _ _).symm;unfold Pw;rw[e,List.count_append];have m:(a.toList.take kk).count false=0:=by
  rw[List.count_eq_zero];intro g;obtain⟨i,j,d⟩:=xF.1 g;have c:i<kk∧i<a.size:=by simp at j;omega
  have:=k i c.1;rw[List.getElem_take] at d;simp [c.2] at this;simp [this] at d
 have n:(a.toList.drop kk).count false=(a.toList.drop kk).length:=by
  rw[List.count_eq_length];intro b g;obtain⟨i,j,d⟩:=xF.1 g;have c:kk+i<a.size:=by simp at j;omega
  have:=l (kk+i) (by omega) c;rw[List.getElem_drop] at d;simp [c] at this;simp [this] at d;exact d.symm
 rw[m,n];simp;omega
def JA {R:AR}{h:AW}{K:SM→Prop}{n:FN}:∀(k:List (Nat×Nat)) (fr:SM),PA R h K k fr→(∀p∈k,∃v,a.tmps[p.2]? =some v∧R p.1 v h)→Fr n a fr→∃c,K c∧Fr n a c
 |[],fr,l,_,g=>⟨fr,l,g⟩
 |(j,d)::k,fr,l,q,g=>by
  obtain⟨v,s,t⟩:=q (j,d) (by simp);refine JA k _ (l v t) (λw m=>q w (by simp [m])) ⟨g.dfr,g.siz,λi u b=>?_⟩;simp only[lk] at b;cases o:Nat.beq d i with
  |true=>
   rw[o] at b;simp only[tL,vB] at b;have:=tV o;subst this;subst b;exact s
  |false=>rw[o] at b;simp only[tM] at b;exact g.at_ i u b
def R7 {m:SM}{i:Nat}{v:Value}(h:lk m i=some v):i∈m.map (·.1):=by
 induction m with
 |nil=>simp [lk] at h
 |cons e r b=>
  obtain⟨j,u⟩:=e;simp only[lk] at h;cases a:Nat.beq j i with
  |true=>have:=tV a;subst this;simp
  |false=>rw[a] at h;simp only[tM] at h;simp [b h]
def Ju {n:FN}{fr:SM}{g d:Nat}(c:Fr n a fr) {v:Value}(b:D6 ops g=some d) (i:lk fr d=some v):yielded ops a.tmps g=yb v:=by
 have j:=c.at_ d v i;unfold yielded;unfold D6 at b;simp only[b,tJ,j];cases v<;>rfl
def dK {B:World}{h0:AW}{kk:Nat}{n:FN}{m:SM}{R:AR}(V:kk≤ops.size) (hb:Lu ops=true)
  (J:kk=ops.size∨(Region.sinkB .any ops kk=true∧Region.chainB .any ops kk=true))
  (ac:cS ops kk n (m.map (·.1))=true)
  (W:∀i v h h',C5 h0 h→C5 h h'→R i v h→R i v h')
  (step:∀i o d,i<kk→ops[i]? =some o→o.dst=some d→∃ps,QP ops o ps=true∧Td P ops Q B n m h0 R i o d ps)
  (ad:∀a w h,Wd B h w→C5 h0 h→Fr n a m→(∀i,i<kk→∃d v,D6 ops i=some d∧a.tmps[d]? =some v∧R i v h)→wpList P ops Q (ops.toList.drop kk) a w):
  ∀(q:Nat) (c:Array Bool) (a:Act) (w:World),Pw c=q→HeadInv .any ops kk c→qO B h0 n m ops kk R c a w→wpAny P .any ops Q q c a w:=by
 intro q
 induction q with
 |zero=>
  intro c a w K k ai;have l:∀i,c.getD i true=true:=λi=>OH K;obtain⟨h,g1,g2,F,g4⟩:=ai.ex;have hk:kk=ops.size:=by
   rcases yM V with h|h
   ·have y:=k.tail kk (tX _) h;have G:=l kk;rw[y] at G;cases G
   ·exact h
  have hf:=ad a w h g1 g2 F λi z=>g4 i z (by
   have G:=l i;have:i<c.size:=by rw[k.size];omega
   simpa [this] using G)
  rw[wX (by simp;omega)] at hf;exact⟨Ow λi _=>l i,hf⟩
 |succ q ih=>
  intro c a w K k ai;obtain⟨h,g1,g2,F,g4⟩:=ai.ex;by_cases l:∀i,i<kk→c.getD i true=true
  ·
   have hf:=ad a w h g1 g2 F λi z=>g4 i z (by
    have G:=l i z;have:i<c.size:=by rw[k.size];omega
    simpa [this] using G)
   have a2:kk<ops.size:=by
    rcases yM V with h|h
    ·exact h
    ·exfalso;have X:∀b∈c.toList,b=true:=by
      intro b A;obtain⟨i,z,rfl⟩:=xF.1 A;have H:i<c.size:=by simpa using z
      have:=l i (by have:=k.size;omega);simpa [H] using this
     have:Pw c=0:=by
      unfold Pw;rw[List.count_eq_zero];intro hm;have:=X _ hm;cases this
     omega
   rcases J with hc|⟨_,hc⟩
   ·omega
   ·refine PV hc hb (q+1) kk c a w (tX _) ?_ k.size l (λj M Y=>k.tail j M Y) hf;have:=Sz (by rw[k.size];exact V) l (λj M Y=>k.tail j M (by rw[←k.size];exact Y));rw[k.size] at this;omega
  ·obtain⟨k0,aq,ae⟩:∃k0,k0<kk∧c.getD k0 true=false:=by
    apply wY;intro ar;refine l λi z=>?_;cases hl:c.getD i true with
    |true=>rfl
    |false=>exact absurd ⟨i,z,hl⟩ ar
   obtain⟨i0,_,au,_⟩:=IJ hb k.size (show k0<ops.size by omega) ae;refine⟨λh0=>absurd (h0▸au) (by simp),λi z=>?_⟩;obtain⟨av,o,ho,af⟩:=mem_ready.1 z;have ag:i<ops.size:=(uH.1 ho).1;have Z:i<kk:=by
    rcases uM i kk with h|h
    ·exact h
    ·rcases J with hc|⟨hs,hc⟩
     ·omega
     ·exact absurd z (tail_waits hs hc (by omega) k _ k0 rfl aq ae i h)
   have s:=tS.1 ac i (uG.2 Z);cases hd:D6 ops i with
   |none=>rw[hd] at s;cases s
   |some d=>
   rw[hd] at s;simp only[tO,uI,tS,uG,uD] at s;obtain⟨⟨ah,aj⟩,aw⟩:=s;have ak:d+1≤n.1:=by simpa [Nat.blt] using ah
   have U:d<n.1:=ak;have al:o.dst=some d:=by unfold D6 at hd;rw[ho] at hd;exact hd
   have I:∀j∈Kb o,∃d v,D6 ops j=some d∧a.tmps[d]? =some v∧R j v h:=by
    intro j M;obtain⟨e,he,rfl⟩:=uX.1 M;obtain⟨ax,am⟩:=vL.1 he;have an:e∈o.after:=by simpa using ax
    have y:=af e an am;have h4:=tS.1 hb i (uG.2 ag);rw[ho] at h4;simp only[wK,vK,wL] at h4;have h6:=h4 e an;simp only[am,uP,wC,uF] at h6;exact g4 e.on (by omega) y
   obtain⟨ps,ay,aa⟩:=step i o d Z ho al;have C:∀p∈ps,∃v,a.tmps[p.2]? =some v∧R p.1 v h:=by
    intro p hp;have y:=tS.1 ay p hp;simp only[tO] at y;obtain⟨d',v,q1,q2,q3⟩:=I p.1 (by simpa using y.1);have G:=y.2;rw[q1] at G;have:p.2=d':=tV (by simpa using G);exact⟨v,by rw[this];exact q2,q3⟩
   obtain⟨fr,hK,ab⟩:=JA (a:=a) (n:=n) _ _ (aa (Gl a) h g2) C ⟨F.dfr,F.siz,λi v z=>by simp [lk] at z⟩;have t:Fr n a (fr++(m++Gl a)):=ab.append (F.append F.full);have az:∀i u,a.tmps[i]? =some u→lk (fr++(m++Gl a)) i=some u:=by
    intro i u K;have hl:lk (Gl a) i=some u:=by
     have:i<a.tmps.size:=(uH.1 K).1;rw[Oz this];simp [vQ,K]
    have a0:∃u',lk (fr++(m++Gl a)) i=some u':=by
     rw[IC,IC,hl];cases lk fr i with
     |some x=>exact⟨x,by simp⟩
     |none=>cases lk m i with
      |some x=>exact⟨x,by simp⟩
      |none=>exact⟨u,by simp⟩
    obtain⟨u',ao⟩:=a0;have:=t.at_ i u' ao;rw[K] at this;rw[ao,←tN this]
   have next:∀v w' h',Wd B h' w'→C5 h h'→R i v h'→wpAny P .any ops Q q (c.setIfInBounds i true) (a.put (some d) v) w':=by
    intro v w' h' a1 ap hr;refine ih _ _ _ (by have:=J8 av;omega) (k.set z Z) ⟨h',a1,g2.trans ap,?_,λj M hl=>?_⟩
    ·have hp:=F.put ah v;refine⟨hp.dfr,hp.siz,λi' u H=>hp.at_ i' u ?_⟩;have D:Nat.beq d i'=false:=by
      cases A:Nat.beq d i' with
      |false=>rfl
      |true=>
       have:=tV A;subst this;have y:=R7 H;rw[←tW] at y;rw[y] at aj;cases aj
     simp only[lk,D,tM];exact H
    ·by_cases e:i=j
     ·subst e;refine⟨d,v,hd,?_,hr⟩;simp only[Act.put,vE];have:=F.siz;simp [this,U]
     ·rw[getD_set_ne false e] at hl;obtain⟨dj,vj,q1,q2,q3⟩:=g4 j M hl;refine⟨dj,vj,q1,?_,W _ _ _ _ g2 ap q3⟩;have y:=aw j M;rw[q1] at y;have D:d≠dj:=by
       rcases y with y|y
       ·exact absurd (tV y) e
       ·intro e';subst e';simp at y
      simp only[Act.put,vE];rw[tQ D];exact q2
   have conv:∀a' w',KS B n d (R i) h (fr++(m++Gl a)) a' w'→wpAny P .any ops Q q (c.setIfInBounds i true) a' w':=by
    rintro a' w' ⟨v,h',f1,f2,f3,f4⟩;have:=Fr.same U t f1 λi u z K=>by
     have D:Nat.beq d i=false:=by
      cases A:Nat.beq d i with
      |false=>rfl
      |true=>exact absurd (tV A).symm z
     simp only[lk,D,tM];exact az i u K
    subst this;exact next v w' h' f2 f3 f4
   unfold wpOp;simp only[ho];cases hg:o.guard with
   |none=>
    rw[hg] at hK;rw[tT (by simp [Region.wanted,hg])];exact(HQ hg (hK a w t g1)).imp (Oper.wp_mono conv) id
   |some gb=>
    obtain⟨g,b⟩:=gb;rw[hg] at hK;obtain⟨dg,q1,hK⟩:=hK;rcases hK with ⟨k1,k2⟩|⟨v,k1,k2,k3⟩
    ·have hy:yielded ops a.tmps g=some b:=Ju ab q1 k1;rw[tT (by simp [Region.wanted,hg,hy])];exact(L9 (HQ rfl (k2 a w t g1))).imp (Oper.wp_mono conv) id
    ·have hy:yielded ops a.tmps g≠some b:=by rw[Ju ab q1 k1];exact k2
     rw[tQ (by simp [Region.wanted,hg,hy]),al];exact next undef w h g1 (C5.refl h) k3
def AQ (P:Program) (ops:Array Oper) (Q:Exit→Act→World→Prop) (B:World) (n:FN) (m:SM) (h0:AW) (R:AR):Nat→List Oper→List (List (Nat×Nat))→Prop
 |i,o::l,a::pss=>(match o.dst with|some d=>Td P ops Q B n m h0 R i o d a|none=>False)∧AQ P ops Q B n m h0 R (i+1) l pss
 |_,_,_=>True
def Vt (ops:Array Oper) (l:List Oper) (pss:List (List (Nat×Nat))):Bool:=Nat.beq l.length pss.length&&(l.zip pss).all λp=>QP ops p.1 p.2
def AQ.at_ {B:World}{n:FN}{m:SM}{h0:AW}{R:AR}:∀{l:List Oper}{pss:List (List (Nat×Nat))}{k i:Nat}{o:Oper}{d:Nat},AQ P ops Q B n m h0 R k l pss→Vt ops l pss=true→l[i]? =some o→o.dst=some d→∃b,QP ops o b=true∧Td P ops Q B n m h0 R (k+i) o d b
 |[],_,_,_,_,_,_,_,h,_=>by simp at h
 |_::_,[],_,_,_,_,_,a,_,_=>by simp [Vt] at a
 |j::l,b::pss,k,0,o,d,c,a,g,hd=>by
  simp only[wW,vB] at g;subst g;simp only[AQ,hd] at c;simp only[Vt,List.zip_cons_cons,List.all_cons,tO] at a;exact⟨b,a.2.1,c.1⟩
 |j::l,b::pss,k,i+1,o,d,c,a,g,hd=>by
  simp only[wP] at g;simp only[AQ] at c;simp only[Vt,List.zip_cons_cons,List.all_cons,tO,wA] at a;have:=AQ.at_ (l:=l) (pss:=pss) (k:=k+1) (i:=i) c.2 (by simp only[Vt,tO];exact⟨by have:=a.1;simpa using this,a.2.2⟩) g hd;rw[show k+(i+1)=k+1+i by omega];exact this
end
def AQ.cons {P:Program}{ops:Array Oper}{Q:Exit→Act→World→Prop}{B:World}{n:FN}{m:SM}{h0:AW}{R:AR}{i:Nat}{o:Oper}{l:List Oper}{a:List (Nat×Nat)}{pss:List (List (Nat×Nat))}{d:Nat}(hd:o.dst=some d) (h:Td P ops Q B n m h0 R i o d a) (t:AQ P ops Q B n m h0 R (i+1) l pss):AQ P ops Q B n m h0 R i (o::l) (a::pss):=by
 simp only[AQ,hd];exact⟨h,t⟩
def SN (S:Nat→Prop) (h0 h:AW):Nat→Prop:=λb=>S b∨(h0.size≤b∧b<h.size)
def SN.mono {S h0 h h'}(d:∀b,S b→b<h0.size) (g:C5 h0 h) (a:C5 h h'):CB (SN S h0 h) h (SN S h0 h') h':=
 ⟨λb c=>c.imp_right λx=>⟨x.1,tZ x.2 a.siz⟩,λb c=>a.same b (c.elim (λx=>tZ (d b x) g.siz) (·.2)),a.siz⟩
def SN.st {S L h0 h}(c:St S L h0) (o:C5 h0 h):St (SN S h0 h) L h:=by
 refine⟨λb a=>a.elim (λx=>tZ (c.1 b x) o.siz) (·.2),?_⟩;refine Sp.ext c.2 (λb x=> .inl x) (λb a=>o.same b (a.elim (c.1 b) (·.1))) λb a=>⟨tZ a.1 o.siz,λx=>x.elim a.2 λy=>by omega⟩
def SN.ext {S h0 h}(a:∀b,S b→b<h0.size) (o:C5 h0 h):CB S h0 (SN S h0 h) h:=⟨λ_ x=> .inl x,λb c=>o.same b (a b c),o.siz⟩
section
variable {P:Program}{ex:List (Nat×AP)}{RR N:AP}{cs:List Code}{B:World}{h:AW}{n:FN}{m m0:SM}{S:Nat→Prop}{L:List HP}
def Mt {l:List Oper}{id:Nat}(kk:Nat) (R:AR) (pss:List (List (Nat×Nat))) (I:List (Nat×Nat)) (Q:P.follows .mixedOrders=true) (J:pG l.toArray kk=true) (K:List Nat) (u:m.map (·.1)=K) (c:cS l.toArray kk n K=true)
  (y:Vt l.toArray (l.take kk) pss=true) (z:(I.all λp=>Nat.blt p.1 kk&&(D6 l.toArray p.1).any (Nat.beq p.2 ·))=true) (g:Su m0 m)
  (b:∀i v k s,C5 h k→C5 k s→R i v k→R i v s)
  (step:AQ P l.toArray (Qx ex RR (W P ex RR cs N)) B n m h R 0 (l.take kk) pss)
  (A:∀h',C5 h h'→PA R h' (λfr=>LF P l.toArray (Qx ex RR (W P ex RR cs N)) (l.drop kk) B h' n (fr++m)) I []):WF P ex RR (.region id l.toArray true::cs) N B h n m0:=by
 intro a w U V;subst u;simp only[pG,tO,uD] at J;obtain⟨⟨k,s⟩,X⟩:=J;have C:kk≤l.toArray.size:=xD k;refine λrd D=>NY D MG Q (dK (kk:=kk) (R:=R) (B:=B) (h0:=h) (n:=n) (m:=m) C X (s.imp (λe=>tV e) λx=>x) c b (λi o d F Y hd=>?_) (λa w h' Z g2 G g4=>?_) _ _ _ _ ?_ ⟨by simp,λj oj _ q=>(by rw[getD_replicate_false] at q;cases q),λt _ ht=>getD_in (by simpa using ht) (getD_replicate_false _ _)⟩ ⟨h,V.drew,C5.refl h,U.sub g,λi _ q=>(by rw[getD_replicate_false] at q;cases q)⟩)
 ·have H:(l.take kk)[i]? =some o:=by rw[vU F];simpa using Y
  have:=AQ.at_ step y H hd;rw[uT] at this;exact this
 ·obtain⟨fr,k1,k2⟩:=JA (a:=a) (n:=n) _ _ (A h' g2) (λp hp=>by
   have e:=tS.1 z p hp;simp only[tO] at e;have e1:p.1<kk:=(by simpa [Nat.blt] using e.1:p.1+1≤kk)
   obtain⟨d,v,q1,q2,q3⟩:=g4 p.1 e1;have M:=e.2;rw[q1] at M;have:p.2=d:=tV (by simpa using M);exact⟨v,by rw[this];exact q2,q3⟩) ⟨G.dfr,G.siz,λi v F=>by simp [lk] at F⟩
  exact k1 a w (k2.append G) Z
 ·unfold Pw;rw[yB];simp
end
def A9 {P:Program}{ops:Array Oper}{Q:Exit→Act→World→Prop}{B:World}{n:FN}{d:Nat}{R:Value→AW→Prop}{h h':AW}{m:SM}{v:Value}(o:C5 h h') (r:R v h'):LF P ops (Exit.then (KS B n d R h m) Q) [] B h' n ((d,v)::m):=
 λ_ _ a b=>⟨v,h',a,b,o,r⟩
def Fz (a:Nat→Prop) (h:AW):HP where
 holds:=λ_ F h'=>(∀b,F b↔a b)∧∀b,a b→h'[b]? =h[b]?
 loc:=λ⟨c,g⟩ _ e=>⟨c,λb d=>(e b (.inr ((c b).2 d))).trans (g b d)⟩
def qJ (S:Nat→Prop) (h:AW):HP:=Fz (λb=>b<h.size∧¬S b) h
def St.fz {S L h}(a:St S L h):St S [qJ S h] h:=⟨a.1,_,⟨λ_=>vZ,λ_ _=>rfl⟩,λb c=>c,trivial⟩
def Fz.done {S S2:Nat→Prop}{h0 h a:AW}(o:C5 h0 h) (e:CB (SN S h0 h) h S2 a) (d:St S2 [qJ (SN S h0 h) h] a):C5 h a∧CB S2 a (SN S h0 a) a:=by
 obtain⟨F,⟨j,k⟩,l,_⟩:=d.2;refine⟨⟨e.siz,λb c=>?_⟩,λb c=>?_,λ_ _=>rfl,tX _⟩
 ·rcases Classical.em (SN S h0 h b) with g|g
  ·exact e.same b g
  ·exact k b ⟨c,g⟩
 ·rcases uM b h.size with g|g
  ·rcases Classical.em (SN S h0 h b) with i|i
   ·exact i.imp_right λx=>⟨x.1,d.1 b c⟩
   ·exact absurd c (l b ((j b).2 ⟨g,i⟩)).2
  ·exact .inr ⟨vH o.siz g,d.1 b c⟩
def Xy (sz:Nat):Nat→List (Nat×Value)→Bool
 |_,[]=>true
 |k,(i,v)::r=>Nat.beq i k&&Nat.beq v.cells.toList.length sz&&Xy sz (k+1) r
def TR {sz len:Nat}:∀(pv:List (Nat×Value)) (k:Nat) (pre a:List Value),Xy sz k pv=true→pre.length=k*sz→a.length=pv.length*sz→k+pv.length≤len→
  Mq (Tt sz len) (pre++a) pv=some (pre++(pv.map λp=>p.2.cells.toList).flatten)
 |[],k,pre,a,_,_,c,_=>by
  have:a=[]:=xZ (by simpa using c);subst this;simp [Mq]
 |(i,v)::r,k,pre,a,h0,m,c,g=>by
  simp only[Xy,tO] at h0;obtain⟨⟨d,j⟩,n⟩:=h0;have d:=tV d;subst d;have l:=tV j;simp only[wA,wF] at c;have o:i<len:=by simp at g;omega
  have q:(Tt sz len)[i]? =some (i*sz,sz):=by simp [Tt,o]
  simp only[Mq,q];have s:(Nat.beq v.cells.toList.length sz&&Nat.ble (i*sz+sz) (pre++a).length)=true:=by
   rw[j,Bool.true_and];exact Nat.ble_eq_true_of_le (by rw[uJ];omega)
  rw[s];simp only[tL];have b:IY (pre++a) (i*sz) v.cells.toList=(pre++v.cells.toList)++a.drop sz:=by
   unfold IY;rw[←m,xL,←List.drop_drop,List.drop_left,l]
  rw[b,TR r (i+1) (pre++v.cells.toList) (a.drop sz) n (by rw[uJ,l,wF];omega) (by rw[vY];omega) (by simp at g;omega)];simp
def Wb {sz:Nat}:∀(pv:List (Nat×Value)) (k:Nat),Xy sz k pv=true→∀p∈pv,p.1<k+pv.length
 |[],_,_,p,a=>by cases a
 |(i,v)::r,k,h0,p,a=>by
  simp only[Xy,tO] at h0;obtain⟨⟨b,d⟩,c⟩:=h0;have b:=tV b;rcases uA.1 a with h|h
  ·subst h;simp;omega
  ·have:=Wb r (k+1) c p h;simp;omega
def FO {P:Program}{ops:Array Oper}{Q:Exit→Act→World→Prop}{n:FN}{m:SM}{c:List Oper}{d:Nat}{ty:TypeId}{g:String}{v:Array Edge}{B:World}{h:AW}{S:Nat→Prop}{L:List HP}
  {T e sz j len:Nat} {z cs:List Value} {a:Array (Nat×Operand)} {pv:List (Nat×Value)} (t:N3 P T=some (e,sz,j,z)) (l:a.toList.mapM (cR m)=some pv)
  (u:Xy sz 0 pv=true) (o:Nat.beq pv.length len=true) (w:(pv.map λp=>p.2.cells.toList).flatten=cs) (q:Nat.blt 0 len=true) (s:Nat.ble (len*sz) 16777216=true) (hd:Nat.blt d n.1=true) (x:St S L h)
  (k:∀b h',St S (Bx b e cs::L) h'→CB S h S h'→LF P ops Q c B h' n ((d,.slice (some ⟨b,0,none⟩) len len)::m)):LF P ops Q (⟨some d,.buildSlice T len a,ty,g,v,none⟩::c) B h n m:=by
 have o:=tV o;subst o;obtain⟨i,A,_,_,_,_,_,_,y,_⟩:=Kq t;refine gH t l (cs:=cs) ?_ q s (λp l=>by have:=Wb pv 0 u p l;omega) hd x k;have:=TR (len:=pv.length) pv 0 [] (List.replicate pv.length z).flatten u (by simp) (by simp [y]) (by omega);rw[uK,uK,w] at this;exact this
def nF {α}(S:Nat→Prop) (h:AW) (r:A7 α) (s:Value) (xs:List α):Prop:=
 (s= .slice none 0 0∧xs=[])∨∃(b:Addr) (sc:Nat) (a:List Value),s= .slice (some b) xs.length sc∧xs.length≤maxLen∧LB S h r a xs∧∀j u,a[j]? =some u→IK h (b.add j)=some u
def TF {α}{S:Nat→Prop}{h:AW}{r:A7 α}(b:Nat):∀(l:List α) (o:Nat),(∀i x,l[i]? =some x→Pt S h r (.pointer (some ⟨b,o+i*r.sz,none⟩)) x)→∃c,LB S h r c l∧∀j u,c[j]? =some u→IK h ⟨b,o+j,none⟩=some u
 |[],_,_=>⟨[],rfl,λj u d=>by simp at d⟩
 |x::l,o,k=>by
  obtain⟨cs,⟨a,p,_,w,q⟩,n⟩:=k 0 x rfl;obtain⟨c,s,t⟩:=TF b l (o+r.sz) λi y v=>by
   have:=k (i+1) y (by simpa using v);rwa [wF,Nat.add_comm (i*r.sz),←xJ] at this
  have z:=r.len n;refine⟨cs++c,⟨cs,c,rfl,n,s⟩,λj u d=>?_⟩;have m:a=⟨b,o,none⟩:=by simpa using p.symm
  subst m;by_cases g:j<cs.length
  ·rw[yU g] at d;rw[←d];exact q j g
  ·rw[yV (by omega)] at d;have:=t _ u d;rw[show o+r.sz+(j-cs.length)=o+j by omega] at this;exact this
def Sl.src {α}{S:Nat→Prop}{h:AW}{r:A7 α}{s:Value}{xs:List α}(k:Sl S h r s xs):nF S h r s xs:=by
 rcases k with k|⟨a,cap,h1,h4,h5,h6⟩
 ·exact .inl k
 ·cases xs with
  |nil=>exact .inr ⟨a,cap,[],h1,tU _,rfl,λj u l=>by simp at l⟩
  |cons x xs=>
   have c:=(h6 0 x rfl).1;obtain⟨b,o,s⟩:=a;simp only at c;subst c;obtain⟨d,m,n⟩:=TF b (x::xs) o λi y p=>(h6 i y p).2;refine .inr ⟨_,cap,d,h1,vH h4 h5,m,λj u l=>?_⟩;have g:(⟨b,o,none⟩:Addr).add j=⟨b,o+j,none⟩:=by unfold Addr.add;split<;>simp_all
   rw[g];exact n j u l
def St.src {α}{S:Nat→Prop}{h:AW}{r:A7 α}{T:Nat}{s:Value}{xs:List α}{L:List HP}(l:St S L h) (m:OS r T s xs∈L):nF S h r s xs:=by
 obtain⟨F,k,n⟩:=l.get m;rcases k with ⟨⟨d,c⟩,k2,_⟩|⟨g,cap,cur,c,k2,k3,k4,k5,k6,k7⟩
 ·subst k2;cases d with
  |none=>exact .inl ⟨c,rfl⟩
  |some d=>exact .inr ⟨d,0,[],c,tU _,rfl,λj u a=>by simp at a⟩
 ·refine .inr ⟨_,cap,_,c,vH k4 k5,k7,λj u a=>?_⟩;have b:(⟨g,0,none⟩:Addr).add j=⟨g,j,none⟩:=by unfold Addr.add;split<;>simp_all
  have i:=(uB.1 a).1;simp only[vT] at i;rw[vU (by omega)] at a;rw[b];simp only[IK,k3,xQ,wH,wI];simpa using a
section
variable {P:Program}{ops:Array Oper}{Q:Exit→Act→World→Prop}{n:FN}{m:SM}{rest:List Oper}
variable {d:Nat}{ty:TypeId}{pos:String}{af:Array Edge}{X Y:Operand}{B w:World}{h:AW}{S:Nat→Prop}{L L2:List HP}{v:Value}
def Ux {α}{r:A7 α}{T ty e sz a:Nat}{z:List Value}{v s:Value}{l xs:List α}{F:Nat→Prop}(p:N3 P T=some (e,sz,a,z)) (j:r.sz=sz)
  (c:nF S h r s xs) (m:l.length+xs.length≤maxLen) (n:Jb (l.length+xs.length) a) (q:Wd B h w) (k:(OS r e v l).holds S F h) (y:∀b,S b→b<h.size∧¬F b):
  ∃t w' h' u,(Builtin.append_ #[T,T] ty #[v,s]).run P w= .ok t w'∧Wd B h' w'∧h.size≤h'.size∧(OS r e t (l++xs)).holds S u h'∧(∀b,u b→F b∨(h.size≤b∧b<h'.size))∧∀b,b<h.size→¬F b→h'[b]? =h[b]? :=by
 rcases c with ⟨rfl,rfl⟩|⟨sd,sc,news,d,_,hn,hc⟩
 ·obtain⟨i,D,d,x,G,H,I,J,K,M⟩:=Kq p;rw[uU];refine⟨v,w,h,F,?_,q,tX _,k,λb A=> .inl A,λ_ _ _=>rfl⟩;rcases k with ⟨⟨C,rfl⟩,rfl,hF⟩|⟨g,cap,cur,rfl,hF,hg,hlc,hcm,hcs,hrd⟩
  ·cases C<;>simp [Builtin.append_,run_underlying d,sizeOf,typeInfo,x,Builtin.lenOf,Builtin.firstCells,loadCells,loadCellsFrom,storeCells]
  ·have o:l.length≤cap:=hlc;simp [Builtin.append_,run_underlying d,sizeOf,typeInfo,x,Builtin.lenOf,Builtin.firstCells,loadCells,loadCellsFrom,storeCells,o]
 ·exact Tm p j d hn hc m n q k y
def jC {α}{r:A7 α}{T e sz y:Nat}{z:List Value}{v s:Value}{l xs:List α}{LL:Value→List HP}{a:Act}(g:Fr n a m) (hx:BT m X=some v) (hy:BT m Y=some s) (he:N3 P T=some (e,sz,y,z)) (A:r.sz=sz)
  (t:nF S h r s xs) (C:l.length+xs.length≤maxLen) (D:Jb (l.length+xs.length) y) (hd:Nat.blt d n.1=true) (hw:Wd B h w) (u:St S L h) (rp:∀i,MX L (OS r e v l) (OS r e i (l++xs)) (LL i))
  (k:∀i a w h',Fr n a ((d,i)::m)→Wd B h' w→St S (LL i) h'→CB S h S h'→wpList P ops Q rest a w):
  wpList P ops Q (⟨some d,.call ⟨.builtin .append,#[X,Y],#[T,T]⟩,ty,pos,af,none⟩::rest) a w:=by
 refine wpList_plain rfl λK hK=>?_;unfold Oper.wp;obtain⟨M,p,_⟩:=(rp v).pick;obtain⟨F,g1,g2,_⟩:=Sp.pick p u.2;obtain⟨i,w',h',F',e1,e2,e3,e4,e5,e6⟩:=Ux (ty:=ty) he A t C D hw g1 λb c=>⟨u.1 b c,λg=>(g2 b g).2 c⟩
 have H:(execOp a.eval ⟨some d,.call ⟨.builtin .append,#[X,Y],#[T,T]⟩,ty,pos,af,none⟩).run P w= .ok (.value i) w':=by
  simp [execOp,resolve,invoke,builtin,g.eval hx,g.eval hy,e1]
 rw[H];obtain⟨M,p,q⟩:=(rp i).pick;have I:St S (LL i) h'∧CB S h S h':=by
  obtain⟨G,aa,j,ab⟩:=Sp.pick p u.2;obtain⟨ai,aj,J,ac,U,ad,o,ae,V,W⟩:=Ux (ty:=ty) he A t C D hw aa λb c=>⟨u.1 b c,λg=>(j b g).2 c⟩
  rw[e1] at U;injection U with ev ew
  subst ev;subst ew;have hh:J=h':=by rw[←ad.heap,e2.heap]
  subst hh;have Z:∀b,S b→J[b]? =h[b]? :=λb c=>W b (u.1 b c) λg=>(j b g).2 c;refine⟨⟨λb c=>tZ (u.1 b c) o,L7 q ⟨ac,ae,λb c=>?_,?_⟩⟩,λ_ x=>x,Z,o⟩
  ·rcases V b c with g|⟨hl,hu⟩
   ·exact⟨tZ (j b g).1 o,(j b g).2⟩
   ·exact⟨hu,λag=>absurd (u.1 b ag) (by omega)⟩
  ·refine Sp.ext ab (λ_ x=>x) (λb c=>?_) λb c=>⟨⟨tZ c.1.1 o,c.1.2⟩,λah=>?_⟩
   ·rcases c with c|c
    ·exact Z b c
    ·exact W b c.1.1 c.2
   ·rcases V b ah with g|⟨hl,_⟩
    ·exact c.2 g
    ·exact absurd c.1.1 (by omega)
 exact hK _ _ (k i _ w' h' (g.put hd _) e2 I.1 I.2)
def H4 {α}{r:A7 α}{T e sz b:Nat}{z:List Value}{v s:Value}{l xs:List α}{LL:Value→List HP}(x:BT m X=some v) (y:BT m Y=some s) (A:N3 P T=some (e,sz,b,z)) (j:r.sz=sz)
  (g:nF S h r s xs) (i:Nat.blt 0 b=true) (o:IX (l.length+xs.length) b=true) (hd:Nat.blt d n.1=true) (p:St S L h) (C:∀c,MX L (OS r e v l) (OS r e c (l++xs)) (LL c))
  (k:∀c h',St S (LL c) h'→CB S h S h'→LF P ops Q rest B h' n ((d,c)::m)):LF P ops Q (⟨some d,.call ⟨.builtin .append,#[X,Y],#[T,T]⟩,ty,pos,af,none⟩::rest) B h n m:=λa w q t=>
 have D:1≤b:=by simpa [Nat.blt] using i
 have F:l.length+xs.length≤(l.length+xs.length)*b:=Nat.le_mul_of_pos_right _ D;have u:=L4 o;have G:=u.le
 jC q x y A j g (by unfold maxLen;omega) u hd t p C λc a w h' q t p e=>k c h' p e a w q t
end
def Cf (k:IntKind) (n:Int):k.has (k.wrap n):=by
 cases k<;>simp only[IntKind.has,IntKind.wrap,IntKind.min,IntKind.max,IntKind.bits,IntKind.signed]<;>simp<;>(try split)<;>omega
def QD (k:IntKind) {n:Int}(h:k.has n) (j:Nat):k.has (n.fdiv (2^j)):=by
 have c:(0:Int)<2^j:=Int.pow_pos (by decide);have l:k.min≤0∧0≤k.max:=by cases k<;>decide
 have e:n.fdiv (2^j)=n/2^j:=Int.fdiv_eq_ediv_of_nonneg _ (Int.le_of_lt c);rw[e];obtain⟨a,b⟩:=h;by_cases h0:0≤n
 ·have d:=Int.ediv_nonneg h0 (Int.le_of_lt c);have g:=Int.ediv_le_self (2^j) h0;exact⟨by omega,by omega⟩
 ·have d:n/2^j≤0:=by
   have:=Int.ediv_le_ediv c (show n≤0 by omega);simpa using this
  have g:n≤n/2^j:=by
   have i:(1:Int)≤2^j:=c;rw[Int.le_ediv_iff_mul_le c];have:=Int.mul_le_mul_of_nonpos_left (a:=n) (by omega) i;simpa using this
  exact⟨by omega,by omega⟩
def cZ (k:IntKind) {n m:Int}(h:k.has n):k.has (n.tmod m):=by
 have i:k.min≤0∧0≤k.max:=by cases k<;>decide
 obtain⟨a,b⟩:=h;by_cases h0:0≤n
 ·have d:0≤n.tmod m:=Int.tmod_nonneg m h0;have g:n.tmod m≤n:=by
   have e:=Int.natAbs_tmod n m;have c:n.natAbs%m.natAbs≤n.natAbs:=Nat.mod_le _ _;omega
  exact⟨by omega,by omega⟩
 ·have d:(-n).tmod m= -(n.tmod m):=Int.neg_tmod n m;have g:0≤(-n).tmod m:=Int.tmod_nonneg m (by omega);have c:(-n).tmod m≤ -n:=by
   have e:=Int.natAbs_tmod (-n) m;have c:(-n).natAbs%m.natAbs≤(-n).natAbs:=Nat.mod_le _ _;omega
  exact⟨by omega,by omega⟩
def A7.intk (k:IntKind):A7 Int where
 sz:=1
 ag:=false
 rd:=λ_ _ cs x=>cs=[.int k x]∧k.has x
 len:=λ⟨h,_⟩=>by rw[h];rfl
 one:=λ⟨h,_⟩ v a=>by rw[h] at a;simp at a;rw[a];rfl
 mono:=λh _ _=>h
def Rd.intk {S h v k x}(q:Rd S h (A7.intk k) v x):v= .int k x∧k.has x:=by obtain⟨_,rfl,rfl,h⟩:=q;exact⟨rfl,h⟩
def FL (o:BinOp) (k:IntKind) (x y:Int):Int:=
 let a:=BitVec.ofInt k.bits x
 let b:=BitVec.ofInt k.bits y
 k.wrap ((match o with| .and=>a&&&b| .or=>a|||b| .xor=>a ^^^ b|_=>a&&& ~~~b).toNat)
def RP (k:IntKind) (x y:Int):Option Int:=if y=0 then none else some (k.wrap (x.tdiv y))
def Tp (x y:Int):Option Int:=if y=0 then none else some (x.tmod y)
def Di (k:IntKind) (x:Int) (j:Nat):Int:=k.wrap (x*2^(min j k.bits))
def EY (k:IntKind) (x:Int) (j:Nat):Int:=x.fdiv (2^(min j k.bits))
def Pg (y:Int):Option Nat:=if y<0 then none else some y.toNat
def OP {k x y z}(h:RP k x y=some z):k.has z:=by
 unfold RP at h;split at h
 ·cases h
 ·cases h;exact Cf _ _
def ZG {k:IntKind}{x y z}(a:k.has x) (h:Tp x y=some z):k.has z:=by
 unfold Tp at h;split at h
 ·cases h
 ·cases h;exact cZ k a
def T9 (s:ByteArray) (i:Int):Option Int:=if i<0 then none else (s[i.toNat]?).map λb=>(b.toNat:Int)
def LT {s i x}(h:T9 s i=some x):IntKind.u8.has x:=by
 unfold T9 at h;split at h
 ·cases h
 ·obtain⟨b,_,rfl⟩:=vV.1 h;have:=b.toNat_lt;simp [IntKind.has,IntKind.min,IntKind.max,IntKind.bits,IntKind.signed];omega
section
variable {P:Program}{ops:Array Oper}{C:World→Prop}{Q:Act→Prop}{n:FN}{m m':SM}{rest:List Oper}
variable {d:Nat}{ty:TypeId}{pos:String}{af:Array Edge}{X Y Z:Operand}{t t1 t2:TypeId}{x y z:Int}{kd kd2:IntKind}{v p:Value}{S:Nat→Prop}{L:List HP}{h:AW}
def On {a:BinOp}{u:Value}(b:BT m X=some (.int kd x)) (c:BT m Y=some (.int kd y)) (hd:Nat.blt d n.1=true) (g:∀w,(binOp a t1 (.int kd x) (.int kd y)).run P w= .ok u w)
  (k:QF P ops C Q rest n ((d,u)::m)):QF P ops C Q (⟨some d,.binOp a t1 X Y t2,ty,pos,af,none⟩::rest) n m:=λ_ i=>OQ i b c hd g k
def eN (a:BT m X=some (.int kd x)) (b:BT m Y=some (.int kd y)) (hd:Nat.blt d n.1=true) (k:QF P ops C Q rest n ((d,.int kd (kd.wrap (x+y)))::m)):QF P ops C Q (⟨some d,.binOp .add t1 X Y t2,ty,pos,af,none⟩::rest) n m:=On a b hd (λw=>by simp [binOp,Op.intArith]) k
def dU (a:BT m X=some (.int kd x)) (b:BT m Y=some (.int kd y)) (hd:Nat.blt d n.1=true) (k:QF P ops C Q rest n ((d,.int kd (kd.wrap (x-y)))::m)):QF P ops C Q (⟨some d,.binOp .sub t1 X Y t2,ty,pos,af,none⟩::rest) n m:=On a b hd (λw=>by simp [binOp,Op.intArith]) k
def eA (a:BT m X=some (.int kd x)) (b:BT m Y=some (.int kd y)) (hd:Nat.blt d n.1=true) (k:QF P ops C Q rest n ((d,.int kd (kd.wrap (x*y)))::m)):QF P ops C Q (⟨some d,.binOp .mul t1 X Y t2,ty,pos,af,none⟩::rest) n m:=On a b hd (λw=>by simp [binOp,Op.intArith]) k
def eL (a:BT m X=some (.int kd x)) (b:BT m Y=some (.int kd y)) (hd:Nat.blt d n.1=true) (k:QF P ops C Q rest n ((d,.int kd (FL .and kd x y))::m)):QF P ops C Q (⟨some d,.binOp .and t1 X Y t2,ty,pos,af,none⟩::rest) n m:=On a b hd (λw=>by simp [binOp,Op.intBits,FL]) k
def aW (a:BT m X=some (.int kd x)) (b:BT m Y=some (.int kd y)) (hd:Nat.blt d n.1=true) (k:QF P ops C Q rest n ((d,.int kd (FL .or kd x y))::m)):QF P ops C Q (⟨some d,.binOp .or t1 X Y t2,ty,pos,af,none⟩::rest) n m:=On a b hd (λw=>by simp [binOp,Op.intBits,FL]) k
def XN (a:BT m X=some (.int kd x)) (b:BT m Y=some (.int kd y)) (hd:Nat.blt d n.1=true) (k:QF P ops C Q rest n ((d,.int kd (FL .xor kd x y))::m)):QF P ops C Q (⟨some d,.binOp .xor t1 X Y t2,ty,pos,af,none⟩::rest) n m:=On a b hd (λw=>by simp [binOp,Op.intBits,FL]) k
def UK (b:BT m X=some (.int kd x)) (c:BT m Y=some (.int kd y)) (hd:Nat.blt d n.1=true) (a:RP kd x y=some z) (k:QF P ops C Q rest n ((d,.int kd z)::m)):QF P ops C Q (⟨some d,.binOp .quo t1 X Y t2,ty,pos,af,none⟩::rest) n m:=by
 unfold RP at a;split at a
 ·cases a
 ·rename_i h0;cases a;exact On b c hd (λw=>by simp [binOp,Op.intDiv,h0]) k
def dZ (b:BT m X=some (.int kd x)) (c:BT m Y=some (.int kd y)) (hd:Nat.blt d n.1=true) (a:Tp x y=some z) (k:QF P ops C Q rest n ((d,.int kd z)::m)):QF P ops C Q (⟨some d,.binOp .rem t1 X Y t2,ty,pos,af,none⟩::rest) n m:=by
 unfold Tp at a;split at a
 ·cases a
 ·rename_i h0;cases a;exact On b c hd (λw=>by simp [binOp,Op.intDiv,h0]) k
def Xa {b:BinOp}{u:Value}(g:BT m X=some (.int kd x)) (i:BT m Y=some (.int kd2 y)) (hd:Nat.blt d n.1=true) (j:∀w,(binOp b t1 (.int kd x) (.int kd2 y)).run P w= .ok u w)
  (k:QF P ops C Q rest n ((d,u)::m)):QF P ops C Q (⟨some d,.binOp b t1 X Y t2,ty,pos,af,none⟩::rest) n m:=λa c=>by
 refine Dn c hd (λw _=>?_) k;have l:(eqGuard b t1 X Y (.int kd x) (.int kd2 y)).run P w= .ok () w:=by
  unfold eqGuard;cases b<;>simp
 simp [execOp,c.eval g,c.eval i,l,j]
def Rf {j:Nat}(b:BT m X=some (.int kd x)) (c:BT m Y=some (.int kd2 y)) (hd:Nat.blt d n.1=true) (a:Pg y=some j) (k:QF P ops C Q rest n ((d,.int kd (Di kd x j))::m)):QF P ops C Q (⟨some d,.binOp .shl t1 X Y t2,ty,pos,af,none⟩::rest) n m:=by
 unfold Pg at a;split at a
 ·cases a
 ·rename_i h0;cases a;exact Xa b c hd (λw=>by simp [binOp,Op.shift,h0,Di]) k
def JQ {j:Nat}(b:BT m X=some (.int kd x)) (c:BT m Y=some (.int kd2 y)) (hd:Nat.blt d n.1=true) (a:Pg y=some j) (k:QF P ops C Q rest n ((d,.int kd (EY kd x j))::m)):QF P ops C Q (⟨some d,.binOp .shr t1 X Y t2,ty,pos,af,none⟩::rest) n m:=by
 unfold Pg at a;split at a
 ·cases a
 ·rename_i h0;cases a;exact Xa b c hd (λw=>by simp [binOp,Op.shift,h0,EY]) k
def D7 {src dst:TypeId}{c:TypeDesc}(g:BT m X=some (.int kd x)) (i:P.underlying src=some c) (j:P.underlying dst=some (.int kd2)) (hd:Nat.blt d n.1=true) (k:QF P ops C Q rest n ((d,.int kd2 (kd2.wrap x))::m)):QF P ops C Q (⟨some d,.convert src dst X,ty,pos,af,none⟩::rest) n m:=λa b=>
 Dn b hd (λw _=>by simp [execOp,b.eval g,convert,run_underlying i,run_underlying j,Conv.intToInt]) k
def LV {s:ByteArray}(i:BT m X=some (.string s)) (j:BT m Y=some (.int kd y)) (l:P.underlying t=some .string) (c:T9 s y=some z) (hd:Nat.blt d n.1=true) (k:QF P ops C Q rest n ((d,.int .u8 z)::m)):QF P ops C Q (⟨some d,.index t X Y,ty,pos,af,none⟩::rest) n m:=λa g=>by
 unfold T9 at c;split at c
 ·cases c
 ·rename_i h0;obtain⟨b,o,rfl⟩:=vV.1 c;exact Dn g hd (λw _=>by simp [execOp,g.eval i,g.eval j,Instr.index,asIntOf,run_underlying l,show 0≤y by omega,o]) k
def UN {A:Nat→Prop}(g:CK C h) (i:∀b,A b→b<h.size) (j:BT m X=some p) (k0:Mb A S h (A7.intk kd) p x) (l:Jd P t 1 false=true) (hd:Nat.blt d n.1=true)
  (k:kd.has x→QF P ops C Q rest n ((d,.int kd x)::m)):QF P ops C Q (⟨some d,.load t X,ty,pos,af,none⟩::rest) n m:=λa o=>
 X1 g i o j k0 l (λ_=>rfl) hd λv q c s=>by obtain⟨rfl,u⟩:=s.intk;exact k u q c
end
def dL {α}{p:α→Prop}:∀x∈([]:List α),p x:=λu h=>by cases h
def all_cons {α}{p:α→Prop}{x:α}{l:List α}(h:p x) (t:∀x∈l,p x):∀y∈x::l,p y:=λu a=>by
 rcases uA.1 a with rfl|a
 ·exact h
 ·exact t u a
def oV {α}{p:α→Prop}{l:List α}{i:Int}{z:α}(h:∀x∈l,p x) (a:ix l i=some z):p z:=h _ (vM (Et a).2)
def YW (b:Bool):b=false∨b=true:=by cases b<;>simp
def Mo:∀u∈([]:List Value),u.oneCell'=true:=λu h=>by cases h
def CD {v:Value}{vs:List Value}(h:v.oneCell'=true) (t:∀u∈vs,u.oneCell'=true):∀u∈v::vs,u.oneCell'=true:=λu a=>by
 rcases uA.1 a with rfl|a
 ·exact h
 ·exact t u a
def St.osone {α}{r:A7 α}{T:Nat}{v:Value}{l:List α}{S:Nat→Prop}{L:List HP}{h:AW}(a:St S L h) (b:OS r T v l∈L):v.oneCell'=true:=(a.oslAll b).one
def NG:Value→Value→Bool
 | .agg a,.agg b=>V2 a.toList b.toList
 |a,b=>Zn a b
def NC {κ β}(kv:κ→Value) (m:List (κ×β)) (k:κ):Option β:=(m.find? λe=>NG (kv k) (kv e.1)).map (·.2)
def Qg {κ β}(kv:κ→Value):List (κ×β)→κ→β→List (κ×β)
 |[],k,x=>[(k,x)]
 |(a,y)::r,k,x=>if NG (kv k) (kv a) then (k,x)::r else (a,y)::Qg kv r k x
def T3 (p:Value→Bool):List MapEntry→Nat→Option (Nat×Value)
 |[],_=>none
 |e::es,i=>if p e.key then some (i,e.val) else T3 p es (i+1)
structure NO {κ:Type}(P:Program) (T:TypeId) (kv:κ→Value):Prop where
 chk:∀k e w,(Instr.checkKey e 10000 T (kv k)).run P w= .ok () w
 find:∀k (es:List MapEntry) w,(∀e∈es,∃k',e.key=kv k')→(Instr.findKey T (kv k) es).run P w= .ok (T3 (NG (kv k)) es 0) w
 same:∀k k',NG (kv k) (kv k')=true→Instr.sameBits 10000 (kv k') (kv k)=true
def OU (a:TypeDesc) (k:Value) (p:Value→Bool):∀(es:List MapEntry) (i:Nat),(∀e∈es,Instr.sameNow a k e.key=some (p e.key))→Instr.findNow a k es i=some (T3 p es i)
 |[],_,_=>rfl
 |e::es,i,h=>by
  have b:=h e (by simp);have c:=OU a k p es (i+1) λe d=>h e (by simp [d]);simp only[Instr.findNow,b,T3];cases p e.key
  ·simpa using c
  ·rfl
def OV {P:Program}(T:TypeId) (k:Value) (p:Value→Bool) (w:World):∀(es:List MapEntry) (i:Nat),(∀e∈es,(Op.equal T k e.key).run P w= .ok (p e.key) w)→(Instr.findAsking T k es i).run P w= .ok (T3 p es i) w
 |[],_,_=>rfl
 |e::es,i,h=>by
  have a:=h e (by simp);have b:=OV T k p w es (i+1) λe c=>h e (by simp [c]);simp only[Instr.findAsking,Sem.run_bind,a,Result.andThen_ok,T3];cases p e.key
  ·simpa using b
  ·rfl
def Qs {a b:ByteArray}:(a==b)=true↔a=b:=by
 obtain⟨a⟩:=a;obtain⟨b⟩:=b;rw[show ((⟨a⟩:ByteArray)==⟨b⟩)=(a==b) from rfl];simp
def NO.str {P:Program}{T:TypeId}(b:P.underlying T=some .string) (c:∀(s:ByteArray) e w,(Instr.checkKey e 10000 T (.string s)).run P w= .ok () w):NO P T Value.string where
 chk:=c
 find:=λk es w h=>by
  have:Instr.findNow .string (.string k) es 0=some (T3 (NG (.string k)) es 0):=OU _ _ _ es 0 λe d=>by obtain⟨a,g⟩:=h e d;rw[g];rfl
  simp [Instr.findKey,run_underlying b,this]
 same:=λk a h=>by
  have:k=a:=Qs.1 (by simpa [NG,Zn] using h);subst this;simp [Instr.sameBits,Qs.2]
def NO.int {P:Program}{T:TypeId}{kd:IntKind}(b:P.underlying T=some (.int kd)) (c:∀(s:Int) e w,(Instr.checkKey e 10000 T (.int kd s)).run P w= .ok () w):NO P T (Value.int kd) where
 chk:=c
 find:=λk es w h=>by
  have:Instr.findNow (.int kd) (.int kd k) es 0=some (T3 (NG (.int kd k)) es 0):=OU _ _ _ es 0 λe d=>by
   obtain⟨a,g⟩:=h e d;rw[g];simp [Instr.sameNow,NG,Zn,Re]
  simp [Instr.findKey,run_underlying b,this]
 same:=λk a h=>by
  have:k=a:=by simpa [NG,Zn] using h
  subst this;simp [Instr.sameBits]
def NO.agg {κ:Type}{P:Program}{T:TypeId}{f:κ→List Value}{l:List Nat}{i:Array _}(m:P.underlying T=some (.struct i)) (o:dF P T=some l) (n:∀k,(f k).map MK=l) (p:∀a b,P2 (f a) (f b)=true)
  (q:∀k e w,(Instr.checkKey e 10000 T (.agg (f k).toArray)).run P w= .ok () w) (s:∀a b,V2 (f a) (f b)=true→f a=f b) (t:∀a,Instr.sameBits 10000 (.agg (f a).toArray) (.agg (f a).toArray)=true):NO P T (λk=>Value.agg (f k).toArray) where
 chk:=q
 find:=λk es w h=>by
  have d:(Instr.findAsking T (.agg (f k).toArray) es).run P w= .ok (T3 (NG (.agg (f k).toArray)) es 0) w:=OV T _ _ w es 0 λe u=>by
   obtain⟨c,v⟩:=h e u;rw[v];have:=(VG (w:=w) o (n k) (n c) (p k c)).1;simpa [Op.equal,Op.maxDepth,NG] using this
  have g:Instr.findNow (.struct i) (.agg (f k).toArray) es 0=some (T3 (NG (.agg (f k).toArray)) es 0)∨Instr.findNow (.struct i) (.agg (f k).toArray) es 0=none:=by
   cases es with
   |nil=>exact .inl rfl
   |cons e es=>exact .inr rfl
  rcases g with j|j
  ·simp [Instr.findKey,run_underlying m,j]
  ·simp [Instr.findKey,run_underlying m,j,d]
 same:=λk c h=>by
  have h':V2 (f k) (f c)=true:=by simpa [NG] using h
  have:=s k c h';simp only[this];exact t c
def Nq (es:List MapEntry) (c:Nat):Prop:=(es.map (·.born)).Nodup∧∀x,x∈es→x.born<c
def Nq.push {es:List MapEntry}{c:Nat}(k:Nq es c) (e:MapEntry) (l:e.born=c):Nq (es++[e]) (c+1):=by
 refine⟨?_,λx d=>?_⟩
 ·rw[wM,List.nodup_append];refine⟨k.1,by simp,λa g b i=>?_⟩;simp only[uY,List.map_nil,vX] at i;obtain⟨y,j,rfl⟩:=uX.1 g;have:=k.2 y j;omega
 ·rcases vC.1 d with d|d
  ·have:=k.2 x d;omega
  ·simp only[vX] at d;subst d;omega
def Nq.of {es a:List MapEntry}{c:Nat}(k:Nq es c) (h:a.map (·.born)=es.map (·.born)):Nq a c:=by
 refine⟨by rw[h];exact k.1,λx b=>?_⟩;have:x.born∈es.map (·.born):=by rw[←h];exact uX.2 ⟨x,b,rfl⟩
 obtain⟨y,d,e⟩:=uX.1 this;have:=k.2 y d;omega
def U8 (es:List MapEntry) (j:Nat) (f:MapEntry→MapEntry) (a:∀e,(f e).born=e.born):(es.modify j f).map (·.born)=es.map (·.born):=by
 apply vG;intro i;simp only[wQ,List.getElem?_modify];by_cases e:j=i
 ·subst e;cases es[j]? <;>simp [a]
 ·simp [e]
def MP {κ β:Type}(kv:κ→Value) (vv:β→Value) (b:Nat) (m:List (κ×β)):HP where
 holds:=λ_ F h=>(∀c,F c↔c=b)∧∃es a,h[b]? =some (.map es a)∧es.toList.map (λe=>(e.key,e.val))=(m.map λe=>(kv e.1,vv e.2))∧Nq es.toList a
 loc:=λ⟨d,es,c,g,i⟩ _ e=>⟨d,es,c,(e _ (.inr ((d _).2 rfl))).trans g,i⟩
def MP.flat {κ β}{kv:κ→Value}{vv:β→Value}{b m}:(MP kv vv b m).Flat:=λ{_ _ _ _} k=>k
section
variable {κ β:Type}{kv:κ→Value}{vv:β→Value}
def SE:∀{es:List MapEntry}{m:List (κ×β)},es.map (λe=>(e.key,e.val))=m.map (λe=>(kv e.1,vv e.2))→∀e∈es,∃b,e.key=kv b
 |[],_,_,_,a=>by cases a
 |x::es,[],h,_,_=>by simp at h
 |x::es,y::m,h,e,a=>by
  simp only[uY,List.cons.injEq,xK] at h;rcases uA.1 a with rfl|a
  ·exact⟨_,h.1.1⟩
  ·exact SE h.2 e a
def W1 (k:κ):∀{es:List MapEntry}{m:List (κ×β)}(i:Nat),es.map (λe=>(e.key,e.val))=m.map (λe=>(kv e.1,vv e.2))→(T3 (NG (kv k)) es i).map (·.2)=(NC kv m k).map vv
 |[],[],_,_=>rfl
 |[],_::_,_,h=>by simp at h
 |x::es,[],_,h=>by simp at h
 |x::es,y::m,i,h=>by
  simp only[uY,List.cons.injEq,xK] at h;have a:=W1 k (i+1) h.2;simp only[T3,h.1.1,NC,List.find?_cons] at a ⊢;cases NG (kv k) (kv y.1)
  ·simpa using a
  ·simp [h.1.2]
def VE (k:κ):∀{es:List MapEntry}{m:List (κ×β)}(i:Nat) (x:β),es.map (λe=>(e.key,e.val))=m.map (λe=>(kv e.1,vv e.2))→T3 (NG (kv k)) es i=none→Qg kv m k x=m++[(k,x)]
 |[],[],_,_,_,_=>rfl
 |[],_::_,_,_,h,_=>by simp at h
 |x::es,[],_,_,h,_=>by simp at h
 |x::es,y::m,i,z,h,a=>by
  simp only[uY,List.cons.injEq,xK] at h;simp only[T3,h.1.1] at a;split at a
  ·cases a
  ·rename_i b;simp only[Qg,b,wH,wI,VE k (i+1) z h.2 a,uV]
def VD (k:κ) (u:Value):∀{es:List MapEntry}{m:List (κ×β)}(i j:Nat) (v:Value) (x:β),es.map (λe=>(e.key,e.val))=m.map (λe=>(kv e.1,vv e.2))→T3 (NG (kv k)) es i=some (j,v)→
  i≤j∧j-i<es.length∧(∃a,(es[j-i]?).map (·.key)=some (kv a)∧NG (kv k) (kv a)=true)∧(es.modify (j-i) λe=>{ e with key:=kv k,val:=vv x}).map (λe=>(e.key,e.val))=(Qg kv m k x).map λe=>(kv e.1,vv e.2)
 |[],_,_,_,_,_,_,h=>by simp [T3] at h
 |x::es,[],_,_,_,_,h,_=>by simp at h
 |x::es,y::m,i,j,v,z,h,b=>by
  simp only[uY,List.cons.injEq,xK] at h;simp only[T3,h.1.1] at b;split at b
  ·rename_i c;obtain⟨rfl,rfl⟩:i=j∧x.val=v:=by simpa using b
   refine⟨tX _,by simp,⟨y.1,by simp [h.1.1],c⟩,?_⟩;simp [Qg,c,h.2]
  ·rename_i c;obtain⟨o,d,⟨a,g,l⟩,n⟩:=VD k u (i+1) j v z h.2 b;have e:j-i=(j-(i+1))+1:=by omega
   refine⟨by omega,by rw[e];simpa using d,⟨a,by rw[e];simpa using g,l⟩,?_⟩;rw[e];simp only[List.modify_succ_cons,uY,Qg,c,wH,wI,n,h.1.1,h.1.2]
end
section
variable {P:Program}{ops:Array Oper}{C:World→Prop}{Q:Act→Prop}{n:FN}{m m':SM}{rest:List Oper}
variable {d:Nat}{ty:TypeId}{pos:String}{af:Array Edge}{X Y Z:Operand}{t t1 t2:TypeId}{v p u:Value}{S:Nat→Prop}{L L2:List HP}{h:AW}{b:Nat}
variable {κ β:Type}{kv:κ→Value}{vv:β→Value}{l:List (κ×β)}{k0:κ}{z:β}{kt et:TypeId}
def Vq {w:World}{j:Bool}(k:P.underlying t=some (.map kt et)) (g:NO P kt kv) (q:∀w,(zeroValue et).run P w= .ok (vv z) w) {es:Array MapEntry}{c:Nat}(m:w.heap[b]? =some (.map es c)) (n:es.toList.map (λe=>(e.key,e.val))=l.map λe=>(kv e.1,vv e.2)):
  (Instr.lookup t (.map (some b)) (kv k0) j).run P w= .ok (if j then .tuple #[vv ((NC kv l k0).getD z),.bool (NC kv l k0).isSome] else vv ((NC kv l k0).getD z)) w:=by
 have a:=g.find k0 es.toList w (SE n);have d:=W1 (kv:=kv) (vv:=vv) k0 0 n;have s:=q w;cases o:T3 (NG (kv k0)) es.toList 0 with
 |none=>
  rw[o] at a d;have i:NC kv l k0=none:=by simpa using d.symm
  simp [Instr.lookup,run_underlying k,MapKept.run_getObj_map m,g.chk,a,s,i]
 |some r=>
  rw[o] at a d;obtain⟨y,i,p⟩:∃y,NC kv l k0=some y∧vv y=r.2:=vV.1 (by simpa using d.symm);obtain⟨u,v⟩:=r;simp only at p;subst p;simp [Instr.lookup,run_underlying k,MapKept.run_getObj_map m,g.chk,a,i]
def WE {j:Bool}(o:CK C h) (p:St S L h) (q:MP kv vv b l∈L) (s:BT m X=some (.map (some b))) (v:BT m Y=some (kv k0)) (x:P.underlying t=some (.map kt et)) (y:NO P kt kv) (A:∀w,(zeroValue et).run P w= .ok (vv z) w) (hd:Nat.blt d n.1=true)
  (B:(if j then .tuple #[vv ((NC kv l k0).getD z),.bool (NC kv l k0).isSome] else vv ((NC kv l k0).getD z))=u)
  (k:QF P ops C Q rest n ((d,u)::m)):QF P ops C Q (⟨some d,.lookup t X Y j,ty,pos,af,none⟩::rest) n m:=λa g=>by
 refine Dn g hd (λw D=>?_) k;obtain⟨F,⟨G,es,c,H,I,_⟩,i⟩:=p.get q;have J:w.heap[b]? =some (.map es c):=(o w D b (i b ((G b).2 rfl)).1).trans H;simp [execOp,g.eval s,g.eval v,Vq x y A J I,B]
end
section
variable {P:Program}{ops:Array Oper}{Q:Exit→Act→World→Prop}{n:FN}{m:SM}{rest:List Oper}
variable {d:Nat}{ty:TypeId}{pos:String}{af:Array Edge}{X Y Z:Operand}{B w:World}{h:AW}{S:Nat→Prop}{L L2:List HP}{v:Value}{t kt et:TypeId}{b:Nat}
variable {κ β:Type}{kv:κ→Value}{vv:β→Value}{l:List (κ×β)}{k0:κ}{x:β}
def WG (hs:St S L h) (rp:MX L (MP kv vv b l) (MP kv vv b (Qg kv l k0 x)) L2) (hx:BT m X=some (.map (some b))) (hy:BT m Y=some (kv k0)) (hz:BT m Z=some (vv x)) (hT:P.underlying t=some (.map kt et)) (G:NO P kt kv)
  (k:∀h',St S L2 h'→CB S h S h'→LF P ops Q rest B h' n m):LF P ops Q (⟨none,.mapUpdate t X Y Z,ty,pos,af,none⟩::rest) B h n m:=by
 intro a w q u;refine wpList_plain rfl λK v=>?_;unfold Oper.wp;obtain⟨M,p,_⟩:=rp.pick;obtain⟨F,⟨g1,es,c,g2,H,g4⟩,hF,_⟩:=Sp.pick p hs.2;have y:w.heap[b]? =some (.map es c):=by rw[u.heap];exact g2
 have I:=G.find k0 es.toList w (SE H);have z:∀(o:Obj) (h0:w.heap=h),(∀c',c'≠b→(w.heap.setIfInBounds b o)[c']? =h[c']?)∧(w.heap.setIfInBounds b o)[b]? =some o∧(w.heap.setIfInBounds b o).size=h.size:=λo h0=>by
  have J:b<w.heap.size:=(uH.1 y).1;refine⟨λc' A=>by rw[yW (Ne.symm A),h0],?_,by simp [h0]⟩;rw[Array.getElem?_setIfInBounds_self];simp [J]
 have C:∀(d:Array MapEntry) (c':Nat),d.toList.map (λe=>(e.key,e.val))=(Qg kv l k0 x).map (λe=>(kv e.1,vv e.2))→Nq d.toList c'→wpList P ops Q rest a { w with heap:=w.heap.setIfInBounds b (.map d c')}:=λd c' he U=>by
  obtain⟨s1,s2,s3⟩:=z (.map d c') u.heap;have V:Wd B (w.heap.setIfInBounds b (.map d c')) { w with heap:=w.heap.setIfInBounds b (.map d c')}:=⟨rfl,u.os,u.tape,u.out⟩
  obtain⟨u1,u2⟩:=hs.upd (h':=w.heap.setIfInBounds b (.map d c')) rp (by omega) λF k1 k2=>⟨F,⟨k1.1,d,c',s2,he,U⟩,λc A=> .inl A,λc _ A=>s1 c λe=>A ((k1.1 c).2 e)⟩
  exact k _ u1 u2 a _ q V
 cases i:T3 (NG (kv k0)) es.toList 0 with
 |none=>
  rw[i] at I;have g:(execOp a.eval ⟨none,.mapUpdate t X Y Z,ty,pos,af,none⟩).run P w= .ok .skip { w with heap:=w.heap.setIfInBounds b (.map (es.push { key:=kv k0,val:=vv x,born:=c}) (c+1))}:=by
   simp [execOp,q.eval hx,q.eval hy,q.eval hz,Instr.mapUpdate,run_underlying hT,MapKept.run_getObj_map y,G.chk,I,MapKept.run_setObj_map _ y]
  rw[g];refine v _ _ (C _ _ ?_ (by rw[Array.toList_push];exact g4.push _ rfl));rw[VE k0 0 x H i];simp [H]
 |some r=>
  obtain⟨j,r2⟩:=r;rw[i] at I;obtain⟨_,q2,⟨W,q3,q4⟩,q5⟩:=VD k0 (vv x) 0 j r2 x H i;have D:((es[j]?).map (·.key)).getD (kv k0)=kv W:=by
   have:(es[j]?).map (·.key)=some (kv W):=by simpa using q3
   simp [this]
  have s:(Instr.keyThatStays (kv W) (kv k0)).run P w= .ok (kv k0) w:=by simp [Instr.keyThatStays,G.same _ _ q4]
  have g:(execOp a.eval ⟨none,.mapUpdate t X Y Z,ty,pos,af,none⟩).run P w= .ok .skip { w with heap:=w.heap.setIfInBounds b (.map (es.modify j λe=>{ e with key:=kv k0,val:=vv x}) c)}:=by
   simp [execOp,q.eval hx,q.eval hy,q.eval hz,Instr.mapUpdate,run_underlying hT,MapKept.run_getObj_map y,G.chk,I,D,s,MapKept.run_setObj_map _ y]
  rw[g];refine v _ _ (C _ _ ?_ (by rw[Array.toList_modify];exact g4.of (U8 _ _ _ λ_=>rfl)));simpa using q5
def bN {K E:TypeId}(hd:Nat.blt d n.1=true) (o:St S L h) (kv:κ→Value) (vv:β→Value)
  (k:∀b h',St S (MP kv vv b []::L) h'→CB S h S h'→LF P ops Q rest B h' n ((d,.map (some b))::m)):LF P ops Q (⟨some d,.makeMap t none,ty,pos,af,none⟩::rest) B h n m:=by
 intro a w p l;refine wpList_plain rfl λK g=>?_;unfold Oper.wp;have c:(execOp a.eval ⟨some d,.makeMap t none,ty,pos,af,none⟩).run P w= .ok (.value (.map (some w.heap.size))) (w.alloc (.map #[] 0)):=by
  first|rfl|(simp [execOp,Instr.makeMap,newObj,Sem.run])
 rw[c];obtain⟨q,s⟩:=o.add (h':=h.push (.map #[] 0)) (H':=MP kv vv h.size []) (by simp) (λb i=>Gi _ _ _ i) ⟨λb=>b=h.size,⟨λ_=>vZ,#[],0,Ka _ _,rfl,List.nodup_nil,λx u=>by cases u⟩,λb i=>by subst i;simp⟩;have j:=l.heap;exact g _ _ (k w.heap.size _ (by rw[j];exact q) s _ _ (p.put hd _) (l.alloc _))
end
def qT (P:Program) (T:TypeId):Option (List (Nat×Nat)×List Value):=
 match P.underlying T,D9 P T with
 |some (.array n e),some z=>(P.info? e).map λi=>((List.range n).map λk=>(k*i.size,i.size),z)
 |_,_=>none
def sA (P:Program) (t len sz:Nat):Bool:=
 match P.underlying t with
 |some (.array n e)=>Nat.beq n len&&(match P.info? e with|some i=>Nat.beq i.size sz|none=>false)
 |_=>false
def TQ {p q:Nat→Option (Nat×Nat)}(h:∀i x,p i=some x→q i=some x):∀(pv:List (Nat×Value)) (cs cs':Array Value),Instr.fill p cs pv=some cs'→Instr.fill q cs pv=some cs'
 |[],_,_,e=>e
 |(i,v)::r,cs,cs',e=>by
  simp only[Instr.fill] at e ⊢;cases a:p i with
  |none=>rw[a] at e;cases e
  |some x=>
   obtain⟨o,s⟩:=x;rw[a] at e;rw[h i _ a];simp only at e ⊢;split at e
   ·cases e
   ·rename_i b;rw[tQ b];exact TQ h r _ _ e
def aI {P:Program}{T:TypeId}{pl z pv cs}(h:qT P T=some (pl,z)) (o:Mq pl z pv=some cs):P.built T pv=some cs.toArray:=by
 unfold qT at h;split at h
 ·rename_i n e p s a;simp only[vV,xK] at h;obtain⟨g,b,rfl,rfl⟩:=h;unfold D9 at a;simp only[vV,wV] at a;obtain⟨w,⟨i,t,c⟩,d⟩:=a;simp only[Program.built,t,s,c,b];have l:=Nb _ pv p cs o;rw[←d] at l;have u:=TQ (q:=λi=>some (i*g.size,g.size)) (λj x m=>by
   rw[List.getElem?_toArray,wQ] at m;obtain⟨k,v,rfl⟩:=vV.1 m;obtain⟨_,rfl⟩:=uB.1 v;simp) pv _ _ l
  simpa using u
 ·cases h
section
variable {P:Program}{ops:Array Oper}{C:World→Prop}{Q:Act→Prop}{n:FN}{m m':SM}{rest:List Oper}
variable {d:Nat}{ty:TypeId}{pos:String}{af:Array Edge}{X Y Z:Operand}{t:TypeId}{S:Nat→Prop}{L:List HP}{h:AW}{i:Int}{kd:IntKind}
def eJ {T:TypeId}{b:Array (Nat×Operand)}{pl z pv cs}(s:qT P T=some (pl,z)) (c:b.toList.mapM (cR m)=some pv) (o:Mq pl z pv=some cs) (hd:Nat.blt d n.1=true) (k:QF P ops C Q rest n ((d,.agg cs.toArray)::m)):QF P ops C Q (⟨some d,.build T b,ty,pos,af,none⟩::rest) n m:=λa q=>by
 refine Dn q hd (λw _=>?_) k;have i:(b.map λ(p:Nat×Operand)=>(p.1,a.eval p.2)).toList=pv:=by
  obtain⟨l⟩:=b;simp only at c;simp only[List.map_toArray];clear o k
  induction l generalizing pv with
  |nil=>simp at c;subst c;rfl
  |cons x l t=>
   simp only[xP,yJ,wV,cR,vV] at c;obtain⟨y,⟨v,u,rfl⟩,A,j,g⟩:=c;simp only[Option.pure_def,vB] at g;subst g;simp only[uY,q.eval u,t j]
 have:=run_build (P:=P) w T (b.map λ(p:Nat×Operand)=>(p.1,a.eval p.2)) cs.toArray (by rw[i];exact aI s o);simp only[execOp,Sem.run_bind,this];rfl
def mR {b o len sz:Nat}(u:BT m X=some (.pointer (some ⟨b,o,none⟩))) (v:BT m Y=some (.int kd i)) (c:sA P t len sz=true) (h0:0≤i) (x:i<len) (hd:Nat.blt d n.1=true)
  (k:QF P ops C Q rest n ((d,.pointer (some ⟨b,o+i.toNat*sz,none⟩))::m)):QF P ops C Q (⟨some d,.indexAddr t X Y,ty,pos,af,none⟩::rest) n m:=λa l=>by
 unfold sA at c;split at c
 ·rename_i z e y;simp only[tO] at c;obtain⟨p,g⟩:=c;have p:=tV p;subst p;split at g
  ·rename_i s q;have g:=tV g;subst g;have j:(⟨b,o,none⟩:Addr).add (i.toNat*s.size)=⟨b,o+i.toNat*s.size,none⟩:=by unfold Addr.add;split<;>simp_all
   exact Dn l hd (λw _=>by simp [execOp,l.eval u,l.eval v,Instr.indexAt,asIntOf,run_underlying y,Instr.sureAddr,h0,x,Qc q,j]) k
  ·cases g
 ·cases c
def eG {B:Type}{T b o:Nat}{cs:List Value}{l:List B}{z:B}(f:B→Value) (p:CK C h) (q:St S L h) (s:BT m X=some (.pointer (some ⟨b,o+i.toNat*1,none⟩))) (u:Bx b T cs∈L) (v:(cs.drop o).take l.length=l.map f) (w:Go.Proofs.YtedgiljmffngoaaGreat.ix l i=some z) (x:Jd P t 1 false=true) (hd:Nat.blt d n.1=true)
  (k:QF P ops C Q rest n ((d,f z)::m)):QF P ops C Q (⟨some d,.load t X,ty,pos,af,none⟩::rest) n m:=by
 obtain⟨h0,g⟩:=Et w;have y:(cs.drop (o+i.toNat*1)).take 1=[f z]:=by
  have j:((cs.drop o).take l.length)[i.toNat]? =some (f z):=by rw[v,wQ,g];rfl
  have c:i.toNat<l.length:=(uB.1 g).1;rw[vU c,xB] at j;rw[wE];obtain⟨a,A⟩:=uB.1 j;rw[yL a,A];rfl
 exact Nl (vs:=[f z]) p q s u y rfl x rfl hd k
end
def Xj (h:AW) (T:TypeId) (cs:List Value) (v:Value) (a:AW):Prop:=∃b,v= .pointer (some ⟨b,0,none⟩)∧h.size≤b∧b<a.size∧a[b]? =some (.cells cs.toArray T (0,0))
def Xj.mono {h a c:AW}{T cs v}(k:Xj h T cs v a) (o:C5 a c):Xj h T cs v c:=by
 obtain⟨b,e,g,d,i⟩:=k;exact⟨b,e,g,tZ d o.siz,(o.same b d).trans i⟩
def Xj.st {h g:AW}{T cs v}{S:Nat→Prop}{L:List HP}(k:Xj h T cs v g) (d:St S L h) (o:C5 h g):∃b,v= .pointer (some ⟨b,0,none⟩)∧St S (Bx b T cs::L) g:=by
 obtain⟨b,e,m,i,j⟩:=k;refine⟨b,e,λc a=>tZ (d.1 c a) o.siz,λc=>c=b,⟨λ_=>vZ,j⟩,λc a=>by subst a;exact⟨i,λl=>absurd (d.1 c l) (by omega)⟩,?_⟩;refine Sp.ext d.2 (λ_ x=>x) (λc a=>o.same c (a.elim (d.1 c) (·.1))) λc a=>⟨⟨tZ a.1 o.siz,a.2⟩,λe=>by have:=a.1;omega⟩
def bP {P:Program}{ops:Array Oper}{Q:Exit→Act→World→Prop}{n:FN}{m:SM}{rest:List Oper}{d:Nat}{ty:TypeId}{pos:String}{af:Array Edge}{B:World}{h j:AW}{T:TypeId}{cs:List Value}(o:C5 h j) (c:D9 P T=some cs) (hd:Nat.blt d n.1=true)
  (k:∀v h',C5 j h'→Xj h T cs v h'→LF P ops Q rest B h' n ((d,v)::m)):LF P ops Q (⟨some d,.alloc T,ty,pos,af,none⟩::rest) B j n m:=by
 intro a w s q;refine wpList_plain rfl λK t=>?_;unfold Oper.wp;unfold D9 at c;simp only[vV,wV] at c;obtain⟨z,⟨i,u,c⟩,l⟩:=c;have x:z.cells=cs.toArray:=by rw[←l]
 have g:(execOp a.eval ⟨some d,.alloc T,ty,pos,af,none⟩).run P w= .ok (.value (.pointer (some ⟨w.heap.size,0,none⟩))) (w.alloc (.cells cs.toArray T)):=by
  simp [execOp,Instr.alloc,newVar,newRow,zeroValue,typeInfo,u,c,x]
 rw[g];have p:=q.heap;exact t _ _ (k _ _ ⟨by simp,λb y=>Gi _ _ _ y⟩ ⟨j.size,by rw[p],o.siz,by simp,Ka _ _⟩ _ _ (s.put hd _) (q.alloc _))
def Y3 (ops:Array Oper) (n:Nat) (F:List Nat):Bool:=
 (List.range n).all λi=>F.contains i||(List.range (n+1)).any λj=>decide (i<j)&& !F.contains j&&Region.waitsFor .any ops j i
def Lt (ops:Array Oper) (f:Nat):Bool:=(List.range ops.size).all λj=>j==f||(Region.waitsFor .any ops j f||(Region.waitsFor .any ops f j||match ops[f]?,ops[j]? with
 |some oi,some a=>oi.apart ops a
 |_,_=>false))
def Ny (P:Program) (ops:Array Oper) (n:FN) (m:SM) (h0:AW) (R:AR) (i:Nat) (o:Oper) (b:List (Nat×Nat)):Prop:=
 ∀mt h,C5 h0 h→PA R h (λfr=>∀a,Fr n a (fr++(m++mt))→∃v,Yields P ops o v a∧R i v h) b []
section
variable {P:Program}{ops:Array Oper}{Q:Exit→Act→World→Prop}{a:Act}{w:World}
def Ug {n:Nat}{F:List Nat}{a:Array Bool}(J:Y3 ops n F=true) (K:Region.chainB .any ops n=true) (W:n<ops.size) (m:HeadInv .any ops n a):
  ∀(d i:Nat),n-i=d→i<n→i∉F→a.getD i true=false→∀t,n≤t→t∉Region.ready .any ops a:=by
 intro d
 induction d using Nat.strongRecOn with
 |_ d M=>
  intro i hd Q w p t X C;obtain⟨_,D,o,g⟩:=mem_ready.1 C;have q:t<ops.size:=(uH.1 o).1;by_cases x:t=n
  ·subst x;have k:=tS.1 J i (uG.2 Q);simp only[uD,tW,w,vF] at k;obtain⟨j,U,b⟩:=List.any_eq_true.1 k;simp only[tO,uF,uI] at b;have y:j∉F:=λh=>by
    have:=b.1.2;rw[tW.2 h] at this;cases this
   obtain⟨G,s,e,u,v,c⟩:=Region.waitsFor_spec b.2;have H:j≤t:=by have:=uG.1 U;omega
   by_cases z:j=t
   ·subst z;have:G=D:=tN (s.symm.trans o);subst this;have l:=g e u v;rw[c,getD_both p] at l;cases l
   ·cases I:a.getD j false with
    |true=>
     have l:=m.closed j G s I e u v;rw[c,getD_both p] at l;cases l
    |false=>
     have A:j<a.size:=by rw[m.size];omega
     exact M (t-j) (by have:=b.1.1;omega) j rfl (by omega) y (getD_in A I) t (tX _) C
  ·have k:=tS.1 K t (uG.2 q);simp only[uD,uF] at k;rcases k with k|k
   ·omega
   ·obtain⟨V,B,e,u,v,c⟩:=Region.waitsFor_spec k;have:V=D:=tN (B.symm.trans o);subst this;have l:=g e u v;rw[c,getD_both (m.tail (t-1) (by omega) (by omega))] at l;cases l
def aN {B:World}{h0:AW}{kk:Nat}{n:FN}{m:SM}{R:AR}(am:kk≤ops.size) (hb:Lu ops=true)
  (F:List Nat) (ah:kk=ops.size∨(Y3 ops kk F=true∧Region.chainB .any ops kk=true)) (az:Region.noSelect ops=true) (hQ:∀c a w,¬Q (.panic c) a w)
  (hF:∀f,f∈F→f<kk∧Lt ops f=true∧∃o d K,ops[f]? =some o∧o.dst=some d∧QP ops o K=true∧Ny P ops n m h0 R f o K)
  (aj:cS ops kk n (m.map (·.1))=true)
  (an:∀i v h h',C5 h0 h→C5 h h'→R i v h→R i v h')
  (step:∀i o d,i<kk→ops[i]? =some o→o.dst=some d→∃K,QP ops o K=true∧Td P ops Q B n m h0 R i o d K)
  (a0:∀a w h,Wd B h w→C5 h0 h→Fr n a m→(∀i,i<kk→∃d v,D6 ops i=some d∧a.tmps[d]? =some v∧R i v h)→wpList P ops Q (ops.toList.drop kk) a w):
  ∀(s:Nat) (k:Array Bool) (a:Act) (w:World),Pw k=s→HeadInv .any ops kk k→qO B h0 n m ops kk R k a w→wpAny P .any ops Q s k a w:=by
 intro s
 induction s with
 |zero=>
  intro k a w hu q ai;have t:∀i,k.getD i true=true:=λi=>OH hu;obtain⟨h,g1,g2,M,g4⟩:=ai.ex;have hk:kk=ops.size:=by
   rcases yM am with h|h
   ·have y:=q.tail kk (tX _) h;have h2:=t kk;rw[y] at h2;cases h2
   ·exact h
  have hf:=a0 a w h g1 g2 M λi z=>g4 i z (by
   have h2:=t i;have:i<k.size:=by rw[q.size];omega
   simpa [this] using h2)
  rw[wX (by simp;omega)] at hf;exact⟨Ow λi _=>t i,hf⟩
 |succ s ih=>
  intro k a w hu q ai;obtain⟨h,g1,g2,M,g4⟩:=ai.ex;by_cases t:∀i,i<kk→k.getD i true=true
  ·
   have hf:=a0 a w h g1 g2 M λi z=>g4 i z (by
    have h2:=t i z;have:i<k.size:=by rw[q.size];omega
    simpa [this] using h2)
   have bp:kk<ops.size:=by
    rcases yM am with h|h
    ·exact h
    ·exfalso;have ao:∀b∈k.toList,b=true:=by
      intro b A;obtain⟨i,z,rfl⟩:=xF.1 A;have ab:i<k.size:=by simpa using z
      have:=t i (by have:=q.size;omega);simpa [ab] using this
     have:Pw k=0:=by
      unfold Pw;rw[List.count_eq_zero];intro hm;have:=ao _ hm;cases this
     omega
   rcases ah with hc|⟨_,hc⟩
   ·omega
   ·refine PV hc hb (s+1) kk k a w (tX _) ?_ q.size t (λj U ap=>q.tail j U ap) hf;have:=Sz (by rw[q.size];exact am) t (λj U ap=>q.tail j U (by rw[←q.size];exact ap));rw[q.size] at this;omega
  ·have D:∀i o,i<kk→i∈Region.ready .any ops k→ops[i]? =some o→∀K,QP ops o K=true→∀p∈K,∃v,a.tmps[p.2]? =some v∧R p.1 v h:=by
    intro i o G z H K V;obtain⟨aq,o',ac,ak⟩:=mem_ready.1 z;have:o'=o:=tN (ac.symm.trans H);subst this;have al:i<ops.size:=(uH.1 H).1;have ad:∀j∈Kb o',∃d v,D6 ops j=some d∧a.tmps[d]? =some v∧R j v h:=by
     intro j U;obtain⟨e,he,rfl⟩:=uX.1 U;obtain⟨be,a1⟩:=vL.1 he;have a2:e∈o'.after:=by simpa using be
     have y:=ak e a2 a1;have h4:=tS.1 hb i (uG.2 al);rw[H] at h4;simp only[wK,vK,wL] at h4;have h6:=h4 e a2;simp only[a1,uP,wC,uF] at h6;exact g4 e.on (by omega) y
    intro p hp;have y:=tS.1 V p hp;simp only[tO] at y;obtain⟨d',v,q1,q2,q3⟩:=ad p.1 (by simpa using y.1);have h2:=y.2;rw[q1] at h2;have:p.2=d':=tV (by simpa using h2);exact⟨v,by rw[this];exact q2,q3⟩
   have W:∀i o d,i<kk→i∈Region.ready .any ops k→ops[i]? =some o→o.dst=some d→∀v w' h',Wd B h' w'→C5 h h'→R i v h'→wpAny P .any ops Q s (k.setIfInBounds i true) (a.put (some d) v) w':=by
    intro i o d G z H I v w' h' bf ac hr;obtain⟨aq,_,_,_⟩:=mem_ready.1 z;have hd:D6 ops i=some d:=by unfold D6;rw[H];exact I
    have l:=tS.1 aj i (uG.2 G);rw[hd] at l;simp only[tO,uI,tS,uG,uD] at l;obtain⟨⟨ae,ar⟩,a3⟩:=l;have X:d+1≤n.1:=by simpa [Nat.blt] using ae
    have Y:d<n.1:=X;refine ih _ _ _ (by have:=J8 aq;omega) (q.set z G) ⟨h',bf,g2.trans ac,?_,λj U hl=>?_⟩
    ·have hp:=M.put ae v;refine⟨hp.dfr,hp.siz,λi' u ab=>hp.at_ i' u ?_⟩;have J:Nat.beq d i'=false:=by
      cases A:Nat.beq d i' with
      |false=>rfl
      |true=>
       have:=tV A;subst this;have y:=R7 ab;rw[←tW] at y;rw[y] at ar;cases ar
     simp only[lk,J,tM];exact ab
    ·by_cases e:i=j
     ·subst e;refine⟨d,v,hd,?_,hr⟩;simp only[Act.put,vE];have:=M.siz;simp [this,Y]
     ·rw[getD_set_ne false e] at hl;obtain⟨dj,vj,q1,q2,q3⟩:=g4 j U hl;refine⟨dj,vj,q1,?_,an _ _ _ _ g2 ac q3⟩;have y:=a3 j U;rw[q1] at y;have J:d≠dj:=by
       rcases y with y|y
       ·exact absurd (tV y) e
       ·intro e';subst e';simp at y
      simp only[Act.put,vE];rw[tQ J];exact q2
   by_cases a4:∃f,f∈F∧f∈Region.ready .any ops k
   ·obtain⟨f,bg,af⟩:=a4;obtain⟨a5,au,o,d,K,H,I,V,bh⟩:=hF f bg;obtain⟨fr,hK,Z⟩:=JA (a:=a) (n:=n) _ _ (bh (Gl a) h g2) (D f o a5 af H K V) ⟨M.dfr,M.siz,λi v z=>by simp [lk] at z⟩;obtain⟨v,hy,hr⟩:=hK a (Z.append (M.append M.full));refine wpAny_first H (Region.noSelect_spec az) (λc a w hq=>absurd hq (hQ c _ w)) s k a w (λj oj U J a6 av=>?_) af hy ?_
    ·have y:=tS.1 au j (uG.2 (uH.1 U).1);simp only[H,U,uD,beq_iff_eq,J,vF] at y;rcases y with y|y
     ·obtain⟨bi,a7,e,he,A,aw⟩:=Region.waitsFor_spec y;have:bi=oj:=tN (a7.symm.trans U);subst this;exact absurd aw (av e he A)
     ·rcases y with y|y
      ·obtain⟨bj,a8,e,he,A,aw⟩:=Region.waitsFor_spec y;obtain⟨_,bk,a9,ax⟩:=mem_ready.1 af;have:bj=bk:=tN (a8.symm.trans a9);subst this;have h5:=ax e he A;rw[aw,getD_both a6] at h5;cases h5
      ·exact y
    ·rw[I];exact W f o d a5 af H I v w h g1 (C5.refl h) hr
   obtain⟨k0,bl,ba,bb⟩:∃k0,k0<kk∧k.getD k0 true=false∧k0∉F:=by
    obtain⟨k1,bq,bm⟩:∃k0,k0<kk∧k.getD k0 true=false:=by
     apply wY;intro av;refine t λi z=>?_;cases hl:k.getD i true with
     |true=>rfl
     |false=>exact absurd ⟨i,z,hl⟩ av
    obtain⟨i0,q1,ag,_⟩:=IJ hb q.size (show k1<ops.size by omega) bm;exact⟨i0,by omega,(mem_ready.1 ag).1,λhf=>a4 ⟨i0,hf,ag⟩⟩
   obtain⟨i0,_,ag,_⟩:=IJ hb q.size (show k0<ops.size by omega) ba;refine⟨λh0=>absurd (h0▸ag) (by simp),λi z=>?_⟩;obtain⟨aq,o,H,ak⟩:=mem_ready.1 z;have al:i<ops.size:=(uH.1 H).1;have G:i<kk:=by
    rcases uM i kk with h|h
    ·exact h
    ·rcases ah with hc|⟨hs,hc⟩
     ·omega
     ·exact absurd z (Ug hs hc (by omega) q _ k0 rfl bl bb ba i h)
   have l:=tS.1 aj i (uG.2 G);cases hd:D6 ops i with
   |none=>rw[hd] at l;cases l
   |some d=>
   rw[hd] at l;simp only[tO,uI,tS,uG,uD] at l;obtain⟨⟨ae,ar⟩,a3⟩:=l;have X:d+1≤n.1:=by simpa [Nat.blt] using ae
   have Y:d<n.1:=X;have I:o.dst=some d:=by unfold D6 at hd;rw[H] at hd;exact hd
   obtain⟨K,V,ay⟩:=step i o d G H I;have aa:=D i o G z H K V;obtain⟨fr,hK,Z⟩:=JA (a:=a) (n:=n) _ _ (ay (Gl a) h g2) aa ⟨M.dfr,M.siz,λi v z=>by simp [lk] at z⟩;have C:Fr n a (fr++(m++Gl a)):=Z.append (M.append M.full);have bn:∀i u,a.tmps[i]? =some u→lk (fr++(m++Gl a)) i=some u:=by
    intro i u hu;have hl:lk (Gl a) i=some u:=by
     have:i<a.tmps.size:=(uH.1 hu).1;rw[Oz this];simp [vQ,hu]
    have bo:∃u',lk (fr++(m++Gl a)) i=some u':=by
     rw[IC,IC,hl];cases lk fr i with
     |some x=>exact⟨x,by simp⟩
     |none=>cases lk m i with
      |some x=>exact⟨x,by simp⟩
      |none=>exact⟨u,by simp⟩
    obtain⟨u',bc⟩:=bo;have:=C.at_ i u' bc;rw[hu] at this;rw[bc,←tN this]
   have next:=W i o d G z H I
   have conv:∀a' w',KS B n d (R i) h (fr++(m++Gl a)) a' w'→wpAny P .any ops Q s (k.setIfInBounds i true) a' w':=by
    rintro a' w' ⟨v,h',f1,f2,f3,f4⟩;have:=Fr.same Y C f1 λi u z hu=>by
     have J:Nat.beq d i=false:=by
      cases A:Nat.beq d i with
      |false=>rfl
      |true=>exact absurd (tV A).symm z
     simp only[lk,J,tM];exact bn i u hu
    subst this;exact next v w' h' f2 f3 f4
   unfold wpOp;simp only[H];cases hg:o.guard with
   |none=>
    rw[hg] at hK;rw[tT (by simp [Region.wanted,hg])];exact(HQ hg (hK a w C g1)).imp (Oper.wp_mono conv) id
   |some gb=>
    obtain⟨g,b⟩:=gb;rw[hg] at hK;obtain⟨dg,q1,hK⟩:=hK;rcases hK with ⟨k1,k2⟩|⟨v,k1,k2,k3⟩
    ·have hy:yielded ops a.tmps g=some b:=Ju Z q1 k1;rw[tT (by simp [Region.wanted,hg,hy])];exact(L9 (HQ rfl (k2 a w C g1))).imp (Oper.wp_mono conv) id
    ·have hy:yielded ops a.tmps g≠some b:=by rw[Ju Z q1 k1];exact k2
     rw[tQ (by simp [Region.wanted,hg,hy]),I];exact next undef w h g1 (C5.refl h) k3
end
def pF (ops:Array Oper) (kk:Nat) (F:List Nat):Bool:=Nat.ble kk ops.size&&(Nat.beq kk ops.size||(Y3 ops kk F&&Region.chainB .any ops kk))&&Lu ops&&Region.noSelect ops
def Qy (P:Program) (ops:Array Oper) (kk:Nat) (n:FN) (m:SM) (h0:AW) (R:AR):List Nat→Prop
 |[]=>True
 |f::F=>(f<kk∧Lt ops f=true∧∃o d a,ops[f]? =some o∧o.dst=some d∧QP ops o a=true∧Ny P ops n m h0 R f o a)∧Qy P ops kk n m h0 R F
def Qy.at_ {P:Program}{ops:Array Oper}{kk:Nat}{n:FN}{m:SM}{h0:AW}{R:AR}:∀{F:List Nat},Qy P ops kk n m h0 R F→∀f,f∈F→f<kk∧Lt ops f=true∧∃o d b,ops[f]? =some o∧o.dst=some d∧QP ops o b=true∧Ny P ops n m h0 R f o b
 |[],_,f,a=>by cases a
 |g::F,⟨c,i⟩,f,a=>by
  rcases uA.1 a with rfl|a
  ·exact c
  ·exact Qy.at_ i f a
def Qy.cons {P:Program}{ops:Array Oper}{kk:Nat}{n:FN}{m:SM}{h0:AW}{R:AR}{f d:Nat}{o:Oper}{F:List Nat}(a:List (Nat×Nat)) (b:(Nat.blt f kk&&Lt ops f)=true) (g:ops[f]? =some o) (hd:o.dst=some d) (c:QP ops o a=true) (i:Ny P ops n m h0 R f o a) (t:Qy P ops kk n m h0 R F):Qy P ops kk n m h0 R (f::F):=by
 simp only[tO] at b;exact⟨⟨(by simpa [Nat.blt] using b.1:f+1≤kk),b.2,o,d,a,g,hd,c,i⟩,t⟩
def VZ {P:Program}{ops:Array Oper}{n:FN}{m:SM}{d i:Nat}{ty:TypeId}{b:String}{c:Array Edge}{X:Operand}{xs:Array Value}{u:Value}{a:Act}(g:Fr n a m) (j:BT m X=some (.tuple xs)) (k:xs[i]? =some u):Yields P ops ⟨some d,.extract X i,ty,b,c,none⟩ u a:=
 .inl ⟨by simp [Region.wanted],λw=>by simp [execOp,g.eval j,Instr.extract,k]⟩
def M4 {P:Program}{ops:Array Oper}{n:FN}{m:SM}{d:Nat}{ty:TypeId}{b:String}{c:Array Edge}{X:Operand}{u:Value}{a:Act}(g:Fr n a m) (i:BT m X=some u):Yields P ops ⟨some d,.move X,ty,b,c,none⟩ u a:=
 .inl ⟨by simp [Region.wanted],λw=>by simp [execOp,g.eval i]⟩
section
variable {P:Program}{ex:List (Nat×AP)}{RR N:AP}{cs:List Code}{B:World}{h:AW}{n:FN}{m m0:SM}{S:Nat→Prop}{L:List HP}
def UE {l:List Oper}{id:Nat}(kk:Nat) (F:List Nat) (R:AR) (pss:List (List (Nat×Nat))) (M:List (Nat×Nat)) (X:P.follows .mixedOrders=true) (Q:pF l.toArray kk F=true) (U:List Nat) (y:m.map (·.1)=U) (g:cS l.toArray kk n U=true)
  (z:Vt l.toArray (l.take kk) pss=true) (A:(M.all λp=>Nat.blt p.1 kk&&(D6 l.toArray p.1).any (Nat.beq p.2 ·))=true) (k:Su m0 m)
  (b:∀i v q u,C5 h q→C5 q u→R i v q→R i v u)
  (Y:Qy P l.toArray kk n m h R F)
  (step:AQ P l.toArray (Qx ex RR (W P ex RR cs N)) B n m h R 0 (l.take kk) pss)
  (C:∀h',C5 h h'→PA R h' (λfr=>LF P l.toArray (Qx ex RR (W P ex RR cs N)) (l.drop kk) B h' n (fr++m)) M []):WF P ex RR (.region id l.toArray true::cs) N B h n m0:=by
 intro a w D Z;subst y;simp only[pF,tO,uD] at Q;obtain⟨⟨⟨q,u⟩,h3⟩,h4⟩:=Q;have G:kk≤l.toArray.size:=xD q;refine λrd H=>NY H MG X (aN (kk:=kk) (R:=R) (B:=B) (h0:=h) (n:=n) (m:=m) G h3 F (u.imp (λe=>tV e) λx=>x) h4 (λc a w hq=>hq) (λf D=>Y.at_ f D) g b (λi o d I ho hd=>?_) (λa w h' g1 g2 J g4=>?_) _ _ _ _ ?_ ⟨by simp,λj oj _ s=>(by rw[getD_replicate_false] at s;cases s),λt _ ht=>getD_in (by simpa using ht) (getD_replicate_false _ _)⟩ ⟨h,Z.drew,C5.refl h,D.sub k,λi _ s=>(by rw[getD_replicate_false] at s;cases s)⟩)
 ·have K:(l.take kk)[i]? =some o:=by rw[vU I];simpa using ho
  have:=AQ.at_ step z K hd;rw[uT] at this;exact this
 ·obtain⟨fr,k1,k2⟩:=JA (a:=a) (n:=n) _ _ (C h' g2) (λp hp=>by
   have e:=tS.1 A p hp;simp only[tO] at e;have e1:p.1<kk:=(by simpa [Nat.blt] using e.1:p.1+1≤kk)
   obtain⟨d,v,q1,q2,q3⟩:=g4 p.1 e1;have V:=e.2;rw[q1] at V;have:p.2=d:=tV (by simpa using V);exact⟨v,by rw[this];exact q2,q3⟩) ⟨J.dfr,J.siz,λi v I=>by simp [lk] at I⟩
  exact k1 a w (k2.append J) g1
 ·unfold Pw;rw[yB];simp
end
end Go.Proofs.YtedgiljmffngoaaGreat
