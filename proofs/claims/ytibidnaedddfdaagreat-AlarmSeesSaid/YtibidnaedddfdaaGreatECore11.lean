import Derived.Test.YtibidnaedddfdaaGreatECore10
namespace Go.Proofs.YtibidnaedddfdaaGreat
set_option linter.all false
open Go.RowKit
abbrev AR:=Nat→Value→AX→Prop
def E3 (ops:Array Oper) (i:Nat):Option Nat:=(ops[i]?).bind (·.dst)
def QS (o:Oper):List Nat:=(o.after.toList.filter (Region.binds .any)).map (·.on)
def dO (ops:Array Oper) (kk:Nat) (n:FN) (m:List Nat):Bool:=
 (List.range kk).all λi=>match E3 ops i with
  |some d=>Nat.blt d n.1&& !(m.contains d)&&(List.range kk).all λj=>Nat.beq i j|| !((E3 ops j).any (Nat.beq d ·))
  |none=>false
def pR (ops:Array Oper) (kk:Nat):Bool:=Nat.ble kk ops.size&&(Nat.beq kk ops.size||(Region.sinkB .any ops kk&&Region.chainB .any ops kk))&&NX ops
def KS (B:World) (n:FN) (d:Nat) (R:Value→AX→Prop) (h:AX) (m:SM):Act→World→Prop:=λa w=>
 ∃v h',Fr n a ((d,v)::m)∧Wd B h' w∧Gf h h'∧R v h'
def PA (R:AR) (h:AX) (K:SM→Prop):List (Nat×Nat)→SM→Prop
 |[],fr=>K fr
 |(j,d)::a,fr=>∀u,R j u h→PA R h K a ((d,u)::fr)
def yb:Value→Option Bool
 | .bool b=>some b
 |_=>none
def UQ (P:Program) (ops:Array Oper) (Q:Exit→Act→World→Prop) (B:World) (n:FN) (m:SM) (h0:AX) (R:AR) (i:Nat) (o:Oper) (d:Nat) (c:List (Nat×Nat)):Prop:=
 ∀mt h,Gf h0 h→PA R h (λfr=>match o.guard with
  |none=>LF P ops (Exit.then (KS B n d (R i) h (fr++(m++mt))) Q) [o] B h n (fr++(m++mt))
  |some (j,b)=>∃a,E3 ops j=some a∧((lk fr a=some (.bool b)∧LF P ops (Exit.then (KS B n d (R i) h (fr++(m++mt))) Q) [{ o with guard:=none}] B h n (fr++(m++mt)))∨∃v,lk fr a=some v∧yb v≠some b∧R i undef h)) c []
def SH (ops:Array Oper) (o:Oper) (a:List (Nat×Nat)):Bool:=a.all λp=>(QS o).contains p.1&&(E3 ops p.1).any (Nat.beq p.2 ·)
def Jf {m mt:SM}{i:Nat}:lk (m++mt) i=(lk m i).or (lk mt i):=by
 induction m with
 |nil=>simp [lk]
 |cons e r a=>
  obtain⟨j,v⟩:=e;simp only[wZ,lk];cases Nat.beq j i with
  |true=>simp
  |false=>simpa using a
def Fr.append {n a m mt}(c:Fr n a m) (g:Fr n a mt):Fr n a (m++mt):=⟨c.dfr,c.siz,λi v b=>by
 rw[Jf] at b;cases d:lk m i with
 |some u=>rw[d] at b;simp at b;subst b;exact c.at_ i _ d
 |none=>rw[d] at b;simp at b;exact g.at_ i v b⟩
def IB (a:Act):SM:=(List.range a.tmps.size).map λi=>(i,a.tmps.getD i undef)
def R0 (f:Nat→Value):∀(k s i:Nat),s≤i→i<s+k→lk ((List.range' s k).map λi=>(i,f i)) i=some (f i)
 |0,s,i,a,b=>by omega
 |k+1,s,i,a,b=>by
  simp only[List.range'_succ,wA,lk];by_cases e:s=i
  ·subst e;simp
  ·have:Nat.beq s i=false:=by
    cases c:Nat.beq s i with
    |false=>rfl
    |true=>exact absurd (uR c) e
   rw[this];exact R0 f k (s+1) i (by omega) (by omega)
def Ph {a:Act}{i:Nat}(h:i<a.tmps.size):lk (IB a) i=some (a.tmps.getD i undef):=by
 unfold IB;rw[List.range_eq_range'];exact R0 _ _ 0 i (by omega) (by omega)
def Rz (f:Nat→Value):∀(k s i:Nat),s+k≤i→lk ((List.range' s k).map λi=>(i,f i)) i=none
 |0,s,i,h=>rfl
 |k+1,s,i,h=>by
  simp only[List.range'_succ,wA,lk];have:Nat.beq s i=false:=by
   cases a:Nat.beq s i with
   |false=>rfl
   |true=>exact absurd (uR a) (by omega)
  rw[this];exact Rz f k (s+1) i (by omega)
def Fr.full {n a m}(h:Fr n a m):Fr n a (IB a):=⟨h.dfr,h.siz,λi v b=>by
 by_cases c:i<a.tmps.size
 ·rw[Ph c] at b;injection b with b
  subst b;simp [wL,yE c]
 ·unfold IB at b;rw[List.range_eq_range',Rz _ _ 0 i (by omega)] at b;cases b⟩
section
variable {P:Program}{ops:Array Oper}{Q:Exit→Act→World→Prop}{a:Act}{w:World}
def Ju {o:Oper}{K:Act→World→Prop}(l:o.guard=none) (h:wpList P ops (Exit.then K Q) [o] a w):o.wp P a w K Q∨(o.asks P a w∧LetsOut Q):=by
 unfold wpList at h;rw[uJ (by simp [Region.wanted,l])] at h;rcases h with b|⟨b,g,i,h2⟩
 ·refine .inl ?_;unfold Oper.wp at b ⊢;generalize (execOp a.eval o).run P w=r at b
  cases r with
  |ok m n=>
   cases m<;>simp only[Oper.upon] at b ⊢
   case value v=>exact b
   case skip=>exact b
   case defer d=>exact b
   case enter f args=>
    refine b.mono λe j k=>?_;cases e with
    |returned v=>exact k
    |panicked c=>exact k
    |outgrown=>obtain⟨g,i,h0⟩:=k;exact⟨g,i,h0⟩
   case row r args=>obtain b:=b;exact Rows.mono b λv j p=>p
  |halt x n=>cases x<;>simp only[Oper.upon] at b ⊢;exact b
 ·exact .inr ⟨b,g,i,h2⟩
def N1 {o:Oper}{K:Act→World→Prop}(h:({ o with guard:=none}:Oper).wp P a w K Q∨(({ o with guard:=none}:Oper).asks P a w∧LetsOut Q)):o.wp P a w K Q∨(o.asks P a w∧LetsOut Q):=h
def RW (a:Array Bool):Nat:=a.toList.count false
def Mm {a:Array Bool}{i:Nat}(h:a.getD i true=false):RW (a.setIfInBounds i true)+1=RW a:=by
 have b:i<a.size:=by
  rcases vG i a.size with h'|h'
  ·exact h'
  ·simp [Array.getElem?_eq_none h'] at h
 have c:a[i]=false:=by simpa [b] using h
 have g:false∈a.toList:=by rw[←c];simp
 have d:0<a.toList.count false:=List.count_pos_iff.2 g;unfold RW;rw[Array.toList_setIfInBounds,List.count_set (by simpa using b)];have j:a.toList[i]'(by simpa using b)=false:=by simpa using c
 rw[j];rw[show (if (false==false)=true then 1 else 0:Nat)=1 from rfl,show(if (true==false)=true then 1 else 0:Nat)=0 from rfl];omega
def Qj {a:Array Bool}(h:RW a=0) {i:Nat}:a.getD i true=true:=by
 cases b:a.getD i true with
 |true=>rfl
 |false=>have:=Mm b;omega
def Pg {a:Array Bool}(h:∀i,i<ops.size→a.getD i true=true):Region.ready .any ops a=[]:=by
 apply List.eq_nil_iff_forall_not_mem.2;intro j c;obtain⟨b,o,d,_⟩:=mem_ready.1 c;rw[h j (vJ.1 d).1] at b;cases b
def Ki {a:Array Bool}(n:NX ops=true) (w:a.size=ops.size) {k:Nat}(x:k<ops.size) (o:a.getD k true=false):∃i,i≤k∧i∈Region.ready .any ops a∧∀j,j<i→a.getD j true=true:=by
 obtain⟨i,q,s,g⟩:=Mo (p:=λi=>a.getD i true) k o;have b:i<ops.size:=by omega
 refine⟨i,q,mem_ready.2 ⟨s,ops[i],by simp [b],λe t c=>?_⟩,g⟩;have d:=uQ.1 n i (vF.2 b);have u:ops[i]? =some ops[i]:=by simp [b]
 rw[u] at d;simp only[xM,vM,xN] at d;have l:=d e t;simp only[c,vL,wH,uY] at l;have m:=g e.on l;have v:e.on<a.size:=by omega
 simp only[wL,yE v,vM] at m ⊢;exact m
def QQ {kk:Nat}(F:Region.chainB .any ops kk=true) (G:NX ops=true):∀(c t:Nat) (b:Array Bool) (a:Act) (w:World),kk≤t→t+c=ops.size→b.size=ops.size→(∀j,j<t→b.getD j true=true)→(∀j,t≤j→j<ops.size→b.getD j true=false)→
  wpList P ops Q (ops.toList.drop t) a w→wpAny P .any ops Q c b a w
 |0,t,b,a,w,_,U,q,l,p,g=>by
  rw[xU (by simp;omega)] at g;exact⟨Pg λi H=>l i (by omega),g⟩
 |c+1,t,b,a,w,hk,U,q,l,p,g=>by
  have d:t<ops.size:=by omega
  have s:=p t (uW _) d;obtain⟨i,V,I,q3⟩:=Ki G q d s;have u:i=t:=by
   rcases zG V with h|h
   ·exact absurd (l i h) (by rw[(mem_ready.1 I).1];exact Bool.false_ne_true)
   ·exact h
  subst u;refine⟨λh0=>absurd (h0▸I) (by simp),λj W=>?_⟩;have v:j=i:=by
   obtain⟨J,X,k,m⟩:=mem_ready.1 W;have n:=(vJ.1 k).1;by_cases x:j<i
   ·rw[l j x] at J;cases J
   ·by_cases e:j=i
    ·exact e
    ·have o:=uQ.1 F j (vF.2 n);simp only[uZ,uY] at o;rcases o with o|o
     ·omega
     ·obtain⟨Y,y,Z,z,A,B⟩:=Region.waitsFor_spec o;have:Y=X:=uX (y.symm.trans k);subst this;have K:=m Z z A;have g4:=p (j-1) (by omega) (by omega);rw[B,getD_both g4] at K;cases K
  subst v;have k:ops[j]? =some ops[j]:=by simp [d]
  rw[yI (by simpa using d)] at g;simp only[Array.getElem_toList] at g;have M:=λa w=>QQ F G c (j+1) (b.setIfInBounds j true) a w (by omega) (by omega) (by simpa using q)
   (λi H=>by
    by_cases e:i=j
    ·subst e;have:i<b.size:=by omega
     simp [wL,wE,this]
    ·rw[getD_set_ne true (by omega)];exact l i (by omega))
   (λi H C=>by rw[getD_set_ne true (by omega)];exact p i (by omega) C)
  unfold wpOp;simp only[k];unfold wpList at g;split
  ·rename_i D;rw[uJ D] at g;exact g.imp (Oper.wp_mono M) id
  ·rename_i D;rw[uI D] at g;exact M _ _ g
structure sC (B:World) (h0:AX) (n:FN) (m:SM) (ops:Array Oper) (kk:Nat) (R:AR) (listed:Array Bool) (a:Act) (w:World):Prop where
 ex:∃h,Wd B h w∧Gf h0 h∧Fr n a m∧∀i,i<kk→listed.getD i false=true→∃d v,E3 ops i=some d∧a.tmps[d]? =some v∧R i v h
def Fr.same {n:FN}{a b:Act}{d:Nat}{v:Value}{l k:SM}(hd:d<n.1) (h:Fr n a l) (h':Fr n b ((d,v)::k)) (m:∀i u,i≠d→a.tmps[i]? =some u→lk ((d,v)::k) i=some u):b=a.put (some d) v:=by
 obtain⟨t,ds⟩:=a;obtain⟨t',c⟩:=b;have o:ds=n.2:=h.dfr;have p:c=n.2:=h'.dfr;subst o;subst p;have s:t.size=n.1:=h.siz;have w:t'.size=n.1:=h'.siz;simp only[Act.put,Act.mk.injEq,and_true];apply Array.ext_getElem?;intro i;rw[wE];by_cases e:d=i
 ·subst e;rw[uJ rfl,uJ (by omega)];exact h'.at_ d v (by simp [lk])
 ·rw[uI e];cases g:t[i]? with
  |some u=>exact h'.at_ i u (m i u (λq=>e q.symm) g)
  |none=>
   have:t.size≤i:=by
    rcases vG i t.size with j|j
    ·rw[yE j] at g;cases g
    ·exact j
   exact Array.getElem?_eq_none (by omega)
def Ty {a:Array Bool}{kk:Nat}(o:kk≤a.size) (k:∀i,i<kk→a.getD i true=true) (l:∀i,kk≤i→i<a.size→a.getD i true=false):kk+RW a=a.size:=by
 have e:a.toList=a.toList.take kk++a.toList.drop kk:=(yK _ _).symm;unfold RW;rw[e,List.count_append];have m:(a.toList.take kk).count false=0:=by
  rw[List.count_eq_zero];intro g;obtain⟨i,j,d⟩:=xF.1 g;have c:i<kk∧i<a.size:=by simp at j;omega
  have:=k i c.1;rw[List.getElem_take] at d;simp [c.2] at this;simp [this] at d
 have n:(a.toList.drop kk).count false=(a.toList.drop kk).length:=by
  rw[List.count_eq_length];intro b g;obtain⟨i,j,d⟩:=xF.1 g;have c:kk+i<a.size:=by simp at j;omega
  have:=l (kk+i) (by omega) c;rw[List.getElem_drop] at d;simp [c] at this;simp [this] at d;exact d.symm
 rw[m,n];simp;omega
def Kv {R:AR}{h:AX}{K:SM→Prop}{n:FN}:∀(k:List (Nat×Nat)) (fr:SM),PA R h K k fr→(∀p∈k,∃v,a.tmps[p.2]? =some v∧R p.1 v h)→Fr n a fr→∃c,K c∧Fr n a c
 |[],fr,l,_,g=>⟨fr,l,g⟩
 |(j,d)::k,fr,l,q,g=>by
  obtain⟨v,s,t⟩:=q (j,d) (by simp);refine Kv k _ (l v t) (λw m=>q w (by simp [m])) ⟨g.dfr,g.siz,λi u b=>?_⟩;simp only[lk] at b;cases o:Nat.beq d i with
  |true=>
   rw[o] at b;simp only[uG,vU] at b;have:=uR o;subst this;subst b;exact s
  |false=>rw[o] at b;simp only[uH] at b;exact g.at_ i u b
def Uj {m:SM}{i:Nat}{v:Value}(h:lk m i=some v):i∈m.map (·.1):=by
 induction m with
 |nil=>simp [lk] at h
 |cons e r b=>
  obtain⟨j,u⟩:=e;simp only[lk] at h;cases a:Nat.beq j i with
  |true=>have:=uR a;subst this;simp
  |false=>rw[a] at h;simp only[uH] at h;simp [b h]
def ME {n:FN}{fr:SM}{k d:Nat}(c:Fr n a fr) {v:Value}(b:E3 ops k=some d) (i:lk fr d=some v):yielded ops a.tmps k=yb v:=by
 have j:=c.at_ d v i;unfold yielded;unfold E3 at b;simp only[b,uF,j];cases v<;>rfl
def eI {B:World}{h0:AX}{kk:Nat}{n:FN}{m:SM}{R:AR}(W:kk≤ops.size) (hb:NX ops=true)
  (J:kk=ops.size∨(Region.sinkB .any ops kk=true∧Region.chainB .any ops kk=true))
  (ad:dO ops kk n (m.map (·.1))=true)
  (X:∀i v h h',Gf h0 h→Gf h h'→R i v h→R i v h')
  (step:∀i o d,i<kk→ops[i]? =some o→o.dst=some d→∃ps,SH ops o ps=true∧UQ P ops Q B n m h0 R i o d ps)
  (ae:∀a w h,Wd B h w→Gf h0 h→Fr n a m→(∀i,i<kk→∃d v,E3 ops i=some d∧a.tmps[d]? =some v∧R i v h)→wpList P ops Q (ops.toList.drop kk) a w):
  ∀(q:Nat) (c:Array Bool) (a:Act) (w:World),RW c=q→HeadInv .any ops kk c→sC B h0 n m ops kk R c a w→wpAny P .any ops Q q c a w:=by
 intro q
 induction q with
 |zero=>
  intro c a w K k ai;have l:∀i,c.getD i true=true:=λi=>Qj K;obtain⟨h,g1,g2,F,g4⟩:=ai.ex;have hk:kk=ops.size:=by
   rcases zG W with h|h
   ·have y:=k.tail kk (uW _) h;have G:=l kk;rw[y] at G;cases G
   ·exact h
  have hf:=ae a w h g1 g2 F λi z=>g4 i z (by
   have G:=l i;have:i<c.size:=by rw[k.size];omega
   simpa [this] using G)
  rw[xU (by simp;omega)] at hf;exact⟨Pg λi _=>l i,hf⟩
 |succ q ih=>
  intro c a w K k ai;obtain⟨h,g1,g2,F,g4⟩:=ai.ex;by_cases l:∀i,i<kk→c.getD i true=true
  ·
   have hf:=ae a w h g1 g2 F λi z=>g4 i z (by
    have G:=l i z;have:i<c.size:=by rw[k.size];omega
    simpa [this] using G)
   have a3:kk<ops.size:=by
    rcases zG W with h|h
    ·exact h
    ·exfalso;have Y:∀b∈c.toList,b=true:=by
      intro b A;obtain⟨i,z,rfl⟩:=xF.1 A;have H:i<c.size:=by simpa using z
      have:=l i (by have:=k.size;omega);simpa [H] using this
     have:RW c=0:=by
      unfold RW;rw[List.count_eq_zero];intro hm;have:=Y _ hm;cases this
     omega
   rcases J with hc|⟨_,hc⟩
   ·omega
   ·refine QQ hc hb (q+1) kk c a w (uW _) ?_ k.size l (λj M Z=>k.tail j M Z) hf;have:=Ty (by rw[k.size];exact W) l (λj M Z=>k.tail j M (by rw[←k.size];exact Z));rw[k.size] at this;omega
  ·obtain⟨k0,ar,af⟩:∃k0,k0<kk∧c.getD k0 true=false:=by
    apply xO;intro au;refine l λi z=>?_;cases hl:c.getD i true with
    |true=>rfl
    |false=>exact absurd ⟨i,z,hl⟩ au
   obtain⟨i0,_,av,_⟩:=Ki hb k.size (show k0<ops.size by omega) af;refine⟨λh0=>absurd (h0▸av) (by simp),λi z=>?_⟩;obtain⟨aw,o,ho,ag⟩:=mem_ready.1 z;have ah:i<ops.size:=(vJ.1 ho).1;have aa:i<kk:=by
    rcases vG i kk with h|h
    ·exact h
    ·rcases J with hc|⟨hs,hc⟩
     ·omega
     ·exact absurd z (tail_waits hs hc (by omega) k _ k0 rfl ar af i h)
   have s:=uQ.1 ad i (vF.2 aa);cases hd:E3 ops i with
   |none=>rw[hd] at s;cases s
   |some d=>
   rw[hd] at s;simp only[uL,vE,uQ,vF,uZ] at s;obtain⟨⟨aj,ak⟩,ax⟩:=s;have al:d+1≤n.1:=by simpa [Nat.blt] using aj
   have U:d<n.1:=al;have am:o.dst=some d:=by unfold E3 at hd;rw[ho] at hd;exact hd
   have I:∀j∈QS o,∃d v,E3 ops j=some d∧a.tmps[d]? =some v∧R j v h:=by
    intro j M;obtain⟨e,he,rfl⟩:=wN.1 M;obtain⟨ay,an⟩:=xW.1 he;have ao:e∈o.after:=by simpa using ay
    have y:=ag e ao an;have h4:=uQ.1 hb i (vF.2 ah);rw[ho] at h4;simp only[xM,vM,xN] at h4;have h6:=h4 e ao;simp only[an,vL,wH,uY] at h6;exact g4 e.on (by omega) y
   obtain⟨ps,az,ab⟩:=step i o d aa ho am;have C:∀p∈ps,∃v,a.tmps[p.2]? =some v∧R p.1 v h:=by
    intro p hp;have y:=uQ.1 az p hp;simp only[uL] at y;obtain⟨d',v,q1,q2,q3⟩:=I p.1 (by simpa using y.1);have G:=y.2;rw[q1] at G;have:p.2=d':=uR (by simpa using G);exact⟨v,by rw[this];exact q2,q3⟩
   obtain⟨fr,hK,ac⟩:=Kv (a:=a) (n:=n) _ _ (ab (IB a) h g2) C ⟨F.dfr,F.siz,λi v z=>by simp [lk] at z⟩;have t:Fr n a (fr++(m++IB a)):=ac.append (F.append F.full);have a0:∀i u,a.tmps[i]? =some u→lk (fr++(m++IB a)) i=some u:=by
    intro i u K;have hl:lk (IB a) i=some u:=by
     have:i<a.tmps.size:=(vJ.1 K).1;rw[Ph this];simp [wL,K]
    have a1:∃u',lk (fr++(m++IB a)) i=some u':=by
     rw[Jf,Jf,hl];cases lk fr i with
     |some x=>exact⟨x,by simp⟩
     |none=>cases lk m i with
      |some x=>exact⟨x,by simp⟩
      |none=>exact⟨u,by simp⟩
    obtain⟨u',ap⟩:=a1;have:=t.at_ i u' ap;rw[K] at this;rw[ap,←uX this]
   have next:∀v V h',Wd B h' V→Gf h h'→R i v h'→wpAny P .any ops Q q (c.setIfInBounds i true) (a.put (some d) v) V:=by
    intro v V h' a2 aq hr;refine ih _ _ _ (by have:=Mm aw;omega) (k.set z aa) ⟨h',a2,g2.trans aq,?_,λj M hl=>?_⟩
    ·have hp:=F.put aj v;refine⟨hp.dfr,hp.siz,λi' u H=>hp.at_ i' u ?_⟩;have D:Nat.beq d i'=false:=by
      cases A:Nat.beq d i' with
      |false=>rfl
      |true=>
       have:=uR A;subst this;have y:=Uj H;rw[←uT] at y;rw[y] at ak;cases ak
     simp only[lk,D,uH];exact H
    ·by_cases e:i=j
     ·subst e;refine⟨d,v,hd,?_,hr⟩;simp only[Act.put,wE];have:=F.siz;simp [this,U]
     ·rw[getD_set_ne false e] at hl;obtain⟨dj,vj,q1,q2,q3⟩:=g4 j M hl;refine⟨dj,vj,q1,?_,X _ _ _ _ g2 aq q3⟩;have y:=ax j M;rw[q1] at y;have D:d≠dj:=by
       rcases y with y|y
       ·exact absurd (uR y) e
       ·intro e';subst e';simp at y
      simp only[Act.put,wE];rw[uI D];exact q2
   have conv:∀a' V,KS B n d (R i) h (fr++(m++IB a)) a' V→wpAny P .any ops Q q (c.setIfInBounds i true) a' V:=by
    rintro a' V ⟨v,h',f1,f2,f3,f4⟩;have:=Fr.same U t f1 λi u z K=>by
     have D:Nat.beq d i=false:=by
      cases A:Nat.beq d i with
      |false=>rfl
      |true=>exact absurd (uR A).symm z
     simp only[lk,D,uH];exact a0 i u K
    subst this;exact next v V h' f2 f3 f4
   unfold wpOp;simp only[ho];cases hg:o.guard with
   |none=>
    rw[hg] at hK;rw[uJ (by simp [Region.wanted,hg])];exact(Ju hg (hK a w t g1)).imp (Oper.wp_mono conv) id
   |some gb=>
    obtain⟨g,b⟩:=gb;rw[hg] at hK;obtain⟨dg,q1,hK⟩:=hK;rcases hK with ⟨k1,k2⟩|⟨v,k1,k2,k3⟩
    ·have hy:yielded ops a.tmps g=some b:=ME ac q1 k1;rw[uJ (by simp [Region.wanted,hg,hy])];exact(N1 (Ju rfl (k2 a w t g1))).imp (Oper.wp_mono conv) id
    ·have hy:yielded ops a.tmps g≠some b:=by rw[ME ac q1 k1];exact k2
     rw[uI (by simp [Region.wanted,hg,hy]),am];exact next undef w h g1 (Gf.refl h) k3
def BM (P:Program) (ops:Array Oper) (Q:Exit→Act→World→Prop) (B:World) (n:FN) (m:SM) (h0:AX) (R:AR):Nat→List Oper→List (List (Nat×Nat))→Prop
 |i,o::l,a::pss=>(match o.dst with|some d=>UQ P ops Q B n m h0 R i o d a|none=>False)∧BM P ops Q B n m h0 R (i+1) l pss
 |_,_,_=>True
def WZ (ops:Array Oper) (l:List Oper) (pss:List (List (Nat×Nat))):Bool:=Nat.beq l.length pss.length&&(l.zip pss).all λp=>SH ops p.1 p.2
def BM.at_ {B:World}{n:FN}{m:SM}{h0:AX}{R:AR}:∀{l:List Oper}{pss:List (List (Nat×Nat))}{k i:Nat}{o:Oper}{d:Nat},BM P ops Q B n m h0 R k l pss→WZ ops l pss=true→l[i]? =some o→o.dst=some d→∃b,SH ops o b=true∧UQ P ops Q B n m h0 R (k+i) o d b
 |[],_,_,_,_,_,_,_,h,_=>by simp at h
 |_::_,[],_,_,_,_,_,a,_,_=>by simp [WZ] at a
 |j::l,b::pss,k,0,o,d,c,a,g,hd=>by
  simp only[xR,vU] at g;subst g;simp only[BM,hd] at c;simp only[WZ,List.zip_cons_cons,List.all_cons,uL] at a;exact⟨b,a.2.1,c.1⟩
 |j::l,b::pss,k,i+1,o,d,c,a,g,hd=>by
  simp only[xL] at g;simp only[BM] at c;simp only[WZ,List.zip_cons_cons,List.all_cons,uL,List.length_cons] at a;have:=BM.at_ (l:=l) (pss:=pss) (k:=k+1) (i:=i) c.2 (by simp only[WZ,uL];exact⟨by have:=a.1;simpa using this,a.2.2⟩) g hd;rw[show k+(i+1)=k+1+i by omega];exact this
end
def BM.cons {P:Program}{ops:Array Oper}{Q:Exit→Act→World→Prop}{B:World}{n:FN}{m:SM}{h0:AX}{R:AR}{i:Nat}{o:Oper}{l:List Oper}{a:List (Nat×Nat)}{pss:List (List (Nat×Nat))}{d:Nat}(hd:o.dst=some d) (h:UQ P ops Q B n m h0 R i o d a) (t:BM P ops Q B n m h0 R (i+1) l pss):BM P ops Q B n m h0 R i (o::l) (a::pss):=by
 simp only[BM,hd];exact⟨h,t⟩
def SN (S:Nat→Prop) (h0 h:AX):Nat→Prop:=λb=>S b∨(h0.size≤b∧b<h.size)
def SN.mono {S h0 h h'}(d:∀b,S b→b<h0.size) (g:Gf h0 h) (a:Gf h h'):Cc (SN S h0 h) h (SN S h0 h') h':=
 ⟨λb c=>c.imp_right λx=>⟨x.1,vB x.2 a.siz⟩,λb c=>a.same b (c.elim (λx=>vB (d b x) g.siz) (·.2)),a.siz⟩
def SN.st {S L h0 h}(c:St S L h0) (o:Gf h0 h):St (SN S h0 h) L h:=by
 refine⟨λb a=>a.elim (λx=>vB (c.1 b x) o.siz) (·.2),?_⟩;refine Sp.ext c.2 (λb x=> .inl x) (λb a=>o.same b (a.elim (c.1 b) (·.1))) λb a=>⟨vB a.1 o.siz,λx=>x.elim a.2 λy=>by omega⟩
def SN.ext {S h0 h}(a:∀b,S b→b<h0.size) (o:Gf h0 h):Cc S h0 (SN S h0 h) h:=⟨λ_ x=> .inl x,λb c=>o.same b (a b c),o.siz⟩
section
variable {P:Program}{ex:List (Nat×AP)}{RR N:AP}{cs:List Code}{B:World}{h:AX}{n:FN}{m m0:SM}{S:Nat→Prop}{L:List HP}
def QC {l:List Oper}{id:Nat}(kk:Nat) (R:AR) (pss:List (List (Nat×Nat))) (I:List (Nat×Nat)) (Q:P.follows .mixedOrders=true) (J:pR l.toArray kk=true) (K:List Nat) (u:m.map (·.1)=K) (c:dO l.toArray kk n K=true)
  (y:WZ l.toArray (l.take kk) pss=true) (z:(I.all λp=>Nat.blt p.1 kk&&(E3 l.toArray p.1).any (Nat.beq p.2 ·))=true) (g:Tk m0 m)
  (b:∀i v k s,Gf h k→Gf k s→R i v k→R i v s)
  (step:BM P l.toArray (Qx ex RR (W P ex RR cs N)) B n m h R 0 (l.take kk) pss)
  (A:∀h',Gf h h'→PA R h' (λfr=>LF P l.toArray (Qx ex RR (W P ex RR cs N)) (l.drop kk) B h' n (fr++m)) I []):WF P ex RR (.region id l.toArray true::cs) N B h n m0:=by
 intro a w U V;subst u;simp only[pR,uL,uZ] at J;obtain⟨⟨k,s⟩,X⟩:=J;have C:kk≤l.toArray.size:=yF k;refine λrd D=>O9 D Mx Q (eI (kk:=kk) (R:=R) (B:=B) (h0:=h) (n:=n) (m:=m) C X (s.imp (λe=>uR e) λx=>x) c b (λi o d F Y hd=>?_) (λa w h' Z g2 G g4=>?_) _ _ _ _ ?_ ⟨by simp,λj oj _ q=>(by rw[getD_replicate_false] at q;cases q),λt _ ht=>getD_in (by simpa using ht) (getD_replicate_false _ _)⟩ ⟨h,V.drew,Gf.refl h,U.sub g,λi _ q=>(by rw[getD_replicate_false] at q;cases q)⟩)
 ·have H:(l.take kk)[i]? =some o:=by rw[wU F];simpa using Y
  have:=BM.at_ step y H hd;rw[vO] at this;exact this
 ·obtain⟨fr,k1,k2⟩:=Kv (a:=a) (n:=n) _ _ (A h' g2) (λp hp=>by
   have e:=uQ.1 z p hp;simp only[uL] at e;have e1:p.1<kk:=(by simpa [Nat.blt] using e.1:p.1+1≤kk)
   obtain⟨d,v,q1,q2,q3⟩:=g4 p.1 e1;have M:=e.2;rw[q1] at M;have:p.2=d:=uR (by simpa using M);exact⟨v,by rw[this];exact q2,q3⟩) ⟨G.dfr,G.siz,λi v F=>by simp [lk] at F⟩
  exact k1 a w (k2.append G) Z
 ·unfold RW;rw[zH];simp
end
def EB {P:Program}{ops:Array Oper}{Q:Exit→Act→World→Prop}{B:World}{n:FN}{d:Nat}{R:Value→AX→Prop}{h h':AX}{m:SM}{v:Value}(o:Gf h h') (r:R v h'):LF P ops (Exit.then (KS B n d R h m) Q) [] B h' n ((d,v)::m):=
 λ_ _ a b=>⟨v,h',a,b,o,r⟩
def Fz (a:Nat→Prop) (h:AX):HP where
 holds:=λ_ F h'=>(∀b,F b↔a b)∧∀b,a b→h'[b]? =h[b]?
 loc:=λ⟨c,g⟩ _ e=>⟨c,λb d=>(e b (.inr ((c b).2 d))).trans (g b d)⟩
def sB (S:Nat→Prop) (h:AX):HP:=Fz (λb=>b<h.size∧¬S b) h
def St.fz {S L h}(a:St S L h):St S [sB S h] h:=⟨a.1,_,⟨λ_=>Iff.rfl,λ_ _=>rfl⟩,λb c=>c,trivial⟩
def Fz.done {S d:Nat→Prop}{h0 h a:AX}(o:Gf h0 h) (e:Cc (SN S h0 h) h d a) (i:St d [sB (SN S h0 h) h] a):Gf h a∧Cc d a (SN S h0 a) a:=by
 obtain⟨F,⟨k,l⟩,m,_⟩:=i.2;refine⟨⟨e.siz,λb c=>?_⟩,λb c=>?_,λ_ _=>rfl,uW _⟩
 ·rcases Classical.em (SN S h0 h b) with n|n
  ·exact e.same b n
  ·exact l b ⟨c,n⟩
 ·rcases vG b h.size with n|n
  ·rcases Classical.em (SN S h0 h b) with j|j
   ·exact j.imp_right λx=>⟨x.1,i.1 b c⟩
   ·exact absurd c (m b ((k b).2 ⟨n,j⟩)).2
  ·exact .inr ⟨wP o.siz n,i.1 b c⟩
def YW (sz:Nat):Nat→List (Nat×Value)→Bool
 |_,[]=>true
 |k,(i,v)::r=>Nat.beq i k&&Nat.beq v.cells.toList.length sz&&YW sz (k+1) r
def UE {sz len:Nat}:∀(b:List (Nat×Value)) (k:Nat) (pre a:List Value),YW sz k b=true→pre.length=k*sz→a.length=b.length*sz→k+b.length≤len→
  NV (Uf sz len) (pre++a) b=some (pre++(b.map λp=>p.2.cells.toList).flatten)
 |[],k,pre,a,_,_,d,_=>by
  have:a=[]:=zX (by simpa using d);subst this;simp [NV]
 |(i,v)::r,k,pre,a,h0,n,d,j=>by
  simp only[YW,uL] at h0;obtain⟨⟨g,l⟩,o⟩:=h0;have g:=uR g;subst g;have m:=uR l;simp only[List.length_cons,wY] at d;have q:i<len:=by simp at j;omega
  have s:(Uf sz len)[i]? =some (i*sz,sz):=by simp [Uf,q]
  simp only[NV,s];have t:(Nat.beq v.cells.toList.length sz&&Nat.ble (i*sz+sz) (pre++a).length)=true:=by
   rw[l,wW];exact Nat.ble_eq_true_of_le (by rw[wC];omega)
  rw[t];simp only[uG];have c:IA (pre++a) (i*sz) v.cells.toList=(pre++v.cells.toList)++a.drop sz:=by
   unfold IA;rw[←n,yS,←List.drop_drop,List.drop_left,m]
  rw[c,UE r (i+1) (pre++v.cells.toList) (a.drop sz) o (by rw[wC,m,wY];omega) (by rw[xC];omega) (by simp at j;omega)];simp
def XH {sz:Nat}:∀(a:List (Nat×Value)) (k:Nat),YW sz k a=true→∀p∈a,p.1<k+a.length
 |[],_,_,p,b=>by cases b
 |(i,v)::r,k,h0,p,b=>by
  simp only[YW,uL] at h0;obtain⟨⟨c,g⟩,d⟩:=h0;have c:=uR c;rcases uS.1 b with h|h
  ·subst h;simp;omega
  ·have:=XH r (k+1) d p h;simp;omega
def Io {P:Program}{ops:Array Oper}{Q:Exit→Act→World→Prop}{n:FN}{m:SM}{c:List Oper}{d:Nat}{ty:TypeId}{j:String}{w:Array Edge}{B:World}{h:AX}{S:Nat→Prop}{L:List HP}
  {T e sz l len:Nat} {z cs:List Value} {a:Array (Nat×Operand)} {g:List (Nat×Value)} (u:QY P T=some (e,sz,l,z)) (o:a.toList.mapM (dM m)=some g)
  (v:YW sz 0 g=true) (q:Nat.beq g.length len=true) (x:(g.map λp=>p.2.cells.toList).flatten=cs) (s:Nat.blt 0 len=true) (t:Nat.ble (len*sz) 16777216=true) (hd:Nat.blt d n.1=true) (y:St S L h)
  (k:∀b h',St S (Bx b e cs::L) h'→Cc S h S h'→LF P ops Q c B h' n ((d,.slice (some ⟨b,0,none⟩) len len)::m)):LF P ops Q (⟨some d,.buildSlice T len a,ty,j,w,none⟩::c) B h n m:=by
 have q:=uR q;subst q;obtain⟨i,C,_,_,_,_,_,_,A,_⟩:=MK u;refine rY u o (cs:=cs) ?_ s t (λp o=>by have:=XH g 0 v p o;omega) hd y k;have:=UE (len:=g.length) g 0 [] (List.replicate g.length z).flatten v (by simp) (by simp [A]) (by omega);rw[wB,wB,x] at this;exact this
end Go.Proofs.YtibidnaedddfdaaGreat
