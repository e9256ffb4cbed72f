import Derived.Test.YtibidnaedddfdaaGreatDCore10
namespace Go.Proofs.YtibidnaedddfdaaGreat
set_option linter.all false
open Go.RowKit
abbrev AR:=Nat→Value→BB→Prop
def EA (ops:Array Oper) (i:Nat):Option Nat:=(ops[i]?).bind (·.dst)
def M4 (o:Oper):List Nat:=(o.after.toList.filter (Region.binds .any)).map (·.on)
def Xq (ops:Array Oper) (kk:Nat) (n:FN) (m:List Nat):Bool:=
 (List.range kk).all λi=>match EA ops i with
  |some d=>Nat.blt d n.1&& !(m.contains d)&&(List.range kk).all λj=>Nat.beq i j|| !((EA ops j).any (Nat.beq d ·))
  |none=>false
def dW (ops:Array Oper) (kk:Nat):Bool:=Nat.ble kk ops.size&&(Nat.beq kk ops.size||(Region.sinkB .any ops kk&&Region.chainB .any ops kk))&&Kr ops
def KS (B:World) (n:FN) (d:Nat) (R:Value→BB→Prop) (h:BB) (m:SM):Act→World→Prop:=λa w=>
 ∃v h',Fr n a ((d,v)::m)∧Wd B h' w∧FW h h'∧R v h'
def PA (R:AR) (h:BB) (K:SM→Prop):List (Nat×Nat)→SM→Prop
 |[],fr=>K fr
 |(j,d)::a,fr=>∀u,R j u h→PA R h K a ((d,u)::fr)
def yb:Value→Option Bool
 | .bool b=>some b
 |_=>none
def Qk (P:Program) (ops:Array Oper) (Q:Exit→Act→World→Prop) (B:World) (n:FN) (m:SM) (h0:BB) (R:AR) (i:Nat) (o:Oper) (d:Nat) (c:List (Nat×Nat)):Prop:=
 ∀mt h,FW h0 h→PA R h (λfr=>match o.guard with
  |none=>LF P ops (Exit.then (KS B n d (R i) h (fr++(m++mt))) Q) [o] B h n (fr++(m++mt))
  |some (j,b)=>∃a,EA ops j=some a∧((lk fr a=some (.bool b)∧LF P ops (Exit.then (KS B n d (R i) h (fr++(m++mt))) Q) [{ o with guard:=none}] B h n (fr++(m++mt)))∨∃v,lk fr a=some v∧yb v≠some b∧R i undef h)) c []
def Oe (ops:Array Oper) (o:Oper) (a:List (Nat×Nat)):Bool:=a.all λp=>(M4 o).contains p.1&&(EA ops p.1).any (Nat.beq p.2 ·)
def HG {m mt:SM}{i:Nat}:lk (m++mt) i=(lk m i).or (lk mt i):=by
 induction m with
 |nil=>simp [lk]
 |cons e r a=>
  obtain⟨j,v⟩:=e
  simp only[mI,lk]
  cases Nat.beq j i with
  |true=>simp
  |false=>simpa using a
def Fr.append {n a m mt}(c:Fr n a m) (g:Fr n a mt):Fr n a (m++mt):=⟨c.dfr,c.siz,λi v b=>by
 rw[HG] at b
 cases d:lk m i with
 |some u=>rw[d] at b;simp at b;subst b;exact c.at_ i _ d
 |none=>rw[d] at b;simp at b;exact g.at_ i v b⟩
def Fp (a:Act):SM:=(List.range a.tmps.size).map λi=>(i,a.tmps.getD i undef)
def OU (f:Nat→Value):∀(k s i:Nat),s≤i→i<s+k→lk ((List.range' s k).map λi=>(i,f i)) i=some (f i)
 |0,s,i,a,b=>by omega
 |k+1,s,i,a,b=>by
  simp only[List.range'_succ,jZ,lk]
  by_cases e:s=i
  ·subst e;simp
  ·have:Nat.beq s i=false:=by
    cases c:Nat.beq s i with
    |false=>rfl
    |true=>exact absurd (iX c) e
   rw[this]
   exact OU f k (s+1) i (by omega) (by omega)
def MM {a:Act}{i:Nat}(h:i<a.tmps.size):lk (Fp a) i=some (a.tmps.getD i undef):=by
 unfold Fp
 rw[List.range_eq_range']
 exact OU _ _ 0 i (by omega) (by omega)
def OT (f:Nat→Value):∀(k s i:Nat),s+k≤i→lk ((List.range' s k).map λi=>(i,f i)) i=none
 |0,s,i,h=>rfl
 |k+1,s,i,h=>by
  simp only[List.range'_succ,jZ,lk]
  have:Nat.beq s i=false:=by
   cases a:Nat.beq s i with
   |false=>rfl
   |true=>exact absurd (iX a) (by omega)
  rw[this]
  exact OT f k (s+1) i (by omega)
def Fr.full {n a m}(h:Fr n a m):Fr n a (Fp a):=⟨h.dfr,h.siz,λi v b=>by
 by_cases c:i<a.tmps.size
 ·rw[MM c] at b
  injection b with b
  subst b
  simp [kC,lN c]
 ·unfold Fp at b
  rw[List.range_eq_range',OT _ _ 0 i (by omega)] at b
  cases b⟩
section
variable {P:Program}{ops:Array Oper}{Q:Exit→Act→World→Prop}{a:Act}{w:World}
def G3 {o:Oper}{K:Act→World→Prop}(l:o.guard=none) (h:wpList P ops (Exit.then K Q) [o] a w):o.wp P a w K Q∨(o.asks P a w∧LetsOut Q):=by
 unfold wpList at h
 rw[iR (by simp [Region.wanted,l])] at h
 rcases h with b|⟨b,g,i,h2⟩
 ·refine .inl ?_
  unfold Oper.wp at b ⊢
  generalize (execOp a.eval o).run P w=r at b
  cases r with
  |ok m n=>
   cases m<;>simp only[Oper.upon] at b ⊢
   case value v=>exact b
   case skip=>exact b
   case defer d=>exact b
   case enter f args=>
    refine b.mono λe j k=>?_
    cases e with
    |returned v=>exact k
    |panicked c=>exact k
    |outgrown=>obtain⟨g,i,h0⟩:=k;exact⟨g,i,h0⟩
   case row r args=>obtain b:=b;exact Rows.mono b λv j p=>p
  |halt x n=>cases x<;>simp only[Oper.upon] at b ⊢;exact b
 ·exact .inr ⟨b,g,i,h2⟩
def Kw {o:Oper}{K:Act→World→Prop}(h:({ o with guard:=none}:Oper).wp P a w K Q∨(({ o with guard:=none}:Oper).asks P a w∧LetsOut Q)):o.wp P a w K Q∨(o.asks P a w∧LetsOut Q):=h
def Oq (a:Array Bool):Nat:=a.toList.count false
def KN {a:Array Bool}{i:Nat}(h:a.getD i true=false):Oq (a.setIfInBounds i true)+1=Oq a:=by
 have b:i<a.size:=by
  rcases jN i a.size with h'|h'
  ·exact h'
  ·simp [Array.getElem?_eq_none h'] at h
 have c:a[i]=false:=by simpa [b] using h
 have g:false∈a.toList:=by rw[←c];simp
 have d:0<a.toList.count false:=List.count_pos_iff.2 g
 unfold Oq
 rw[Array.toList_setIfInBounds,List.count_set (by simpa using b)]
 have j:a.toList[i]'(by simpa using b)=false:=by simpa using c
 rw[j]
 rw[show (if (false==false)=true then 1 else 0:Nat)=1 from rfl,show(if (true==false)=true then 1 else 0:Nat)=0 from rfl]
 omega
def NK {a:Array Bool}(h:Oq a=0) {i:Nat}:a.getD i true=true:=by
 cases b:a.getD i true with
 |true=>rfl
 |false=>have:=KN b;omega
def ML {a:Array Bool}(h:∀i,i<ops.size→a.getD i true=true):Region.ready .any ops a=[]:=by
 apply List.eq_nil_iff_forall_not_mem.2
 intro j c
 obtain⟨b,o,d,_⟩:=mem_ready.1 c
 rw[h j (jM.1 d).1] at b
 cases b
def Hz {a:Array Bool}(n:Kr ops=true) (w:a.size=ops.size) {k:Nat}(x:k<ops.size) (o:a.getD k true=false):∃i,i≤k∧i∈Region.ready .any ops a∧∀j,j<i→a.getD j true=true:=by
 obtain⟨i,q,s,g⟩:=Jp (p:=λi=>a.getD i true) k o
 have b:i<ops.size:=by omega
 refine⟨i,q,mem_ready.2 ⟨s,ops[i],by simp [b],λe t c=>?_⟩,g⟩
 have d:=iT.1 n i (jJ.2 b)
 have u:ops[i]? =some ops[i]:=by simp [b]
 rw[u] at d
 simp only[lA,jO,lB] at d
 have l:=d e t
 simp only[c,jV,kU,jG] at l
 have m:=g e.on l
 have v:e.on<a.size:=by omega
 simp only[kC,lN v,jO] at m ⊢
 exact m
def M0 {kk:Nat}(F:Region.chainB .any ops kk=true) (G:Kr ops=true):∀(c t:Nat) (b:Array Bool) (a:Act) (w:World),kk≤t→t+c=ops.size→b.size=ops.size→(∀j,j<t→b.getD j true=true)→(∀j,t≤j→j<ops.size→b.getD j true=false)→
  wpList P ops Q (ops.toList.drop t) a w→wpAny P .any ops Q c b a w
 |0,t,b,a,w,_,U,q,l,p,g=>by
  rw[lG (by simp;omega)] at g
  exact⟨ML λi H=>l i (by omega),g⟩
 |c+1,t,b,a,w,hk,U,q,l,p,g=>by
  have d:t<ops.size:=by omega
  have s:=p t (jB _) d
  obtain⟨i,V,I,q3⟩:=Hz G q d s
  have u:i=t:=by
   rcases mV V with h|h
   ·exact absurd (l i h) (by rw[(mem_ready.1 I).1];exact Bool.false_ne_true)
   ·exact h
  subst u
  refine⟨λh0=>absurd (h0▸I) (by simp),λj W=>?_⟩
  have v:j=i:=by
   obtain⟨J,X,k,m⟩:=mem_ready.1 W
   have n:=(jM.1 k).1
   by_cases x:j<i
   ·rw[l j x] at J;cases J
   ·by_cases e:j=i
    ·exact e
    ·have o:=iT.1 F j (jJ.2 n)
     simp only[jC,jG] at o
     rcases o with o|o
     ·omega
     ·obtain⟨Y,y,Z,z,A,B⟩:=Region.waitsFor_spec o
      have:Y=X:=jH (y.symm.trans k)
      subst this
      have K:=m Z z A
      have g4:=p (j-1) (by omega) (by omega)
      rw[B,getD_both g4] at K
      cases K
  subst v
  have k:ops[j]? =some ops[j]:=by simp [d]
  rw[mT (by simpa using d)] at g
  simp only[Array.getElem_toList] at g
  have M:=λa w=>M0 F G c (j+1) (b.setIfInBounds j true) a w (by omega) (by omega) (by simpa using q)
   (λi H=>by
    by_cases e:i=j
    ·subst e
     have:i<b.size:=by omega
     simp [kC,jX,this]
    ·rw[getD_set_ne true (by omega)];exact l i (by omega))
   (λi H C=>by rw[getD_set_ne true (by omega)];exact p i (by omega) C)
  unfold wpOp
  simp only[k]
  unfold wpList at g
  split
  ·rename_i D
   rw[iR D] at g
   exact g.imp (Oper.wp_mono M) id
  ·rename_i D
   rw[iP D] at g
   exact M _ _ g
structure fT (B:World) (h0:BB) (n:FN) (m:SM) (ops:Array Oper) (kk:Nat) (R:AR) (listed:Array Bool) (a:Act) (w:World):Prop where
 ex:∃h,Wd B h w∧FW h0 h∧Fr n a m∧∀i,i<kk→listed.getD i false=true→∃d v,EA ops i=some d∧a.tmps[d]? =some v∧R i v h
def Fr.same {n:FN}{a b:Act}{d:Nat}{v:Value}{l k:SM}(hd:d<n.1) (h:Fr n a l) (h':Fr n b ((d,v)::k)) (m:∀i u,i≠d→a.tmps[i]? =some u→lk ((d,v)::k) i=some u):b=a.put (some d) v:=by
 obtain⟨t,ds⟩:=a
 obtain⟨t',c⟩:=b
 have o:ds=n.2:=h.dfr
 have p:c=n.2:=h'.dfr
 subst o;subst p
 have s:t.size=n.1:=h.siz
 have w:t'.size=n.1:=h'.siz
 simp only[Act.put,Act.mk.injEq,and_true]
 apply Array.ext_getElem?
 intro i
 rw[jX]
 by_cases e:d=i
 ·subst e
  rw[iR rfl,iR (by omega)]
  exact h'.at_ d v (by simp [lk])
 ·rw[iP e]
  cases g:t[i]? with
  |some u=>exact h'.at_ i u (m i u (λq=>e q.symm) g)
  |none=>
   have:t.size≤i:=by
    rcases jN i t.size with j|j
    ·rw[lN j] at g;cases g
    ·exact j
   exact Array.getElem?_eq_none (by omega)
def QI {a:Array Bool}{kk:Nat}(o:kk≤a.size) (k:∀i,i<kk→a.getD i true=true) (l:∀i,kk≤i→i<a.size→a.getD i true=false):kk+Oq a=a.size:=by
 have e:a.toList=a.toList.take kk++a.toList.drop kk:=(mU _ _).symm
 unfold Oq
 rw[e,List.count_append]
 have m:(a.toList.take kk).count false=0:=by
  rw[List.count_eq_zero]
  intro g
  obtain⟨i,j,d⟩:=kV.1 g
  have c:i<kk∧i<a.size:=by simp at j;omega
  have:=k i c.1
  rw[List.getElem_take] at d
  simp [c.2] at this
  simp [this] at d
 have n:(a.toList.drop kk).count false=(a.toList.drop kk).length:=by
  rw[List.count_eq_length]
  intro b g
  obtain⟨i,j,d⟩:=kV.1 g
  have c:kk+i<a.size:=by simp at j;omega
  have:=l (kk+i) (by omega) c
  rw[List.getElem_drop] at d
  simp [c] at this
  simp [this] at d
  exact d.symm
 rw[m,n]
 simp
 omega
def Ih {R:AR}{h:BB}{K:SM→Prop}{n:FN}:∀(k:List (Nat×Nat)) (fr:SM),PA R h K k fr→(∀p∈k,∃v,a.tmps[p.2]? =some v∧R p.1 v h)→Fr n a fr→∃c,K c∧Fr n a c
 |[],fr,l,_,g=>⟨fr,l,g⟩
 |(j,d)::k,fr,l,q,g=>by
  obtain⟨v,s,t⟩:=q (j,d) (by simp)
  refine Ih k _ (l v t) (λw m=>q w (by simp [m])) ⟨g.dfr,g.siz,λi u b=>?_⟩
  simp only[lk] at b
  cases o:Nat.beq d i with
  |true=>
   rw[o] at b
   simp only[iN,jU] at b
   have:=iX o
   subst this;subst b
   exact s
  |false=>rw[o] at b;simp only[iO] at b;exact g.at_ i u b
def Q3 {m:SM}{i:Nat}{v:Value}(h:lk m i=some v):i∈m.map (·.1):=by
 induction m with
 |nil=>simp [lk] at h
 |cons e r b=>
  obtain⟨j,u⟩:=e
  simp only[lk] at h
  cases a:Nat.beq j i with
  |true=>have:=iX a;subst this;simp
  |false=>rw[a] at h;simp only[iO] at h;simp [b h]
def JO {n:FN}{fr:SM}{k d:Nat}(c:Fr n a fr) {v:Value}(b:EA ops k=some d) (i:lk fr d=some v):yielded ops a.tmps k=yb v:=by
 have j:=c.at_ d v i
 unfold yielded
 unfold EA at b
 simp only[b,iM,j]
 cases v<;>rfl
def YJ {B:World}{h0:BB}{kk:Nat}{n:FN}{m:SM}{R:AR}(W:kk≤ops.size) (hb:Kr ops=true)
  (J:kk=ops.size∨(Region.sinkB .any ops kk=true∧Region.chainB .any ops kk=true))
  (ad:Xq ops kk n (m.map (·.1))=true)
  (X:∀i v h h',FW h0 h→FW h h'→R i v h→R i v h')
  (step:∀i o d,i<kk→ops[i]? =some o→o.dst=some d→∃ps,Oe ops o ps=true∧Qk P ops Q B n m h0 R i o d ps)
  (ae:∀a w h,Wd B h w→FW h0 h→Fr n a m→(∀i,i<kk→∃d v,EA ops i=some d∧a.tmps[d]? =some v∧R i v h)→wpList P ops Q (ops.toList.drop kk) a w):
  ∀(q:Nat) (c:Array Bool) (a:Act) (w:World),Oq c=q→HeadInv .any ops kk c→fT B h0 n m ops kk R c a w→wpAny P .any ops Q q c a w:=by
 intro q
 induction q with
 |zero=>
  intro c a w K k ai
  have l:∀i,c.getD i true=true:=λi=>NK K
  obtain⟨h,g1,g2,F,g4⟩:=ai.ex
  have hk:kk=ops.size:=by
   rcases mV W with h|h
   ·have y:=k.tail kk (jB _) h
    have G:=l kk
    rw[y] at G
    cases G
   ·exact h
  have hf:=ae a w h g1 g2 F λi z=>g4 i z (by
   have G:=l i
   have:i<c.size:=by rw[k.size];omega
   simpa [this] using G)
  rw[lG (by simp;omega)] at hf
  exact⟨ML λi _=>l i,hf⟩
 |succ q ih=>
  intro c a w K k ai
  obtain⟨h,g1,g2,F,g4⟩:=ai.ex
  by_cases l:∀i,i<kk→c.getD i true=true
  ·
   have hf:=ae a w h g1 g2 F λi z=>g4 i z (by
    have G:=l i z
    have:i<c.size:=by rw[k.size];omega
    simpa [this] using G)
   have a3:kk<ops.size:=by
    rcases mV W with h|h
    ·exact h
    ·exfalso
     have Y:∀b∈c.toList,b=true:=by
      intro b A
      obtain⟨i,z,rfl⟩:=kV.1 A
      have H:i<c.size:=by simpa using z
      have:=l i (by have:=k.size;omega)
      simpa [H] using this
     have:Oq c=0:=by
      unfold Oq
      rw[List.count_eq_zero]
      intro hm
      have:=Y _ hm
      cases this
     omega
   rcases J with hc|⟨_,hc⟩
   ·omega
   ·refine M0 hc hb (q+1) kk c a w (jB _) ?_ k.size l (λj M Z=>k.tail j M Z) hf
    have:=QI (by rw[k.size];exact W) l (λj M Z=>k.tail j M (by rw[←k.size];exact Z))
    rw[k.size] at this
    omega
  ·obtain⟨k0,ar,af⟩:∃k0,k0<kk∧c.getD k0 true=false:=by
    apply mJ
    intro au
    refine l λi z=>?_
    cases hl:c.getD i true with
    |true=>rfl
    |false=>exact absurd ⟨i,z,hl⟩ au
   obtain⟨i0,_,av,_⟩:=Hz hb k.size (show k0<ops.size by omega) af
   refine⟨λh0=>absurd (h0▸av) (by simp),λi z=>?_⟩
   obtain⟨aw,o,ho,ag⟩:=mem_ready.1 z
   have ah:i<ops.size:=(jM.1 ho).1
   have aa:i<kk:=by
    rcases jN i kk with h|h
    ·exact h
    ·rcases J with hc|⟨hs,hc⟩
     ·omega
     ·exact absurd z (tail_waits hs hc (by omega) k _ k0 rfl ar af i h)
   have s:=iT.1 ad i (jJ.2 aa)
   cases hd:EA ops i with
   |none=>rw[hd] at s;cases s
   |some d=>
   rw[hd] at s
   simp only[iQ,jI,iT,jJ,jC] at s
   obtain⟨⟨aj,ak⟩,ax⟩:=s
   have al:d+1≤n.1:=by simpa [Nat.blt] using aj
   have U:d<n.1:=al
   have am:o.dst=some d:=by unfold EA at hd;rw[ho] at hd;exact hd
   have I:∀j∈M4 o,∃d v,EA ops j=some d∧a.tmps[d]? =some v∧R j v h:=by
    intro j M
    obtain⟨e,he,rfl⟩:=kM.1 M
    obtain⟨ay,an⟩:=lH.1 he
    have ao:e∈o.after:=by simpa using ay
    have y:=ag e ao an
    have h4:=iT.1 hb i (jJ.2 ah)
    rw[ho] at h4
    simp only[lA,jO,lB] at h4
    have h6:=h4 e ao
    simp only[an,jV,kU,jG] at h6
    exact g4 e.on (by omega) y
   obtain⟨ps,az,ab⟩:=step i o d aa ho am
   have C:∀p∈ps,∃v,a.tmps[p.2]? =some v∧R p.1 v h:=by
    intro p hp
    have y:=iT.1 az p hp
    simp only[iQ] at y
    obtain⟨d',v,q1,q2,q3⟩:=I p.1 (by simpa using y.1)
    have G:=y.2
    rw[q1] at G
    have:p.2=d':=iX (by simpa using G)
    exact⟨v,by rw[this];exact q2,q3⟩
   obtain⟨fr,hK,ac⟩:=Ih (a:=a) (n:=n) _ _ (ab (Fp a) h g2) C ⟨F.dfr,F.siz,λi v z=>by simp [lk] at z⟩
   have t:Fr n a (fr++(m++Fp a)):=ac.append (F.append F.full)
   have a0:∀i u,a.tmps[i]? =some u→lk (fr++(m++Fp a)) i=some u:=by
    intro i u K
    have hl:lk (Fp a) i=some u:=by
     have:i<a.tmps.size:=(jM.1 K).1
     rw[MM this]
     simp [kC,K]
    have a1:∃u',lk (fr++(m++Fp a)) i=some u':=by
     rw[HG,HG,hl]
     cases lk fr i with
     |some x=>exact⟨x,by simp⟩
     |none=>cases lk m i with
      |some x=>exact⟨x,by simp⟩
      |none=>exact⟨u,by simp⟩
    obtain⟨u',ap⟩:=a1
    have:=t.at_ i u' ap
    rw[K] at this
    rw[ap,←jH this]
   have next:∀v V h',Wd B h' V→FW h h'→R i v h'→wpAny P .any ops Q q (c.setIfInBounds i true) (a.put (some d) v) V:=by
    intro v V h' a2 aq hr
    refine ih _ _ _ (by have:=KN aw;omega) (k.set z aa) ⟨h',a2,g2.trans aq,?_,λj M hl=>?_⟩
    ·have hp:=F.put aj v
     refine⟨hp.dfr,hp.siz,λi' u H=>hp.at_ i' u ?_⟩
     have D:Nat.beq d i'=false:=by
      cases A:Nat.beq d i' with
      |false=>rfl
      |true=>
       have:=iX A
       subst this
       have y:=Q3 H
       rw[←iV] at y
       rw[y] at ak
       cases ak
     simp only[lk,D,iO]
     exact H
    ·by_cases e:i=j
     ·subst e
      refine⟨d,v,hd,?_,hr⟩
      simp only[Act.put,jX]
      have:=F.siz
      simp [this,U]
     ·rw[getD_set_ne false e] at hl
      obtain⟨dj,vj,q1,q2,q3⟩:=g4 j M hl
      refine⟨dj,vj,q1,?_,X _ _ _ _ g2 aq q3⟩
      have y:=ax j M
      rw[q1] at y
      have D:d≠dj:=by
       rcases y with y|y
       ·exact absurd (iX y) e
       ·intro e'
        subst e'
        simp at y
      simp only[Act.put,jX]
      rw[iP D]
      exact q2
   have conv:∀a' V,KS B n d (R i) h (fr++(m++Fp a)) a' V→wpAny P .any ops Q q (c.setIfInBounds i true) a' V:=by
    rintro a' V ⟨v,h',f1,f2,f3,f4⟩
    have:=Fr.same U t f1 λi u z K=>by
     have D:Nat.beq d i=false:=by
      cases A:Nat.beq d i with
      |false=>rfl
      |true=>exact absurd (iX A).symm z
     simp only[lk,D,iO]
     exact a0 i u K
    subst this
    exact next v V h' f2 f3 f4
   unfold wpOp
   simp only[ho]
   cases hg:o.guard with
   |none=>
    rw[hg] at hK
    rw[iR (by simp [Region.wanted,hg])]
    exact(G3 hg (hK a w t g1)).imp (Oper.wp_mono conv) id
   |some gb=>
    obtain⟨g,b⟩:=gb
    rw[hg] at hK
    obtain⟨dg,q1,hK⟩:=hK
    rcases hK with ⟨k1,k2⟩|⟨v,k1,k2,k3⟩
    ·have hy:yielded ops a.tmps g=some b:=JO ac q1 k1
     rw[iR (by simp [Region.wanted,hg,hy])]
     exact(Kw (G3 rfl (k2 a w t g1))).imp (Oper.wp_mono conv) id
    ·have hy:yielded ops a.tmps g≠some b:=by rw[JO ac q1 k1];exact k2
     rw[iP (by simp [Region.wanted,hg,hy]),am]
     exact next undef w h g1 (FW.refl h) k3
def DU (P:Program) (ops:Array Oper) (Q:Exit→Act→World→Prop) (B:World) (n:FN) (m:SM) (h0:BB) (R:AR):Nat→List Oper→List (List (Nat×Nat))→Prop
 |i,o::l,a::pss=>(match o.dst with|some d=>Qk P ops Q B n m h0 R i o d a|none=>False)∧DU P ops Q B n m h0 R (i+1) l pss
 |_,_,_=>True
def TK (ops:Array Oper) (l:List Oper) (pss:List (List (Nat×Nat))):Bool:=Nat.beq l.length pss.length&&(l.zip pss).all λp=>Oe ops p.1 p.2
def DU.at_ {B:World}{n:FN}{m:SM}{h0:BB}{R:AR}:∀{l:List Oper}{pss:List (List (Nat×Nat))}{k i:Nat}{o:Oper}{d:Nat},DU P ops Q B n m h0 R k l pss→TK ops l pss=true→l[i]? =some o→o.dst=some d→∃b,Oe ops o b=true∧Qk P ops Q B n m h0 R (k+i) o d b
 |[],_,_,_,_,_,_,_,h,_=>by simp at h
 |_::_,[],_,_,_,_,_,a,_,_=>by simp [TK] at a
 |j::l,b::pss,k,0,o,d,c,a,g,hd=>by
  simp only[lE,jU] at g
  subst g
  simp only[DU,hd] at c
  simp only[TK,List.zip_cons_cons,List.all_cons,iQ] at a
  exact⟨b,a.2.1,c.1⟩
 |j::l,b::pss,k,i+1,o,d,c,a,g,hd=>by
  simp only[lF] at g
  simp only[DU] at c
  simp only[TK,List.zip_cons_cons,List.all_cons,iQ,List.length_cons] at a
  have:=DU.at_ (l:=l) (pss:=pss) (k:=k+1) (i:=i) c.2 (by simp only[TK,iQ];exact⟨by have:=a.1;simpa using this,a.2.2⟩) g hd
  rw[show k+(i+1)=k+1+i by omega]
  exact this
end
def DU.cons {P:Program}{ops:Array Oper}{Q:Exit→Act→World→Prop}{B:World}{n:FN}{m:SM}{h0:BB}{R:AR}{i:Nat}{o:Oper}{l:List Oper}{a:List (Nat×Nat)}{pss:List (List (Nat×Nat))}{d:Nat}(hd:o.dst=some d) (h:Qk P ops Q B n m h0 R i o d a) (t:DU P ops Q B n m h0 R (i+1) l pss):DU P ops Q B n m h0 R i (o::l) (a::pss):=by
 simp only[DU,hd]
 exact⟨h,t⟩
def SN (S:Nat→Prop) (h0 h:BB):Nat→Prop:=λb=>S b∨(h0.size≤b∧b<h.size)
def SN.mono {S h0 h h'}(d:∀b,S b→b<h0.size) (g:FW h0 h) (a:FW h h'):Cm (SN S h0 h) h (SN S h0 h') h':=
 ⟨λb c=>c.imp_right λx=>⟨x.1,iY x.2 a.siz⟩,λb c=>a.same b (c.elim (λx=>iY (d b x) g.siz) (·.2)),a.siz⟩
def SN.st {S L h0 h}(c:St S L h0) (o:FW h0 h):St (SN S h0 h) L h:=by
 refine⟨λb a=>a.elim (λx=>iY (c.1 b x) o.siz) (·.2),?_⟩
 refine Sp.ext c.2 (λb x=> .inl x) (λb a=>o.same b (a.elim (c.1 b) (·.1))) λb a=>⟨iY a.1 o.siz,λx=>x.elim a.2 λy=>by omega⟩
def SN.ext {S h0 h}(a:∀b,S b→b<h0.size) (o:FW h0 h):Cm S h0 (SN S h0 h) h:=⟨λ_ x=> .inl x,λb c=>o.same b (a b c),o.siz⟩
section
variable {P:Program}{ex:List (Nat×AP)}{RR N:AP}{cs:List Code}{B:World}{h:BB}{n:FN}{m m0:SM}{S:Nat→Prop}{L:List HP}
def Sm {l:List Oper}{id:Nat}(kk:Nat) (R:AR) (pss:List (List (Nat×Nat))) (I:List (Nat×Nat)) (Q:P.follows .mixedOrders=true) (J:dW l.toArray kk=true) (K:List Nat) (u:m.map (·.1)=K) (c:Xq l.toArray kk n K=true)
  (y:TK l.toArray (l.take kk) pss=true) (z:(I.all λp=>Nat.blt p.1 kk&&(EA l.toArray p.1).any (Nat.beq p.2 ·))=true) (g:QC m0 m)
  (b:∀i v k s,FW h k→FW k s→R i v k→R i v s)
  (step:DU P l.toArray (Qx ex RR (W P ex RR cs N)) B n m h R 0 (l.take kk) pss)
  (A:∀h',FW h h'→PA R h' (λfr=>LF P l.toArray (Qx ex RR (W P ex RR cs N)) (l.drop kk) B h' n (fr++m)) I []):WF P ex RR (.region id l.toArray true::cs) N B h n m0:=by
 intro a w U V
 subst u
 simp only[dW,iQ,jC] at J
 obtain⟨⟨k,s⟩,X⟩:=J
 have C:kk≤l.toArray.size:=mC k
 refine λrd D=>M3 D Kb Q (YJ (kk:=kk) (R:=R) (B:=B) (h0:=h) (n:=n) (m:=m) C X (s.imp (λe=>iX e) λx=>x) c b (λi o d F Y hd=>?_) (λa w h' Z g2 G g4=>?_) _ _ _ _ ?_ ⟨by simp,λj oj _ q=>(by rw[getD_replicate_false] at q;cases q),λt _ ht=>getD_in (by simpa using ht) (getD_replicate_false _ _)⟩ ⟨h,V.drew,FW.refl h,U.sub g,λi _ q=>(by rw[getD_replicate_false] at q;cases q)⟩)
 ·have H:(l.take kk)[i]? =some o:=by rw[kP F];simpa using Y
  have:=DU.at_ step y H hd
  rw[jR] at this
  exact this
 ·obtain⟨fr,k1,k2⟩:=Ih (a:=a) (n:=n) _ _ (A h' g2) (λp hp=>by
   have e:=iT.1 z p hp
   simp only[iQ] at e
   have e1:p.1<kk:=(by simpa [Nat.blt] using e.1:p.1+1≤kk)
   obtain⟨d,v,q1,q2,q3⟩:=g4 p.1 e1
   have M:=e.2
   rw[q1] at M
   have:p.2=d:=iX (by simpa using M)
   exact⟨v,by rw[this];exact q2,q3⟩) ⟨G.dfr,G.siz,λi v F=>by simp [lk] at F⟩
  exact k1 a w (k2.append G) Z
 ·unfold Oq
  rw[mW]
  simp
end
def GB {P:Program}{ops:Array Oper}{Q:Exit→Act→World→Prop}{B:World}{n:FN}{d:Nat}{R:Value→BB→Prop}{h h':BB}{m:SM}{v:Value}(o:FW h h') (r:R v h'):LF P ops (Exit.then (KS B n d R h m) Q) [] B h' n ((d,v)::m):=
 λ_ _ a b=>⟨v,h',a,b,o,r⟩
def Fz (a:Nat→Prop) (h:BB):HP where
 holds:=λ_ F h'=>(∀b,F b↔a b)∧∀b,a b→h'[b]? =h[b]?
 loc:=λ⟨c,g⟩ _ e=>⟨c,λb d=>(e b (.inr ((c b).2 d))).trans (g b d)⟩
def fS (S:Nat→Prop) (h:BB):HP:=Fz (λb=>b<h.size∧¬S b) h
def St.fz {S L h}(a:St S L h):St S [fS S h] h:=⟨a.1,_,⟨λ_=>Iff.rfl,λ_ _=>rfl⟩,λb c=>c,trivial⟩
def Fz.done {S d:Nat→Prop}{h0 h a:BB}(o:FW h0 h) (e:Cm (SN S h0 h) h d a) (i:St d [fS (SN S h0 h) h] a):FW h a∧Cm d a (SN S h0 a) a:=by
 obtain⟨F,⟨k,l⟩,m,_⟩:=i.2
 refine⟨⟨e.siz,λb c=>?_⟩,λb c=>?_,λ_ _=>rfl,jB _⟩
 ·rcases Classical.em (SN S h0 h b) with n|n
  ·exact e.same b n
  ·exact l b ⟨c,n⟩
 ·rcases jN b h.size with n|n
  ·rcases Classical.em (SN S h0 h b) with j|j
   ·exact j.imp_right λx=>⟨x.1,i.1 b c⟩
   ·exact absurd c (m b ((k b).2 ⟨n,j⟩)).2
  ·exact .inr ⟨kO o.siz n,i.1 b c⟩
def Uk (sz:Nat):Nat→List (Nat×Value)→Bool
 |_,[]=>true
 |k,(i,v)::r=>Nat.beq i k&&Nat.beq v.cells.toList.length sz&&Uk sz (k+1) r
def QV {sz len:Nat}:∀(b:List (Nat×Value)) (k:Nat) (pre a:List Value),Uk sz k b=true→pre.length=k*sz→a.length=b.length*sz→k+b.length≤len→
  KQ (Qy sz len) (pre++a) b=some (pre++(b.map λp=>p.2.cells.toList).flatten)
 |[],k,pre,a,_,_,d,_=>by
  have:a=[]:=mS (by simpa using d)
  subst this
  simp [KQ]
 |(i,v)::r,k,pre,a,h0,n,d,j=>by
  simp only[Uk,iQ] at h0
  obtain⟨⟨g,l⟩,o⟩:=h0
  have g:=iX g
  subst g
  have m:=iX l
  simp only[List.length_cons,kQ] at d
  have q:i<len:=by simp at j;omega
  have s:(Qy sz len)[i]? =some (i*sz,sz):=by simp [Qy,q]
  simp only[KQ,s]
  have t:(Nat.beq v.cells.toList.length sz&&Nat.ble (i*sz+sz) (pre++a).length)=true:=by
   rw[l,lC]
   exact Nat.ble_eq_true_of_le (by rw[kD];omega)
  rw[t]
  simp only[iN]
  have c:Fs (pre++a) (i*sz) v.cells.toList=(pre++v.cells.toList)++a.drop sz:=by
   unfold Fs
   rw[←n,lV,←List.drop_drop,List.drop_left,m]
  rw[c,QV r (i+1) (pre++v.cells.toList) (a.drop sz) o (by rw[kD,m,kQ];omega) (by rw[kK];omega) (by simp at j;omega)]
  simp
def Tq {sz:Nat}:∀(a:List (Nat×Value)) (k:Nat),Uk sz k a=true→∀p∈a,p.1<k+a.length
 |[],_,_,p,b=>by cases b
 |(i,v)::r,k,h0,p,b=>by
  simp only[Uk,iQ] at h0
  obtain⟨⟨c,g⟩,d⟩:=h0
  have c:=iX c
  rcases iZ.1 b with h|h
  ·subst h;simp;omega
  ·have:=Tq r (k+1) d p h;simp;omega
def JF {P:Program}{ops:Array Oper}{Q:Exit→Act→World→Prop}{n:FN}{m:SM}{c:List Oper}{d:Nat}{ty:TypeId}{j:String}{w:Array Edge}{B:World}{h:BB}{S:Nat→Prop}{L:List HP}
  {T e sz l len:Nat} {z cs:List Value} {a:Array (Nat×Operand)} {g:List (Nat×Value)} (u:NI P T=some (e,sz,l,z)) (o:a.toList.mapM (Xp m)=some g)
  (v:Uk sz 0 g=true) (q:Nat.beq g.length len=true) (x:(g.map λp=>p.2.cells.toList).flatten=cs) (s:Nat.blt 0 len=true) (t:Nat.ble (len*sz) 16777216=true) (hd:Nat.blt d n.1=true) (y:St S L h)
  (k:∀b h',St S (Bx b e cs::L) h'→Cm S h S h'→LF P ops Q c B h' n ((d,.slice (some ⟨b,0,none⟩) len len)::m)):LF P ops Q (⟨some d,.buildSlice T len a,ty,j,w,none⟩::c) B h n m:=by
 have q:=iX q
 subst q
 obtain⟨i,C,_,_,_,_,_,_,A,_⟩:=JU u
 refine fP u o (cs:=cs) ?_ s t (λp o=>by have:=Tq g 0 v p o;omega) hd y k
 have:=QV (len:=g.length) g 0 [] (List.replicate g.length z).flatten v (by simp) (by simp [A]) (by omega)
 rw[kF,kF,x] at this
 exact this
end Go.Proofs.YtibidnaedddfdaaGreat
