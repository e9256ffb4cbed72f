import Derived.Test.YtedgiljmffngoaaGreatFCore10
namespace Go.Proofs.YtedgiljmffngoaaGreat
set_option linter.all false
open Go.RowKit
abbrev AR:=Nat→Value→AT→Prop
def Ct (ops:Array Oper) (i:Nat):Option Nat:=(ops[i]?).bind (·.dst)
def Js (o:Oper):List Nat:=(o.after.toList.filter (Region.binds .any)).map (·.on)
def W1 (ops:Array Oper) (kk:Nat) (n:FN) (m:List Nat):Bool:=
 (List.range kk).all λi=>match Ct ops i with
  |some a=>Nat.blt a n.1&& !(m.contains a)&&(List.range kk).all λj=>Nat.beq i j|| !((Ct ops j).any (Nat.beq a ·))
  |none=>false
def cV (ops:Array Oper) (kk:Nat):Bool:=Nat.ble kk ops.size&&(Nat.beq kk ops.size||(Region.sinkB .any ops kk&&Region.chainB .any ops kk))&&K3 ops
def KS (B:World) (n:FN) (b:Nat) (R:Value→AT→Prop) (h:AT) (m:SM):Act→World→Prop:=λa w=>
 ∃v h',Fr n a ((b,v)::m)∧Wd B h' w∧CF h h'∧R v h'
def PA (R:AR) (h:AT) (K:SM→Prop):List (Nat×Nat)→SM→Prop
 |[],fr=>K fr
 |(j,b)::a,fr=>∀c,R j c h→PA R h K a ((b,c)::fr)
def yb:Value→Option Bool
 | .bool b=>some b
 |_=>none
def Ri (P:Program) (ops:Array Oper) (Q:Exit→Act→World→Prop) (B:World) (n:FN) (m:SM) (h0:AT) (R:AR) (i:Nat) (o:Oper) (j:Nat) (c:List (Nat×Nat)):Prop:=
 ∀mt h,CF h0 h→PA R h (λfr=>match o.guard with
  |none=>LF P ops (Exit.then (KS B n j (R i) h (fr++(m++mt))) Q) [o] B h n (fr++(m++mt))
  |some (g,b)=>∃a,Ct ops g=some a∧((lk fr a=some (.bool b)∧LF P ops (Exit.then (KS B n j (R i) h (fr++(m++mt))) Q) [{ o with guard:=none}] B h n (fr++(m++mt)))∨∃v,lk fr a=some v∧yb v≠some b∧R i undef h)) c []
def PE (ops:Array Oper) (o:Oper) (a:List (Nat×Nat)):Bool:=a.all λp=>(Js o).contains p.1&&(Ct ops p.1).any (Nat.beq p.2 ·)
def Gd {m mt:SM}{i:Nat}:lk (m++mt) i=(lk m i).or (lk mt i):=by
 induction m with
 |nil=>simp [lk]
 |cons e r a=>
  obtain⟨j,v⟩:=e;simp only[gZ,lk];cases Nat.beq j i with
  |true=>simp
  |false=>simpa using a
def Fr.append {n a m mt}(c:Fr n a m) (g:Fr n a mt):Fr n a (m++mt):=⟨c.dfr,c.siz,λi v b=>by
 rw[Gd] at b;cases d:lk m i with
 |some j=>rw[d] at b;simp at b;subst b;exact c.at_ i _ d
 |none=>rw[d] at b;simp at b;exact g.at_ i v b⟩
def Eh (a:Act):SM:=(List.range a.tmps.size).map λi=>(i,a.tmps.getD i undef)
def Pg (f:Nat→Value):∀(k s i:Nat),s≤i→i<s+k→lk ((List.range' s k).map λi=>(i,f i)) i=some (f i)
 |0,s,i,a,b=>by omega
 |k+1,s,i,a,b=>by
  simp only[List.range'_succ,iF,lk];by_cases e:s=i
  ·subst e;simp
  ·have:Nat.beq s i=false:=by
    cases c:Nat.beq s i with
    |false=>rfl
    |true=>exact absurd (gH c) e
   rw[this];exact Pg f k (s+1) i (by omega) (by omega)
def Nw {a:Act}{i:Nat}(h:i<a.tmps.size):lk (Eh a) i=some (a.tmps.getD i undef):=by
 unfold Eh;rw[List.range_eq_range'];exact Pg _ _ 0 i (by omega) (by omega)
def Pf (f:Nat→Value):∀(k s i:Nat),s+k≤i→lk ((List.range' s k).map λi=>(i,f i)) i=none
 |0,s,i,h=>rfl
 |k+1,s,i,h=>by
  simp only[List.range'_succ,iF,lk];have:Nat.beq s i=false:=by
   cases a:Nat.beq s i with
   |false=>rfl
   |true=>exact absurd (gH a) (by omega)
  rw[this];exact Pf f k (s+1) i (by omega)
def Fr.full {n a m}(h:Fr n a m):Fr n a (Eh a):=⟨h.dfr,h.siz,λi v b=>by
 by_cases c:i<a.tmps.size
 ·rw[Nw c] at b;injection b with b
  subst b;simp [iE,jD c]
 ·unfold Eh at b;rw[List.range_eq_range',Pf _ _ 0 i (by omega)] at b;cases b⟩
section
variable {P:Program}{ops:Array Oper}{Q:Exit→Act→World→Prop}{a:Act}{w:World}
def Fh {o:Oper}{K:Act→World→Prop}(l:o.guard=none) (h:wpList P ops (Exit.then K Q) [o] a w):o.wp P a w K Q∨(o.asks P a w∧LetsOut Q):=by
 unfold wpList at h;rw[gO (by simp [Region.wanted,l])] at h;rcases h with b|⟨b,g,i,h2⟩
 ·refine .inl ?_;unfold Oper.wp at b ⊢;generalize (execOp a.eval o).run P w=r at b
  cases r with
  |ok m n=>
   cases m<;>simp only[Oper.upon] at b ⊢
   case value v=>exact b
   case skip=>exact b
   case defer d=>exact b
   case enter f args=>
    refine b.mono λe j k=>?_;cases e with
    |returned v=>exact k
    |panicked c=>exact k
    |outgrown=>obtain⟨g,i,h0⟩:=k;exact⟨g,i,h0⟩
   case row r args=>obtain b:=b;exact Rows.mono b λv j p=>p
  |halt x n=>cases x<;>simp only[Oper.upon] at b ⊢;exact b
 ·exact .inr ⟨b,g,i,h2⟩
def LE {o:Oper}{K:Act→World→Prop}(h:({ o with guard:=none}:Oper).wp P a w K Q∨(({ o with guard:=none}:Oper).asks P a w∧LetsOut Q)):o.wp P a w K Q∨(o.asks P a w∧LetsOut Q):=h
def Oq (a:Array Bool):Nat:=a.toList.count false
def JL {a:Array Bool}{i:Nat}(h:a.getD i true=false):Oq (a.setIfInBounds i true)+1=Oq a:=by
 have b:i<a.size:=by
  rcases jL i a.size with h'|h'
  ·exact h'
  ·simp [Array.getElem?_eq_none h'] at h
 have c:a[i]=false:=by simpa [b] using h
 have g:false∈a.toList:=by rw[←c];simp
 have d:0<a.toList.count false:=List.count_pos_iff.2 g;unfold Oq;rw[Array.toList_setIfInBounds,List.count_set (by simpa using b)];have j:a.toList[i]'(by simpa using b)=false:=by simpa using c
 rw[j];rw[show (if (false==false)=true then 1 else 0:Nat)=1 from rfl,show(if (true==false)=true then 1 else 0:Nat)=0 from rfl];omega
def NG {a:Array Bool}(h:Oq a=0) {i:Nat}:a.getD i true=true:=by
 cases b:a.getD i true with
 |true=>rfl
 |false=>have:=JL b;omega
def Nt {a:Array Bool}(h:∀i,i<ops.size→a.getD i true=true):Region.ready .any ops a=[]:=by
 apply List.eq_nil_iff_forall_not_mem.2;intro j c;obtain⟨b,o,d,_⟩:=mem_ready.1 c;rw[h j (gR.1 d).1] at b;cases b
def Gi {a:Array Bool}(n:K3 ops=true) (w:a.size=ops.size) {k:Nat}(x:k<ops.size) (o:a.getD k true=false):∃i,i≤k∧i∈Region.ready .any ops a∧∀j,j<i→a.getD j true=true:=by
 obtain⟨i,q,s,g⟩:=Jt (p:=λi=>a.getD i true) k o;have b:i<ops.size:=by omega
 refine⟨i,q,mem_ready.2 ⟨s,ops[i],by simp [b],λe t c=>?_⟩,g⟩;have d:=gE.1 n i (gP.2 b);have u:ops[i]? =some ops[i]:=by simp [b]
 rw[u] at d;simp only[iU,iI,iV] at d;have l:=d e t;simp only[c,iP,iN,hO] at l;have m:=g e.on l;have v:e.on<a.size:=by omega
 simp only[iE,jD v,iI] at m ⊢;exact m
def OP {kk:Nat}(F:Region.chainB .any ops kk=true) (G:K3 ops=true):∀(c t:Nat) (b:Array Bool) (a:Act) (w:World),kk≤t→t+c=ops.size→b.size=ops.size→(∀j,j<t→b.getD j true=true)→(∀j,t≤j→j<ops.size→b.getD j true=false)→
  wpList P ops Q (ops.toList.drop t) a w→wpAny P .any ops Q c b a w
 |0,t,b,a,w,_,U,q,l,p,g=>by
  rw[jC (by simp;omega)] at g;exact⟨Nt λi H=>l i (by omega),g⟩
 |c+1,t,b,a,w,hk,U,q,l,p,g=>by
  have d:t<ops.size:=by omega
  have s:=p t (gN _) d;obtain⟨i,V,I,q3⟩:=Gi G q d s;have u:i=t:=by
   rcases kF V with h|h
   ·exact absurd (l i h) (by rw[(mem_ready.1 I).1];exact Bool.false_ne_true)
   ·exact h
  subst u;refine⟨λh0=>absurd (h0▸I) (by simp),λj W=>?_⟩;have v:j=i:=by
   obtain⟨J,X,k,m⟩:=mem_ready.1 W;have n:=(gR.1 k).1;by_cases x:j<i
   ·rw[l j x] at J;cases J
   ·by_cases e:j=i
    ·exact e
    ·have o:=gE.1 F j (gP.2 n);simp only[gT,hO] at o;rcases o with o|o
     ·omega
     ·obtain⟨Y,y,Z,z,A,B⟩:=Region.waitsFor_spec o;have:Y=X:=gC (y.symm.trans k);subst this;have K:=m Z z A;have g4:=p (j-1) (by omega) (by omega);rw[B,getD_both g4] at K;cases K
  subst v;have k:ops[j]? =some ops[j]:=by simp [d]
  rw[jX (by simpa using d)] at g;simp only[Array.getElem_toList] at g;have M:=λa w=>OP F G c (j+1) (b.setIfInBounds j true) a w (by omega) (by omega) (by simpa using q)
   (λi H=>by
    by_cases e:i=j
    ·subst e;have:i<b.size:=by omega
     simp [iE,iA,this]
    ·rw[getD_set_ne true (by omega)];exact l i (by omega))
   (λi H C=>by rw[getD_set_ne true (by omega)];exact p i (by omega) C)
  unfold wpOp;simp only[k];unfold wpList at g;split
  ·rename_i D;rw[gO D] at g;exact g.imp (Oper.wp_mono M) id
  ·rename_i D;rw[gL D] at g;exact M _ _ g
structure dZ (B:World) (h0:AT) (n:FN) (m:SM) (ops:Array Oper) (kk:Nat) (R:AR) (listed:Array Bool) (a:Act) (w:World):Prop where
 ex:∃h,Wd B h w∧CF h0 h∧Fr n a m∧∀i,i<kk→listed.getD i false=true→∃d v,Ct ops i=some d∧a.tmps[d]? =some v∧R i v h
def Fr.same {n:FN}{a b:Act}{z:Nat}{v:Value}{l k:SM}(hd:z<n.1) (h:Fr n a l) (h':Fr n b ((z,v)::k)) (m:∀i A,i≠z→a.tmps[i]? =some A→lk ((z,v)::k) i=some A):b=a.put (some z) v:=by
 obtain⟨t,o⟩:=a;obtain⟨p,c⟩:=b;have q:o=n.2:=h.dfr;have s:c=n.2:=h'.dfr;subst q;subst s;have x:t.size=n.1:=h.siz;have y:p.size=n.1:=h'.siz;simp only[Act.put,Act.mk.injEq,and_true];apply Array.ext_getElem?;intro i;rw[iA];by_cases e:z=i
 ·subst e;rw[gO rfl,gO (by omega)];exact h'.at_ z v (by simp [lk])
 ·rw[gL e];cases g:t[i]? with
  |some A=>exact h'.at_ i A (m i A (λw=>e w.symm) g)
  |none=>
   have:t.size≤i:=by
    rcases jL i t.size with j|j
    ·rw[jD j] at g;cases g
    ·exact j
   exact Array.getElem?_eq_none (by omega)
def RP {a:Array Bool}{kk:Nat}(o:kk≤a.size) (k:∀i,i<kk→a.getD i true=true) (l:∀i,kk≤i→i<a.size→a.getD i true=false):kk+Oq a=a.size:=by
 have e:a.toList=a.toList.take kk++a.toList.drop kk:=(List.take_append_drop _ _).symm;unfold Oq;rw[e,List.count_append];have m:(a.toList.take kk).count false=0:=by
  rw[List.count_eq_zero];intro g;obtain⟨i,j,d⟩:=List.mem_iff_getElem.1 g;have c:i<kk∧i<a.size:=by simp at j;omega
  have:=k i c.1;rw[List.getElem_take] at d;simp [c.2] at this;simp [this] at d
 have n:(a.toList.drop kk).count false=(a.toList.drop kk).length:=by
  rw[List.count_eq_length];intro b g;obtain⟨i,j,d⟩:=List.mem_iff_getElem.1 g;have c:kk+i<a.size:=by simp at j;omega
  have:=l (kk+i) (by omega) c;rw[List.getElem_drop] at d;simp [c] at this;simp [this] at d;exact d.symm
 rw[m,n];simp;omega
def Hu {R:AR}{h:AT}{K:SM→Prop}{n:FN}:∀(k:List (Nat×Nat)) (fr:SM),PA R h K k fr→(∀p∈k,∃v,a.tmps[p.2]? =some v∧R p.1 v h)→Fr n a fr→∃c,K c∧Fr n a c
 |[],fr,l,_,g=>⟨fr,l,g⟩
 |(j,x)::k,fr,l,q,g=>by
  obtain⟨v,s,t⟩:=q (j,x) (by simp);refine Hu k _ (l v t) (λw m=>q w (by simp [m])) ⟨g.dfr,g.siz,λi y b=>?_⟩;simp only[lk] at b;cases o:Nat.beq x i with
  |true=>
   rw[o] at b;simp only[iC,hY] at b;have:=gH o;subst this;subst b;exact s
  |false=>rw[o] at b;simp only[gU] at b;exact g.at_ i y b
def QR {m:SM}{i:Nat}{v:Value}(h:lk m i=some v):i∈m.map (·.1):=by
 induction m with
 |nil=>simp [lk] at h
 |cons e r b=>
  obtain⟨j,c⟩:=e;simp only[lk] at h;cases a:Nat.beq j i with
  |true=>have:=gH a;subst this;simp
  |false=>rw[a] at h;simp only[gU] at h;simp [b h]
def I8 {n:FN}{fr:SM}{g k:Nat}(c:Fr n a fr) {v:Value}(b:Ct ops g=some k) (i:lk fr k=some v):yielded ops a.tmps g=yb v:=by
 have j:=c.at_ k v i;unfold yielded;unfold Ct at b;simp only[b,gW,j];cases v<;>rfl
def W9 {B:World}{h0:AT}{kk:Nat}{n:FN}{m:SM}{R:AR}(W:kk≤ops.size) (hb:K3 ops=true)
  (J:kk=ops.size∨(Region.sinkB .any ops kk=true∧Region.chainB .any ops kk=true))
  (ad:W1 ops kk n (m.map (·.1))=true)
  (X:∀i v h h',CF h0 h→CF h h'→R i v h→R i v h')
  (step:∀i o d,i<kk→ops[i]? =some o→o.dst=some d→∃ps,PE ops o ps=true∧Ri P ops Q B n m h0 R i o d ps)
  (ae:∀a w h,Wd B h w→CF h0 h→Fr n a m→(∀i,i<kk→∃d v,Ct ops i=some d∧a.tmps[d]? =some v∧R i v h)→wpList P ops Q (ops.toList.drop kk) a w):
  ∀(q:Nat) (c:Array Bool) (a:Act) (w:World),Oq c=q→HeadInv .any ops kk c→dZ B h0 n m ops kk R c a w→wpAny P .any ops Q q c a w:=by
 intro q
 induction q with
 |zero=>
  intro c a w K k ai;have l:∀i,c.getD i true=true:=λi=>NG K;obtain⟨h,g1,g2,F,g4⟩:=ai.ex;have hk:kk=ops.size:=by
   rcases kF W with h|h
   ·have y:=k.tail kk (gN _) h;have G:=l kk;rw[y] at G;cases G
   ·exact h
  have hf:=ae a w h g1 g2 F λi z=>g4 i z (by
   have G:=l i;have:i<c.size:=by rw[k.size];omega
   simpa [this] using G)
  rw[jC (by simp;omega)] at hf;exact⟨Nt λi _=>l i,hf⟩
 |succ q ih=>
  intro c a w K k ai;obtain⟨h,g1,g2,F,g4⟩:=ai.ex;by_cases l:∀i,i<kk→c.getD i true=true
  ·
   have hf:=ae a w h g1 g2 F λi z=>g4 i z (by
    have G:=l i z;have:i<c.size:=by rw[k.size];omega
    simpa [this] using G)
   have a3:kk<ops.size:=by
    rcases kF W with h|h
    ·exact h
    ·exfalso;have Y:∀b∈c.toList,b=true:=by
      intro b A;obtain⟨i,z,rfl⟩:=List.mem_iff_getElem.1 A;have H:i<c.size:=by simpa using z
      have:=l i (by have:=k.size;omega);simpa [H] using this
     have:Oq c=0:=by
      unfold Oq;rw[List.count_eq_zero];intro hm;have:=Y _ hm;cases this
     omega
   rcases J with hc|⟨_,hc⟩
   ·omega
   ·refine OP hc hb (q+1) kk c a w (gN _) ?_ k.size l (λj M Z=>k.tail j M Z) hf;have:=RP (by rw[k.size];exact W) l (λj M Z=>k.tail j M (by rw[←k.size];exact Z));rw[k.size] at this;omega
  ·obtain⟨k0,ar,af⟩:∃k0,k0<kk∧c.getD k0 true=false:=by
    apply jU;intro au;refine l λi z=>?_;cases hl:c.getD i true with
    |true=>rfl
    |false=>exact absurd ⟨i,z,hl⟩ au
   obtain⟨i0,_,av,_⟩:=Gi hb k.size (show k0<ops.size by omega) af;refine⟨λh0=>absurd (h0▸av) (by simp),λi z=>?_⟩;obtain⟨aw,o,ho,ag⟩:=mem_ready.1 z;have ah:i<ops.size:=(gR.1 ho).1;have aa:i<kk:=by
    rcases jL i kk with h|h
    ·exact h
    ·rcases J with hc|⟨hs,hc⟩
     ·omega
     ·exact absurd z (tail_waits hs hc (by omega) k _ k0 rfl ar af i h)
   have s:=gE.1 ad i (gP.2 aa);cases hd:Ct ops i with
   |none=>rw[hd] at s;cases s
   |some d=>
   rw[hd] at s;simp only[gG,gS,gE,gP,gT] at s;obtain⟨⟨aj,ak⟩,ax⟩:=s;have al:d+1≤n.1:=by simpa [Nat.blt] using aj
   have U:d<n.1:=al;have am:o.dst=some d:=by unfold Ct at hd;rw[ho] at hd;exact hd
   have I:∀j∈Js o,∃d v,Ct ops j=some d∧a.tmps[d]? =some v∧R j v h:=by
    intro j M;obtain⟨e,he,rfl⟩:=iJ.1 M;obtain⟨ay,an⟩:=iQ.1 he;have ao:e∈o.after:=by simpa using ay
    have y:=ag e ao an;have h4:=gE.1 hb i (gP.2 ah);rw[ho] at h4;simp only[iU,iI,iV] at h4;have h6:=h4 e ao;simp only[an,iP,iN,hO] at h6;exact g4 e.on (by omega) y
   obtain⟨ps,az,ab⟩:=step i o d aa ho am;have C:∀p∈ps,∃v,a.tmps[p.2]? =some v∧R p.1 v h:=by
    intro p hp;have y:=gE.1 az p hp;simp only[gG] at y;obtain⟨d',v,q1,q2,q3⟩:=I p.1 (by simpa using y.1);have G:=y.2;rw[q1] at G;have:p.2=d':=gH (by simpa using G);exact⟨v,by rw[this];exact q2,q3⟩
   obtain⟨fr,hK,ac⟩:=Hu (a:=a) (n:=n) _ _ (ab (Eh a) h g2) C ⟨F.dfr,F.siz,λi v z=>by simp [lk] at z⟩;have t:Fr n a (fr++(m++Eh a)):=ac.append (F.append F.full);have a0:∀i u,a.tmps[i]? =some u→lk (fr++(m++Eh a)) i=some u:=by
    intro i u K;have hl:lk (Eh a) i=some u:=by
     have:i<a.tmps.size:=(gR.1 K).1;rw[Nw this];simp [iE,K]
    have a1:∃u',lk (fr++(m++Eh a)) i=some u':=by
     rw[Gd,Gd,hl];cases lk fr i with
     |some x=>exact⟨x,by simp⟩
     |none=>cases lk m i with
      |some x=>exact⟨x,by simp⟩
      |none=>exact⟨u,by simp⟩
    obtain⟨u',ap⟩:=a1;have:=t.at_ i u' ap;rw[K] at this;rw[ap,←gC this]
   have next:∀v V h',Wd B h' V→CF h h'→R i v h'→wpAny P .any ops Q q (c.setIfInBounds i true) (a.put (some d) v) V:=by
    intro v V h' a2 aq hr;refine ih _ _ _ (by have:=JL aw;omega) (k.set z aa) ⟨h',a2,g2.trans aq,?_,λj M hl=>?_⟩
    ·have hp:=F.put aj v;refine⟨hp.dfr,hp.siz,λi' u H=>hp.at_ i' u ?_⟩;have D:Nat.beq d i'=false:=by
      cases A:Nat.beq d i' with
      |false=>rfl
      |true=>
       have:=gH A;subst this;have y:=QR H;rw[←gI] at y;rw[y] at ak;cases ak
     simp only[lk,D,gU];exact H
    ·by_cases e:i=j
     ·subst e;refine⟨d,v,hd,?_,hr⟩;simp only[Act.put,iA];have:=F.siz;simp [this,U]
     ·rw[getD_set_ne false e] at hl;obtain⟨dj,vj,q1,q2,q3⟩:=g4 j M hl;refine⟨dj,vj,q1,?_,X _ _ _ _ g2 aq q3⟩;have y:=ax j M;rw[q1] at y;have D:d≠dj:=by
       rcases y with y|y
       ·exact absurd (gH y) e
       ·intro e';subst e';simp at y
      simp only[Act.put,iA];rw[gL D];exact q2
   have conv:∀a' V,KS B n d (R i) h (fr++(m++Eh a)) a' V→wpAny P .any ops Q q (c.setIfInBounds i true) a' V:=by
    rintro a' V ⟨v,h',f1,f2,f3,f4⟩;have:=Fr.same U t f1 λi u z K=>by
     have D:Nat.beq d i=false:=by
      cases A:Nat.beq d i with
      |false=>rfl
      |true=>exact absurd (gH A).symm z
     simp only[lk,D,gU];exact a0 i u K
    subst this;exact next v V h' f2 f3 f4
   unfold wpOp;simp only[ho];cases hg:o.guard with
   |none=>
    rw[hg] at hK;rw[gO (by simp [Region.wanted,hg])];exact(Fh hg (hK a w t g1)).imp (Oper.wp_mono conv) id
   |some gb=>
    obtain⟨g,b⟩:=gb;rw[hg] at hK;obtain⟨dg,q1,hK⟩:=hK;rcases hK with ⟨k1,k2⟩|⟨v,k1,k2,k3⟩
    ·have hy:yielded ops a.tmps g=some b:=I8 ac q1 k1;rw[gO (by simp [Region.wanted,hg,hy])];exact(LE (Fh rfl (k2 a w t g1))).imp (Oper.wp_mono conv) id
    ·have hy:yielded ops a.tmps g≠some b:=by rw[I8 ac q1 k1];exact k2
     rw[gL (by simp [Region.wanted,hg,hy]),am];exact next undef w h g1 (CF.refl h) k3
def AW (P:Program) (ops:Array Oper) (Q:Exit→Act→World→Prop) (B:World) (n:FN) (m:SM) (h0:AT) (R:AR):Nat→List Oper→List (List (Nat×Nat))→Prop
 |i,o::l,a::pss=>(match o.dst with|some b=>Ri P ops Q B n m h0 R i o b a|none=>False)∧AW P ops Q B n m h0 R (i+1) l pss
 |_,_,_=>True
def TY (ops:Array Oper) (l:List Oper) (pss:List (List (Nat×Nat))):Bool:=Nat.beq l.length pss.length&&(l.zip pss).all λp=>PE ops p.1 p.2
def AW.at_ {B:World}{n:FN}{m:SM}{h0:AT}{R:AR}:∀{l:List Oper}{pss:List (List (Nat×Nat))}{k i:Nat}{o:Oper}{p:Nat},AW P ops Q B n m h0 R k l pss→TY ops l pss=true→l[i]? =some o→o.dst=some p→∃b,PE ops o b=true∧Ri P ops Q B n m h0 R (k+i) o p b
 |[],_,_,_,_,_,_,_,h,_=>by simp at h
 |_::_,[],_,_,_,_,_,a,_,_=>by simp [TY] at a
 |j::l,b::pss,k,0,o,p,c,a,g,hd=>by
  simp only[jB,hY] at g;subst g;simp only[AW,hd] at c;simp only[TY,List.zip_cons_cons,List.all_cons,gG] at a;exact⟨b,a.2.1,c.1⟩
 |j::l,b::pss,k,i+1,o,p,c,a,g,hd=>by
  simp only[iX] at g;simp only[AW] at c;simp only[TY,List.zip_cons_cons,List.all_cons,gG,jA] at a;have:=AW.at_ (l:=l) (pss:=pss) (k:=k+1) (i:=i) c.2 (by simp only[TY,gG];exact⟨by have:=a.1;simpa using this,a.2.2⟩) g hd;rw[show k+(i+1)=k+1+i by omega];exact this
end
def AW.cons {P:Program}{ops:Array Oper}{Q:Exit→Act→World→Prop}{B:World}{n:FN}{m:SM}{h0:AT}{R:AR}{i:Nat}{o:Oper}{l:List Oper}{a:List (Nat×Nat)}{pss:List (List (Nat×Nat))}{b:Nat}(hd:o.dst=some b) (h:Ri P ops Q B n m h0 R i o b a) (t:AW P ops Q B n m h0 R (i+1) l pss):AW P ops Q B n m h0 R i (o::l) (a::pss):=by
 simp only[AW,hd];exact⟨h,t⟩
def SN (S:Nat→Prop) (h0 h:AT):Nat→Prop:=λb=>S b∨(h0.size≤b∧b<h.size)
def SN.mono {S h0 h h'}(d:∀b,S b→b<h0.size) (g:CF h0 h) (a:CF h h'):B6 (SN S h0 h) h (SN S h0 h') h':=
 ⟨λb c=>c.imp_right λx=>⟨x.1,gJ x.2 a.siz⟩,λb c=>a.same b (c.elim (λx=>gJ (d b x) g.siz) (·.2)),a.siz⟩
def SN.st {S L h0 h}(c:St S L h0) (o:CF h0 h):St (SN S h0 h) L h:=by
 refine⟨λb a=>a.elim (λx=>gJ (c.1 b x) o.siz) (·.2),?_⟩;refine Sp.ext c.2 (λb x=> .inl x) (λb a=>o.same b (a.elim (c.1 b) (·.1))) λb a=>⟨gJ a.1 o.siz,λx=>x.elim a.2 λy=>by omega⟩
def SN.ext {S h0 h}(a:∀b,S b→b<h0.size) (o:CF h0 h):B6 S h0 (SN S h0 h) h:=⟨λ_ x=> .inl x,λb c=>o.same b (a b c),o.siz⟩
section
variable {P:Program}{ex:List (Nat×AP)}{RR N:AP}{cs:List Code}{B:World}{h:AT}{n:FN}{m m0:SM}{S:Nat→Prop}{L:List HP}
def My {l:List Oper}{id:Nat}(kk:Nat) (R:AR) (pss:List (List (Nat×Nat))) (I:List (Nat×Nat)) (M:P.follows .mixedOrders=true) (J:cV l.toArray kk=true) (ms:List Nat) (u:m.map (·.1)=ms) (c:W1 l.toArray kk n ms=true)
  (y:TY l.toArray (l.take kk) pss=true) (z:(I.all λp=>Nat.blt p.1 kk&&(Ct l.toArray p.1).any (Nat.beq p.2 ·))=true) (g:RE m0 m)
  (b:∀i v k s,CF h k→CF k s→R i v k→R i v s)
  (step:AW P l.toArray (Qx ex RR (W P ex RR cs N)) B n m h R 0 (l.take kk) pss)
  (A:∀h',CF h h'→PA R h' (λfr=>LF P l.toArray (Qx ex RR (W P ex RR cs N)) (l.drop kk) B h' n (fr++m)) I []):WF P ex RR (.region id l.toArray true::cs) N B h n m0:=by
 intro a w Q U;subst u;simp only[cV,gG,gT] at J;obtain⟨⟨k,s⟩,V⟩:=J;have C:kk≤l.toArray.size:=jE k;refine λrd D=>Mb D LI M (W9 (kk:=kk) (R:=R) (B:=B) (h0:=h) (n:=n) (m:=m) C V (s.imp (λe=>gH e) λx=>x) c b (λi o d F X hd=>?_) (λa w h' Y Z G g4=>?_) _ _ _ _ ?_ ⟨by simp,λj oj _ q=>(by rw[getD_replicate_false] at q;cases q),λt _ ht=>getD_in (by simpa using ht) (getD_replicate_false _ _)⟩ ⟨h,U.drew,CF.refl h,Q.sub g,λi _ q=>(by rw[getD_replicate_false] at q;cases q)⟩)
 ·have H:(l.take kk)[i]? =some o:=by rw[iG F];simpa using X
  have:=AW.at_ step y H hd;rw[hM] at this;exact this
 ·obtain⟨fr,k1,k2⟩:=Hu (a:=a) (n:=n) _ _ (A h' Z) (λp hp=>by
   have e:=gE.1 z p hp;simp only[gG] at e;have e1:p.1<kk:=(by simpa [Nat.blt] using e.1:p.1+1≤kk)
   obtain⟨d,v,q1,q2,q3⟩:=g4 p.1 e1;have K:=e.2;rw[q1] at K;have:p.2=d:=gH (by simpa using K);exact⟨v,by rw[this];exact q2,q3⟩) ⟨G.dfr,G.siz,λi v F=>by simp [lk] at F⟩
  exact k1 a w (k2.append G) Y
 ·unfold Oq;rw[jY];simp
end
def AL {P:Program}{ops:Array Oper}{Q:Exit→Act→World→Prop}{B:World}{n:FN}{c:Nat}{R:Value→AT→Prop}{h h':AT}{m:SM}{v:Value}(o:CF h h') (r:R v h'):LF P ops (Exit.then (KS B n c R h m) Q) [] B h' n ((c,v)::m):=
 λ_ _ a b=>⟨v,h',a,b,o,r⟩
def Fz (a:Nat→Prop) (h:AT):HP where
 holds:=λ_ F h'=>(∀b,F b↔a b)∧∀b,a b→h'[b]? =h[b]?
 loc:=λ⟨c,g⟩ _ e=>⟨c,λb d=>(e b (.inr ((c b).2 d))).trans (g b d)⟩
def dW (S:Nat→Prop) (h:AT):HP:=Fz (λb=>b<h.size∧¬S b) h
def St.fz {S L h}(a:St S L h):St S [dW S h] h:=⟨a.1,_,⟨λ_=>iM,λ_ _=>rfl⟩,λb c=>c,trivial⟩
def Fz.done {S S2:Nat→Prop}{h0 h a:AT}(o:CF h0 h) (e:B6 (SN S h0 h) h S2 a) (d:St S2 [dW (SN S h0 h) h] a):CF h a∧B6 S2 a (SN S h0 a) a:=by
 obtain⟨F,⟨j,k⟩,l,_⟩:=d.2;refine⟨⟨e.siz,λb c=>?_⟩,λb c=>?_,λ_ _=>rfl,gN _⟩
 ·rcases Classical.em (SN S h0 h b) with g|g
  ·exact e.same b g
  ·exact k b ⟨c,g⟩
 ·rcases jL b h.size with g|g
  ·rcases Classical.em (SN S h0 h b) with i|i
   ·exact i.imp_right λx=>⟨x.1,d.1 b c⟩
   ·exact absurd c (l b ((j b).2 ⟨g,i⟩)).2
  ·exact .inr ⟨iK o.siz g,d.1 b c⟩
def Uq (sz:Nat):Nat→List (Nat×Value)→Bool
 |_,[]=>true
 |k,(i,v)::r=>Nat.beq i k&&Nat.beq v.cells.toList.length sz&&Uq sz (k+1) r
def Ra {sz len:Nat}:∀(pv:List (Nat×Value)) (k:Nat) (pre a:List Value),Uq sz k pv=true→pre.length=k*sz→a.length=pv.length*sz→k+pv.length≤len→
  Ln (Rv sz len) (pre++a) pv=some (pre++(pv.map λp=>p.2.cells.toList).flatten)
 |[],k,pre,a,_,_,c,_=>by
  have:a=[]:=jW (by simpa using c);subst this;simp [Ln]
 |(i,v)::r,k,pre,a,h0,m,c,g=>by
  simp only[Uq,gG] at h0;obtain⟨⟨d,j⟩,n⟩:=h0;have d:=gH d;subst d;have l:=gH j;simp only[jA,iT] at c;have o:i<len:=by simp at g;omega
  have q:(Rv sz len)[i]? =some (i*sz,sz):=by simp [Rv,o]
  simp only[Ln,q];have s:(Nat.beq v.cells.toList.length sz&&Nat.ble (i*sz+sz) (pre++a).length)=true:=by
   rw[j,Bool.true_and];exact Nat.ble_eq_true_of_le (by rw[hP];omega)
  rw[s];simp only[iC];have b:G7 (pre++a) (i*sz) v.cells.toList=(pre++v.cells.toList)++a.drop sz:=by
   unfold G7;rw[←m,jJ,←List.drop_drop,List.drop_left,l]
  rw[b,Ra r (i+1) (pre++v.cells.toList) (a.drop sz) n (by rw[hP,l,iT];omega) (by rw[iW];omega) (by simp at g;omega)];simp
def T3 {sz:Nat}:∀(pv:List (Nat×Value)) (k:Nat),Uq sz k pv=true→∀p∈pv,p.1<k+pv.length
 |[],_,_,p,a=>by cases a
 |(i,v)::r,k,h0,p,a=>by
  simp only[Uq,gG] at h0;obtain⟨⟨b,d⟩,c⟩:=h0;have b:=gH b;rcases gK.1 a with h|h
  ·subst h;simp;omega
  ·have:=T3 r (k+1) c p h;simp;omega
def Df {P:Program}{ops:Array Oper}{Q:Exit→Act→World→Prop}{n:FN}{m:SM}{c:List Oper}{C:Nat}{ty:TypeId}{g:String}{v:Array Edge}{B:World}{h:AT}{S:Nat→Prop}{L:List HP}
  {T e sz j len:Nat} {z cs:List Value} {a:Array (Nat×Operand)} {pv:List (Nat×Value)} (t:M3 P T=some (e,sz,j,z)) (l:a.toList.mapM (W0 m)=some pv)
  (u:Uq sz 0 pv=true) (o:Nat.beq pv.length len=true) (w:(pv.map λp=>p.2.cells.toList).flatten=cs) (q:Nat.blt 0 len=true) (s:Nat.ble (len*sz) 16777216=true) (hd:Nat.blt C n.1=true) (x:St S L h)
  (k:∀b h',St S (Bx b e cs::L) h'→B6 S h S h'→LF P ops Q c B h' n ((C,.slice (some ⟨b,0,none⟩) len len)::m)):LF P ops Q (⟨some C,.buildSlice T len a,ty,g,v,none⟩::c) B h n m:=by
 have o:=gH o;subst o;obtain⟨i,A,_,_,_,_,_,_,y,_⟩:=KF t;refine YI t l (cs:=cs) ?_ q s (λp l=>by have:=T3 pv 0 u p l;omega) hd x k;have:=Ra (len:=pv.length) pv 0 [] (List.replicate pv.length z).flatten u (by simp) (by simp [y]) (by omega);rw[gQ,gQ,w] at this;exact this
end Go.Proofs.YtedgiljmffngoaaGreat
