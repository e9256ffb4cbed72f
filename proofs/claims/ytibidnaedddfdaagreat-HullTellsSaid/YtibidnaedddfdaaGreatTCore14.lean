import Derived.Test.YtibidnaedddfdaaGreatTCore10
import Derived.MapKept
namespace Go.Proofs.YtibidnaedddfdaaGreat
set_option linter.all false
open Go.RowKit
abbrev AR:=Nat→Value→A4→Prop
def HW (ops:Array Oper) (i:Nat):Option Nat:=(ops[i]?).bind (·.dst)
def Sb (o:Oper):List Nat:=(o.after.toList.filter (Region.binds .any)).map (·.on)
def fC (ops:Array Oper) (kk:Nat) (n:FN) (m:List Nat):Bool:=
 (List.range kk).all λi=>match HW ops i with
  |some d=>Nat.blt d n.1&& !(m.contains d)&&(List.range kk).all λj=>Nat.beq i j|| !((HW ops j).any (Nat.beq d ·))
  |none=>false
def rS (ops:Array Oper) (kk:Nat):Bool:=Nat.ble kk ops.size&&(Nat.beq kk ops.size||(Region.sinkB .any ops kk&&Region.chainB .any ops kk))&&Oe ops
def KS (B:World) (n:FN) (d:Nat) (R:Value→A4→Prop) (h:A4) (m:SM):Act→World→Prop:=λa w=>
 ∃v h',Fr n a ((d,v)::m)∧Wd B h' w∧HS h h'∧R v h'
def PA (R:AR) (h:A4) (K:SM→Prop):List (Nat×Nat)→SM→Prop
 |[],fr=>K fr
 |(j,d)::a,fr=>∀u,R j u h→PA R h K a ((d,u)::fr)
def yb:Value→Option Bool
 | .bool b=>some b
 |_=>none
def U7 (P:Program) (ops:Array Oper) (Q:Exit→Act→World→Prop) (B:World) (n:FN) (m:SM) (h0:A4) (R:AR) (i:Nat) (o:Oper) (d:Nat) (c:List (Nat×Nat)):Prop:=
 ∀mt h,HS h0 h→PA R h (λfr=>match o.guard with
  |none=>LF P ops (Exit.then (KS B n d (R i) h (fr++(m++mt))) Q) [o] B h n (fr++(m++mt))
  |some (j,b)=>∃a,HW ops j=some a∧((lk fr a=some (.bool b)∧LF P ops (Exit.then (KS B n d (R i) h (fr++(m++mt))) Q) [{ o with guard:=none}] B h n (fr++(m++mt)))∨∃v,lk fr a=some v∧yb v≠some b∧R i undef h)) c []
def UU (ops:Array Oper) (o:Oper) (a:List (Nat×Nat)):Bool:=a.all λp=>(Sb o).contains p.1&&(HW ops p.1).any (Nat.beq p.2 ·)
def K0 {m mt:SM}{i:Nat}:lk (m++mt) i=(lk m i).or (lk mt i):=by
 induction m with
 |nil=>simp [lk]
 |cons e r a=>
  obtain⟨j,v⟩:=e;simp only[yY,lk];cases Nat.beq j i with
  |true=>simp
  |false=>simpa using a
def Fr.append {n a m mt}(c:Fr n a m) (g:Fr n a mt):Fr n a (m++mt):=⟨c.dfr,c.siz,λi v b=>by
 rw[K0] at b;cases d:lk m i with
 |some u=>rw[d] at b;simp at b;subst b;exact c.at_ i _ d
 |none=>rw[d] at b;simp at b;exact g.at_ i v b⟩
def Jx (a:Act):SM:=(List.range a.tmps.size).map λi=>(i,a.tmps.getD i undef)
def Sw (f:Nat→Value):∀(k s i:Nat),s≤i→i<s+k→lk ((List.range' s k).map λi=>(i,f i)) i=some (f i)
 |0,s,i,a,b=>by omega
 |k+1,s,i,a,b=>by
  simp only[List.range'_succ,xQ,lk];by_cases e:s=i
  ·subst e;simp
  ·have:Nat.beq s i=false:=by
    cases c:Nat.beq s i with
    |false=>rfl
    |true=>exact absurd (wQ c) e
   rw[this];exact Sw f k (s+1) i (by omega) (by omega)
def Rx {a:Act}{i:Nat}(h:i<a.tmps.size):lk (Jx a) i=some (a.tmps.getD i undef):=by
 unfold Jx;rw[List.range_eq_range'];exact Sw _ _ 0 i (by omega) (by omega)
def Sv (f:Nat→Value):∀(k s i:Nat),s+k≤i→lk ((List.range' s k).map λi=>(i,f i)) i=none
 |0,s,i,h=>rfl
 |k+1,s,i,h=>by
  simp only[List.range'_succ,xQ,lk];have:Nat.beq s i=false:=by
   cases a:Nat.beq s i with
   |false=>rfl
   |true=>exact absurd (wQ a) (by omega)
  rw[this];exact Sv f k (s+1) i (by omega)
def Fr.full {n a m}(h:Fr n a m):Fr n a (Jx a):=⟨h.dfr,h.siz,λi v b=>by
 by_cases c:i<a.tmps.size
 ·rw[Rx c] at b;injection b with b
  subst b;simp [yG,Aak c]
 ·unfold Jx at b;rw[List.range_eq_range',Sv _ _ 0 i (by omega)] at b;cases b⟩
section
variable {P:Program}{ops:Array Oper}{Q:Exit→Act→World→Prop}{a:Act}{w:World}
def LC {o:Oper}{K:Act→World→Prop}(l:o.guard=none) (h:wpList P ops (Exit.then K Q) [o] a w):o.wp P a w K Q∨(o.asks P a w∧LetsOut Q):=by
 unfold wpList at h;rw[wG (by simp [Region.wanted,l])] at h;rcases h with b|⟨b,g,i,h2⟩
 ·refine .inl ?_;unfold Oper.wp at b ⊢;generalize (execOp a.eval o).run P w=r at b
  cases r with
  |ok m n=>
   cases m<;>simp only[Oper.upon] at b ⊢
   case value v=>exact b
   case skip=>exact b
   case defer d=>exact b
   case enter f args=>
    refine b.mono λe j k=>?_;cases e with
    |returned v=>exact k
    |panicked c=>exact k
    |outgrown=>obtain⟨g,i,h0⟩:=k;exact⟨g,i,h0⟩
   case row r args=>obtain b:=b;exact Rows.mono b λv j p=>p
  |halt x n=>cases x<;>simp only[Oper.upon] at b ⊢;exact b
 ·exact .inr ⟨b,g,i,h2⟩
def RL {o:Oper}{K:Act→World→Prop}(h:({ o with guard:=none}:Oper).wp P a w K Q∨(({ o with guard:=none}:Oper).asks P a w∧LetsOut Q)):o.wp P a w K Q∨(o.asks P a w∧LetsOut Q):=h
def TF (a:Array Bool):Nat:=a.toList.count false
def Nz {a:Array Bool}{i:Nat}(h:a.getD i true=false):TF (a.setIfInBounds i true)+1=TF a:=by
 have b:i<a.size:=by
  rcases xB i a.size with h'|h'
  ·exact h'
  ·simp [Array.getElem?_eq_none h'] at h
 have c:a[i]=false:=by simpa [b] using h
 have g:false∈a.toList:=by rw[←c];simp
 have d:0<a.toList.count false:=List.count_pos_iff.2 g;unfold TF;rw[Array.toList_setIfInBounds,List.count_set (by simpa using b)];have j:a.toList[i]'(by simpa using b)=false:=by simpa using c
 rw[j];rw[show (if (false==false)=true then 1 else 0:Nat)=1 from rfl,show(if (true==false)=true then 1 else 0:Nat)=0 from rfl];omega
def Tg {a:Array Bool}(h:TF a=0) {i:Nat}:a.getD i true=true:=by
 cases b:a.getD i true with
 |true=>rfl
 |false=>have:=Nz b;omega
def Qf {a:Array Bool}(h:∀i,i<ops.size→a.getD i true=true):Region.ready .any ops a=[]:=by
 apply List.eq_nil_iff_forall_not_mem.2;intro j c;obtain⟨b,o,d,_⟩:=mem_ready.1 c;rw[h j (xN.1 d).1] at b;cases b
def L6 {a:Array Bool}(n:Oe ops=true) (w:a.size=ops.size) {k:Nat}(x:k<ops.size) (o:a.getD k true=false):∃i,i≤k∧i∈Region.ready .any ops a∧∀j,j<i→a.getD j true=true:=by
 obtain⟨i,q,s,g⟩:=Ov (p:=λi=>a.getD i true) k o;have b:i<ops.size:=by omega
 refine⟨i,q,mem_ready.2 ⟨s,ops[i],by simp [b],λe t c=>?_⟩,g⟩;have d:=wO.1 n i (xG.2 b);have u:ops[i]? =some ops[i]:=by simp [b]
 rw[u] at d;simp only[Aaa,xJ,Aab] at d;have l:=d e t;simp only[c,xE,yU,wW] at l;have m:=g e.on l;have v:e.on<a.size:=by omega
 simp only[yG,Aak v,xJ] at m ⊢;exact m
def RP {kk:Nat}(F:Region.chainB .any ops kk=true) (G:Oe ops=true):∀(c t:Nat) (b:Array Bool) (a:Act) (w:World),kk≤t→t+c=ops.size→b.size=ops.size→(∀j,j<t→b.getD j true=true)→(∀j,t≤j→j<ops.size→b.getD j true=false)→
  wpList P ops Q (ops.toList.drop t) a w→wpAny P .any ops Q c b a w
 |0,t,b,a,w,_,U,q,l,p,g=>by
  rw[zN (by simp;omega)] at g;exact⟨Qf λi H=>l i (by omega),g⟩
 |c+1,t,b,a,w,hk,U,q,l,p,g=>by
  have d:t<ops.size:=by omega
  have s:=p t (wV _) d;obtain⟨i,V,I,q3⟩:=L6 G q d s;have u:i=t:=by
   rcases Abc V with h|h
   ·exact absurd (l i h) (by rw[(mem_ready.1 I).1];exact Bool.false_ne_true)
   ·exact h
  subst u;refine⟨λh0=>absurd (h0▸I) (by simp),λj W=>?_⟩;have v:j=i:=by
   obtain⟨J,X,k,m⟩:=mem_ready.1 W;have n:=(xN.1 k).1;by_cases x:j<i
   ·rw[l j x] at J;cases J
   ·by_cases e:j=i
    ·exact e
    ·have o:=wO.1 F j (xG.2 n);simp only[wZ,wW] at o;rcases o with o|o
     ·omega
     ·obtain⟨Y,y,Z,z,A,B⟩:=Region.waitsFor_spec o;have:Y=X:=wP (y.symm.trans k);subst this;have K:=m Z z A;have g4:=p (j-1) (by omega) (by omega);rw[B,getD_both g4] at K;cases K
  subst v;have k:ops[j]? =some ops[j]:=by simp [d]
  rw[Aac (by simpa using d)] at g;simp only[Array.getElem_toList] at g;have M:=λa w=>RP F G c (j+1) (b.setIfInBounds j true) a w (by omega) (by omega) (by simpa using q)
   (λi H=>by
    by_cases e:i=j
    ·subst e;have:i<b.size:=by omega
     simp [yG,yH,this]
    ·rw[getD_set_ne true (by omega)];exact l i (by omega))
   (λi H C=>by rw[getD_set_ne true (by omega)];exact p i (by omega) C)
  unfold wpOp;simp only[k];unfold wpList at g;split
  ·rename_i D;rw[wG D] at g;exact g.imp (Oper.wp_mono M) id
  ·rename_i D;rw[wF D] at g;exact M _ _ g
structure tV (B:World) (h0:A4) (n:FN) (m:SM) (ops:Array Oper) (kk:Nat) (R:AR) (listed:Array Bool) (a:Act) (w:World):Prop where
 ex:∃h,Wd B h w∧HS h0 h∧Fr n a m∧∀i,i<kk→listed.getD i false=true→∃d v,HW ops i=some d∧a.tmps[d]? =some v∧R i v h
def Fr.same {n:FN}{a b:Act}{d:Nat}{v:Value}{l k:SM}(hd:d<n.1) (h:Fr n a l) (h':Fr n b ((d,v)::k)) (m:∀i u,i≠d→a.tmps[i]? =some u→lk ((d,v)::k) i=some u):b=a.put (some d) v:=by
 obtain⟨t,ds⟩:=a;obtain⟨t',c⟩:=b;have o:ds=n.2:=h.dfr;have p:c=n.2:=h'.dfr;subst o;subst p;have s:t.size=n.1:=h.siz;have w:t'.size=n.1:=h'.siz;simp only[Act.put,Act.mk.injEq,and_true];apply Array.ext_getElem?;intro i;rw[yH];by_cases e:d=i
 ·subst e;rw[wG rfl,wG (by omega)];exact h'.at_ d v (by simp [lk])
 ·rw[wF e];cases g:t[i]? with
  |some u=>exact h'.at_ i u (m i u (λq=>e q.symm) g)
  |none=>
   have:t.size≤i:=by
    rcases xB i t.size with j|j
    ·rw[Aak j] at g;cases g
    ·exact j
   exact Array.getElem?_eq_none (by omega)
def Uf {a:Array Bool}{kk:Nat}(o:kk≤a.size) (k:∀i,i<kk→a.getD i true=true) (l:∀i,kk≤i→i<a.size→a.getD i true=false):kk+TF a=a.size:=by
 have e:a.toList=a.toList.take kk++a.toList.drop kk:=(zD _ _).symm;unfold TF;rw[e,List.count_append];have m:(a.toList.take kk).count false=0:=by
  rw[List.count_eq_zero];intro g;obtain⟨i,j,d⟩:=yZ.1 g;have c:i<kk∧i<a.size:=by simp at j;omega
  have:=k i c.1;rw[List.getElem_take] at d;simp [c.2] at this;simp [this] at d
 have n:(a.toList.drop kk).count false=(a.toList.drop kk).length:=by
  rw[List.count_eq_length];intro b g;obtain⟨i,j,d⟩:=yZ.1 g;have c:kk+i<a.size:=by simp at j;omega
  have:=l (kk+i) (by omega) c;rw[List.getElem_drop] at d;simp [c] at this;simp [this] at d;exact d.symm
 rw[m,n];simp;omega
def MN {R:AR}{h:A4}{K:SM→Prop}{n:FN}:∀(k:List (Nat×Nat)) (fr:SM),PA R h K k fr→(∀p∈k,∃v,a.tmps[p.2]? =some v∧R p.1 v h)→Fr n a fr→∃c,K c∧Fr n a c
 |[],fr,l,_,g=>⟨fr,l,g⟩
 |(j,d)::k,fr,l,q,g=>by
  obtain⟨v,s,t⟩:=q (j,d) (by simp);refine MN k _ (l v t) (λw m=>q w (by simp [m])) ⟨g.dfr,g.siz,λi u b=>?_⟩;simp only[lk] at b;cases o:Nat.beq d i with
  |true=>
   rw[o] at b;simp only[wD,xO] at b;have:=wQ o;subst this;subst b;exact s
  |false=>rw[o] at b;simp only[wE] at b;exact g.at_ i u b
def XA {m:SM}{i:Nat}{v:Value}(h:lk m i=some v):i∈m.map (·.1):=by
 induction m with
 |nil=>simp [lk] at h
 |cons e r b=>
  obtain⟨j,u⟩:=e;simp only[lk] at h;cases a:Nat.beq j i with
  |true=>have:=wQ a;subst this;simp
  |false=>rw[a] at h;simp only[wE] at h;simp [b h]
def OK {n:FN}{fr:SM}{k d:Nat}(c:Fr n a fr) {v:Value}(b:HW ops k=some d) (i:lk fr d=some v):yielded ops a.tmps k=yb v:=by
 have j:=c.at_ d v i;unfold yielded;unfold HW at b;simp only[b,wC,j];cases v<;>rfl
def fU {B:World}{h0:A4}{kk:Nat}{n:FN}{m:SM}{R:AR}(W:kk≤ops.size) (hb:Oe ops=true)
  (J:kk=ops.size∨(Region.sinkB .any ops kk=true∧Region.chainB .any ops kk=true))
  (ad:fC ops kk n (m.map (·.1))=true)
  (X:∀i v h h',HS h0 h→HS h h'→R i v h→R i v h')
  (step:∀i o d,i<kk→ops[i]? =some o→o.dst=some d→∃ps,UU ops o ps=true∧U7 P ops Q B n m h0 R i o d ps)
  (ae:∀a w h,Wd B h w→HS h0 h→Fr n a m→(∀i,i<kk→∃d v,HW ops i=some d∧a.tmps[d]? =some v∧R i v h)→wpList P ops Q (ops.toList.drop kk) a w):
  ∀(q:Nat) (c:Array Bool) (a:Act) (w:World),TF c=q→HeadInv .any ops kk c→tV B h0 n m ops kk R c a w→wpAny P .any ops Q q c a w:=by
 intro q
 induction q with
 |zero=>
  intro c a w K k ai;have l:∀i,c.getD i true=true:=λi=>Tg K;obtain⟨h,g1,g2,F,g4⟩:=ai.ex;have hk:kk=ops.size:=by
   rcases Abc W with h|h
   ·have y:=k.tail kk (wV _) h;have G:=l kk;rw[y] at G;cases G
   ·exact h
  have hf:=ae a w h g1 g2 F λi z=>g4 i z (by
   have G:=l i;have:i<c.size:=by rw[k.size];omega
   simpa [this] using G)
  rw[zN (by simp;omega)] at hf;exact⟨Qf λi _=>l i,hf⟩
 |succ q ih=>
  intro c a w K k ai;obtain⟨h,g1,g2,F,g4⟩:=ai.ex;by_cases l:∀i,i<kk→c.getD i true=true
  ·
   have hf:=ae a w h g1 g2 F λi z=>g4 i z (by
    have G:=l i z;have:i<c.size:=by rw[k.size];omega
    simpa [this] using G)
   have a3:kk<ops.size:=by
    rcases Abc W with h|h
    ·exact h
    ·exfalso;have Y:∀b∈c.toList,b=true:=by
      intro b A;obtain⟨i,z,rfl⟩:=yZ.1 A;have H:i<c.size:=by simpa using z
      have:=l i (by have:=k.size;omega);simpa [H] using this
     have:TF c=0:=by
      unfold TF;rw[List.count_eq_zero];intro hm;have:=Y _ hm;cases this
     omega
   rcases J with hc|⟨_,hc⟩
   ·omega
   ·refine RP hc hb (q+1) kk c a w (wV _) ?_ k.size l (λj M Z=>k.tail j M Z) hf;have:=Uf (by rw[k.size];exact W) l (λj M Z=>k.tail j M (by rw[←k.size];exact Z));rw[k.size] at this;omega
  ·obtain⟨k0,ar,af⟩:∃k0,k0<kk∧c.getD k0 true=false:=by
    apply Abd;intro au;refine l λi z=>?_;cases hl:c.getD i true with
    |true=>rfl
    |false=>exact absurd ⟨i,z,hl⟩ au
   obtain⟨i0,_,av,_⟩:=L6 hb k.size (show k0<ops.size by omega) af;refine⟨λh0=>absurd (h0▸av) (by simp),λi z=>?_⟩;obtain⟨aw,o,ho,ag⟩:=mem_ready.1 z;have ah:i<ops.size:=(xN.1 ho).1;have aa:i<kk:=by
    rcases xB i kk with h|h
    ·exact h
    ·rcases J with hc|⟨hs,hc⟩
     ·omega
     ·exact absurd z (tail_waits hs hc (by omega) k _ k0 rfl ar af i h)
   have s:=wO.1 ad i (xG.2 aa);cases hd:HW ops i with
   |none=>rw[hd] at s;cases s
   |some d=>
   rw[hd] at s;simp only[wI,xC,wO,xG,wZ] at s;obtain⟨⟨aj,ak⟩,ax⟩:=s;have al:d+1≤n.1:=by simpa [Nat.blt] using aj
   have U:d<n.1:=al;have am:o.dst=some d:=by unfold HW at hd;rw[ho] at hd;exact hd
   have I:∀j∈Sb o,∃d v,HW ops j=some d∧a.tmps[d]? =some v∧R j v h:=by
    intro j M;obtain⟨e,he,rfl⟩:=xR.1 M;obtain⟨ay,an⟩:=zP.1 he;have ao:e∈o.after:=by simpa using ay
    have y:=ag e ao an;have h4:=wO.1 hb i (xG.2 ah);rw[ho] at h4;simp only[Aaa,xJ,Aab] at h4;have h6:=h4 e ao;simp only[an,xE,yU,wW] at h6;exact g4 e.on (by omega) y
   obtain⟨ps,az,ab⟩:=step i o d aa ho am;have C:∀p∈ps,∃v,a.tmps[p.2]? =some v∧R p.1 v h:=by
    intro p hp;have y:=wO.1 az p hp;simp only[wI] at y;obtain⟨d',v,q1,q2,q3⟩:=I p.1 (by simpa using y.1);have G:=y.2;rw[q1] at G;have:p.2=d':=wQ (by simpa using G);exact⟨v,by rw[this];exact q2,q3⟩
   obtain⟨fr,hK,ac⟩:=MN (a:=a) (n:=n) _ _ (ab (Jx a) h g2) C ⟨F.dfr,F.siz,λi v z=>by simp [lk] at z⟩;have t:Fr n a (fr++(m++Jx a)):=ac.append (F.append F.full);have a0:∀i u,a.tmps[i]? =some u→lk (fr++(m++Jx a)) i=some u:=by
    intro i u K;have hl:lk (Jx a) i=some u:=by
     have:i<a.tmps.size:=(xN.1 K).1;rw[Rx this];simp [yG,K]
    have a1:∃u',lk (fr++(m++Jx a)) i=some u':=by
     rw[K0,K0,hl];cases lk fr i with
     |some x=>exact⟨x,by simp⟩
     |none=>cases lk m i with
      |some x=>exact⟨x,by simp⟩
      |none=>exact⟨u,by simp⟩
    obtain⟨u',ap⟩:=a1;have:=t.at_ i u' ap;rw[K] at this;rw[ap,←wP this]
   have next:∀v V h',Wd B h' V→HS h h'→R i v h'→wpAny P .any ops Q q (c.setIfInBounds i true) (a.put (some d) v) V:=by
    intro v V h' a2 aq hr;refine ih _ _ _ (by have:=Nz aw;omega) (k.set z aa) ⟨h',a2,g2.trans aq,?_,λj M hl=>?_⟩
    ·have hp:=F.put aj v;refine⟨hp.dfr,hp.siz,λi' u H=>hp.at_ i' u ?_⟩;have D:Nat.beq d i'=false:=by
      cases A:Nat.beq d i' with
      |false=>rfl
      |true=>
       have:=wQ A;subst this;have y:=XA H;rw[←wS] at y;rw[y] at ak;cases ak
     simp only[lk,D,wE];exact H
    ·by_cases e:i=j
     ·subst e;refine⟨d,v,hd,?_,hr⟩;simp only[Act.put,yH];have:=F.siz;simp [this,U]
     ·rw[getD_set_ne false e] at hl;obtain⟨dj,vj,q1,q2,q3⟩:=g4 j M hl;refine⟨dj,vj,q1,?_,X _ _ _ _ g2 aq q3⟩;have y:=ax j M;rw[q1] at y;have D:d≠dj:=by
       rcases y with y|y
       ·exact absurd (wQ y) e
       ·intro e';subst e';simp at y
      simp only[Act.put,yH];rw[wF D];exact q2
   have conv:∀a' V,KS B n d (R i) h (fr++(m++Jx a)) a' V→wpAny P .any ops Q q (c.setIfInBounds i true) a' V:=by
    rintro a' V ⟨v,h',f1,f2,f3,f4⟩;have:=Fr.same U t f1 λi u z K=>by
     have D:Nat.beq d i=false:=by
      cases A:Nat.beq d i with
      |false=>rfl
      |true=>exact absurd (wQ A).symm z
     simp only[lk,D,wE];exact a0 i u K
    subst this;exact next v V h' f2 f3 f4
   unfold wpOp;simp only[ho];cases hg:o.guard with
   |none=>
    rw[hg] at hK;rw[wG (by simp [Region.wanted,hg])];exact(LC hg (hK a w t g1)).imp (Oper.wp_mono conv) id
   |some gb=>
    obtain⟨g,b⟩:=gb;rw[hg] at hK;obtain⟨dg,q1,hK⟩:=hK;rcases hK with ⟨k1,k2⟩|⟨v,k1,k2,k3⟩
    ·have hy:yielded ops a.tmps g=some b:=OK ac q1 k1;rw[wG (by simp [Region.wanted,hg,hy])];exact(RL (LC rfl (k2 a w t g1))).imp (Oper.wp_mono conv) id
    ·have hy:yielded ops a.tmps g≠some b:=by rw[OK ac q1 k1];exact k2
     rw[wF (by simp [Region.wanted,hg,hy]),am];exact next undef w h g1 (HS.refl h) k3
def AT (P:Program) (ops:Array Oper) (Q:Exit→Act→World→Prop) (B:World) (n:FN) (m:SM) (h0:A4) (R:AR):Nat→List Oper→List (List (Nat×Nat))→Prop
 |i,o::l,a::pss=>(match o.dst with|some d=>U7 P ops Q B n m h0 R i o d a|none=>False)∧AT P ops Q B n m h0 R (i+1) l pss
 |_,_,_=>True
def W6 (ops:Array Oper) (l:List Oper) (pss:List (List (Nat×Nat))):Bool:=Nat.beq l.length pss.length&&(l.zip pss).all λp=>UU ops p.1 p.2
def AT.at_ {B:World}{n:FN}{m:SM}{h0:A4}{R:AR}:∀{l:List Oper}{pss:List (List (Nat×Nat))}{k i:Nat}{o:Oper}{d:Nat},AT P ops Q B n m h0 R k l pss→W6 ops l pss=true→l[i]? =some o→o.dst=some d→∃b,UU ops o b=true∧U7 P ops Q B n m h0 R (k+i) o d b
 |[],_,_,_,_,_,_,_,h,_=>by simp at h
 |_::_,[],_,_,_,_,_,a,_,_=>by simp [W6] at a
 |j::l,b::pss,k,0,o,d,c,a,g,hd=>by
  simp only[zI,xO] at g;subst g;simp only[AT,hd] at c;simp only[W6,List.zip_cons_cons,zW,wI] at a;exact⟨b,a.2.1,c.1⟩
 |j::l,b::pss,k,i+1,o,d,c,a,g,hd=>by
  simp only[zJ] at g;simp only[AT] at c;simp only[W6,List.zip_cons_cons,zW,wI,Aaz] at a;have:=AT.at_ (l:=l) (pss:=pss) (k:=k+1) (i:=i) c.2 (by simp only[W6,wI];exact⟨by have:=a.1;simpa using this,a.2.2⟩) g hd;rw[show k+(i+1)=k+1+i by omega];exact this
end
def AT.cons {P:Program}{ops:Array Oper}{Q:Exit→Act→World→Prop}{B:World}{n:FN}{m:SM}{h0:A4}{R:AR}{i:Nat}{o:Oper}{l:List Oper}{a:List (Nat×Nat)}{pss:List (List (Nat×Nat))}{d:Nat}(hd:o.dst=some d) (h:U7 P ops Q B n m h0 R i o d a) (t:AT P ops Q B n m h0 R (i+1) l pss):AT P ops Q B n m h0 R i (o::l) (a::pss):=by
 simp only[AT,hd];exact⟨h,t⟩
def SN (S:Nat→Prop) (h0 h:A4):Nat→Prop:=λb=>S b∨(h0.size≤b∧b<h.size)
def SN.mono {S h0 h h'}(d:∀b,S b→b<h0.size) (g:HS h0 h) (a:HS h h'):CX (SN S h0 h) h (SN S h0 h') h':=
 ⟨λb c=>c.imp_right λx=>⟨x.1,wX x.2 a.siz⟩,λb c=>a.same b (c.elim (λx=>wX (d b x) g.siz) (·.2)),a.siz⟩
def SN.st {S L h0 h}(c:St S L h0) (o:HS h0 h):St (SN S h0 h) L h:=by
 refine⟨λb a=>a.elim (λx=>wX (c.1 b x) o.siz) (·.2),?_⟩;refine Sp.ext c.2 (λb x=> .inl x) (λb a=>o.same b (a.elim (c.1 b) (·.1))) λb a=>⟨wX a.1 o.siz,λx=>x.elim a.2 λy=>by omega⟩
def SN.ext {S h0 h}(a:∀b,S b→b<h0.size) (o:HS h0 h):CX S h0 (SN S h0 h) h:=⟨λ_ x=> .inl x,λb c=>o.same b (a b c),o.siz⟩
section
variable {P:Program}{ex:List (Nat×AP)}{RR N:AP}{cs:List Code}{B:World}{h:A4}{n:FN}{m m0:SM}{S:Nat→Prop}{L:List HP}
def MJ {l:List Oper}{id:Nat}(kk:Nat) (R:AR) (pss:List (List (Nat×Nat))) (I:List (Nat×Nat)) (Q:P.follows .mixedOrders=true) (J:rS l.toArray kk=true) (K:List Nat) (u:m.map (·.1)=K) (c:fC l.toArray kk n K=true)
  (y:W6 l.toArray (l.take kk) pss=true) (z:(I.all λp=>Nat.blt p.1 kk&&(HW l.toArray p.1).any (Nat.beq p.2 ·))=true) (g:Ud m0 m)
  (b:∀i v k s,HS h k→HS k s→R i v k→R i v s)
  (step:AT P l.toArray (Qx ex RR (W P ex RR cs N)) B n m h R 0 (l.take kk) pss)
  (A:∀h',HS h h'→PA R h' (λfr=>LF P l.toArray (Qx ex RR (W P ex RR cs N)) (l.drop kk) B h' n (fr++m)) I []):WF P ex RR (.region id l.toArray true::cs) N B h n m0:=by
 intro a w U V;subst u;simp only[rS,wI,wZ] at J;obtain⟨⟨k,s⟩,X⟩:=J;have C:kk≤l.toArray.size:=zX k;refine λrd D=>RU D OD Q (fU (kk:=kk) (R:=R) (B:=B) (h0:=h) (n:=n) (m:=m) C X (s.imp (λe=>wQ e) λx=>x) c b (λi o d F Y hd=>?_) (λa w h' Z g2 G g4=>?_) _ _ _ _ ?_ ⟨by simp,λj oj _ q=>(by rw[getD_replicate_false] at q;cases q),λt _ ht=>getD_in (by simpa using ht) (getD_replicate_false _ _)⟩ ⟨h,V.drew,HS.refl h,U.sub g,λi _ q=>(by rw[getD_replicate_false] at q;cases q)⟩)
 ·have H:(l.take kk)[i]? =some o:=by rw[yR F];simpa using Y
  have:=AT.at_ step y H hd;rw[xM] at this;exact this
 ·obtain⟨fr,k1,k2⟩:=MN (a:=a) (n:=n) _ _ (A h' g2) (λp hp=>by
   have e:=wO.1 z p hp;simp only[wI] at e;have e1:p.1<kk:=(by simpa [Nat.blt] using e.1:p.1+1≤kk)
   obtain⟨d,v,q1,q2,q3⟩:=g4 p.1 e1;have M:=e.2;rw[q1] at M;have:p.2=d:=wQ (by simpa using M);exact⟨v,by rw[this];exact q2,q3⟩) ⟨G.dfr,G.siz,λi v F=>by simp [lk] at F⟩
  exact k1 a w (k2.append G) Z
 ·unfold TF;rw[Abe];simp
end
def B7 {P:Program}{ops:Array Oper}{Q:Exit→Act→World→Prop}{B:World}{n:FN}{d:Nat}{R:Value→A4→Prop}{h h':A4}{m:SM}{v:Value}(o:HS h h') (r:R v h'):LF P ops (Exit.then (KS B n d R h m) Q) [] B h' n ((d,v)::m):=
 λ_ _ a b=>⟨v,h',a,b,o,r⟩
def Fz (a:Nat→Prop) (h:A4):HP where
 holds:=λ_ F h'=>(∀b,F b↔a b)∧∀b,a b→h'[b]? =h[b]?
 loc:=λ⟨c,g⟩ _ e=>⟨c,λb d=>(e b (.inr ((c b).2 d))).trans (g b d)⟩
def tU (S:Nat→Prop) (h:A4):HP:=Fz (λb=>b<h.size∧¬S b) h
def St.fz {S L h}(a:St S L h):St S [tU S h] h:=⟨a.1,_,⟨λ_=>yC,λ_ _=>rfl⟩,λb c=>c,trivial⟩
def Fz.done {S d:Nat→Prop}{h0 h a:A4}(o:HS h0 h) (e:CX (SN S h0 h) h d a) (i:St d [tU (SN S h0 h) h] a):HS h a∧CX d a (SN S h0 a) a:=by
 obtain⟨F,⟨k,l⟩,m,_⟩:=i.2;refine⟨⟨e.siz,λb c=>?_⟩,λb c=>?_,λ_ _=>rfl,wV _⟩
 ·rcases Classical.em (SN S h0 h b) with n|n
  ·exact e.same b n
  ·exact l b ⟨c,n⟩
 ·rcases xB b h.size with n|n
  ·rcases Classical.em (SN S h0 h b) with j|j
   ·exact j.imp_right λx=>⟨x.1,i.1 b c⟩
   ·exact absurd c (m b ((k b).2 ⟨n,j⟩)).2
  ·exact .inr ⟨yI o.siz n,i.1 b c⟩
def Y5 (sz:Nat):Nat→List (Nat×Value)→Bool
 |_,[]=>true
 |k,(i,v)::r=>Nat.beq i k&&Nat.beq v.cells.toList.length sz&&Y5 sz (k+1) r
def Ux {sz len:Nat}:∀(b:List (Nat×Value)) (k:Nat) (pre a:List Value),Y5 sz k b=true→pre.length=k*sz→a.length=b.length*sz→k+b.length≤len→
  N3 (VO sz len) (pre++a) b=some (pre++(b.map λp=>p.2.cells.toList).flatten)
 |[],k,pre,a,_,_,d,_=>by
  have:a=[]:=List.eq_nil_of_length_eq_zero (by simpa using d);subst this;simp [N3]
 |(i,v)::r,k,pre,a,h0,n,d,j=>by
  simp only[Y5,wI] at h0;obtain⟨⟨g,l⟩,o⟩:=h0;have g:=wQ g;subst g;have m:=wQ l;simp only[Aaz,yT] at d;have q:i<len:=by simp at j;omega
  have s:(VO sz len)[i]? =some (i*sz,sz):=by simp [VO,q]
  simp only[N3,s];have t:(Nat.beq v.cells.toList.length sz&&Nat.ble (i*sz+sz) (pre++a).length)=true:=by
   rw[l,zE];exact Nat.ble_eq_true_of_le (by rw[yA];omega)
  rw[t];simp only[wD];have c:JN (pre++a) (i*sz) v.cells.toList=(pre++v.cells.toList)++a.drop sz:=by
   unfold JN;rw[←n,Aam,←zK,List.drop_left,m]
  rw[c,Ux r (i+1) (pre++v.cells.toList) (a.drop sz) o (by rw[yA,m,yT];omega) (by rw[zV];omega) (by simp at j;omega)];simp
def Xr {sz:Nat}:∀(a:List (Nat×Value)) (k:Nat),Y5 sz k a=true→∀p∈a,p.1<k+a.length
 |[],_,_,p,b=>by cases b
 |(i,v)::r,k,h0,p,b=>by
  simp only[Y5,wI] at h0;obtain⟨⟨c,g⟩,d⟩:=h0;have c:=wQ c;rcases wN.1 b with h|h
  ·subst h;simp;omega
  ·have:=Xr r (k+1) d p h;simp;omega
def IB {P:Program}{ops:Array Oper}{Q:Exit→Act→World→Prop}{n:FN}{m:SM}{c:List Oper}{d:Nat}{ty:TypeId}{j:String}{w:Array Edge}{B:World}{h:A4}{S:Nat→Prop}{L:List HP}
  {T e sz l len:Nat} {z cs:List Value} {a:Array (Nat×Operand)} {g:List (Nat×Value)} (u:RE P T=some (e,sz,l,z)) (o:a.toList.mapM (eZ m)=some g)
  (v:Y5 sz 0 g=true) (q:Nat.beq g.length len=true) (x:(g.map λp=>p.2.cells.toList).flatten=cs) (s:Nat.blt 0 len=true) (t:Nat.ble (len*sz) 16777216=true) (hd:Nat.blt d n.1=true) (y:St S L h)
  (k:∀b h',St S (Bx b e cs::L) h'→CX S h S h'→LF P ops Q c B h' n ((d,.slice (some ⟨b,0,none⟩) len len)::m)):LF P ops Q (⟨some d,.buildSlice T len a,ty,j,w,none⟩::c) B h n m:=by
 have q:=wQ q;subst q;obtain⟨i,C,_,_,_,_,_,_,A,_⟩:=Mx u;refine tS u o (cs:=cs) ?_ s t (λp o=>by have:=Xr g 0 v p o;omega) hd y k;have:=Ux (len:=g.length) g 0 [] (List.replicate g.length z).flatten v (by simp) (by simp [A]) (by omega);rw[yD,yD,x] at this;exact this
def oL {α}(S:Nat→Prop) (h:A4) (r:BX α) (s:Value) (xs:List α):Prop:=
 (s= .slice none 0 0∧xs=[])∨∃(a:Addr) (sc:Nat) (news:List Value),s= .slice (some a) xs.length sc∧xs.length≤maxLen∧NL S h r news xs∧∀j u,news[j]? =some u→Ji h (a.add j)=some u
def Um {α}{S:Nat→Prop}{h:A4}{r:BX α}(b:Nat):∀(l:List α) (o:Nat),(∀i x,l[i]? =some x→Pt S h r (.pointer (some ⟨b,o+i*r.sz,none⟩)) x)→∃news,NL S h r news l∧∀j u,news[j]? =some u→Ji h ⟨b,o+j,none⟩=some u
 |[],_,_=>⟨[],rfl,λj u c=>by simp at c⟩
 |x::l,o,k=>by
  obtain⟨cs,⟨a,n,_,v,p⟩,m⟩:=k 0 x rfl;obtain⟨news,q,s⟩:=Um b l (o+r.sz) λi y t=>by
   have:=k (i+1) y (by simpa using t);rwa [yT,Nat.add_comm (i*r.sz),←Nat.add_assoc] at this
  have w:=r.len m;refine⟨cs++news,⟨cs,news,rfl,m,q⟩,λj u c=>?_⟩;have g:a=⟨b,o,none⟩:=by simpa using n.symm
  subst g;by_cases d:j<cs.length
  ·rw[List.getElem?_append_left d] at c;rw[←c];exact p j d
  ·rw[List.getElem?_append_right (by omega)] at c;have:=s _ u c;rw[show o+r.sz+(j-cs.length)=o+j by omega] at this;exact this
def Sl.src {α}{S:Nat→Prop}{h:A4}{r:BX α}{s:Value}{xs:List α}(k:Sl S h r s xs):oL S h r s xs:=by
 rcases k with k|⟨a,cap,h1,h4,h5,h6⟩
 ·exact .inl k
 ·cases xs with
  |nil=>exact .inr ⟨a,cap,[],h1,wL _,rfl,λj u g=>by simp at g⟩
  |cons x xs=>
   have c:=(h6 0 x rfl).1;obtain⟨b,o,s⟩:=a;simp only at c;subst c;obtain⟨news,l,m⟩:=Um b (x::xs) o λi y n=>(h6 i y n).2;refine .inr ⟨_,cap,news,h1,yI h4 h5,l,λj u g=>?_⟩;have d:(⟨b,o,none⟩:Addr).add j=⟨b,o+j,none⟩:=by unfold Addr.add;split<;>simp_all
   rw[d];exact m j u g
def St.src {α}{S:Nat→Prop}{h:A4}{r:BX α}{T:Nat}{s:Value}{xs:List α}{L:List HP}(l:St S L h) (m:OS r T s xs∈L):oL S h r s xs:=by
 obtain⟨F,k,n⟩:=l.get m;rcases k with ⟨⟨d,c⟩,k2,_⟩|⟨g,cap,cur,c,k2,k3,k4,k5,k6,k7⟩
 ·subst k2;cases d with
  |none=>exact .inl ⟨c,rfl⟩
  |some d=>exact .inr ⟨d,0,[],c,wL _,rfl,λj u a=>by simp at a⟩
 ·refine .inr ⟨_,cap,_,c,yI k4 k5,k7,λj u a=>?_⟩;have b:(⟨g,0,none⟩:Addr).add j=⟨g,j,none⟩:=by unfold Addr.add;split<;>simp_all
  have i:=(wU.1 a).1;simp only[xT] at i;rw[yR (by omega)] at a;rw[b];simp only[Ji,k3,Option.isSome_none,yL,if_false];simpa using a
section
variable {P:Program}{ops:Array Oper}{Q:Exit→Act→World→Prop}{n:FN}{m:SM}{rest:List Oper}
variable {d:Nat}{ty:TypeId}{pos:String}{af:Array Edge}{X Y:Operand}{B w:World}{h:A4}{S:Nat→Prop}{L L2:List HP}{v:Value}
def WC {α}{r:BX α}{T ty e sz a:Nat}{z:List Value}{v s:Value}{l xs:List α}{F:Nat→Prop}(p:RE P T=some (e,sz,a,z)) (j:r.sz=sz)
  (c:oL S h r s xs) (m:l.length+xs.length≤maxLen) (n:Mb (l.length+xs.length) a) (q:Wd B h w) (k:(OS r e v l).holds S F h) (A:∀b,S b→b<h.size∧¬F b):
  ∃t u h' x,(Builtin.append_ #[T,T] ty #[v,s]).run P w= .ok t u∧Wd B h' u∧h.size≤h'.size∧(OS r e t (l++xs)).holds S x h'∧(∀b,x b→F b∨(h.size≤b∧b<h'.size))∧∀b,b<h.size→¬F b→h'[b]? =h[b]? :=by
 rcases c with ⟨rfl,rfl⟩|⟨sd,sc,news,d,_,hn,hc⟩
 ·obtain⟨i,G,d,y,H,I,J,K,M,Q⟩:=Mx p;rw[xK];refine⟨v,w,h,F,?_,q,wV _,k,λb C=> .inl C,λ_ _ _=>rfl⟩;rcases k with ⟨⟨D,rfl⟩,rfl,hF⟩|⟨g,cap,cur,rfl,hF,hg,hlc,hcm,hcs,hrd⟩
  ·cases D<;>simp [Builtin.append_,run_underlying d,sizeOf,typeInfo,y,Builtin.lenOf,Builtin.firstCells,loadCells,loadCellsFrom,storeCells]
  ·have o:l.length≤cap:=hlc;simp [Builtin.append_,run_underlying d,sizeOf,typeInfo,y,Builtin.lenOf,Builtin.firstCells,loadCells,loadCellsFrom,storeCells,o]
 ·exact VJ p j d hn hc m n q k A
def lC {α}{r:BX α}{T e sz y:Nat}{z:List Value}{v s:Value}{l xs:List α}{LL:Value→List HP}{a:Act}(g:Fr n a m) (hx:CF m X=some v) (hy:CF m Y=some s) (he:RE P T=some (e,sz,y,z)) (A:r.sz=sz)
  (t:oL S h r s xs) (C:l.length+xs.length≤maxLen) (D:Mb (l.length+xs.length) y) (hd:Nat.blt d n.1=true) (hw:Wd B h w) (u:St S L h) (rp:∀i,Np L (OS r e v l) (OS r e i (l++xs)) (LL i))
  (k:∀i a w h',Fr n a ((d,i)::m)→Wd B h' w→St S (LL i) h'→CX S h S h'→wpList P ops Q rest a w):
  wpList P ops Q (⟨some d,.call ⟨.builtin .append,#[X,Y],#[T,T]⟩,ty,pos,af,none⟩::rest) a w:=by
 refine wpList_plain rfl λK hK=>?_;unfold Oper.wp;obtain⟨M,p,_⟩:=(rp v).pick;obtain⟨F,g1,g2,_⟩:=Sp.pick p u.2;obtain⟨i,w',h',F',e1,e2,e3,e4,e5,e6⟩:=WC (ty:=ty) he A t C D hw g1 λb c=>⟨u.1 b c,λg=>(g2 b g).2 c⟩
 have H:(execOp a.eval ⟨some d,.call ⟨.builtin .append,#[X,Y],#[T,T]⟩,ty,pos,af,none⟩).run P w= .ok (.value i) w':=by
  simp [execOp,resolve,invoke,builtin,g.eval hx,g.eval hy,e1]
 rw[H];obtain⟨M,p,q⟩:=(rp i).pick;have I:St S (LL i) h'∧CX S h S h':=by
  obtain⟨G,aa,j,ab⟩:=Sp.pick p u.2;obtain⟨ai,aj,J,ac,U,ad,o,ae,V,W⟩:=WC (ty:=ty) he A t C D hw aa λb c=>⟨u.1 b c,λg=>(j b g).2 c⟩
  rw[e1] at U;injection U with ev ew
  subst ev;subst ew;have hh:J=h':=by rw[←ad.heap,e2.heap]
  subst hh;have Z:∀b,S b→J[b]? =h[b]? :=λb c=>W b (u.1 b c) λg=>(j b g).2 c;refine⟨⟨λb c=>wX (u.1 b c) o,Qm q ⟨ac,ae,λb c=>?_,?_⟩⟩,λ_ x=>x,Z,o⟩
  ·rcases V b c with g|⟨hl,hu⟩
   ·exact⟨wX (j b g).1 o,(j b g).2⟩
   ·exact⟨hu,λag=>absurd (u.1 b ag) (by omega)⟩
  ·refine Sp.ext ab (λ_ x=>x) (λb c=>?_) λb c=>⟨⟨wX c.1.1 o,c.1.2⟩,λah=>?_⟩
   ·rcases c with c|c
    ·exact Z b c
    ·exact W b c.1.1 c.2
   ·rcases V b ah with g|⟨hl,_⟩
    ·exact c.2 g
    ·exact absurd c.1.1 (by omega)
 exact hK _ _ (k i _ w' h' (g.put hd _) e2 I.1 I.2)
def Lt {α}{r:BX α}{T e sz b:Nat}{z:List Value}{v s:Value}{l xs:List α}{u:Value→List HP}(y:CF m X=some v) (A:CF m Y=some s) (C:RE P T=some (e,sz,b,z)) (j:r.sz=sz)
  (g:oL S h r s xs) (i:Nat.blt 0 b=true) (o:room (l.length+xs.length) b=true) (hd:Nat.blt d n.1=true) (p:St S L h) (D:∀c,Np L (OS r e v l) (OS r e c (l++xs)) (u c))
  (k:∀c h',St S (u c) h'→CX S h S h'→LF P ops Q rest B h' n ((d,c)::m)):LF P ops Q (⟨some d,.call ⟨.builtin .append,#[X,Y],#[T,T]⟩,ty,pos,af,none⟩::rest) B h n m:=λa w q t=>
 have F:1≤b:=by simpa [Nat.blt] using i
 have G:l.length+xs.length≤(l.length+xs.length)*b:=Nat.le_mul_of_pos_right _ F;have x:=SY o;have H:=x.le
 lC q y A C j g (by unfold maxLen;omega) x hd t p D λc a w h' q t p e=>k c h' p e a w q t
end
def F5 (k:IntKind) (n:Int):k.has (k.wrap n):=by
 cases k<;>simp only[IntKind.has,IntKind.wrap,IntKind.min,IntKind.max,IntKind.bits,IntKind.signed]<;>simp<;>(try split)<;>omega
def Td (k:IntKind) {n:Int}(h:k.has n) (j:Nat):k.has (n.fdiv (2^j)):=by
 have c:(0:Int)<2^j:=Int.pow_pos (by decide);have l:k.min≤0∧0≤k.max:=by cases k<;>decide
 have e:n.fdiv (2^j)=n/2^j:=Int.fdiv_eq_ediv_of_nonneg _ (Int.le_of_lt c);rw[e];obtain⟨a,b⟩:=h;by_cases h0:0≤n
 ·have d:=Int.ediv_nonneg h0 (Int.le_of_lt c);have g:=Int.ediv_le_self (2^j) h0;exact⟨by omega,by omega⟩
 ·have d:n/2^j≤0:=by
   have:=Int.ediv_le_ediv c (show n≤0 by omega);simpa using this
  have g:n≤n/2^j:=by
   have i:(1:Int)≤2^j:=c;rw[Int.le_ediv_iff_mul_le c];have:=Int.mul_le_mul_of_nonpos_left (a:=n) (by omega) i;simpa using this
  exact⟨by omega,by omega⟩
def fO (k:IntKind) {n m:Int}(h:k.has n):k.has (n.tmod m):=by
 have i:k.min≤0∧0≤k.max:=by cases k<;>decide
 obtain⟨a,b⟩:=h;by_cases h0:0≤n
 ·have d:0≤n.tmod m:=Int.tmod_nonneg m h0;have g:n.tmod m≤n:=by
   have e:=Int.natAbs_tmod n m;have c:n.natAbs%m.natAbs≤n.natAbs:=Nat.mod_le _ _;omega
  exact⟨by omega,by omega⟩
 ·have d:(-n).tmod m= -(n.tmod m):=Int.neg_tmod n m;have g:0≤(-n).tmod m:=Int.tmod_nonneg m (by omega);have c:(-n).tmod m≤ -n:=by
   have e:=Int.natAbs_tmod (-n) m;have c:(-n).natAbs%m.natAbs≤(-n).natAbs:=Nat.mod_le _ _;omega
  exact⟨by omega,by omega⟩
def VR {n:Int}:IntKind.i64.has n↔AA n:=by
 simp [IntKind.has,IntKind.min,IntKind.max,IntKind.bits,IntKind.signed,AA]
def Jp (o:BinOp) (k:IntKind) (x y:Int):Int:=
 let a:=BitVec.ofInt k.bits x
 let b:=BitVec.ofInt k.bits y
 k.wrap ((match o with| .and=>a&&&b| .or=>a|||b| .xor=>a ^^^ b|_=>a&&& ~~~b).toNat)
def Qq (k:IntKind) (x y:Int):Option Int:=if y=0 then none else some (k.wrap (x.tdiv y))
def UV (x y:Int):Option Int:=if y=0 then none else some (x.tmod y)
def Ea (k:IntKind) (x:Int) (j:Nat):Int:=k.wrap (x*2^(min j k.bits))
def E6 (k:IntKind) (x:Int) (j:Nat):Int:=x.fdiv (2^(min j k.bits))
def RY (y:Int):Option Nat:=if y<0 then none else some y.toNat
def NY {k x y z}(h:Qq k x y=some z):k.has z:=by
 unfold Qq at h;split at h
 ·cases h
 ·cases h;exact F5 _ _
def WH {k:IntKind}{x y z}(a:k.has x) (h:UV x y=some z):k.has z:=by
 unfold UV at h;split at h
 ·cases h
 ·cases h;exact fO k a
def YX (s:ByteArray) (i:Int):Option Int:=if i<0 then none else (s[i.toNat]?).map λb=>(b.toNat:Int)
def SD {s i x}(h:YX s i=some x):IntKind.u8.has x:=by
 unfold YX at h;split at h
 ·cases h
 ·obtain⟨b,_,rfl⟩:=xZ.1 h;have:=b.toNat_lt;simp [IntKind.has,IntKind.min,IntKind.max,IntKind.bits,IntKind.signed];omega
section
variable {P:Program}{ops:Array Oper}{C:World→Prop}{Q:Act→Prop}{n:FN}{m m':SM}{rest:List Oper}
variable {d:Nat}{ty:TypeId}{pos:String}{af:Array Edge}{X Y Z:Operand}{t t1 t2:TypeId}{x y z:Int}{kd kd2:IntKind}{v p:Value}{S:Nat→Prop}{L:List HP}{h:A4}
def Rj {a:BinOp}{u:Value}(b:CF m X=some (.int kd x)) (c:CF m Y=some (.int kd y)) (hd:Nat.blt d n.1=true) (g:∀w,(binOp a t1 (.int kd x) (.int kd y)).run P w= .ok u w)
  (k:QF P ops C Q rest n ((d,u)::m)):QF P ops C Q (⟨some d,.binOp a t1 X Y t2,ty,pos,af,none⟩::rest) n m:=λ_ i=>P5 i b c hd g k
def gM (a:CF m X=some (.int kd x)) (b:CF m Y=some (.int kd y)) (hd:Nat.blt d n.1=true) (k:QF P ops C Q rest n ((d,.int kd (kd.wrap (x+y)))::m)):QF P ops C Q (⟨some d,.binOp .add t1 X Y t2,ty,pos,af,none⟩::rest) n m:=Rj a b hd (λw=>by simp [binOp,Op.intArith]) k
def fZ (a:CF m X=some (.int kd x)) (b:CF m Y=some (.int kd y)) (hd:Nat.blt d n.1=true) (k:QF P ops C Q rest n ((d,.int kd (kd.wrap (x-y)))::m)):QF P ops C Q (⟨some d,.binOp .sub t1 X Y t2,ty,pos,af,none⟩::rest) n m:=Rj a b hd (λw=>by simp [binOp,Op.intArith]) k
def gB (a:CF m X=some (.int kd x)) (b:CF m Y=some (.int kd y)) (hd:Nat.blt d n.1=true) (k:QF P ops C Q rest n ((d,.int kd (kd.wrap (x*y)))::m)):QF P ops C Q (⟨some d,.binOp .mul t1 X Y t2,ty,pos,af,none⟩::rest) n m:=Rj a b hd (λw=>by simp [binOp,Op.intArith]) k
def gL (a:CF m X=some (.int kd x)) (b:CF m Y=some (.int kd y)) (hd:Nat.blt d n.1=true) (k:QF P ops C Q rest n ((d,.int kd (Jp .and kd x y))::m)):QF P ops C Q (⟨some d,.binOp .and t1 X Y t2,ty,pos,af,none⟩::rest) n m:=Rj a b hd (λw=>by simp [binOp,Op.intBits,Jp]) k
def nS (a:CF m X=some (.int kd x)) (b:CF m Y=some (.int kd y)) (hd:Nat.blt d n.1=true) (k:QF P ops C Q rest n ((d,.int kd (Jp .or kd x y))::m)):QF P ops C Q (⟨some d,.binOp .or t1 X Y t2,ty,pos,af,none⟩::rest) n m:=Rj a b hd (λw=>by simp [binOp,Op.intBits,Jp]) k
def SG (b:CF m X=some (.int kd x)) (c:CF m Y=some (.int kd y)) (hd:Nat.blt d n.1=true) (a:Qq kd x y=some z) (k:QF P ops C Q rest n ((d,.int kd z)::m)):QF P ops C Q (⟨some d,.binOp .quo t1 X Y t2,ty,pos,af,none⟩::rest) n m:=by
 unfold Qq at a;split at a
 ·cases a
 ·rename_i h0;cases a;exact Rj b c hd (λw=>by simp [binOp,Op.intDiv,h0]) k
def Yq (b:CF m X=some (.int kd x)) (c:CF m Y=some (.int kd y)) (hd:Nat.blt d n.1=true) (a:UV x y=some z) (k:QF P ops C Q rest n ((d,.int kd z)::m)):QF P ops C Q (⟨some d,.binOp .rem t1 X Y t2,ty,pos,af,none⟩::rest) n m:=by
 unfold UV at a;split at a
 ·cases a
 ·rename_i h0;cases a;exact Rj b c hd (λw=>by simp [binOp,Op.intDiv,h0]) k
def Yu {b:BinOp}{u:Value}(g:CF m X=some (.int kd x)) (i:CF m Y=some (.int kd2 y)) (hd:Nat.blt d n.1=true) (j:∀w,(binOp b t1 (.int kd x) (.int kd2 y)).run P w= .ok u w)
  (k:QF P ops C Q rest n ((d,u)::m)):QF P ops C Q (⟨some d,.binOp b t1 X Y t2,ty,pos,af,none⟩::rest) n m:=λa c=>by
 refine HT c hd (λw _=>?_) k;have l:(eqGuard b t1 X Y (.int kd x) (.int kd2 y)).run P w= .ok () w:=by
  unfold eqGuard;cases b<;>simp
 simp [execOp,c.eval g,c.eval i,l,j]
def Vp {j:Nat}(b:CF m X=some (.int kd x)) (c:CF m Y=some (.int kd2 y)) (hd:Nat.blt d n.1=true) (a:RY y=some j) (k:QF P ops C Q rest n ((d,.int kd (Ea kd x j))::m)):QF P ops C Q (⟨some d,.binOp .shl t1 X Y t2,ty,pos,af,none⟩::rest) n m:=by
 unfold RY at a;split at a
 ·cases a
 ·rename_i h0;cases a;exact Yu b c hd (λw=>by simp [binOp,Op.shift,h0,Ea]) k
def K9 {j:Nat}(b:CF m X=some (.int kd x)) (c:CF m Y=some (.int kd2 y)) (hd:Nat.blt d n.1=true) (a:RY y=some j) (k:QF P ops C Q rest n ((d,.int kd (E6 kd x j))::m)):QF P ops C Q (⟨some d,.binOp .shr t1 X Y t2,ty,pos,af,none⟩::rest) n m:=by
 unfold RY at a;split at a
 ·cases a
 ·rename_i h0;cases a;exact Yu b c hd (λw=>by simp [binOp,Op.shift,h0,E6]) k
def JM {b c:TypeId}{ds:TypeDesc}(i:CF m X=some (.int kd x)) (j:P.underlying b=some ds) (l:P.underlying c=some (.int kd2)) (hd:Nat.blt d n.1=true) (k:QF P ops C Q rest n ((d,.int kd2 (kd2.wrap x))::m)):QF P ops C Q (⟨some d,.convert b c X,ty,pos,af,none⟩::rest) n m:=λa g=>
 HT g hd (λw _=>by simp [execOp,g.eval i,convert,run_underlying j,run_underlying l,Conv.intToInt]) k
def SL {s:ByteArray}(i:CF m X=some (.string s)) (j:CF m Y=some (.int kd y)) (l:P.underlying t=some .string) (c:YX s y=some z) (hd:Nat.blt d n.1=true) (k:QF P ops C Q rest n ((d,.int .u8 z)::m)):QF P ops C Q (⟨some d,.index t X Y,ty,pos,af,none⟩::rest) n m:=λa g=>by
 unfold YX at c;split at c
 ·cases c
 ·rename_i h0;obtain⟨b,o,rfl⟩:=xZ.1 c;exact HT g hd (λw _=>by simp [execOp,g.eval i,g.eval j,Instr.index,asIntOf,run_underlying l,show 0≤y by omega,o]) k
end
def fV {α}{p:α→Prop}:∀x∈([]:List α),p x:=λu h=>by cases h
def all_cons {α}{p:α→Prop}{x:α}{l:List α}(h:p x) (t:∀x∈l,p x):∀y∈x::l,p y:=λu a=>by
 rcases wN.1 a with rfl|a
 ·exact h
 ·exact t u a
def rG {α}{p:α→Prop}{l:List α}{i:Int}{z:α}(h:∀x∈l,p x) (a:ix l i=some z):p z:=h _ (yJ (Lp a).2)
def oK (b:Bool):b=false∨b=true:=by cases b<;>simp
def Ru:∀u∈([]:List Value),u.oneCell'=true:=λu h=>by cases h
def IL {v:Value}{vs:List Value}(h:v.oneCell'=true) (t:∀u∈vs,u.oneCell'=true):∀u∈v::vs,u.oneCell'=true:=λu a=>by
 rcases wN.1 a with rfl|a
 ·exact h
 ·exact t u a
def St.osone {α}{r:BX α}{T:Nat}{v:Value}{l:List α}{S:Nat→Prop}{L:List HP}{h:A4}(a:St S L h) (b:OS r T v l∈L):v.oneCell'=true:=(a.oslAll b).one
def M7:Value→Value→Bool
 | .agg a,.agg b=>M8 a.toList b.toList
 |a,b=>VV a b
def Lu {κ β}(kv:κ→Value) (m:List (κ×β)) (k:κ):Option β:=(m.find? λe=>M7 (kv k) (kv e.1)).map (·.2)
def M5 {κ β}(kv:κ→Value):List (κ×β)→κ→β→List (κ×β)
 |[],k,x=>[(k,x)]
 |(a,y)::r,k,x=>if M7 (kv k) (kv a) then (k,x)::r else (a,y)::M5 kv r k x
def VT (p:Value→Bool):List MapEntry→Nat→Option (Nat×Value)
 |[],_=>none
 |e::a,i=>if p e.key then some (i,e.val) else VT p a (i+1)
structure Oi {κ:Type}(P:Program) (T:TypeId) (kv:κ→Value):Prop where
 chk:∀k e w,(Instr.checkKey e 10000 T (kv k)).run P w= .ok () w
 find:∀k (es:List MapEntry) w,(∀e∈es,∃k',e.key=kv k')→(Instr.findKey T (kv k) es).run P w= .ok (VT (M7 (kv k)) es 0) w
 same:∀k k',M7 (kv k) (kv k')=true→Instr.sameBits 10000 (kv k') (kv k)=true
def QE (a:TypeDesc) (k:Value) (p:Value→Bool):∀(b:List MapEntry) (i:Nat),(∀e∈b,Instr.sameNow a k e.key=some (p e.key))→Instr.findNow a k b i=some (VT p b i)
 |[],_,_=>rfl
 |e::b,i,h=>by
  have c:=h e (by simp);have d:=QE a k p b (i+1) λe g=>h e (by simp [g]);simp only[Instr.findNow,c,VT];cases p e.key
  ·simpa using d
  ·rfl
def QG {P:Program}(T:TypeId) (k:Value) (p:Value→Bool) (w:World):∀(a:List MapEntry) (i:Nat),(∀e∈a,(Op.equal T k e.key).run P w= .ok (p e.key) w)→(Instr.findAsking T k a i).run P w= .ok (VT p a i) w
 |[],_,_=>rfl
 |e::a,i,h=>by
  have b:=h e (by simp);have c:=QG T k p w a (i+1) λe d=>h e (by simp [d]);simp only[Instr.findAsking,Sem.run_bind,b,Result.andThen_ok,VT];cases p e.key
  ·simpa using c
  ·rfl
def Sj {a b:ByteArray}:(a==b)=true↔a=b:=by
 obtain⟨a⟩:=a;obtain⟨b⟩:=b;rw[show ((⟨a⟩:ByteArray)==⟨b⟩)=(a==b) from rfl];simp
def Oi.str {P:Program}{T:TypeId}(c:P.underlying T=some .string) (d:∀(s:ByteArray) e w,(Instr.checkKey e 10000 T (.string s)).run P w= .ok () w):Oi P T Value.string where
 chk:=d
 find:=λk a w h=>by
  have:Instr.findNow .string (.string k) a 0=some (VT (M7 (.string k)) a 0):=QE _ _ _ a 0 λe g=>by obtain⟨b,i⟩:=h e g;rw[i];rfl
  simp [Instr.findKey,run_underlying c,this]
 same:=λk b h=>by
  have:k=b:=Sj.1 (by simpa [M7,VV] using h);subst this;simp [Instr.sameBits,Sj.2]
def Oi.int {P:Program}{T:TypeId}{kd:IntKind}(c:P.underlying T=some (.int kd)) (d:∀(s:Int) e w,(Instr.checkKey e 10000 T (.int kd s)).run P w= .ok () w):Oi P T (Value.int kd) where
 chk:=d
 find:=λk a w h=>by
  have:Instr.findNow (.int kd) (.int kd k) a 0=some (VT (M7 (.int kd k)) a 0):=QE _ _ _ a 0 λe g=>by
   obtain⟨b,i⟩:=h e g;rw[i];simp [Instr.sameNow,M7,VV,Rz]
  simp [Instr.findKey,run_underlying c,this]
 same:=λk b h=>by
  have:k=b:=by simpa [M7,VV] using h
  subst this;simp [Instr.sameBits]
def Oi.agg {κ:Type}{P:Program}{T:TypeId}{f:κ→List Value}{m:List Nat}{j:Array _}(n:P.underlying T=some (.struct j)) (p:ZV P T=some m) (o:∀k,(f k).map II=m) (q:∀a b,OT (f a) (f b)=true)
  (s:∀k e w,(Instr.checkKey e 10000 T (.agg (f k).toArray)).run P w= .ok () w) (t:∀a b,M8 (f a) (f b)=true→f a=f b) (u:∀a,Instr.sameBits 10000 (.agg (f a).toArray) (.agg (f a).toArray)=true):Oi P T (λk=>Value.agg (f k).toArray) where
 chk:=s
 find:=λk c w h=>by
  have g:(Instr.findAsking T (.agg (f k).toArray) c).run P w= .ok (VT (M7 (.agg (f k).toArray)) c 0) w:=QG T _ _ w c 0 λe v=>by
   obtain⟨d,x⟩:=h e v;rw[x];have:=(T4 (w:=w) p (o k) (o d) (q k d)).1;simpa [Op.equal,Op.maxDepth,M7] using this
  have i:Instr.findNow (.struct j) (.agg (f k).toArray) c 0=some (VT (M7 (.agg (f k).toArray)) c 0)∨Instr.findNow (.struct j) (.agg (f k).toArray) c 0=none:=by
   cases c with
   |nil=>exact .inl rfl
   |cons e c=>exact .inr rfl
  rcases i with l|l
  ·simp [Instr.findKey,run_underlying n,l]
  ·simp [Instr.findKey,run_underlying n,l,g]
 same:=λk d h=>by
  have h':M8 (f k) (f d)=true:=by simpa [M7] using h
  have:=t k d h';simp only[this];exact u d
def PG (a:List MapEntry) (c:Nat):Prop:=(a.map (·.born)).Nodup∧∀x,x∈a→x.born<c
def PG.push {g:List MapEntry}{c:Nat}(k:PG g c) (e:MapEntry) (m:e.born=c):PG (g++[e]) (c+1):=by
 refine⟨?_,λx d=>?_⟩
 ·rw[yP,List.nodup_append];refine⟨k.1,by simp,λa i b j=>?_⟩;simp only[xQ,List.map_nil,xV] at j;obtain⟨y,l,rfl⟩:=xR.1 i;have:=k.2 y l;omega
 ·rcases xX.1 d with d|d
  ·have:=k.2 x d;omega
  ·simp only[xV] at d;subst d;omega
def PG.of {b a:List MapEntry}{c:Nat}(k:PG b c) (h:a.map (·.born)=b.map (·.born)):PG a c:=by
 refine⟨by rw[h];exact k.1,λx d=>?_⟩;have:x.born∈b.map (·.born):=by rw[←h];exact xR.2 ⟨x,d,rfl⟩
 obtain⟨y,g,e⟩:=xR.1 this;have:=k.2 y g;omega
def WP (a:List MapEntry) (j:Nat) (f:MapEntry→MapEntry) (b:∀e,(f e).born=e.born):(a.modify j f).map (·.born)=a.map (·.born):=by
 apply List.ext_getElem?;intro i;simp only[zQ,List.getElem?_modify];by_cases e:j=i
 ·subst e;cases a[j]? <;>simp [b]
 ·simp [e]
def MP {κ β:Type}(kv:κ→Value) (vv:β→Value) (b:Nat) (m:List (κ×β)):HP where
 holds:=λ_ F h=>(∀c,F c↔c=b)∧∃d a,h[b]? =some (.map d a)∧d.toList.map (λe=>(e.key,e.val))=(m.map λe=>(kv e.1,vv e.2))∧PG d.toList a
 loc:=λ⟨g,d,c,i,j⟩ _ e=>⟨g,d,c,(e _ (.inr ((g _).2 rfl))).trans i,j⟩
def MP.flat {κ β}{kv:κ→Value}{vv:β→Value}{b m}:(MP kv vv b m).Flat:=λ{_ _ _ _} k=>k
section
variable {κ β:Type}{kv:κ→Value}{vv:β→Value}
def T7:∀{b:List MapEntry}{m:List (κ×β)},b.map (λe=>(e.key,e.val))=m.map (λe=>(kv e.1,vv e.2))→∀e∈b,∃c,e.key=kv c
 |[],_,_,_,a=>by cases a
 |x::b,[],h,_,_=>by simp at h
 |x::b,y::m,h,e,a=>by
  simp only[xQ,Aa0,zY] at h;rcases wN.1 a with rfl|a
  ·exact⟨_,h.1.1⟩
  ·exact T7 h.2 e a
def YI (k:κ):∀{a:List MapEntry}{m:List (κ×β)}(i:Nat),a.map (λe=>(e.key,e.val))=m.map (λe=>(kv e.1,vv e.2))→(VT (M7 (kv k)) a i).map (·.2)=(Lu kv m k).map vv
 |[],[],_,_=>rfl
 |[],_::_,_,h=>by simp at h
 |x::a,[],_,h=>by simp at h
 |x::a,y::m,i,h=>by
  simp only[xQ,Aa0,zY] at h;have b:=YI k (i+1) h.2;simp only[VT,h.1.1,Lu,List.find?_cons] at b ⊢;cases M7 (kv k) (kv y.1)
  ·simpa using b
  ·simp [h.1.2]
def WZ (k:κ):∀{a:List MapEntry}{m:List (κ×β)}(i:Nat) (x:β),a.map (λe=>(e.key,e.val))=m.map (λe=>(kv e.1,vv e.2))→VT (M7 (kv k)) a i=none→M5 kv m k x=m++[(k,x)]
 |[],[],_,_,_,_=>rfl
 |[],_::_,_,_,h,_=>by simp at h
 |x::a,[],_,_,h,_=>by simp at h
 |x::a,y::m,i,z,h,b=>by
  simp only[xQ,Aa0,zY] at h;simp only[VT,h.1.1] at b;split at b
  ·cases b
  ·rename_i c;simp only[M5,c,yL,if_false,WZ k (i+1) z h.2 b,yY]
def WY (k:κ) (u:Value):∀{a:List MapEntry}{m:List (κ×β)}(i j:Nat) (v:Value) (x:β),a.map (λe=>(e.key,e.val))=m.map (λe=>(kv e.1,vv e.2))→VT (M7 (kv k)) a i=some (j,v)→
  i≤j∧j-i<a.length∧(∃b,(a[j-i]?).map (·.key)=some (kv b)∧M7 (kv k) (kv b)=true)∧(a.modify (j-i) λe=>{ e with key:=kv k,val:=vv x}).map (λe=>(e.key,e.val))=(M5 kv m k x).map λe=>(kv e.1,vv e.2)
 |[],_,_,_,_,_,_,h=>by simp [VT] at h
 |x::a,[],_,_,_,_,h,_=>by simp at h
 |x::a,y::m,i,j,v,z,h,c=>by
  simp only[xQ,Aa0,zY] at h;simp only[VT,h.1.1] at c;split at c
  ·rename_i d;obtain⟨rfl,rfl⟩:i=j∧x.val=v:=by simpa using c
   refine⟨wV _,by simp,⟨y.1,by simp [h.1.1],d⟩,?_⟩;simp [M5,d,h.2]
  ·rename_i d;obtain⟨p,g,⟨b,l,n⟩,o⟩:=WY k u (i+1) j v z h.2 c;have e:j-i=(j-(i+1))+1:=by omega
   refine⟨by omega,by rw[e];simpa using g,⟨b,by rw[e];simpa using l,n⟩,?_⟩;rw[e];simp only[List.modify_succ_cons,xQ,M5,d,yL,if_false,o,h.1.1,h.1.2]
end
section
variable {P:Program}{ops:Array Oper}{C:World→Prop}{Q:Act→Prop}{n:FN}{m m':SM}{rest:List Oper}
variable {d:Nat}{ty:TypeId}{pos:String}{af:Array Edge}{X Y Z:Operand}{t t1 t2:TypeId}{v p u:Value}{S:Nat→Prop}{L L2:List HP}{h:A4}{b:Nat}
variable {κ β:Type}{kv:κ→Value}{vv:β→Value}{l:List (κ×β)}{k0:κ}{z:β}{kt et:TypeId}
def W3 {w:World}{k:Bool}(m:P.underlying t=some (.map kt et)) (i:Oi P kt kv) (s:∀w,(zeroValue et).run P w= .ok (vv z) w) {a:Array MapEntry}{c:Nat}(n:w.heap[b]? =some (.map a c)) (o:a.toList.map (λe=>(e.key,e.val))=l.map λe=>(kv e.1,vv e.2)):
  (Instr.lookup t (.map (some b)) (kv k0) k).run P w= .ok (if k then .tuple #[vv ((Lu kv l k0).getD z),.bool (Lu kv l k0).isSome] else vv ((Lu kv l k0).getD z)) w:=by
 have d:=i.find k0 a.toList w (T7 o);have g:=YI (kv:=kv) (vv:=vv) k0 0 o;have u:=s w;cases p:VT (M7 (kv k0)) a.toList 0 with
 |none=>
  rw[p] at d g;have j:Lu kv l k0=none:=by simpa using g.symm
  simp [Instr.lookup,run_underlying m,MapKept.run_getObj_map n,i.chk,d,u,j]
 |some r=>
  rw[p] at d g;obtain⟨y,j,q⟩:∃y,Lu kv l k0=some y∧vv y=r.2:=xZ.1 (by simpa using g.symm);obtain⟨v,x⟩:=r;simp only at q;subst q;simp [Instr.lookup,run_underlying m,MapKept.run_getObj_map n,i.chk,d,j]
def Vq {j:Bool}(o:CK C h) (p:St S L h) (q:MP kv vv b l∈L) (s:CF m X=some (.map (some b))) (v:CF m Y=some (kv k0)) (x:P.underlying t=some (.map kt et)) (y:Oi P kt kv) (A:∀w,(zeroValue et).run P w= .ok (vv z) w) (hd:Nat.blt d n.1=true)
  (B:(if j then .tuple #[vv ((Lu kv l k0).getD z),.bool (Lu kv l k0).isSome] else vv ((Lu kv l k0).getD z))=u)
  (k:QF P ops C Q rest n ((d,u)::m)):QF P ops C Q (⟨some d,.lookup t X Y j,ty,pos,af,none⟩::rest) n m:=λa g=>by
 refine HT g hd (λw D=>?_) k;obtain⟨F,⟨G,H,c,I,J,_⟩,i⟩:=p.get q;have K:w.heap[b]? =some (.map H c):=(o w D b (i b ((G b).2 rfl)).1).trans I;simp [execOp,g.eval s,g.eval v,W3 x y A K J,B]
end
section
variable {P:Program}{ops:Array Oper}{Q:Exit→Act→World→Prop}{n:FN}{m:SM}{rest:List Oper}
variable {d:Nat}{ty:TypeId}{pos:String}{af:Array Edge}{X Y Z:Operand}{B w:World}{h:A4}{S:Nat→Prop}{L L2:List HP}{v:Value}{t kt et:TypeId}{b:Nat}
variable {κ β:Type}{kv:κ→Value}{vv:β→Value}{l:List (κ×β)}{k0:κ}{x:β}
def XZ (hs:St S L h) (rp:Np L (MP kv vv b l) (MP kv vv b (M5 kv l k0 x)) L2) (hx:CF m X=some (.map (some b))) (hy:CF m Y=some (kv k0)) (hz:CF m Z=some (vv x)) (hT:P.underlying t=some (.map kt et)) (H:Oi P kt kv)
  (k:∀h',St S L2 h'→CX S h S h'→LF P ops Q rest B h' n m):LF P ops Q (⟨none,.mapUpdate t X Y Z,ty,pos,af,none⟩::rest) B h n m:=by
 intro a w q v;refine wpList_plain rfl λK y=>?_;unfold Oper.wp;obtain⟨M,p,_⟩:=rp.pick;obtain⟨F,⟨g1,s,c,g2,I,g4⟩,hF,_⟩:=Sp.pick p hs.2;have z:w.heap[b]? =some (.map s c):=by rw[v.heap];exact g2
 have J:=H.find k0 s.toList w (T7 I);have A:∀(o:Obj) (h0:w.heap=h),(∀c',c'≠b→(w.heap.setIfInBounds b o)[c']? =h[c']?)∧(w.heap.setIfInBounds b o)[b]? =some o∧(w.heap.setIfInBounds b o).size=h.size:=λo h0=>by
  have U:b<w.heap.size:=(xN.1 z).1;refine⟨λc' C=>by rw[Abh (Ne.symm C),h0],?_,by simp [h0]⟩;rw[Array.getElem?_setIfInBounds_self];simp [U]
 have D:∀(d:Array MapEntry) (c':Nat),d.toList.map (λe=>(e.key,e.val))=(M5 kv l k0 x).map (λe=>(kv e.1,vv e.2))→PG d.toList c'→wpList P ops Q rest a { w with heap:=w.heap.setIfInBounds b (.map d c')}:=λd c' he V=>by
  obtain⟨s1,s2,s3⟩:=A (.map d c') v.heap;have W:Wd B (w.heap.setIfInBounds b (.map d c')) { w with heap:=w.heap.setIfInBounds b (.map d c')}:=⟨rfl,v.os,v.tape,v.out⟩
  obtain⟨u1,u2⟩:=hs.upd (h':=w.heap.setIfInBounds b (.map d c')) rp (by omega) λF k1 k2=>⟨F,⟨k1.1,d,c',s2,he,V⟩,λc C=> .inl C,λc _ C=>s1 c λe=>C ((k1.1 c).2 e)⟩
  exact k _ u1 u2 a _ q W
 cases i:VT (M7 (kv k0)) s.toList 0 with
 |none=>
  rw[i] at J;have g:(execOp a.eval ⟨none,.mapUpdate t X Y Z,ty,pos,af,none⟩).run P w= .ok .skip { w with heap:=w.heap.setIfInBounds b (.map (s.push { key:=kv k0,val:=vv x,born:=c}) (c+1))}:=by
   simp [execOp,q.eval hx,q.eval hy,q.eval hz,Instr.mapUpdate,run_underlying hT,MapKept.run_getObj_map z,H.chk,J,MapKept.run_setObj_map _ z]
  rw[g];refine y _ _ (D _ _ ?_ (by rw[Array.toList_push];exact g4.push _ rfl));rw[WZ k0 0 x I i];simp [I]
 |some r=>
  obtain⟨j,r2⟩:=r;rw[i] at J;obtain⟨_,q2,⟨k',q3,q4⟩,q5⟩:=WY k0 (vv x) 0 j r2 x I i;have G:((s[j]?).map (·.key)).getD (kv k0)=kv k':=by
   have:(s[j]?).map (·.key)=some (kv k'):=by simpa using q3
   simp [this]
  have u:(Instr.keyThatStays (kv k') (kv k0)).run P w= .ok (kv k0) w:=by simp [Instr.keyThatStays,H.same _ _ q4]
  have g:(execOp a.eval ⟨none,.mapUpdate t X Y Z,ty,pos,af,none⟩).run P w= .ok .skip { w with heap:=w.heap.setIfInBounds b (.map (s.modify j λe=>{ e with key:=kv k0,val:=vv x}) c)}:=by
   simp [execOp,q.eval hx,q.eval hy,q.eval hz,Instr.mapUpdate,run_underlying hT,MapKept.run_getObj_map z,H.chk,J,G,u,MapKept.run_setObj_map _ z]
  rw[g];refine y _ _ (D _ _ ?_ (by rw[Array.toList_modify];exact g4.of (WP _ _ _ λ_=>rfl)));simpa using q5
def Xa {K E:TypeId}(hd:Nat.blt d n.1=true) (o:St S L h) (kv:κ→Value) (vv:β→Value)
  (k:∀b h',St S (MP kv vv b []::L) h'→CX S h S h'→LF P ops Q rest B h' n ((d,.map (some b))::m)):LF P ops Q (⟨some d,.makeMap t none,ty,pos,af,none⟩::rest) B h n m:=by
 intro a w p l;refine wpList_plain rfl λK g=>?_;unfold Oper.wp;have c:(execOp a.eval ⟨some d,.makeMap t none,ty,pos,af,none⟩).run P w= .ok (.value (.map (some w.heap.size))) (w.alloc (.map #[] 0)):=by
  first|rfl|(simp [execOp,Instr.makeMap,newObj,Sem.run])
 rw[c];obtain⟨q,s⟩:=o.add (h':=h.push (.map #[] 0)) (H':=MP kv vv h.size []) (by simp) (λb i=>HZ _ _ _ i) ⟨λb=>b=h.size,⟨λ_=>yC,#[],0,Lf _ _,rfl,List.nodup_nil,λx u=>by cases u⟩,λb i=>by subst i;simp⟩;have j:=l.heap;exact g _ _ (k w.heap.size _ (by rw[j];exact q) s _ _ (p.put hd _) (l.alloc _))
end
def tZ (P:Program) (T:TypeId):Option (List (Nat×Nat)×List Value):=
 match P.underlying T,FV P T with
 |some (.array n e),some z=>(P.info? e).map λi=>((List.range n).map λk=>(k*i.size,i.size),z)
 |_,_=>none
def vE (P:Program) (t len sz:Nat):Bool:=
 match P.underlying t with
 |some (.array n e)=>Nat.beq n len&&(match P.info? e with|some i=>Nat.beq i.size sz|none=>false)
 |_=>false
def Uw {p q:Nat→Option (Nat×Nat)}(h:∀i x,p i=some x→q i=some x):∀(b:List (Nat×Value)) (cs cs':Array Value),Instr.fill p cs b=some cs'→Instr.fill q cs b=some cs'
 |[],_,_,e=>e
 |(i,v)::r,cs,cs',e=>by
  simp only[Instr.fill] at e ⊢;cases a:p i with
  |none=>rw[a] at e;cases e
  |some x=>
   obtain⟨o,s⟩:=x;rw[a] at e;rw[h i _ a];simp only at e ⊢;split at e
   ·cases e
   ·rename_i c;rw[wF c];exact Uw h r _ _ e
def dC {P:Program}{T:TypeId}{pl z pv cs}(h:tZ P T=some (pl,z)) (o:N3 pl z pv=some cs):P.built T pv=some cs.toArray:=by
 unfold tZ at h;split at h
 ·rename_i n e p s a;simp only[xZ,zY] at h;obtain⟨g,b,rfl,rfl⟩:=h;unfold FV at a;simp only[xZ,yW] at a;obtain⟨w,⟨i,t,c⟩,d⟩:=a;simp only[Program.built,t,s,c,b];have l:=O0 _ pv p cs o;rw[←d] at l;have u:=Uw (q:=λi=>some (i*g.size,g.size)) (λj x m=>by
   rw[List.getElem?_toArray,zQ] at m;obtain⟨k,v,rfl⟩:=xZ.1 m;obtain⟨_,rfl⟩:=wU.1 v;simp) pv _ _ l
  simpa using u
 ·cases h
section
variable {P:Program}{ops:Array Oper}{C:World→Prop}{Q:Act→Prop}{n:FN}{m m':SM}{rest:List Oper}
variable {d:Nat}{ty:TypeId}{pos:String}{af:Array Edge}{X Y Z:Operand}{t:TypeId}{S:Nat→Prop}{L:List HP}{h:A4}{i:Int}{kd:IntKind}
def gJ {T:TypeId}{b:Array (Nat×Operand)}{pl z pv cs}(s:tZ P T=some (pl,z)) (c:b.toList.mapM (eZ m)=some pv) (o:N3 pl z pv=some cs) (hd:Nat.blt d n.1=true) (k:QF P ops C Q rest n ((d,.agg cs.toArray)::m)):QF P ops C Q (⟨some d,.build T b,ty,pos,af,none⟩::rest) n m:=λa q=>by
 refine HT q hd (λw _=>?_) k;have i:(b.map λ(p:Nat×Operand)=>(p.1,a.eval p.2)).toList=pv:=by
  obtain⟨l⟩:=b;simp only at c;simp only[List.map_toArray];clear o k
  induction l generalizing pv with
  |nil=>simp at c;subst c;rfl
  |cons x l t=>
   simp only[Aal,Aba,yW,eZ,xZ] at c;obtain⟨y,⟨v,u,rfl⟩,A,j,g⟩:=c;simp only[Option.pure_def,xO] at g;subst g;simp only[xQ,q.eval u,t j]
 have:=run_build (P:=P) w T (b.map λ(p:Nat×Operand)=>(p.1,a.eval p.2)) cs.toArray (by rw[i];exact dC s o);simp only[execOp,Sem.run_bind,this];rfl
def nX {b o len sz:Nat}(u:CF m X=some (.pointer (some ⟨b,o,none⟩))) (v:CF m Y=some (.int kd i)) (c:vE P t len sz=true) (h0:0≤i) (x:i<len) (hd:Nat.blt d n.1=true)
  (k:QF P ops C Q rest n ((d,.pointer (some ⟨b,o+i.toNat*sz,none⟩))::m)):QF P ops C Q (⟨some d,.indexAddr t X Y,ty,pos,af,none⟩::rest) n m:=λa l=>by
 unfold vE at c;split at c
 ·rename_i z e y;simp only[wI] at c;obtain⟨p,g⟩:=c;have p:=wQ p;subst p;split at g
  ·rename_i s q;have g:=wQ g;subst g;have j:(⟨b,o,none⟩:Addr).add (i.toNat*s.size)=⟨b,o+i.toNat*s.size,none⟩:=by unfold Addr.add;split<;>simp_all
   exact HT l hd (λw _=>by simp [execOp,l.eval u,l.eval v,Instr.indexAt,asIntOf,run_underlying y,Instr.sureAddr,h0,x,SW q,j]) k
  ·cases g
 ·cases c
def gE {α:Type}{T b o:Nat}{cs:List Value}{l:List α}{z:α}(f:α→Value) (p:CK C h) (q:St S L h) (s:CF m X=some (.pointer (some ⟨b,o+i.toNat*1,none⟩))) (u:Bx b T cs∈L) (v:(cs.drop o).take l.length=l.map f) (w:Go.Proofs.YtibidnaedddfdaaGreat.ix l i=some z) (x:L5 P t 1 false=true) (hd:Nat.blt d n.1=true)
  (k:QF P ops C Q rest n ((d,f z)::m)):QF P ops C Q (⟨some d,.load t X,ty,pos,af,none⟩::rest) n m:=by
 obtain⟨h0,g⟩:=Lp w;have y:(cs.drop (o+i.toNat*1)).take 1=[f z]:=by
  have j:((cs.drop o).take l.length)[i.toNat]? =some (f z):=by rw[v,zQ,g];rfl
  have c:i.toNat<l.length:=(wU.1 g).1;rw[yR c,yS] at j;rw[Nat.mul_one];obtain⟨a,A⟩:=wU.1 j;rw[Aac a,A];rfl
 exact L0 (vs:=[f z]) p q s u y rfl x rfl hd k
end
def TS (h:A4) (T:TypeId) (cs:List Value) (v:Value) (a:A4):Prop:=∃b,v= .pointer (some ⟨b,0,none⟩)∧h.size≤b∧b<a.size∧a[b]? =some (.cells cs.toArray T (0,0))
def TS.mono {h a c:A4}{T cs v}(k:TS h T cs v a) (o:HS a c):TS h T cs v c:=by
 obtain⟨b,e,g,d,i⟩:=k;exact⟨b,e,g,wX d o.siz,(o.same b d).trans i⟩
def TS.st {h g:A4}{T cs v}{S:Nat→Prop}{L:List HP}(k:TS h T cs v g) (d:St S L h) (o:HS h g):∃b,v= .pointer (some ⟨b,0,none⟩)∧St S (Bx b T cs::L) g:=by
 obtain⟨b,e,m,i,j⟩:=k;refine⟨b,e,λc a=>wX (d.1 c a) o.siz,λc=>c=b,⟨λ_=>yC,j⟩,λc a=>by subst a;exact⟨i,λl=>absurd (d.1 c l) (by omega)⟩,?_⟩;refine Sp.ext d.2 (λ_ x=>x) (λc a=>o.same c (a.elim (d.1 c) (·.1))) λc a=>⟨⟨wX a.1 o.siz,a.2⟩,λe=>by have:=a.1;omega⟩
def PC {P:Program}{ops:Array Oper}{Q:Exit→Act→World→Prop}{n:FN}{m:SM}{rest:List Oper}{d:Nat}{ty:TypeId}{pos:String}{af:Array Edge}{B:World}{h j:A4}{T:TypeId}{cs:List Value}(o:HS h j) (c:FV P T=some cs) (hd:Nat.blt d n.1=true)
  (k:∀v h',HS j h'→TS h T cs v h'→LF P ops Q rest B h' n ((d,v)::m)):LF P ops Q (⟨some d,.alloc T,ty,pos,af,none⟩::rest) B j n m:=by
 intro a w s q;refine wpList_plain rfl λK t=>?_;unfold Oper.wp;unfold FV at c;simp only[xZ,yW] at c;obtain⟨z,⟨i,u,c⟩,l⟩:=c;have x:z.cells=cs.toArray:=by rw[←l]
 have g:(execOp a.eval ⟨some d,.alloc T,ty,pos,af,none⟩).run P w= .ok (.value (.pointer (some ⟨w.heap.size,0,none⟩))) (w.alloc (.cells cs.toArray T)):=by
  simp [execOp,Instr.alloc,newVar,newRow,zeroValue,typeInfo,u,c,x]
 rw[g];have p:=q.heap;exact t _ _ (k _ _ ⟨by simp,λb y=>HZ _ _ _ y⟩ ⟨j.size,by rw[p],o.siz,by simp,Lf _ _⟩ _ _ (s.put hd _) (q.alloc _))
def Z8 (ops:Array Oper) (n:Nat) (F:List Nat):Bool:=
 (List.range n).all λi=>F.contains i||(List.range (n+1)).any λj=>decide (i<j)&& !F.contains j&&Region.waitsFor .any ops j i
def N2 (ops:Array Oper) (f:Nat):Bool:=(List.range ops.size).all λj=>j==f||(Region.waitsFor .any ops j f||(Region.waitsFor .any ops f j||match ops[f]?,ops[j]? with
 |some oi,some a=>oi.apart ops a
 |_,_=>false))
def Qa (P:Program) (ops:Array Oper) (n:FN) (m:SM) (h0:A4) (R:AR) (i:Nat) (o:Oper) (b:List (Nat×Nat)):Prop:=
 ∀mt h,HS h0 h→PA R h (λfr=>∀a,Fr n a (fr++(m++mt))→∃v,Yields P ops o v a∧R i v h) b []
section
variable {P:Program}{ops:Array Oper}{Q:Exit→Act→World→Prop}{a:Act}{w:World}
def V4 {n:Nat}{F:List Nat}{a:Array Bool}(J:Z8 ops n F=true) (K:Region.chainB .any ops n=true) (W:n<ops.size) (m:HeadInv .any ops n a):
  ∀(d i:Nat),n-i=d→i<n→i∉F→a.getD i true=false→∀t,n≤t→t∉Region.ready .any ops a:=by
 intro d
 induction d using Nat.strongRecOn with
 |_ d M=>
  intro i hd Q w p t X C;obtain⟨_,D,o,g⟩:=mem_ready.1 C;have q:t<ops.size:=(xN.1 o).1;by_cases x:t=n
  ·subst x;have k:=wO.1 J i (xG.2 Q);simp only[wZ,wS,w,false_or] at k;obtain⟨j,U,b⟩:=List.any_eq_true.1 k;simp only[wI,wW,xC] at b;have y:j∉F:=λh=>by
    have:=b.1.2;rw[wS.2 h] at this;cases this
   obtain⟨G,s,e,u,v,c⟩:=Region.waitsFor_spec b.2;have H:j≤t:=by have:=xG.1 U;omega
   by_cases z:j=t
   ·subst z;have:G=D:=wP (s.symm.trans o);subst this;have l:=g e u v;rw[c,getD_both p] at l;cases l
   ·cases I:a.getD j false with
    |true=>
     have l:=m.closed j G s I e u v;rw[c,getD_both p] at l;cases l
    |false=>
     have A:j<a.size:=by rw[m.size];omega
     exact M (t-j) (by have:=b.1.1;omega) j rfl (by omega) y (getD_in A I) t (wV _) C
  ·have k:=wO.1 K t (xG.2 q);simp only[wZ,wW] at k;rcases k with k|k
   ·omega
   ·obtain⟨V,B,e,u,v,c⟩:=Region.waitsFor_spec k;have:V=D:=wP (B.symm.trans o);subst this;have l:=g e u v;rw[c,getD_both (m.tail (t-1) (by omega) (by omega))] at l;cases l
def dG {B:World}{h0:A4}{kk:Nat}{n:FN}{m:SM}{R:AR}(am:kk≤ops.size) (hb:Oe ops=true)
  (F:List Nat) (ah:kk=ops.size∨(Z8 ops kk F=true∧Region.chainB .any ops kk=true)) (az:Region.noSelect ops=true) (hQ:∀c a w,¬Q (.panic c) a w)
  (hF:∀f,f∈F→f<kk∧N2 ops f=true∧∃o d K,ops[f]? =some o∧o.dst=some d∧UU ops o K=true∧Qa P ops n m h0 R f o K)
  (aj:fC ops kk n (m.map (·.1))=true)
  (an:∀i v h h',HS h0 h→HS h h'→R i v h→R i v h')
  (step:∀i o d,i<kk→ops[i]? =some o→o.dst=some d→∃K,UU ops o K=true∧U7 P ops Q B n m h0 R i o d K)
  (a0:∀a w h,Wd B h w→HS h0 h→Fr n a m→(∀i,i<kk→∃d v,HW ops i=some d∧a.tmps[d]? =some v∧R i v h)→wpList P ops Q (ops.toList.drop kk) a w):
  ∀(s:Nat) (k:Array Bool) (a:Act) (w:World),TF k=s→HeadInv .any ops kk k→tV B h0 n m ops kk R k a w→wpAny P .any ops Q s k a w:=by
 intro s
 induction s with
 |zero=>
  intro k a w hu q ai;have t:∀i,k.getD i true=true:=λi=>Tg hu;obtain⟨h,g1,g2,M,g4⟩:=ai.ex;have hk:kk=ops.size:=by
   rcases Abc am with h|h
   ·have y:=q.tail kk (wV _) h;have h2:=t kk;rw[y] at h2;cases h2
   ·exact h
  have hf:=a0 a w h g1 g2 M λi z=>g4 i z (by
   have h2:=t i;have:i<k.size:=by rw[q.size];omega
   simpa [this] using h2)
  rw[zN (by simp;omega)] at hf;exact⟨Qf λi _=>t i,hf⟩
 |succ s ih=>
  intro k a w hu q ai;obtain⟨h,g1,g2,M,g4⟩:=ai.ex;by_cases t:∀i,i<kk→k.getD i true=true
  ·
   have hf:=a0 a w h g1 g2 M λi z=>g4 i z (by
    have h2:=t i z;have:i<k.size:=by rw[q.size];omega
    simpa [this] using h2)
   have bp:kk<ops.size:=by
    rcases Abc am with h|h
    ·exact h
    ·exfalso;have ao:∀b∈k.toList,b=true:=by
      intro b A;obtain⟨i,z,rfl⟩:=yZ.1 A;have ab:i<k.size:=by simpa using z
      have:=t i (by have:=q.size;omega);simpa [ab] using this
     have:TF k=0:=by
      unfold TF;rw[List.count_eq_zero];intro hm;have:=ao _ hm;cases this
     omega
   rcases ah with hc|⟨_,hc⟩
   ·omega
   ·refine RP hc hb (s+1) kk k a w (wV _) ?_ q.size t (λj U ap=>q.tail j U ap) hf;have:=Uf (by rw[q.size];exact am) t (λj U ap=>q.tail j U (by rw[←q.size];exact ap));rw[q.size] at this;omega
  ·have D:∀i o,i<kk→i∈Region.ready .any ops k→ops[i]? =some o→∀K,UU ops o K=true→∀p∈K,∃v,a.tmps[p.2]? =some v∧R p.1 v h:=by
    intro i o G z H K V;obtain⟨aq,o',ac,ak⟩:=mem_ready.1 z;have:o'=o:=wP (ac.symm.trans H);subst this;have al:i<ops.size:=(xN.1 H).1;have ad:∀j∈Sb o',∃d v,HW ops j=some d∧a.tmps[d]? =some v∧R j v h:=by
     intro j U;obtain⟨e,he,rfl⟩:=xR.1 U;obtain⟨be,a1⟩:=zP.1 he;have a2:e∈o'.after:=by simpa using be
     have y:=ak e a2 a1;have h4:=wO.1 hb i (xG.2 al);rw[H] at h4;simp only[Aaa,xJ,Aab] at h4;have h6:=h4 e a2;simp only[a1,xE,yU,wW] at h6;exact g4 e.on (by omega) y
    intro p hp;have y:=wO.1 V p hp;simp only[wI] at y;obtain⟨d',v,q1,q2,q3⟩:=ad p.1 (by simpa using y.1);have h2:=y.2;rw[q1] at h2;have:p.2=d':=wQ (by simpa using h2);exact⟨v,by rw[this];exact q2,q3⟩
   have W:∀i o d,i<kk→i∈Region.ready .any ops k→ops[i]? =some o→o.dst=some d→∀v w' h',Wd B h' w'→HS h h'→R i v h'→wpAny P .any ops Q s (k.setIfInBounds i true) (a.put (some d) v) w':=by
    intro i o d G z H I v w' h' bf ac hr;obtain⟨aq,_,_,_⟩:=mem_ready.1 z;have hd:HW ops i=some d:=by unfold HW;rw[H];exact I
    have l:=wO.1 aj i (xG.2 G);rw[hd] at l;simp only[wI,xC,wO,xG,wZ] at l;obtain⟨⟨ae,ar⟩,a3⟩:=l;have X:d+1≤n.1:=by simpa [Nat.blt] using ae
    have Y:d<n.1:=X;refine ih _ _ _ (by have:=Nz aq;omega) (q.set z G) ⟨h',bf,g2.trans ac,?_,λj U hl=>?_⟩
    ·have hp:=M.put ae v;refine⟨hp.dfr,hp.siz,λi' u ab=>hp.at_ i' u ?_⟩;have J:Nat.beq d i'=false:=by
      cases A:Nat.beq d i' with
      |false=>rfl
      |true=>
       have:=wQ A;subst this;have y:=XA ab;rw[←wS] at y;rw[y] at ar;cases ar
     simp only[lk,J,wE];exact ab
    ·by_cases e:i=j
     ·subst e;refine⟨d,v,hd,?_,hr⟩;simp only[Act.put,yH];have:=M.siz;simp [this,Y]
     ·rw[getD_set_ne false e] at hl;obtain⟨dj,vj,q1,q2,q3⟩:=g4 j U hl;refine⟨dj,vj,q1,?_,an _ _ _ _ g2 ac q3⟩;have y:=a3 j U;rw[q1] at y;have J:d≠dj:=by
       rcases y with y|y
       ·exact absurd (wQ y) e
       ·intro e';subst e';simp at y
      simp only[Act.put,yH];rw[wF J];exact q2
   by_cases a4:∃f,f∈F∧f∈Region.ready .any ops k
   ·obtain⟨f,bg,af⟩:=a4;obtain⟨a5,au,o,d,K,H,I,V,bh⟩:=hF f bg;obtain⟨fr,hK,Z⟩:=MN (a:=a) (n:=n) _ _ (bh (Jx a) h g2) (D f o a5 af H K V) ⟨M.dfr,M.siz,λi v z=>by simp [lk] at z⟩;obtain⟨v,hy,hr⟩:=hK a (Z.append (M.append M.full));refine wpAny_first H (Region.noSelect_spec az) (λc a w hq=>absurd hq (hQ c _ w)) s k a w (λj oj U J a6 av=>?_) af hy ?_
    ·have y:=wO.1 au j (xG.2 (xN.1 U).1);simp only[H,U,wZ,beq_iff_eq,J,false_or] at y;rcases y with y|y
     ·obtain⟨bi,a7,e,he,A,aw⟩:=Region.waitsFor_spec y;have:bi=oj:=wP (a7.symm.trans U);subst this;exact absurd aw (av e he A)
     ·rcases y with y|y
      ·obtain⟨bj,a8,e,he,A,aw⟩:=Region.waitsFor_spec y;obtain⟨_,bk,a9,ax⟩:=mem_ready.1 af;have:bj=bk:=wP (a8.symm.trans a9);subst this;have h5:=ax e he A;rw[aw,getD_both a6] at h5;cases h5
      ·exact y
    ·rw[I];exact W f o d a5 af H I v w h g1 (HS.refl h) hr
   obtain⟨k0,bl,ba,bb⟩:∃k0,k0<kk∧k.getD k0 true=false∧k0∉F:=by
    obtain⟨k1,bq,bm⟩:∃k0,k0<kk∧k.getD k0 true=false:=by
     apply Abd;intro av;refine t λi z=>?_;cases hl:k.getD i true with
     |true=>rfl
     |false=>exact absurd ⟨i,z,hl⟩ av
    obtain⟨i0,q1,ag,_⟩:=L6 hb q.size (show k1<ops.size by omega) bm;exact⟨i0,by omega,(mem_ready.1 ag).1,λhf=>a4 ⟨i0,hf,ag⟩⟩
   obtain⟨i0,_,ag,_⟩:=L6 hb q.size (show k0<ops.size by omega) ba;refine⟨λh0=>absurd (h0▸ag) (by simp),λi z=>?_⟩;obtain⟨aq,o,H,ak⟩:=mem_ready.1 z;have al:i<ops.size:=(xN.1 H).1;have G:i<kk:=by
    rcases xB i kk with h|h
    ·exact h
    ·rcases ah with hc|⟨hs,hc⟩
     ·omega
     ·exact absurd z (V4 hs hc (by omega) q _ k0 rfl bl bb ba i h)
   have l:=wO.1 aj i (xG.2 G);cases hd:HW ops i with
   |none=>rw[hd] at l;cases l
   |some d=>
   rw[hd] at l;simp only[wI,xC,wO,xG,wZ] at l;obtain⟨⟨ae,ar⟩,a3⟩:=l;have X:d+1≤n.1:=by simpa [Nat.blt] using ae
   have Y:d<n.1:=X;have I:o.dst=some d:=by unfold HW at hd;rw[H] at hd;exact hd
   obtain⟨K,V,ay⟩:=step i o d G H I;have aa:=D i o G z H K V;obtain⟨fr,hK,Z⟩:=MN (a:=a) (n:=n) _ _ (ay (Jx a) h g2) aa ⟨M.dfr,M.siz,λi v z=>by simp [lk] at z⟩;have C:Fr n a (fr++(m++Jx a)):=Z.append (M.append M.full);have bn:∀i u,a.tmps[i]? =some u→lk (fr++(m++Jx a)) i=some u:=by
    intro i u hu;have hl:lk (Jx a) i=some u:=by
     have:i<a.tmps.size:=(xN.1 hu).1;rw[Rx this];simp [yG,hu]
    have bo:∃u',lk (fr++(m++Jx a)) i=some u':=by
     rw[K0,K0,hl];cases lk fr i with
     |some x=>exact⟨x,by simp⟩
     |none=>cases lk m i with
      |some x=>exact⟨x,by simp⟩
      |none=>exact⟨u,by simp⟩
    obtain⟨u',bc⟩:=bo;have:=C.at_ i u' bc;rw[hu] at this;rw[bc,←wP this]
   have next:=W i o d G z H I
   have conv:∀a' w',KS B n d (R i) h (fr++(m++Jx a)) a' w'→wpAny P .any ops Q s (k.setIfInBounds i true) a' w':=by
    rintro a' w' ⟨v,h',f1,f2,f3,f4⟩;have:=Fr.same Y C f1 λi u z hu=>by
     have J:Nat.beq d i=false:=by
      cases A:Nat.beq d i with
      |false=>rfl
      |true=>exact absurd (wQ A).symm z
     simp only[lk,J,wE];exact bn i u hu
    subst this;exact next v w' h' f2 f3 f4
   unfold wpOp;simp only[H];cases hg:o.guard with
   |none=>
    rw[hg] at hK;rw[wG (by simp [Region.wanted,hg])];exact(LC hg (hK a w C g1)).imp (Oper.wp_mono conv) id
   |some gb=>
    obtain⟨g,b⟩:=gb;rw[hg] at hK;obtain⟨dg,q1,hK⟩:=hK;rcases hK with ⟨k1,k2⟩|⟨v,k1,k2,k3⟩
    ·have hy:yielded ops a.tmps g=some b:=OK Z q1 k1;rw[wG (by simp [Region.wanted,hg,hy])];exact(RL (LC rfl (k2 a w C g1))).imp (Oper.wp_mono conv) id
    ·have hy:yielded ops a.tmps g≠some b:=by rw[OK Z q1 k1];exact k2
     rw[wF (by simp [Region.wanted,hg,hy]),I];exact next undef w h g1 (HS.refl h) k3
end
def rR (ops:Array Oper) (kk:Nat) (F:List Nat):Bool:=Nat.ble kk ops.size&&(Nat.beq kk ops.size||(Z8 ops kk F&&Region.chainB .any ops kk))&&Oe ops&&Region.noSelect ops
def TR (P:Program) (ops:Array Oper) (kk:Nat) (n:FN) (m:SM) (h0:A4) (R:AR):List Nat→Prop
 |[]=>True
 |f::F=>(f<kk∧N2 ops f=true∧∃o d a,ops[f]? =some o∧o.dst=some d∧UU ops o a=true∧Qa P ops n m h0 R f o a)∧TR P ops kk n m h0 R F
def TR.at_ {P:Program}{ops:Array Oper}{kk:Nat}{n:FN}{m:SM}{h0:A4}{R:AR}:∀{F:List Nat},TR P ops kk n m h0 R F→∀f,f∈F→f<kk∧N2 ops f=true∧∃o d b,ops[f]? =some o∧o.dst=some d∧UU ops o b=true∧Qa P ops n m h0 R f o b
 |[],_,f,a=>by cases a
 |j::F,⟨c,i⟩,f,a=>by
  rcases wN.1 a with rfl|a
  ·exact c
  ·exact TR.at_ i f a
def TR.cons {P:Program}{ops:Array Oper}{kk:Nat}{n:FN}{m:SM}{h0:A4}{R:AR}{f d:Nat}{o:Oper}{F:List Nat}(a:List (Nat×Nat)) (b:(Nat.blt f kk&&N2 ops f)=true) (g:ops[f]? =some o) (hd:o.dst=some d) (c:UU ops o a=true) (i:Qa P ops n m h0 R f o a) (t:TR P ops kk n m h0 R F):TR P ops kk n m h0 R (f::F):=by
 simp only[wI] at b;exact⟨⟨(by simpa [Nat.blt] using b.1:f+1≤kk),b.2,o,d,a,g,hd,c,i⟩,t⟩
def LP {P:Program}{ops:Array Oper}{n:FN}{m:SM}{d:Nat}{ty:TypeId}{b:String}{c:Array Edge}{X:Operand}{u:Value}{a:Act}(g:Fr n a m) (i:CF m X=some u):Yields P ops ⟨some d,.move X,ty,b,c,none⟩ u a:=
 .inl ⟨by simp [Region.wanted],λw=>by simp [execOp,g.eval i]⟩
section
variable {P:Program}{ex:List (Nat×AP)}{RR N:AP}{cs:List Code}{B:World}{h:A4}{n:FN}{m m0:SM}{S:Nat→Prop}{L:List HP}
def Vk {l:List Oper}{id:Nat}(kk:Nat) (F:List Nat) (R:AR) (pss:List (List (Nat×Nat))) (M:List (Nat×Nat)) (X:P.follows .mixedOrders=true) (Q:rR l.toArray kk F=true) (U:List Nat) (y:m.map (·.1)=U) (g:fC l.toArray kk n U=true)
  (z:W6 l.toArray (l.take kk) pss=true) (A:(M.all λp=>Nat.blt p.1 kk&&(HW l.toArray p.1).any (Nat.beq p.2 ·))=true) (k:Ud m0 m)
  (b:∀i v q u,HS h q→HS q u→R i v q→R i v u)
  (Y:TR P l.toArray kk n m h R F)
  (step:AT P l.toArray (Qx ex RR (W P ex RR cs N)) B n m h R 0 (l.take kk) pss)
  (C:∀h',HS h h'→PA R h' (λfr=>LF P l.toArray (Qx ex RR (W P ex RR cs N)) (l.drop kk) B h' n (fr++m)) M []):WF P ex RR (.region id l.toArray true::cs) N B h n m0:=by
 intro a w D Z;subst y;simp only[rR,wI,wZ] at Q;obtain⟨⟨⟨q,u⟩,h3⟩,h4⟩:=Q;have G:kk≤l.toArray.size:=zX q;refine λrd H=>RU H OD X (dG (kk:=kk) (R:=R) (B:=B) (h0:=h) (n:=n) (m:=m) G h3 F (u.imp (λe=>wQ e) λx=>x) h4 (λc a w hq=>hq) (λf D=>Y.at_ f D) g b (λi o d I ho hd=>?_) (λa w h' g1 g2 J g4=>?_) _ _ _ _ ?_ ⟨by simp,λj oj _ s=>(by rw[getD_replicate_false] at s;cases s),λt _ ht=>getD_in (by simpa using ht) (getD_replicate_false _ _)⟩ ⟨h,Z.drew,HS.refl h,D.sub k,λi _ s=>(by rw[getD_replicate_false] at s;cases s)⟩)
 ·have K:(l.take kk)[i]? =some o:=by rw[yR I];simpa using ho
  have:=AT.at_ step z K hd;rw[xM] at this;exact this
 ·obtain⟨fr,k1,k2⟩:=MN (a:=a) (n:=n) _ _ (C h' g2) (λp hp=>by
   have e:=wO.1 A p hp;simp only[wI] at e;have e1:p.1<kk:=(by simpa [Nat.blt] using e.1:p.1+1≤kk)
   obtain⟨d,v,q1,q2,q3⟩:=g4 p.1 e1;have V:=e.2;rw[q1] at V;have:p.2=d:=wQ (by simpa using V);exact⟨v,by rw[this];exact q2,q3⟩) ⟨J.dfr,J.siz,λi v I=>by simp [lk] at I⟩
  exact k1 a w (k2.append J) g1
 ·unfold TF;rw[Abe];simp
end
end Go.Proofs.YtibidnaedddfdaaGreat
