import Derived.Test.YtedgiljmffngoaaGreatHCore10
import Derived.MapKept
import Derived.Lib.SliceRun
import Derived.Lib.Overlaps
import Derived.Lib.AppendZerosOnto
import Derived.Maps.RangeRun
import Derived.OrdersHeld
namespace Go.Proofs.YtedgiljmffngoaaGreat
set_option linter.all false
open Go.RowKit
abbrev AR:=Nat→Value→AV→Prop
def G9 (ops:Array Oper) (i:Nat):Option Nat:=(ops[i]?).bind (·.dst)
def Mg (o:Oper):List Nat:=(o.after.toList.filter (Region.binds .any)).map (·.on)
def KS (B:World) (n:FN) (d:Nat) (R:Value→AV→Prop) (h:AV) (m:SM):Act→World→Prop:=λa w=>
 ∃v h',Fr n a ((d,v)::m)∧Wd B h' w∧DX h h'∧R v h'
def PA (R:AR) (h:AV) (K:SM→Prop):List (Nat×Nat)→SM→Prop
 |[],fr=>K fr
 |(j,d)::a,fr=>∀u,R j u h→PA R h K a ((d,u)::fr)
def yb:Value→Option Bool
 | .bool b=>some b
 |_=>none
def Uj (P:Program) (ops:Array Oper) (Q:Exit→Act→World→Prop) (B:World) (n:FN) (m:SM) (h0:AV) (R:AR) (i:Nat) (o:Oper) (d:Nat) (c:List (Nat×Nat)):Prop:=
 ∀mt h,DX h0 h→PA R h (λfr=>match o.guard with
  |none=>LF P ops (Exit.then (KS B n d (R i) h (fr++(m++mt))) Q) [o] B h n (fr++(m++mt))
  |some (g,b)=>∃a,G9 ops g=some a∧((lk fr a=some (.bool b)∧LF P ops (Exit.then (KS B n d (R i) h (fr++(m++mt))) Q) [{ o with guard:=none}] B h n (fr++(m++mt)))∨∃v,lk fr a=some v∧yb v≠some b∧R i undef h)) c []
def TE (ops:Array Oper) (o:Oper) (a:List (Nat×Nat)):Bool:=a.all λp=>(Mg o).contains p.1&&(G9 ops p.1).any (Nat.beq p.2 ·)
def MX {m mt:SM}{i:Nat}:lk (m++mt) i=(lk m i).or (lk mt i):=by
 induction m with
 |nil=>simp [lk]
 |cons e r a=>
  obtain⟨j,v⟩:=e;simp only[Abw,lk];cases Nat.beq j i with
  |true=>simp
  |false=>simpa using a
def Fr.append {n a m mt}(c:Fr n a m) (g:Fr n a mt):Fr n a (m++mt):=⟨c.dfr,c.siz,λi v b=>by
 rw[MX] at b;cases d:lk m i with
 |some u=>rw[d] at b;simp at b;subst b;exact c.at_ i _ d
 |none=>rw[d] at b;simp at b;exact g.at_ i v b⟩
def LC (a:Act):SM:=(List.range a.tmps.size).map λi=>(i,a.tmps.getD i undef)
def R0 (f:Nat→Value):∀(k s i:Nat),s≤i→i<s+k→lk ((List.range' s k).map λi=>(i,f i)) i=some (f i)
 |0,s,i,a,b=>by omega
 |k+1,s,i,a,b=>by
  simp only[List.range'_succ,Abl,lk];by_cases e:s=i
  ·subst e;simp
  ·have:Nat.beq s i=false:=by
    cases c:Nat.beq s i with
    |false=>rfl
    |true=>exact absurd (Aa8 c) e
   rw[this];exact R0 f k (s+1) i (by omega) (by omega)
def U9 {a:Act}{i:Nat}(h:i<a.tmps.size):lk (LC a) i=some (a.tmps.getD i undef):=by
 unfold LC;rw[List.range_eq_range'];exact R0 _ _ 0 i (by omega) (by omega)
def Rz (f:Nat→Value):∀(k s i:Nat),s+k≤i→lk ((List.range' s k).map λi=>(i,f i)) i=none
 |0,s,i,h=>rfl
 |k+1,s,i,h=>by
  simp only[List.range'_succ,Abl,lk];have:Nat.beq s i=false:=by
   cases a:Nat.beq s i with
   |false=>rfl
   |true=>exact absurd (Aa8 a) (by omega)
  rw[this];exact Rz f k (s+1) i (by omega)
def Fr.full {n a m}(h:Fr n a m):Fr n a (LC a):=⟨h.dfr,h.siz,λi v b=>by
 by_cases c:i<a.tmps.size
 ·rw[U9 c] at b;injection b with b
  subst b;simp [Acu,Adk c]
 ·unfold LC at b;rw[List.range_eq_range',Rz _ _ 0 i (by omega)] at b;cases b⟩
section
variable {P:Program}{ops:Array Oper}{Q:Exit→Act→World→Prop}{a:Act}{w:World}
def LH {o:Oper}{K:Act→World→Prop}(l:o.guard=none) (h:wpList P ops (Exit.then K Q) [o] a w):o.wp P a w K Q∨(o.asks P a w∧LetsOut Q):=by
 unfold wpList at h;rw[Aay (by simp [Region.wanted,l])] at h;rcases h with b|⟨b,g,i,h2⟩
 ·refine .inl ?_;unfold Oper.wp at b ⊢;generalize (execOp a.eval o).run P w=r at b
  cases r with
  |ok m w'=>
   cases m<;>simp only[Oper.upon] at b ⊢
   case value v=>exact b
   case skip=>exact b
   case defer d=>exact b
   case enter f args=>
    refine b.mono λe j k=>?_;cases e with
    |returned v=>exact k
    |panicked c=>exact k
    |outgrown=>obtain⟨g,i,h0⟩:=k;exact⟨g,i,h0⟩
   case row r args=>obtain b:=b;exact Rows.mono b λv j n=>n
  |halt x w'=>cases x<;>simp only[Oper.upon] at b ⊢;exact b
 ·exact .inr ⟨b,g,i,h2⟩
def Sf {o:Oper}{K:Act→World→Prop}(h:({ o with guard:=none}:Oper).wp P a w K Q∨(({ o with guard:=none}:Oper).asks P a w∧LetsOut Q)):o.wp P a w K Q∨(o.asks P a w∧LetsOut Q):=h
def T8 (a:Array Bool):Nat:=a.toList.count false
def MH {a:Array Bool}{i:Nat}(h:a.getD i true=false):T8 (a.setIfInBounds i true)+1=T8 a:=by
 have b:i<a.size:=by
  rcases Abk i a.size with h'|h'
  ·exact h'
  ·simp [Aee h'] at h
 have c:a[i]=false:=by simpa [b] using h
 have g:false∈a.toList:=by rw[←c];simp
 have d:0<a.toList.count false:=List.count_pos_iff.2 g;unfold T8;rw[Array.toList_setIfInBounds,List.count_set (by simpa using b)];have j:a.toList[i]'(by simpa using b)=false:=by simpa using c
 rw[j];rw[show (if (false==false)=true then 1 else 0:Nat)=1 from rfl,show(if (true==false)=true then 1 else 0:Nat)=0 from rfl];omega
def Vw {a:Array Bool}(h:T8 a=0) {i:Nat}:a.getD i true=true:=by
 cases b:a.getD i true with
 |true=>rfl
 |false=>have:=MH b;omega
def ZT {a:Array Bool}(h:∀i,i<ops.size→a.getD i true=true):Region.ready .any ops a=[]:=by
 apply List.eq_nil_iff_forall_not_mem.2;intro j c;obtain⟨b,o,d,_⟩:=mem_ready.1 c;rw[h j (Ab5.1 d).1] at b;cases b
def NA {a:Array Bool}(n:PO ops=true) (w:a.size=ops.size) {k:Nat}(x:k<ops.size) (o:a.getD k true=false):∃i,i≤k∧i∈Region.ready .any ops a∧∀j,j<i→a.getD j true=true:=by
 obtain⟨i,q,s,g⟩:=MR (p:=λi=>a.getD i true) k o;have b:i<ops.size:=by omega
 refine⟨i,q,mem_ready.2 ⟨s,ops[i],by simp [b],λe t c=>?_⟩,g⟩;have d:=Aa6.1 n i (Ab9.2 b);have u:ops[i]? =some ops[i]:=by simp [b]
 rw[u] at d;simp only[Adq,Acm,Adr] at d;have l:=d e t;simp only[c,Ab4,Ac9,Abh] at l;have m:=g e.on l;have v:e.on<a.size:=by omega
 simp only[Acu,Adk v,Acm] at m ⊢;exact m
def Fr.same {n:FN}{a b:Act}{d:Nat}{v:Value}{l k:SM}(hd:d<n.1) (h:Fr n a l) (h':Fr n b ((d,v)::k)) (m:∀i u,i≠d→a.tmps[i]? =some u→lk ((d,v)::k) i=some u):b=a.put (some d) v:=by
 obtain⟨t,o⟩:=a;obtain⟨t',c⟩:=b;have p:o=n.2:=h.dfr;have q:c=n.2:=h'.dfr;subst p;subst q;have w:t.size=n.1:=h.siz;have x:t'.size=n.1:=h'.siz;simp only[Act.put,Act.mk.injEq,and_true];apply Array.ext_getElem?;intro i;rw[Acn];by_cases e:d=i
 ·subst e;rw[Aay rfl,Aay (by omega)];exact h'.at_ d v (by simp [lk])
 ·rw[Aaw e];cases g:t[i]? with
  |some u=>exact h'.at_ i u (m i u (λs=>e s.symm) g)
  |none=>
   have:t.size≤i:=by
    rcases Abk i t.size with j|j
    ·rw[Adk j] at g;cases g
    ·exact j
   exact Aee (by omega)
def LT {R:AR}{h:AV}{K:SM→Prop}{n:FN}:∀(k:List (Nat×Nat)) (fr:SM),PA R h K k fr→(∀p∈k,∃v,a.tmps[p.2]? =some v∧R p.1 v h)→Fr n a fr→∃c,K c∧Fr n a c
 |[],fr,l,_,g=>⟨fr,l,g⟩
 |(j,d)::k,fr,l,q,g=>by
  obtain⟨v,s,t⟩:=q (j,d) (by simp);refine LT k _ (l v t) (λw m=>q w (by simp [m])) ⟨g.dfr,g.siz,λi u b=>?_⟩;simp only[lk] at b;cases o:Nat.beq d i with
  |true=>
   rw[o] at b;simp only[Aax,Ab8] at b;have:=Aa8 o;subst this;subst b;exact s
  |false=>rw[o] at b;simp only[Aa0] at b;exact g.at_ i u b
def dE {m:SM}{i:Nat}{v:Value}(h:lk m i=some v):i∈m.map (·.1):=by
 induction m with
 |nil=>simp [lk] at h
 |cons e r b=>
  obtain⟨j,u⟩:=e;simp only[lk] at h;cases a:Nat.beq j i with
  |true=>have:=Aa8 a;subst this;simp
  |false=>rw[a] at h;simp only[Aa0] at h;simp [b h]
def Qd {n:FN}{fr:SM}{g d:Nat}(c:Fr n a fr) {v:Value}(b:G9 ops g=some d) (i:lk fr d=some v):yielded ops a.tmps g=yb v:=by
 have j:=c.at_ d v i;unfold yielded;unfold G9 at b;simp only[b,Aav,j];cases v<;>rfl
def AQ (P:Program) (ops:Array Oper) (Q:Exit→Act→World→Prop) (B:World) (n:FN) (m:SM) (h0:AV) (R:AR):Nat→List Oper→List (List (Nat×Nat))→Prop
 |i,o::l,a::pss=>(match o.dst with|some d=>Uj P ops Q B n m h0 R i o d a|none=>False)∧AQ P ops Q B n m h0 R (i+1) l pss
 |_,_,_=>True
def XG (ops:Array Oper) (l:List Oper) (pss:List (List (Nat×Nat))):Bool:=Nat.beq l.length pss.length&&(l.zip pss).all λp=>TE ops p.1 p.2
def AQ.at_ {B:World}{n:FN}{m:SM}{h0:AV}{R:AR}:∀{l:List Oper}{pss:List (List (Nat×Nat))}{k i:Nat}{o:Oper}{d:Nat},AQ P ops Q B n m h0 R k l pss→XG ops l pss=true→l[i]? =some o→o.dst=some d→∃b,TE ops o b=true∧Uj P ops Q B n m h0 R (k+i) o d b
 |[],_,_,_,_,_,_,_,h,_=>by simp at h
 |_::_,[],_,_,_,_,_,a,_,_=>by simp [XG] at a
 |j::l,b::pss,k,0,o,d,c,a,g,hd=>by
  simp only[Ac7,Ab8] at g;subst g;simp only[AQ,hd] at c;simp only[XG,List.zip_cons_cons,List.all_cons,Aa3] at a;exact⟨b,a.2.1,c.1⟩
 |j::l,b::pss,k,i+1,o,d,c,a,g,hd=>by
  simp only[Ac3] at g;simp only[AQ] at c;simp only[XG,List.zip_cons_cons,List.all_cons,Aa3,Acj] at a;have:=AQ.at_ (l:=l) (pss:=pss) (k:=k+1) (i:=i) c.2 (by simp only[XG,Aa3];exact⟨by have:=a.1;simpa using this,a.2.2⟩) g hd;rw[show k+(i+1)=k+1+i by omega];exact this
end
def AQ.cons {P:Program}{ops:Array Oper}{Q:Exit→Act→World→Prop}{B:World}{n:FN}{m:SM}{h0:AV}{R:AR}{i:Nat}{o:Oper}{l:List Oper}{a:List (Nat×Nat)}{pss:List (List (Nat×Nat))}{d:Nat}(hd:o.dst=some d) (h:Uj P ops Q B n m h0 R i o d a) (t:AQ P ops Q B n m h0 R (i+1) l pss):AQ P ops Q B n m h0 R i (o::l) (a::pss):=by
 simp only[AQ,hd];exact⟨h,t⟩
def SN (S:Nat→Prop) (h0 h:AV):Nat→Prop:=λb=>S b∨(h0.size≤b∧b<h.size)
def SN.mono {S h0 h h'}(d:∀b,S b→b<h0.size) (g:DX h0 h) (a:DX h h'):B9 (SN S h0 h) h (SN S h0 h') h':=
 ⟨λb c=>c.imp_right λx=>⟨x.1,Aa9 x.2 a.siz⟩,λb c=>a.same b (c.elim (λx=>Aa9 (d b x) g.siz) (·.2)),a.siz⟩
def SN.st {S L h0 h}(c:St S L h0) (o:DX h0 h):St (SN S h0 h) L h:=by
 refine⟨λb a=>a.elim (λx=>Aa9 (c.1 b x) o.siz) (·.2),?_⟩;refine Sp.ext c.2 (λb x=> .inl x) (λb a=>o.same b (a.elim (c.1 b) (·.1))) λb a=>⟨Aa9 a.1 o.siz,λx=>x.elim a.2 λy=>by omega⟩
def SN.ext {S h0 h}(a:∀b,S b→b<h0.size) (o:DX h0 h):B9 S h0 (SN S h0 h) h:=⟨λ_ x=> .inl x,λb c=>o.same b (a b c),o.siz⟩
section
variable {P:Program}{ex:List (Nat×AP)}{RR N:AP}{cs:List Code}{B:World}{h:AV}{n:FN}{m m0:SM}{S:Nat→Prop}{L:List HP}
end
def A9 {P:Program}{ops:Array Oper}{Q:Exit→Act→World→Prop}{B:World}{n:FN}{d:Nat}{R:Value→AV→Prop}{h h':AV}{m:SM}{v:Value}(o:DX h h') (r:R v h'):LF P ops (Exit.then (KS B n d R h m) Q) [] B h' n ((d,v)::m):=
 λ_ _ a b=>⟨v,h',a,b,o,r⟩
def Fz (a:Nat→Prop) (h:AV):HP where
 holds:=λ_ F h'=>(∀b,F b↔a b)∧∀b,a b→h'[b]? =h[b]?
 loc:=λ⟨c,g⟩ _ e=>⟨c,λb d=>(e b (.inr ((c b).2 d))).trans (g b d)⟩
def xX (S:Nat→Prop) (h:AV):HP:=Fz (λb=>b<h.size∧¬S b) h
def St.fz {S L h}(a:St S L h):St S [xX S h] h:=⟨a.1,_,⟨λ_=>Acp,λ_ _=>rfl⟩,λb c=>c,trivial⟩
def Fz.done {S S2:Nat→Prop}{h0 h a:AV}(o:DX h0 h) (e:B9 (SN S h0 h) h S2 a) (d:St S2 [xX (SN S h0 h) h] a):DX h a∧B9 S2 a (SN S h0 a) a:=by
 obtain⟨F,⟨j,k⟩,l,_⟩:=d.2;refine⟨⟨e.siz,λb c=>?_⟩,λb c=>?_,λ_ _=>rfl,Abd _⟩
 ·rcases Classical.em (SN S h0 h b) with g|g
  ·exact e.same b g
  ·exact k b ⟨c,g⟩
 ·rcases Abk b h.size with g|g
  ·rcases Classical.em (SN S h0 h b) with i|i
   ·exact i.imp_right λx=>⟨x.1,d.1 b c⟩
   ·exact absurd c (l b ((j b).2 ⟨g,i⟩)).2
  ·exact .inr ⟨Acd o.siz g,d.1 b c⟩
def ZQ (sz:Nat):Nat→List (Nat×Value)→Bool
 |_,[]=>true
 |k,(i,v)::r=>Nat.beq i k&&Nat.beq v.cells.toList.length sz&&ZQ sz (k+1) r
def UY {sz len:Nat}:∀(pv:List (Nat×Value)) (k:Nat) (pre a:List Value),ZQ sz k pv=true→pre.length=k*sz→a.length=pv.length*sz→k+pv.length≤len→
  NE (U2 sz len) (pre++a) pv=some (pre++(pv.map λp=>p.2.cells.toList).flatten)
 |[],k,pre,a,_,_,c,_=>by
  have:a=[]:=Ad5 (by simpa using c);subst this;simp [NE]
 |(i,v)::r,k,pre,a,h0,m,c,g=>by
  simp only[ZQ,Aa3] at h0;obtain⟨⟨d,j⟩,n⟩:=h0;have d:=Aa8 d;subst d;have l:=Aa8 j;simp only[Acj,Acw] at c;have o:i<len:=by simp at g;omega
  have q:(U2 sz len)[i]? =some (i*sz,sz):=by simp [U2,o]
  simp only[NE,q];have s:(Nat.beq v.cells.toList.length sz&&Nat.ble (i*sz+sz) (pre++a).length)=true:=by
   rw[j,Bool.true_and];exact Nat.ble_eq_true_of_le (by rw[Abi];omega)
  rw[s];simp only[Aax];have b:Ii (pre++a) (i*sz) v.cells.toList=(pre++v.cells.toList)++a.drop sz:=by
   unfold Ii;rw[←m,Adn,←List.drop_drop,List.drop_left,l]
  rw[b,UY r (i+1) (pre++v.cells.toList) (a.drop sz) n (by rw[Abi,l,Acw];omega) (by rw[Aco];omega) (by simp at g;omega)];simp
def X0 {sz:Nat}:∀(pv:List (Nat×Value)) (k:Nat),ZQ sz k pv=true→∀p∈pv,p.1<k+pv.length
 |[],_,_,p,a=>by cases a
 |(i,v)::r,k,h0,p,a=>by
  simp only[ZQ,Aa3] at h0;obtain⟨⟨b,d⟩,c⟩:=h0;have b:=Aa8 b;rcases Aa5.1 a with h|h
  ·subst h;simp;omega
  ·have:=X0 r (k+1) c p h;simp;omega
def Dn {P:Program}{ops:Array Oper}{Q:Exit→Act→World→Prop}{n:FN}{m:SM}{c:List Oper}{d:Nat}{ty:TypeId}{pos:String}{af:Array Edge}{B:World}{h:AV}{S:Nat→Prop}{L:List HP}
  {T e sz g len:Nat} {z cs:List Value} {a:Array (Nat×Operand)} {pv:List (Nat×Value)} (s:OY P T=some (e,sz,g,z)) (j:a.toList.mapM (jE m)=some pv)
  (t:ZQ sz 0 pv=true) (l:Nat.beq pv.length len=true) (u:(pv.map λp=>p.2.cells.toList).flatten=cs) (o:Nat.blt 0 len=true) (q:Nat.ble (len*sz) 16777216=true) (hd:Nat.blt d n.1=true) (v:St S L h)
  (k:∀b h',St S (Bx b e cs::L) h'→B9 S h S h'→LF P ops Q c B h' n ((d,.slice (some ⟨b,0,none⟩) len len)::m)):LF P ops Q (⟨some d,.buildSlice T len a,ty,pos,af,none⟩::c) B h n m:=by
 have l:=Aa8 l;subst l;obtain⟨i,x,_,_,_,_,_,_,w,_⟩:=K1 s;refine nT s j (cs:=cs) ?_ o q (λp j=>by have:=X0 pv 0 t p j;omega) hd v k;have:=UY (len:=pv.length) pv 0 [] (List.replicate pv.length z).flatten t (by simp) (by simp [w]) (by omega);rw[Abj,Abj,u] at this;exact this
def uJ {α}(S:Nat→Prop) (h:AV) (r:A4 α) (s:Value) (xs:List α):Prop:=
 (s= .slice none 0 0∧xs=[])∨∃(b:Addr) (sc:Nat) (a:List Value),s= .slice (some b) xs.length sc∧xs.length≤maxLen∧LS S h r a xs∧∀j u,a[j]? =some u→IZ h (b.add j)=some u
def UH {α}{S:Nat→Prop}{h:AV}{r:A4 α}(b:Nat):∀(l:List α) (o:Nat),(∀i x,l[i]? =some x→Pt S h r (.pointer (some ⟨b,o+i*r.sz,none⟩)) x)→∃c,LS S h r c l∧∀j u,c[j]? =some u→IZ h ⟨b,o+j,none⟩=some u
 |[],_,_=>⟨[],rfl,λj u d=>by simp at d⟩
 |x::l,o,k=>by
  obtain⟨cs,⟨a,p,_,w,q⟩,n⟩:=k 0 x rfl;obtain⟨c,s,t⟩:=UH b l (o+r.sz) λi y v=>by
   have:=k (i+1) y (by simpa using v);rwa [Acw,Nat.add_comm (i*r.sz),←Adj] at this
  have z:=r.len n;refine⟨cs++c,⟨cs,c,rfl,n,s⟩,λj u d=>?_⟩;have m:a=⟨b,o,none⟩:=by simpa using p.symm
  subst m;by_cases g:j<cs.length
  ·rw[Aer g] at d;rw[←d];exact q j g
  ·rw[Aes (by omega)] at d;have:=t _ u d;rw[show o+r.sz+(j-cs.length)=o+j by omega] at this;exact this
def Sl.src {α}{S:Nat→Prop}{h:AV}{r:A4 α}{s:Value}{xs:List α}(k:Sl S h r s xs):uJ S h r s xs:=by
 rcases k with k|⟨a,cap,h1,h4,h5,h6⟩
 ·exact .inl k
 ·cases xs with
  |nil=>exact .inr ⟨a,cap,[],h1,Aa4 _,rfl,λj u l=>by simp at l⟩
  |cons x xs=>
   have c:=(h6 0 x rfl).1;obtain⟨b,o,s⟩:=a;simp only at c;subst c;obtain⟨d,m,n⟩:=UH b (x::xs) o λi y p=>(h6 i y p).2;refine .inr ⟨_,cap,d,h1,Acd h4 h5,m,λj u l=>?_⟩;have g:(⟨b,o,none⟩:Addr).add j=⟨b,o+j,none⟩:=by unfold Addr.add;split<;>simp_all
   rw[g];exact n j u l
def St.src {α}{S:Nat→Prop}{h:AV}{r:A4 α}{T:Nat}{s:Value}{xs:List α}{L:List HP}(l:St S L h) (m:OS r T s xs∈L):uJ S h r s xs:=by
 obtain⟨F,k,n⟩:=l.get m;rcases k with ⟨⟨d,c⟩,k2,_⟩|⟨g,cap,cur,c,k2,k3,k4,k5,k6,k7⟩
 ·subst k2;cases d with
  |none=>exact .inl ⟨c,rfl⟩
  |some d=>exact .inr ⟨d,0,[],c,Aa4 _,rfl,λj u a=>by simp at a⟩
 ·refine .inr ⟨_,cap,_,c,Acd k4 k5,k7,λj u a=>?_⟩;have b:(⟨g,0,none⟩:Addr).add j=⟨g,j,none⟩:=by unfold Addr.add;split<;>simp_all
  have i:=(Aba.1 a).1;simp only[Aca] at i;rw[Aci (by omega)] at a;rw[b];simp only[IZ,k3,Adw,Acz,Ac0];simpa using a
section
variable {P:Program}{ops:Array Oper}{Q:Exit→Act→World→Prop}{n:FN}{m:SM}{rest:List Oper}
variable {d:Nat}{ty:TypeId}{pos:String}{af:Array Edge}{X Y:Operand}{B w:World}{h:AV}{S:Nat→Prop}{L L2:List HP}{v:Value}
def WC {α}{r:A4 α}{T ty e sz a:Nat}{z:List Value}{v s:Value}{l xs:List α}{F:Nat→Prop}(p:OY P T=some (e,sz,a,z)) (j:r.sz=sz)
  (c:uJ S h r s xs) (m:l.length+xs.length≤maxLen) (n:Js (l.length+xs.length) a) (q:Wd B h w) (k:(OS r e v l).holds S F h) (y:∀b,S b→b<h.size∧¬F b):
  ∃t w' h' u,(Builtin.append_ #[T,T] ty #[v,s]).run P w= .ok t w'∧Wd B h' w'∧h.size≤h'.size∧(OS r e t (l++xs)).holds S u h'∧(∀b,u b→F b∨(h.size≤b∧b<h'.size))∧∀b,b<h.size→¬F b→h'[b]? =h[b]? :=by
 rcases c with ⟨rfl,rfl⟩|⟨sd,sc,news,d,_,hn,hc⟩
 ·obtain⟨i,D,d,x,G,H,I,J,K,M⟩:=K1 p;rw[Abx];refine⟨v,w,h,F,?_,q,Abd _,k,λb A=> .inl A,λ_ _ _=>rfl⟩;rcases k with ⟨⟨C,rfl⟩,rfl,hF⟩|⟨g,cap,cur,rfl,hF,hg,hlc,hcm,hcs,hrd⟩
  ·cases C<;>simp [Builtin.append_,run_underlying d,sizeOf,typeInfo,x,Builtin.lenOf,Builtin.firstCells,loadCells,loadCellsFrom,storeCells]
  ·have o:l.length≤cap:=hlc;simp [Builtin.append_,run_underlying d,sizeOf,typeInfo,x,Builtin.lenOf,Builtin.firstCells,loadCells,loadCellsFrom,storeCells,o]
 ·exact Uv p j d hn hc m n q k y
def qD {α}{r:A4 α}{T e sz y:Nat}{z:List Value}{v s:Value}{l xs:List α}{LL:Value→List HP}{a:Act}(g:Fr n a m) (hx:BR m X=some v) (hy:BR m Y=some s) (he:OY P T=some (e,sz,y,z)) (A:r.sz=sz)
  (t:uJ S h r s xs) (C:l.length+xs.length≤maxLen) (D:Js (l.length+xs.length) y) (hd:Nat.blt d n.1=true) (hw:Wd B h w) (u:St S L h) (rp:∀i,Mu L (OS r e v l) (OS r e i (l++xs)) (LL i))
  (k:∀i a w h',Fr n a ((d,i)::m)→Wd B h' w→St S (LL i) h'→B9 S h S h'→wpList P ops Q rest a w):
  wpList P ops Q (⟨some d,.call ⟨.builtin .append,#[X,Y],#[T,T]⟩,ty,pos,af,none⟩::rest) a w:=by
 refine wpList_plain rfl λK hK=>?_;unfold Oper.wp;obtain⟨M,p,_⟩:=(rp v).pick;obtain⟨F,g1,g2,_⟩:=Sp.pick p u.2;obtain⟨i,w',h',F',e1,e2,e3,e4,e5,e6⟩:=WC (ty:=ty) he A t C D hw g1 λb c=>⟨u.1 b c,λg=>(g2 b g).2 c⟩
 have H:(execOp a.eval ⟨some d,.call ⟨.builtin .append,#[X,Y],#[T,T]⟩,ty,pos,af,none⟩).run P w= .ok (.value i) w':=by
  simp [execOp,resolve,invoke,builtin,g.eval hx,g.eval hy,e1]
 rw[H];obtain⟨M,p,q⟩:=(rp i).pick;have I:St S (LL i) h'∧B9 S h S h':=by
  obtain⟨G,aa,j,ab⟩:=Sp.pick p u.2;obtain⟨ai,aj,J,ac,U,ad,o,ae,V,W⟩:=WC (ty:=ty) he A t C D hw aa λb c=>⟨u.1 b c,λg=>(j b g).2 c⟩
  rw[e1] at U;injection U with ev ew
  subst ev;subst ew;have hh:J=h':=by rw[←ad.heap,e2.heap]
  subst hh;have Z:∀b,S b→J[b]? =h[b]? :=λb c=>W b (u.1 b c) λg=>(j b g).2 c;refine⟨⟨λb c=>Aa9 (u.1 b c) o,MZ q ⟨ac,ae,λb c=>?_,?_⟩⟩,λ_ x=>x,Z,o⟩
  ·rcases V b c with g|⟨hl,hu⟩
   ·exact⟨Aa9 (j b g).1 o,(j b g).2⟩
   ·exact⟨hu,λag=>absurd (u.1 b ag) (by omega)⟩
  ·refine Sp.ext ab (λ_ x=>x) (λb c=>?_) λb c=>⟨⟨Aa9 c.1.1 o,c.1.2⟩,λah=>?_⟩
   ·rcases c with c|c
    ·exact Z b c
    ·exact W b c.1.1 c.2
   ·rcases V b ah with g|⟨hl,_⟩
    ·exact c.2 g
    ·exact absurd c.1.1 (by omega)
 exact hK _ _ (k i _ w' h' (g.put hd _) e2 I.1 I.2)
def Io {α}{r:A4 α}{T e sz b:Nat}{z:List Value}{v s:Value}{l xs:List α}{LL:Value→List HP}(x:BR m X=some v) (y:BR m Y=some s) (A:OY P T=some (e,sz,b,z)) (j:r.sz=sz)
  (g:uJ S h r s xs) (i:Nat.blt 0 b=true) (o:Ih (l.length+xs.length) b=true) (hd:Nat.blt d n.1=true) (p:St S L h) (C:∀c,Mu L (OS r e v l) (OS r e c (l++xs)) (LL c))
  (k:∀c h',St S (LL c) h'→B9 S h S h'→LF P ops Q rest B h' n ((d,c)::m)):LF P ops Q (⟨some d,.call ⟨.builtin .append,#[X,Y],#[T,T]⟩,ty,pos,af,none⟩::rest) B h n m:=λa w q t=>
 have D:1≤b:=by simpa [Nat.blt] using i
 have F:l.length+xs.length≤(l.length+xs.length)*b:=Nat.le_mul_of_pos_right _ D;have u:=MV o;have G:=u.le
 qD q x y A j g (by unfold maxLen;omega) u hd t p C λc a w h' q t p e=>k c h' p e a w q t
end
def Cw (k:IntKind) (n:Int):k.has (k.wrap n):=by
 cases k<;>simp only[IntKind.has,IntKind.wrap,IntKind.min,IntKind.max,IntKind.bits,IntKind.signed]<;>simp<;>(try split)<;>omega
def Qz (k:IntKind) {n:Int}(h:k.has n) (j:Nat):k.has (n.fdiv (2^j)):=by
 have c:(0:Int)<2^j:=Int.pow_pos (by decide);have l:k.min≤0∧0≤k.max:=by cases k<;>decide
 have e:n.fdiv (2^j)=n/2^j:=Int.fdiv_eq_ediv_of_nonneg _ (Int.le_of_lt c);rw[e];obtain⟨a,b⟩:=h;by_cases h0:0≤n
 ·have d:=Int.ediv_nonneg h0 (Int.le_of_lt c);have g:=Int.ediv_le_self (2^j) h0;exact⟨by omega,by omega⟩
 ·have d:n/2^j≤0:=by
   have:=Int.ediv_le_ediv c (show n≤0 by omega);simpa using this
  have g:n≤n/2^j:=by
   have i:(1:Int)≤2^j:=c;rw[Int.le_ediv_iff_mul_le c];have:=Int.mul_le_mul_of_nonpos_left (a:=n) (by omega) i;simpa using this
  exact⟨by omega,by omega⟩
def jR (k:IntKind) {n m:Int}(h:k.has n):k.has (n.tmod m):=by
 have i:k.min≤0∧0≤k.max:=by cases k<;>decide
 obtain⟨a,b⟩:=h;by_cases h0:0≤n
 ·have d:0≤n.tmod m:=Int.tmod_nonneg m h0;have g:n.tmod m≤n:=by
   have e:=Int.natAbs_tmod n m;have c:n.natAbs%m.natAbs≤n.natAbs:=Nat.mod_le _ _;omega
  exact⟨by omega,by omega⟩
 ·have d:(-n).tmod m= -(n.tmod m):=Int.neg_tmod n m;have g:0≤(-n).tmod m:=Int.tmod_nonneg m (by omega);have c:(-n).tmod m≤ -n:=by
   have e:=Int.natAbs_tmod (-n) m;have c:(-n).natAbs%m.natAbs≤(-n).natAbs:=Nat.mod_le _ _;omega
  exact⟨by omega,by omega⟩
def A4.intk (k:IntKind):A4 Int where
 sz:=1
 ag:=false
 rd:=λ_ _ cs x=>cs=[.int k x]∧k.has x
 len:=λ⟨h,_⟩=>by rw[h];rfl
 one:=λ⟨h,_⟩ v a=>by rw[h] at a;simp at a;rw[a];rfl
 mono:=λh _ _=>h
def Rd.intk {S h v k x}(q:Rd S h (A4.intk k) v x):v= .int k x∧k.has x:=by obtain⟨_,rfl,rfl,h⟩:=q;exact⟨rfl,h⟩
def FX (o:BinOp) (k:IntKind) (x y:Int):Int:=
 let a:=BitVec.ofInt k.bits x
 let b:=BitVec.ofInt k.bits y
 k.wrap ((match o with| .and=>a&&&b| .or=>a|||b| .xor=>a ^^^ b|_=>a&&& ~~~b).toNat)
def SK (k:IntKind) (x y:Int):Option Int:=if y=0 then none else some (k.wrap (x.tdiv y))
def Uy (x y:Int):Option Int:=if y=0 then none else some (x.tmod y)
def Do (k:IntKind) (x:Int) (j:Nat):Int:=k.wrap (x*2^(min j k.bits))
def EZ (k:IntKind) (x:Int) (j:Nat):Int:=x.fdiv (2^(min j k.bits))
def QN (y:Int):Option Nat:=if y<0 then none else some y.toNat
def O4 {k x y z}(h:SK k x y=some z):k.has z:=by
 unfold SK at h;split at h
 ·cases h
 ·cases h;exact Cw _ _
def cJ {k:IntKind}{x y z}(a:k.has x) (h:Uy x y=some z):k.has z:=by
 unfold Uy at h;split at h
 ·cases h
 ·cases h;exact jR k a
def VM (s:ByteArray) (i:Int):Option Int:=if i<0 then none else (s[i.toNat]?).map λb=>(b.toNat:Int)
def Li {s i x}(h:VM s i=some x):IntKind.u8.has x:=by
 unfold VM at h;split at h
 ·cases h
 ·obtain⟨b,_,rfl⟩:=Acf.1 h;have:=b.toNat_lt;simp [IntKind.has,IntKind.min,IntKind.max,IntKind.bits,IntKind.signed];omega
section
variable {P:Program}{ops:Array Oper}{C:World→Prop}{Q:Act→Prop}{n:FN}{m m':SM}{rest:List Oper}
variable {d:Nat}{ty:TypeId}{pos:String}{af:Array Edge}{X Y Z:Operand}{t t1 t2:TypeId}{x y z:Int}{kd kd2:IntKind}{v p:Value}{S:Nat→Prop}{L:List HP}{h:AV}
def PV {a:BinOp}{u:Value}(b:BR m X=some (.int kd x)) (c:BR m Y=some (.int kd y)) (hd:Nat.blt d n.1=true) (g:∀w,(binOp a t1 (.int kd x) (.int kd y)).run P w= .ok u w)
  (k:QF P ops C Q rest n ((d,u)::m)):QF P ops C Q (⟨some d,.binOp a t1 X Y t2,ty,pos,af,none⟩::rest) n m:=λ_ i=>O5 i b c hd g k
def lS (a:BR m X=some (.int kd x)) (b:BR m Y=some (.int kd y)) (hd:Nat.blt d n.1=true) (k:QF P ops C Q rest n ((d,.int kd (kd.wrap (x+y)))::m)):QF P ops C Q (⟨some d,.binOp .add t1 X Y t2,ty,pos,af,none⟩::rest) n m:=PV a b hd (λw=>by simp [binOp,Op.intArith]) k
def kY (a:BR m X=some (.int kd x)) (b:BR m Y=some (.int kd y)) (hd:Nat.blt d n.1=true) (k:QF P ops C Q rest n ((d,.int kd (kd.wrap (x-y)))::m)):QF P ops C Q (⟨some d,.binOp .sub t1 X Y t2,ty,pos,af,none⟩::rest) n m:=PV a b hd (λw=>by simp [binOp,Op.intArith]) k
def lG (a:BR m X=some (.int kd x)) (b:BR m Y=some (.int kd y)) (hd:Nat.blt d n.1=true) (k:QF P ops C Q rest n ((d,.int kd (kd.wrap (x*y)))::m)):QF P ops C Q (⟨some d,.binOp .mul t1 X Y t2,ty,pos,af,none⟩::rest) n m:=PV a b hd (λw=>by simp [binOp,Op.intArith]) k
def lQ (a:BR m X=some (.int kd x)) (b:BR m Y=some (.int kd y)) (hd:Nat.blt d n.1=true) (k:QF P ops C Q rest n ((d,.int kd (FX .and kd x y))::m)):QF P ops C Q (⟨some d,.binOp .and t1 X Y t2,ty,pos,af,none⟩::rest) n m:=PV a b hd (λw=>by simp [binOp,Op.intBits,FX]) k
def gI (a:BR m X=some (.int kd x)) (b:BR m Y=some (.int kd y)) (hd:Nat.blt d n.1=true) (k:QF P ops C Q rest n ((d,.int kd (FX .or kd x y))::m)):QF P ops C Q (⟨some d,.binOp .or t1 X Y t2,ty,pos,af,none⟩::rest) n m:=PV a b hd (λw=>by simp [binOp,Op.intBits,FX]) k
def Yu (a:BR m X=some (.int kd x)) (b:BR m Y=some (.int kd y)) (hd:Nat.blt d n.1=true) (k:QF P ops C Q rest n ((d,.int kd (FX .xor kd x y))::m)):QF P ops C Q (⟨some d,.binOp .xor t1 X Y t2,ty,pos,af,none⟩::rest) n m:=PV a b hd (λw=>by simp [binOp,Op.intBits,FX]) k
def VV (b:BR m X=some (.int kd x)) (c:BR m Y=some (.int kd y)) (hd:Nat.blt d n.1=true) (a:SK kd x y=some z) (k:QF P ops C Q rest n ((d,.int kd z)::m)):QF P ops C Q (⟨some d,.binOp .quo t1 X Y t2,ty,pos,af,none⟩::rest) n m:=by
 unfold SK at a;split at a
 ·cases a
 ·rename_i h0;cases a;exact PV b c hd (λw=>by simp [binOp,Op.intDiv,h0]) k
def lF (b:BR m X=some (.int kd x)) (c:BR m Y=some (.int kd y)) (hd:Nat.blt d n.1=true) (a:Uy x y=some z) (k:QF P ops C Q rest n ((d,.int kd z)::m)):QF P ops C Q (⟨some d,.binOp .rem t1 X Y t2,ty,pos,af,none⟩::rest) n m:=by
 unfold Uy at a;split at a
 ·cases a
 ·rename_i h0;cases a;exact PV b c hd (λw=>by simp [binOp,Op.intDiv,h0]) k
def Y4 {b:BinOp}{u:Value}(g:BR m X=some (.int kd x)) (i:BR m Y=some (.int kd2 y)) (hd:Nat.blt d n.1=true) (j:∀w,(binOp b t1 (.int kd x) (.int kd2 y)).run P w= .ok u w)
  (k:QF P ops C Q rest n ((d,u)::m)):QF P ops C Q (⟨some d,.binOp b t1 X Y t2,ty,pos,af,none⟩::rest) n m:=λa c=>by
 refine Du c hd (λw _=>?_) k;have l:(eqGuard b t1 X Y (.int kd x) (.int kd2 y)).run P w= .ok () w:=by
  unfold eqGuard;cases b<;>simp
 simp [execOp,c.eval g,c.eval i,l,j]
def Sb {j:Nat}(b:BR m X=some (.int kd x)) (c:BR m Y=some (.int kd2 y)) (hd:Nat.blt d n.1=true) (a:QN y=some j) (k:QF P ops C Q rest n ((d,.int kd (Do kd x j))::m)):QF P ops C Q (⟨some d,.binOp .shl t1 X Y t2,ty,pos,af,none⟩::rest) n m:=by
 unfold QN at a;split at a
 ·cases a
 ·rename_i h0;cases a;exact Y4 b c hd (λw=>by simp [binOp,Op.shift,h0,Do]) k
def Jb {j:Nat}(b:BR m X=some (.int kd x)) (c:BR m Y=some (.int kd2 y)) (hd:Nat.blt d n.1=true) (a:QN y=some j) (k:QF P ops C Q rest n ((d,.int kd (EZ kd x j))::m)):QF P ops C Q (⟨some d,.binOp .shr t1 X Y t2,ty,pos,af,none⟩::rest) n m:=by
 unfold QN at a;split at a
 ·cases a
 ·rename_i h0;cases a;exact Y4 b c hd (λw=>by simp [binOp,Op.shift,h0,EZ]) k
def D9 {src dst:TypeId}{c:TypeDesc}(g:BR m X=some (.int kd x)) (i:P.underlying src=some c) (j:P.underlying dst=some (.int kd2)) (hd:Nat.blt d n.1=true) (k:QF P ops C Q rest n ((d,.int kd2 (kd2.wrap x))::m)):QF P ops C Q (⟨some d,.convert src dst X,ty,pos,af,none⟩::rest) n m:=λa b=>
 Du b hd (λw _=>by simp [execOp,b.eval g,convert,run_underlying i,run_underlying j,Conv.intToInt]) k
def Lk {s:ByteArray}(i:BR m X=some (.string s)) (j:BR m Y=some (.int kd y)) (l:P.underlying t=some .string) (c:VM s y=some z) (hd:Nat.blt d n.1=true) (k:QF P ops C Q rest n ((d,.int .u8 z)::m)):QF P ops C Q (⟨some d,.index t X Y,ty,pos,af,none⟩::rest) n m:=λa g=>by
 unfold VM at c;split at c
 ·cases c
 ·rename_i h0;obtain⟨b,o,rfl⟩:=Acf.1 c;exact Du g hd (λw _=>by simp [execOp,g.eval i,g.eval j,Instr.index,asIntOf,run_underlying l,show 0≤y by omega,o]) k
def VY {A:Nat→Prop}(g:CK C h) (i:∀b,A b→b<h.size) (j:BR m X=some p) (k0:My A S h (A4.intk kd) p x) (l:Jw P t 1 false=true) (hd:Nat.blt d n.1=true)
  (k:kd.has x→QF P ops C Q rest n ((d,.int kd x)::m)):QF P ops C Q (⟨some d,.load t X,ty,pos,af,none⟩::rest) n m:=λa o=>
 ZU g i o j k0 l (λ_=>rfl) hd λv q c s=>by obtain⟨rfl,u⟩:=s.intk;exact k u q c
end
def kN {α}{p:α→Prop}:∀x∈([]:List α),p x:=λu h=>by cases h
def all_cons {α}{p:α→Prop}{x:α}{l:List α}(h:p x) (t:∀x∈l,p x):∀y∈x::l,p y:=λu a=>by
 rcases Aa5.1 a with rfl|a
 ·exact h
 ·exact t u a
def wO {α}{p:α→Prop}{l:List α}{i:Int}{z:α}(h:∀x∈l,p x) (a:ix l i=some z):p z:=h _ (Ab6 (EY a).2)
def kL (b:Bool):b=false∨b=true:=by cases b<;>simp
def NB:∀u∈([]:List Value),u.oneCell'=true:=λu h=>by cases h
def CG {v:Value}{vs:List Value}(h:v.oneCell'=true) (t:∀u∈vs,u.oneCell'=true):∀u∈v::vs,u.oneCell'=true:=λu a=>by
 rcases Aa5.1 a with rfl|a
 ·exact h
 ·exact t u a
def St.osone {α}{r:A4 α}{T:Nat}{v:Value}{l:List α}{S:Nat→Prop}{L:List HP}{h:AV}(a:St S L h) (b:OS r T v l∈L):v.oneCell'=true:=(a.oslAll b).one
def Ly:Value→Value→Bool
 | .agg a,.agg b=>Wq a.toList b.toList
 |a,b=>Z0 a b
def MN {κ β}(kv:κ→Value) (m:List (κ×β)) (k:κ):Option β:=(m.find? λe=>Ly (kv k) (kv e.1)).map (·.2)
def N1 {κ β}(kv:κ→Value):List (κ×β)→κ→β→List (κ×β)
 |[],k,x=>[(k,x)]
 |(a,y)::r,k,x=>if Ly (kv k) (kv a) then (k,x)::r else (a,y)::N1 kv r k x
def VE (p:Value→Bool):List MapEntry→Nat→Option (Nat×Value)
 |[],_=>none
 |e::es,i=>if p e.key then some (i,e.val) else VE p es (i+1)
structure Nn {κ:Type}(P:Program) (T:TypeId) (kv:κ→Value):Prop where
 chk:∀k e w,(Instr.checkKey e 10000 T (kv k)).run P w= .ok () w
 find:∀k (es:List MapEntry) w,(∀e∈es,∃k',e.key=kv k')→(Instr.findKey T (kv k) es).run P w= .ok (VE (Ly (kv k)) es 0) w
 same:∀k k',Ly (kv k) (kv k')=true→Instr.sameBits 10000 (kv k') (kv k)=true
def O8 (a:TypeDesc) (k:Value) (p:Value→Bool):∀(es:List MapEntry) (i:Nat),(∀e∈es,Instr.sameNow a k e.key=some (p e.key))→Instr.findNow a k es i=some (VE p es i)
 |[],_,_=>rfl
 |e::es,i,h=>by
  have b:=h e (by simp);have c:=O8 a k p es (i+1) λe d=>h e (by simp [d]);simp only[Instr.findNow,b,VE];cases p e.key
  ·simpa using c
  ·rfl
def O9 {P:Program}(T:TypeId) (k:Value) (p:Value→Bool) (w:World):∀(es:List MapEntry) (i:Nat),(∀e∈es,(Op.equal T k e.key).run P w= .ok (p e.key) w)→(Instr.findAsking T k es i).run P w= .ok (VE p es i) w
 |[],_,_=>rfl
 |e::es,i,h=>by
  have a:=h e (by simp);have b:=O9 T k p w es (i+1) λe c=>h e (by simp [c]);simp only[Instr.findAsking,Sem.run_bind,a,Result.andThen_ok,VE];cases p e.key
  ·simpa using b
  ·rfl
def Ri {a b:ByteArray}:(a==b)=true↔a=b:=by
 obtain⟨a⟩:=a;obtain⟨b⟩:=b;rw[show ((⟨a⟩:ByteArray)==⟨b⟩)=(a==b) from rfl];simp
def Nn.str {P:Program}{T:TypeId}(b:P.underlying T=some .string) (c:∀(s:ByteArray) e w,(Instr.checkKey e 10000 T (.string s)).run P w= .ok () w):Nn P T Value.string where
 chk:=c
 find:=λk es w h=>by
  have:Instr.findNow .string (.string k) es 0=some (VE (Ly (.string k)) es 0):=O8 _ _ _ es 0 λe d=>by obtain⟨a,g⟩:=h e d;rw[g];rfl
  simp [Instr.findKey,run_underlying b,this]
 same:=λk a h=>by
  have:k=a:=Ri.1 (by simpa [Ly,Z0] using h);subst this;simp [Instr.sameBits,Ri.2]
def Nn.int {P:Program}{T:TypeId}{kd:IntKind}(b:P.underlying T=some (.int kd)) (c:∀(s:Int) e w,(Instr.checkKey e 10000 T (.int kd s)).run P w= .ok () w):Nn P T (Value.int kd) where
 chk:=c
 find:=λk es w h=>by
  have:Instr.findNow (.int kd) (.int kd k) es 0=some (VE (Ly (.int kd k)) es 0):=O8 _ _ _ es 0 λe d=>by
   obtain⟨a,g⟩:=h e d;rw[g];simp [Instr.sameNow,Ly,Z0,SY]
  simp [Instr.findKey,run_underlying b,this]
 same:=λk a h=>by
  have:k=a:=by simpa [Ly,Z0] using h
  subst this;simp [Instr.sameBits]
def Nn.agg {κ:Type}{P:Program}{T:TypeId}{f:κ→List Value}{l:List Nat}{i:Array _}(m:P.underlying T=some (.struct i)) (o:jY P T=some l) (n:∀k,(f k).map Mi=l) (p:∀a b,Ql (f a) (f b)=true)
  (q:∀k e w,(Instr.checkKey e 10000 T (.agg (f k).toArray)).run P w= .ok () w) (s:∀a b,Wq (f a) (f b)=true→f a=f b) (t:∀a,Instr.sameBits 10000 (.agg (f a).toArray) (.agg (f a).toArray)=true):Nn P T (λk=>Value.agg (f k).toArray) where
 chk:=q
 find:=λk es w h=>by
  have d:(Instr.findAsking T (.agg (f k).toArray) es).run P w= .ok (VE (Ly (.agg (f k).toArray)) es 0) w:=O9 T _ _ w es 0 λe u=>by
   obtain⟨c,v⟩:=h e u;rw[v];have:=(WX (w:=w) o (n k) (n c) (p k c)).1;simpa [Op.equal,Op.maxDepth,Ly] using this
  have g:Instr.findNow (.struct i) (.agg (f k).toArray) es 0=some (VE (Ly (.agg (f k).toArray)) es 0)∨Instr.findNow (.struct i) (.agg (f k).toArray) es 0=none:=by
   cases es with
   |nil=>exact .inl rfl
   |cons e es=>exact .inr rfl
  rcases g with j|j
  ·simp [Instr.findKey,run_underlying m,j]
  ·simp [Instr.findKey,run_underlying m,j,d]
 same:=λk c h=>by
  have h':Wq (f k) (f c)=true:=by simpa [Ly] using h
  have:=s k c h';simp only[this];exact t c
def OK (es:List MapEntry) (c:Nat):Prop:=(es.map (·.born)).Nodup∧∀x,x∈es→x.born<c
def OK.push {es:List MapEntry}{c:Nat}(k:OK es c) (e:MapEntry) (l:e.born=c):OK (es++[e]) (c+1):=by
 refine⟨?_,λx d=>?_⟩
 ·rw[Ack,List.nodup_append];refine⟨k.1,by simp,λa g b i=>?_⟩;simp only[Abl,List.map_nil,Ace] at i;obtain⟨y,j,rfl⟩:=Ab1.1 g;have:=k.2 y j;omega
 ·rcases Ab3.1 d with d|d
  ·have:=k.2 x d;omega
  ·simp only[Ace] at d;subst d;omega
def OK.of {es a:List MapEntry}{c:Nat}(k:OK es c) (h:a.map (·.born)=es.map (·.born)):OK a c:=by
 refine⟨by rw[h];exact k.1,λx b=>?_⟩;have:x.born∈es.map (·.born):=by rw[←h];exact Ab1.2 ⟨x,b,rfl⟩
 obtain⟨y,d,e⟩:=Ab1.1 this;have:=k.2 y d;omega
def WO (es:List MapEntry) (j:Nat) (f:MapEntry→MapEntry) (a:∀e,(f e).born=e.born):(es.modify j f).map (·.born)=es.map (·.born):=by
 apply Acc;intro i;simp only[Acx,List.getElem?_modify];by_cases e:j=i
 ·subst e;cases es[j]? <;>simp [a]
 ·simp [e]
def MP {κ β:Type}(kv:κ→Value) (vv:β→Value) (b:Nat) (m:List (κ×β)):HP where
 holds:=λ_ F h=>(∀c,F c↔c=b)∧∃es a,h[b]? =some (.map es a)∧es.toList.map (λe=>(e.key,e.val))=(m.map λe=>(kv e.1,vv e.2))∧OK es.toList a
 loc:=λ⟨d,es,c,g,i⟩ _ e=>⟨d,es,c,(e _ (.inr ((d _).2 rfl))).trans g,i⟩
def MP.flat {κ β}{kv:κ→Value}{vv:β→Value}{b m}:(MP kv vv b m).Flat:=λ{_ _ _ _} k=>k
section
variable {κ β:Type}{kv:κ→Value}{vv:β→Value}
def TP:∀{es:List MapEntry}{m:List (κ×β)},es.map (λe=>(e.key,e.val))=m.map (λe=>(kv e.1,vv e.2))→∀e∈es,∃b,e.key=kv b
 |[],_,_,_,a=>by cases a
 |x::es,[],h,_,_=>by simp at h
 |x::es,y::m,h,e,a=>by
  simp only[Abl,List.cons.injEq,Adm] at h;rcases Aa5.1 a with rfl|a
  ·exact⟨_,h.1.1⟩
  ·exact TP h.2 e a
def YU (k:κ):∀{es:List MapEntry}{m:List (κ×β)}(i:Nat),es.map (λe=>(e.key,e.val))=m.map (λe=>(kv e.1,vv e.2))→(VE (Ly (kv k)) es i).map (·.2)=(MN kv m k).map vv
 |[],[],_,_=>rfl
 |[],_::_,_,h=>by simp at h
 |x::es,[],_,h=>by simp at h
 |x::es,y::m,i,h=>by
  simp only[Abl,List.cons.injEq,Adm] at h;have a:=YU k (i+1) h.2;simp only[VE,h.1.1,MN,List.find?_cons] at a ⊢;cases Ly (kv k) (kv y.1)
  ·simpa using a
  ·simp [h.1.2]
def WV (k:κ):∀{es:List MapEntry}{m:List (κ×β)}(i:Nat) (x:β),es.map (λe=>(e.key,e.val))=m.map (λe=>(kv e.1,vv e.2))→VE (Ly (kv k)) es i=none→N1 kv m k x=m++[(k,x)]
 |[],[],_,_,_,_=>rfl
 |[],_::_,_,_,h,_=>by simp at h
 |x::es,[],_,_,h,_=>by simp at h
 |x::es,y::m,i,z,h,a=>by
  simp only[Abl,List.cons.injEq,Adm] at h;simp only[VE,h.1.1] at a;split at a
  ·cases a
  ·rename_i b;simp only[N1,b,Acz,Ac0,WV k (i+1) z h.2 a,Abw]
def WU (k:κ) (u:Value):∀{es:List MapEntry}{m:List (κ×β)}(i j:Nat) (v:Value) (x:β),es.map (λe=>(e.key,e.val))=m.map (λe=>(kv e.1,vv e.2))→VE (Ly (kv k)) es i=some (j,v)→
  i≤j∧j-i<es.length∧(∃a,(es[j-i]?).map (·.key)=some (kv a)∧Ly (kv k) (kv a)=true)∧(es.modify (j-i) λe=>{ e with key:=kv k,val:=vv x}).map (λe=>(e.key,e.val))=(N1 kv m k x).map λe=>(kv e.1,vv e.2)
 |[],_,_,_,_,_,_,h=>by simp [VE] at h
 |x::es,[],_,_,_,_,h,_=>by simp at h
 |x::es,y::m,i,j,v,z,h,b=>by
  simp only[Abl,List.cons.injEq,Adm] at h;simp only[VE,h.1.1] at b;split at b
  ·rename_i c;obtain⟨rfl,rfl⟩:i=j∧x.val=v:=by simpa using b
   refine⟨Abd _,by simp,⟨y.1,by simp [h.1.1],c⟩,?_⟩;simp [N1,c,h.2]
  ·rename_i c;obtain⟨o,d,⟨a,g,l⟩,n⟩:=WU k u (i+1) j v z h.2 b;have e:j-i=(j-(i+1))+1:=by omega
   refine⟨by omega,by rw[e];simpa using d,⟨a,by rw[e];simpa using g,l⟩,?_⟩;rw[e];simp only[List.modify_succ_cons,Abl,N1,c,Acz,Ac0,n,h.1.1,h.1.2]
end
section
variable {P:Program}{ops:Array Oper}{C:World→Prop}{Q:Act→Prop}{n:FN}{m m':SM}{rest:List Oper}
variable {d:Nat}{ty:TypeId}{pos:String}{af:Array Edge}{X Y Z:Operand}{t t1 t2:TypeId}{v p u:Value}{S:Nat→Prop}{L L2:List HP}{h:AV}{b:Nat}
variable {κ β:Type}{kv:κ→Value}{vv:β→Value}{l:List (κ×β)}{k0:κ}{z:β}{kt et:TypeId}
def XC {w:World}{j:Bool}(k:P.underlying t=some (.map kt et)) (g:Nn P kt kv) (q:∀w,(zeroValue et).run P w= .ok (vv z) w) {es:Array MapEntry}{c:Nat}(m:w.heap[b]? =some (.map es c)) (n:es.toList.map (λe=>(e.key,e.val))=l.map λe=>(kv e.1,vv e.2)):
  (Instr.lookup t (.map (some b)) (kv k0) j).run P w= .ok (if j then .tuple #[vv ((MN kv l k0).getD z),.bool (MN kv l k0).isSome] else vv ((MN kv l k0).getD z)) w:=by
 have a:=g.find k0 es.toList w (TP n);have d:=YU (kv:=kv) (vv:=vv) k0 0 n;have s:=q w;cases o:VE (Ly (kv k0)) es.toList 0 with
 |none=>
  rw[o] at a d;have i:MN kv l k0=none:=by simpa using d.symm
  simp [Instr.lookup,run_underlying k,MapKept.run_getObj_map m,g.chk,a,s,i]
 |some r=>
  rw[o] at a d;obtain⟨y,i,p⟩:∃y,MN kv l k0=some y∧vv y=r.2:=Acf.1 (by simpa using d.symm);obtain⟨u,v⟩:=r;simp only at p;subst p;simp [Instr.lookup,run_underlying k,MapKept.run_getObj_map m,g.chk,a,i]
def Xd {j:Bool}(o:CK C h) (p:St S L h) (q:MP kv vv b l∈L) (s:BR m X=some (.map (some b))) (v:BR m Y=some (kv k0)) (x:P.underlying t=some (.map kt et)) (y:Nn P kt kv) (A:∀w,(zeroValue et).run P w= .ok (vv z) w) (hd:Nat.blt d n.1=true)
  (B:(if j then .tuple #[vv ((MN kv l k0).getD z),.bool (MN kv l k0).isSome] else vv ((MN kv l k0).getD z))=u)
  (k:QF P ops C Q rest n ((d,u)::m)):QF P ops C Q (⟨some d,.lookup t X Y j,ty,pos,af,none⟩::rest) n m:=λa g=>by
 refine Du g hd (λw D=>?_) k;obtain⟨F,⟨G,es,c,H,I,_⟩,i⟩:=p.get q;have J:w.heap[b]? =some (.map es c):=(o w D b (i b ((G b).2 rfl)).1).trans H;simp [execOp,g.eval s,g.eval v,XC x y A J I,B]
end
section
variable {P:Program}{ops:Array Oper}{Q:Exit→Act→World→Prop}{n:FN}{m:SM}{rest:List Oper}
variable {d:Nat}{ty:TypeId}{pos:String}{af:Array Edge}{X Y Z:Operand}{B w:World}{h:AV}{S:Nat→Prop}{L L2:List HP}{v:Value}{t kt et:TypeId}{b:Nat}
variable {κ β:Type}{kv:κ→Value}{vv:β→Value}{l:List (κ×β)}{k0:κ}{x:β}
def Xf (hs:St S L h) (rp:Mu L (MP kv vv b l) (MP kv vv b (N1 kv l k0 x)) L2) (hx:BR m X=some (.map (some b))) (hy:BR m Y=some (kv k0)) (hz:BR m Z=some (vv x)) (hT:P.underlying t=some (.map kt et)) (G:Nn P kt kv)
  (k:∀h',St S L2 h'→B9 S h S h'→LF P ops Q rest B h' n m):LF P ops Q (⟨none,.mapUpdate t X Y Z,ty,pos,af,none⟩::rest) B h n m:=by
 intro a w q u;refine wpList_plain rfl λK v=>?_;unfold Oper.wp;obtain⟨M,p,_⟩:=rp.pick;obtain⟨F,⟨g1,es,c,g2,H,g4⟩,hF,_⟩:=Sp.pick p hs.2;have y:w.heap[b]? =some (.map es c):=by rw[u.heap];exact g2
 have I:=G.find k0 es.toList w (TP H);have z:∀(o:Obj) (h0:w.heap=h),(∀c',c'≠b→(w.heap.setIfInBounds b o)[c']? =h[c']?)∧(w.heap.setIfInBounds b o)[b]? =some o∧(w.heap.setIfInBounds b o).size=h.size:=λo h0=>by
  have J:b<w.heap.size:=(Ab5.1 y).1;refine⟨λc' A=>by rw[Aet (Ne.symm A),h0],?_,by simp [h0]⟩;rw[Array.getElem?_setIfInBounds_self];simp [J]
 have C:∀(d:Array MapEntry) (c':Nat),d.toList.map (λe=>(e.key,e.val))=(N1 kv l k0 x).map (λe=>(kv e.1,vv e.2))→OK d.toList c'→wpList P ops Q rest a { w with heap:=w.heap.setIfInBounds b (.map d c')}:=λd c' he U=>by
  obtain⟨s1,s2,s3⟩:=z (.map d c') u.heap;have V:Wd B (w.heap.setIfInBounds b (.map d c')) { w with heap:=w.heap.setIfInBounds b (.map d c')}:=⟨rfl,u.os,u.tape,u.out⟩
  obtain⟨u1,u2⟩:=hs.upd (h':=w.heap.setIfInBounds b (.map d c')) rp (by omega) λF k1 k2=>⟨F,⟨k1.1,d,c',s2,he,U⟩,λc A=> .inl A,λc _ A=>s1 c λe=>A ((k1.1 c).2 e)⟩
  exact k _ u1 u2 a _ q V
 cases i:VE (Ly (kv k0)) es.toList 0 with
 |none=>
  rw[i] at I;have g:(execOp a.eval ⟨none,.mapUpdate t X Y Z,ty,pos,af,none⟩).run P w= .ok .skip { w with heap:=w.heap.setIfInBounds b (.map (es.push { key:=kv k0,val:=vv x,born:=c}) (c+1))}:=by
   simp [execOp,q.eval hx,q.eval hy,q.eval hz,Instr.mapUpdate,run_underlying hT,MapKept.run_getObj_map y,G.chk,I,MapKept.run_setObj_map _ y]
  rw[g];refine v _ _ (C _ _ ?_ (by rw[Array.toList_push];exact g4.push _ rfl));rw[WV k0 0 x H i];simp [H]
 |some r=>
  obtain⟨j,r2⟩:=r;rw[i] at I;obtain⟨_,q2,⟨W,q3,q4⟩,q5⟩:=WU k0 (vv x) 0 j r2 x H i;have D:((es[j]?).map (·.key)).getD (kv k0)=kv W:=by
   have:(es[j]?).map (·.key)=some (kv W):=by simpa using q3
   simp [this]
  have s:(Instr.keyThatStays (kv W) (kv k0)).run P w= .ok (kv k0) w:=by simp [Instr.keyThatStays,G.same _ _ q4]
  have g:(execOp a.eval ⟨none,.mapUpdate t X Y Z,ty,pos,af,none⟩).run P w= .ok .skip { w with heap:=w.heap.setIfInBounds b (.map (es.modify j λe=>{ e with key:=kv k0,val:=vv x}) c)}:=by
   simp [execOp,q.eval hx,q.eval hy,q.eval hz,Instr.mapUpdate,run_underlying hT,MapKept.run_getObj_map y,G.chk,I,D,s,MapKept.run_setObj_map _ y]
  rw[g];refine v _ _ (C _ _ ?_ (by rw[Array.toList_modify];exact g4.of (WO _ _ _ λ_=>rfl)));simpa using q5
def hJ {K E:TypeId}(hd:Nat.blt d n.1=true) (o:St S L h) (kv:κ→Value) (vv:β→Value)
  (k:∀b h',St S (MP kv vv b []::L) h'→B9 S h S h'→LF P ops Q rest B h' n ((d,.map (some b))::m)):LF P ops Q (⟨some d,.makeMap t none,ty,pos,af,none⟩::rest) B h n m:=by
 intro a w p l;refine wpList_plain rfl λK g=>?_;unfold Oper.wp;have c:(execOp a.eval ⟨some d,.makeMap t none,ty,pos,af,none⟩).run P w= .ok (.value (.map (some w.heap.size))) (w.alloc (.map #[] 0)):=by
  first|rfl|(simp [execOp,Instr.makeMap,newObj,Sem.run])
 rw[c];obtain⟨q,s⟩:=o.add (h':=h.push (.map #[] 0)) (H':=MP kv vv h.size []) (by simp) (λb i=>Gw _ _ _ i) ⟨λb=>b=h.size,⟨λ_=>Acp,#[],0,Kq _ _,rfl,List.nodup_nil,λx u=>by cases u⟩,λb i=>by subst i;simp⟩;have j:=l.heap;exact g _ _ (k w.heap.size _ (by rw[j];exact q) s _ _ (p.put hd _) (l.alloc _))
end
def yG (P:Program) (T:TypeId):Option (List (Nat×Nat)×List Value):=
 match P.underlying T,EB P T with
 |some (.array n e),some z=>(P.info? e).map λi=>((List.range n).map λk=>(k*i.size,i.size),z)
 |_,_=>none
def zM (P:Program) (t len sz:Nat):Bool:=
 match P.underlying t with
 |some (.array n e)=>Nat.beq n len&&(match P.info? e with|some i=>Nat.beq i.size sz|none=>false)
 |_=>false
def UW {p q:Nat→Option (Nat×Nat)}(h:∀i x,p i=some x→q i=some x):∀(pv:List (Nat×Value)) (cs cs':Array Value),Instr.fill p cs pv=some cs'→Instr.fill q cs pv=some cs'
 |[],_,_,e=>e
 |(i,v)::r,cs,cs',e=>by
  simp only[Instr.fill] at e ⊢;cases a:p i with
  |none=>rw[a] at e;cases e
  |some x=>
   obtain⟨o,s⟩:=x;rw[a] at e;rw[h i _ a];simp only at e ⊢;split at e
   ·cases e
   ·rename_i b;rw[Aaw b];exact UW h r _ _ e
def fQ {P:Program}{T:TypeId}{pl z pv cs}(h:yG P T=some (pl,z)) (o:NE pl z pv=some cs):P.built T pv=some cs.toArray:=by
 unfold yG at h;split at h
 ·rename_i n e p s a;simp only[Acf,Adm] at h;obtain⟨g,b,rfl,rfl⟩:=h;unfold EB at a;simp only[Acf,Ac6] at a;obtain⟨w,⟨i,t,c⟩,d⟩:=a;simp only[Program.built,t,s,c,b];have l:=N3 _ pv p cs o;rw[←d] at l;have u:=UW (q:=λi=>some (i*g.size,g.size)) (λj x m=>by
   rw[List.getElem?_toArray,Acx] at m;obtain⟨k,v,rfl⟩:=Acf.1 m;obtain⟨_,rfl⟩:=Aba.1 v;simp) pv _ _ l
  simpa using u
 ·cases h
section
variable {P:Program}{ops:Array Oper}{C:World→Prop}{Q:Act→Prop}{n:FN}{m m':SM}{rest:List Oper}
variable {d:Nat}{ty:TypeId}{pos:String}{af:Array Edge}{X Y Z:Operand}{t:TypeId}{S:Nat→Prop}{L:List HP}{h:AV}{i:Int}{kd:IntKind}
def lO {T:TypeId}{b:Array (Nat×Operand)}{pl z pv cs}(s:yG P T=some (pl,z)) (c:b.toList.mapM (jE m)=some pv) (o:NE pl z pv=some cs) (hd:Nat.blt d n.1=true) (k:QF P ops C Q rest n ((d,.agg cs.toArray)::m)):QF P ops C Q (⟨some d,.build T b,ty,pos,af,none⟩::rest) n m:=λa q=>by
 refine Du q hd (λw _=>?_) k;have i:(b.map λ(p:Nat×Operand)=>(p.1,a.eval p.2)).toList=pv:=by
  obtain⟨l⟩:=b;simp only at c;simp only[List.map_toArray];clear o k
  induction l generalizing pv with
  |nil=>simp at c;subst c;rfl
  |cons x l t=>
   simp only[Adv,Aeb,Ac6,jE,Acf] at c;obtain⟨y,⟨v,u,rfl⟩,A,j,g⟩:=c;simp only[Option.pure_def,Ab8] at g;subst g;simp only[Abl,q.eval u,t j]
 have:=run_build (P:=P) w T (b.map λ(p:Nat×Operand)=>(p.1,a.eval p.2)) cs.toArray (by rw[i];exact fQ s o);simp only[execOp,Sem.run_bind,this];rfl
def tV {b o len sz:Nat}(u:BR m X=some (.pointer (some ⟨b,o,none⟩))) (v:BR m Y=some (.int kd i)) (c:zM P t len sz=true) (h0:0≤i) (x:i<len) (hd:Nat.blt d n.1=true)
  (k:QF P ops C Q rest n ((d,.pointer (some ⟨b,o+i.toNat*sz,none⟩))::m)):QF P ops C Q (⟨some d,.indexAddr t X Y,ty,pos,af,none⟩::rest) n m:=λa l=>by
 unfold zM at c;split at c
 ·rename_i z e y;simp only[Aa3] at c;obtain⟨p,g⟩:=c;have p:=Aa8 p;subst p;split at g
  ·rename_i s q;have g:=Aa8 g;subst g;have j:(⟨b,o,none⟩:Addr).add (i.toNat*s.size)=⟨b,o+i.toNat*s.size,none⟩:=by unfold Addr.add;split<;>simp_all
   exact Du l hd (λw _=>by simp [execOp,l.eval u,l.eval v,Instr.indexAt,asIntOf,run_underlying y,Instr.sureAddr,h0,x,RS q,j]) k
  ·cases g
 ·cases c
def lL {B:Type}{T b o:Nat}{cs:List Value}{l:List B}{z:B}(f:B→Value) (p:CK C h) (q:St S L h) (s:BR m X=some (.pointer (some ⟨b,o+i.toNat*1,none⟩))) (u:Bx b T cs∈L) (v:(cs.drop o).take l.length=l.map f) (w:Go.Proofs.YtedgiljmffngoaaGreat.ix l i=some z) (x:Jw P t 1 false=true) (hd:Nat.blt d n.1=true)
  (k:QF P ops C Q rest n ((d,f z)::m)):QF P ops C Q (⟨some d,.load t X,ty,pos,af,none⟩::rest) n m:=by
 obtain⟨h0,g⟩:=EY w;have y:(cs.drop (o+i.toNat*1)).take 1=[f z]:=by
  have j:((cs.drop o).take l.length)[i.toNat]? =some (f z):=by rw[v,Acx,g];rfl
  have c:i.toNat<l.length:=(Aba.1 g).1;rw[Aci c,Add] at j;rw[Acr];obtain⟨a,A⟩:=Aba.1 j;rw[Ad6 a,A];rfl
 exact OE (vs:=[f z]) p q s u y rfl x rfl hd k
end
def Z3 (h:AV) (T:TypeId) (cs:List Value) (v:Value) (a:AV):Prop:=∃b,v= .pointer (some ⟨b,0,none⟩)∧h.size≤b∧b<a.size∧a[b]? =some (.cells cs.toArray T (0,0))
def Z3.mono {h a c:AV}{T cs v}(k:Z3 h T cs v a) (o:DX a c):Z3 h T cs v c:=by
 obtain⟨b,e,g,d,i⟩:=k;exact⟨b,e,g,Aa9 d o.siz,(o.same b d).trans i⟩
def Z3.st {h g:AV}{T cs v}{S:Nat→Prop}{L:List HP}(k:Z3 h T cs v g) (d:St S L h) (o:DX h g):∃b,v= .pointer (some ⟨b,0,none⟩)∧St S (Bx b T cs::L) g:=by
 obtain⟨b,e,m,i,j⟩:=k;refine⟨b,e,λc a=>Aa9 (d.1 c a) o.siz,λc=>c=b,⟨λ_=>Acp,j⟩,λc a=>by subst a;exact⟨i,λl=>absurd (d.1 c l) (by omega)⟩,?_⟩;refine Sp.ext d.2 (λ_ x=>x) (λc a=>o.same c (a.elim (d.1 c) (·.1))) λc a=>⟨⟨Aa9 a.1 o.siz,a.2⟩,λe=>by have:=a.1;omega⟩
def iB {P:Program}{ops:Array Oper}{Q:Exit→Act→World→Prop}{n:FN}{m:SM}{rest:List Oper}{d:Nat}{ty:TypeId}{pos:String}{af:Array Edge}{B:World}{h j:AV}{T:TypeId}{cs:List Value}(o:DX h j) (c:EB P T=some cs) (hd:Nat.blt d n.1=true)
  (k:∀v h',DX j h'→Z3 h T cs v h'→LF P ops Q rest B h' n ((d,v)::m)):LF P ops Q (⟨some d,.alloc T,ty,pos,af,none⟩::rest) B j n m:=by
 intro a w s q;refine wpList_plain rfl λK t=>?_;unfold Oper.wp;unfold EB at c;simp only[Acf,Ac6] at c;obtain⟨z,⟨i,u,c⟩,l⟩:=c;have x:z.cells=cs.toArray:=by rw[←l]
 have g:(execOp a.eval ⟨some d,.alloc T,ty,pos,af,none⟩).run P w= .ok (.value (.pointer (some ⟨w.heap.size,0,none⟩))) (w.alloc (.cells cs.toArray T)):=by
  simp [execOp,Instr.alloc,newVar,newRow,zeroValue,typeInfo,u,c,x]
 rw[g];have p:=q.heap;exact t _ _ (k _ _ ⟨by simp,λb y=>Gw _ _ _ y⟩ ⟨j.size,by rw[p],o.siz,by simp,Kq _ _⟩ _ _ (s.put hd _) (q.alloc _))
def Mk (ops:Array Oper) (f:Nat):Bool:=(List.range ops.size).all λj=>j==f||(Region.waitsFor .any ops j f||(Region.waitsFor .any ops f j||match ops[f]?,ops[j]? with
 |some oi,some a=>oi.apart ops a
 |_,_=>false))
def Pa (P:Program) (ops:Array Oper) (n:FN) (m:SM) (h0:AV) (R:AR) (i:Nat) (o:Oper) (b:List (Nat×Nat)):Prop:=
 ∀mt h,DX h0 h→PA R h (λfr=>∀a,Fr n a (fr++(m++mt))→∃v,Yields P ops o v a∧R i v h) b []
section
variable {P:Program}{ops:Array Oper}{Q:Exit→Act→World→Prop}{a:Act}{w:World}
end
def Ro (P:Program) (ops:Array Oper) (a:Nat) (n:FN) (m:SM) (h0:AV) (R:AR):List Nat→Prop
 |[]=>True
 |f::F=>(f<a∧Mk ops f=true∧∃o d b,ops[f]? =some o∧o.dst=some d∧TE ops o b=true∧Pa P ops n m h0 R f o b)∧Ro P ops a n m h0 R F
def Ro.at_ {P:Program}{ops:Array Oper}{b:Nat}{n:FN}{m:SM}{h0:AV}{R:AR}:∀{F:List Nat},Ro P ops b n m h0 R F→∀f,f∈F→f<b∧Mk ops f=true∧∃o d c,ops[f]? =some o∧o.dst=some d∧TE ops o c=true∧Pa P ops n m h0 R f o c
 |[],_,f,a=>by cases a
 |g::F,⟨i,j⟩,f,a=>by
  rcases Aa5.1 a with rfl|a
  ·exact i
  ·exact Ro.at_ j f a
def Ro.cons {P:Program}{ops:Array Oper}{a:Nat}{n:FN}{m:SM}{h0:AV}{R:AR}{f d:Nat}{o:Oper}{F:List Nat}(b:List (Nat×Nat)) (c:(Nat.blt f a&&Mk ops f)=true) (i:ops[f]? =some o) (hd:o.dst=some d) (g:TE ops o b=true) (j:Pa P ops n m h0 R f o b) (t:Ro P ops a n m h0 R F):Ro P ops a n m h0 R (f::F):=by
 simp only[Aa3] at c;exact⟨⟨(by simpa [Nat.blt] using c.1:f+1≤a),c.2,o,d,b,i,hd,g,j⟩,t⟩
def Ww {P:Program}{ops:Array Oper}{n:FN}{m:SM}{d i:Nat}{ty:TypeId}{pos:String}{af:Array Edge}{X:Operand}{xs:Array Value}{u:Value}{a:Act}(b:Fr n a m) (c:BR m X=some (.tuple xs)) (g:xs[i]? =some u):Yields P ops ⟨some d,.extract X i,ty,pos,af,none⟩ u a:=
 .inl ⟨by simp [Region.wanted],λw=>by simp [execOp,b.eval c,Instr.extract,g]⟩
def Jv {P:Program}{ops:Array Oper}{n:FN}{m:SM}{d:Nat}{ty:TypeId}{pos:String}{af:Array Edge}{X:Operand}{u:Value}{a:Act}(b:Fr n a m) (c:BR m X=some u):Yields P ops ⟨some d,.move X,ty,pos,af,none⟩ u a:=
 .inl ⟨by simp [Region.wanted],λw=>by simp [execOp,b.eval c]⟩
section
variable {P:Program}{ex:List (Nat×AP)}{RR N:AP}{cs:List Code}{B:World}{h:AV}{n:FN}{m m0:SM}{S:Nat→Prop}{L:List HP}
end
section
variable {P:Program}{ops:Array Oper}{C:World→Prop}{Q:Act→Prop}{n:FN}{m m':SM}{rest:List Oper}
variable {d:Nat}{ty:TypeId}{pos:String}{af:Array Edge}{X Y Z:Operand}{t t1 t2:TypeId}{v:Value}{S:Nat→Prop}{L:List HP}{h:AV}
def Kl {b:Addr}(g:BR m X=some (.pointer (some b))) (hd:Nat.blt d n.1=true) (k:QF P ops C Q rest n ((d,.pointer (some b))::m)):QF P ops C Q (⟨some d,.nilCheck X,ty,pos,af,none⟩::rest) n m:=λa c=>
 Du c hd (λw _=>by simp [execOp,c.eval g]) k
def Aai (P:Program) (t j off a:Nat) (sz:Nat) (ag:Bool):Bool:=
 match P.underlying t with
 |some (.struct b)=>(match b[j]? with|some f=>Nat.beq f.offset off&&Nat.beq f.type a&&Jw P a sz ag|none=>false)
 |_=>false
def Zi {a sz:Nat}{ag:Bool}(h:Jw P a sz ag=true) (w:World):(isAgg a).run P w= .ok ag w∧(sizeOf a).run P w= .ok sz w:=by
 obtain⟨i,b,c,d,g,j⟩:=Qg h;refine⟨?_,by simp [sizeOf,typeInfo,c,g]⟩;subst j;simp only[isAgg,Sem.run_bind,run_underlying d,Result.andThen_ok];cases b<;>rfl
def zW {xs:Array Value}{j off v sz:Nat}{ag:Bool}{u:Value}(p:BR m X=some (.agg xs)) (b:Aai P t j off v sz ag=true) (g:(if ag then some (.agg (xs.extract off (off+sz))) else xs[off]?)=some u) (hd:Nat.blt d n.1=true) (k:QF P ops C Q rest n ((d,u)::m)):QF P ops C Q (⟨some d,.field t X j,ty,pos,af,none⟩::rest) n m:=λa i=>by
 unfold Aai at b;split at b
 ·rename_i z c;split at b
  ·rename_i f q;simp only[Aa3] at b;obtain⟨⟨l,o⟩,x⟩:=b;have l:=Aa8 l;have o:=Aa8 o;subst l;subst o;refine Du i hd (λw _=>?_) k;obtain⟨s,y⟩:=Zi x w;cases ag
   ·simp only[Acz,Ac0] at g;simp [execOp,i.eval p,Instr.field,run_underlying c,q,asAgg,part,s,g]
   ·simp only[if_true,Ab8] at g;simp [execOp,i.eval p,Instr.field,run_underlying c,q,asAgg,part,s,y,g]
  ·cases b
 ·cases b
def gV {b:Addr}{l c:Nat}(j:BR m X=some (.slice (some b) l c)) (o:BR m Y=some (.slice none 0 0)) (hd:Nat.blt d n.1=true) (g:∃e,P.underlying t1=some (.slice e)) (k:QF P ops C Q rest n ((d,.bool false)::m)):QF P ops C Q (⟨some d,.binOp .eql t1 X Y t2,ty,pos,af,none⟩::rest) n m:=λa i=>by
 obtain⟨e,g⟩:=g;refine Du i hd (λw _=>?_) k;have p:(eqGuard .eql t1 X Y (.slice (some b) l c) (.slice none 0 0)).run P w= .ok () w:=by unfold eqGuard;simp
 have q:=Lib.run_eql_slice_nil (P:=P) w t1 e (some b) l c 0 0 g;simp [execOp,i.eval j,i.eval o,p,q]
def Y1 (g:BR m X=some (.slice none 0 0)) (i:BR m Y=some (.slice none 0 0)) (hd:Nat.blt d n.1=true) (b:∃e,P.underlying t1=some (.slice e)) (k:QF P ops C Q rest n ((d,.bool true)::m)):QF P ops C Q (⟨some d,.binOp .eql t1 X Y t2,ty,pos,af,none⟩::rest) n m:=λa c=>by
 obtain⟨e,b⟩:=b;refine Du c hd (λw _=>?_) k;have j:(eqGuard .eql t1 X Y (.slice none 0 0) (.slice none 0 0)).run P w= .ok () w:=by unfold eqGuard;simp
 have l:=Lib.run_eql_slice_nil (P:=P) w t1 e none 0 0 0 0 b;simp [execOp,c.eval g,c.eval i,j,l]
end
def ZF {P:Program}{ops:Array Oper}{n:FN}{m:SM}{d:Nat}{ty:TypeId}{pos:String}{af:Array Edge}{X:Operand}{b o j off t:Nat}{a:Act}(g:Fr n a m) (i:BR m X=some (.pointer (some ⟨b,o,none⟩))) (k:Zz P t j off=true):Yields P ops ⟨some d,.fieldAddr t X j,ty,pos,af,none⟩ (.pointer (some ⟨b,o+off,none⟩)) a:=by
 have c:(⟨b,o,none⟩:Addr).add off=⟨b,o+off,none⟩:=by unfold Addr.add;split<;>simp_all
 exact .inl ⟨by simp [Region.wanted],λw=>by simp [execOp,g.eval i,Lo k,c]⟩
def St.bxAll {α}{r:A4 α}{x:α}{b T:Nat}{cs:List Value}{S:Nat→Prop}{L:List HP}{h:AV}(a:St S L h) (c:Bx b T cs∈L) (d:r.rd S h cs x):Pt (λb=>b<h.size) h r (.pointer (some ⟨b,0,none⟩)) x:=by
 obtain⟨F,k,g⟩:=a.get c;refine⟨cs,⟨⟨b,0,none⟩,rfl,rfl,(g b ((k.1 b).2 rfl)).1,λj l=>?_⟩,r.mono d (λb i=>a.1 b i) λ_ _=>rfl⟩;rw[Abz];exact Bx.cell k j
def Sl.cases {α}{S:Nat→Prop}{h:AV}{r:A4 α}{v:Value}{l:List α}(k:Sl S h r v l):(v= .slice none 0 0∧l=[])∨∃(a:Addr) (cap:Nat),v= .slice (some a) l.length cap∧Sl S h r (.slice (some a) l.length cap) l:=by
 rcases k with k|⟨a,cap,h1,h2⟩
 ·exact .inl k
 ·exact .inr ⟨a,cap,h1,.inr ⟨a,cap,rfl,h2⟩⟩
section
variable {P:Program}{ops:Array Oper}{Q:Exit→Act→World→Prop}{n:FN}{m:SM}{rest:List Oper}
variable {d:Nat}{ty:TypeId}{pos:String}{af:Array Edge}{X Y:Operand}{B w:World}{h:AV}{S:Nat→Prop}{L L2:List HP}{v:Value}
def Vc {α}{r:A4 α}{T e sz g:Nat}{z:List Value}(p:OY P T=some (e,sz,g,z)) (q:r.sz=sz) (hd:Nat.blt d n.1=true) (s:St S L h)
  (k:∀v h',St S (OS r e v []::L) h'→B9 S h S h'→LF P ops Q rest B h' n ((d,v)::m)):LF P ops Q (⟨some d,.buildSlice T 0 #[],ty,pos,af,none⟩::rest) B h n m:=by
 intro a w t o;refine wpList_plain rfl λK u=>?_;unfold Oper.wp;obtain⟨i,F,x,y,G,H,I,J,M,U⟩:=K1 p;have c:(execOp a.eval ⟨some d,.buildSlice T 0 #[],ty,pos,af,none⟩).run P w= .ok (.value (.slice (some ⟨w.heap.size,0,none⟩) 0 0)) (w.alloc (.cells #[] e)):=by
  simp [execOp,Instr.buildSlice,run_underlying x,sizeOf,typeInfo,y,Instr.fill,newRow];have A:Array.range 0= #[]:=by simp
  rw[A];simp
 rw[c];have j:=o.heap;obtain⟨C,D⟩:=s.add (h':=h.push (.cells #[] e)) (H':=OS r e (.slice (some ⟨h.size,0,none⟩) 0 0) []) (by simp) (λb l=>Gw _ _ _ l) ⟨λb=>b=h.size,.inr ⟨h.size,0,#[],rfl,λ_=>Acp,Kq _ _,Abd _,by unfold maxLen;omega,by simp,by simp [LS]⟩,λb l=>by subst l;simp⟩;exact u _ _ (k _ _ (by rw[j];exact C) D _ _ (t.put hd _) (o.alloc _))
end
def L8 (ops:Array Oper):List Nat→Prop
 |s::t::r=>Region.waitsFor .any ops t s=true∧L8 ops (t::r)
 |_=>True
def N8 (ops:Array Oper):List Nat→Bool
 |s::t::r=>Region.waitsFor .any ops t s&&N8 ops (t::r)
 |_=>true
def JU {ops:Array Oper}:∀{a:List Nat},N8 ops a=true→L8 ops a
 |[],_=>trivial
 |[_],_=>trivial
 |s::t::r,h=>by
  simp only[N8,Aa3] at h;exact⟨h.1,JU h.2⟩
def Mq {ops:Array Oper}:∀{r:List Nat}{s:Nat},L8 ops (s::r)→∀j,j∈r→∃p,p∈s::r∧Region.waitsFor .any ops j p=true
 |[],_,_,j,a=>by cases a
 |t::r,s,⟨b,c⟩,j,a=>by
  rcases Aa5.1 a with rfl|a
  ·exact⟨s,by simp,b⟩
  ·obtain⟨p,d,g⟩:=Mq c j a;exact⟨p,Abt _ d,g⟩
def Ru (ops:Array Oper) (a F:List Nat):Bool:=
 (List.range ops.size).all λi=>a.contains i||(F.contains i||(List.range ops.size).any λj=>decide (i<j)&&((!a.contains j&& !F.contains j)||a.head? ==some j)&&Region.waitsFor .any ops j i)
def N7 (ops:Array Oper) (a:List Nat):Bool:=
 (List.range ops.size).all λi=>a.contains i||((ops[i]?).map λo=>o.after.all λe=> !Region.binds .any e|| !a.contains e.on).getD true
def TF (ops:Array Oper) (a:List Nat) (n:FN) (m:List Nat):Bool:=
 (List.range ops.size).all λi=>a.contains i||match G9 ops i with
  |some d=>Nat.blt d n.1&& !(m.contains d)&&(List.range ops.size).all λj=>a.contains j||Nat.beq i j|| !((G9 ops j).any (Nat.beq d ·))
  |none=>false
structure Rm (ops:Array Oper) (ks:List Nat) (listed:Array Bool):Prop where
 size:listed.size=ops.size
 closed:∀j oj,ops[j]? =some oj→listed.getD j false=true→∀e∈oj.after,Region.binds .any e=true→listed.getD e.on false=true
 tail:∀t,t∈ks→listed.getD t true=false
def Rm.set {ops:Array Oper}{g:List Nat}{i:Nat}{a:Array Bool}(b:Rm ops g a) (u:i∈Region.ready .any ops a) (k:i∉g):Rm ops g (a.setIfInBounds i true):=by
 obtain⟨_,oi,l,c⟩:=mem_ready.1 u;refine⟨by simp [b.size],λj m n o e p q=>?_,λt s=>by rw[getD_set_ne true (λe:i=t=>k (by rw[e];exact s))];exact b.tail t s⟩;by_cases d:i=j
 ·subst d;have:m=oi:=Aa1 (n.symm.trans l);subst this;exact getD_set_true (c e p q)
 ·rw[getD_set_ne false d] at o;exact getD_set_true (b.closed j m n o e p q)
def HS {P:Program}{ops:Array Oper}{Q Q':Exit→Act→World→Prop}(g:∀e a w,Q e a w→Q' e a w):∀(l:List Oper) (a:Act) (w:World),wpList P ops Q l a w→wpList P ops Q' l a w
 |[],a,w,h=>by unfold wpList at h ⊢;exact g _ _ _ h
 |o::l,a,w,h=>by
  unfold wpList at h ⊢;split
  ·rename_i i;rw[Aay i] at h;rcases h with b|⟨b,j,k,h2⟩
   ·refine .inl ?_;unfold Oper.wp at b ⊢;generalize (execOp a.eval o).run P w=r at b
    cases r with
    |ok p w'=>
     cases p<;>simp only[Oper.upon] at b ⊢
     case value v=>exact HS g l _ _ b
     case skip=>exact HS g l _ _ b
     case defer d=>exact HS g l _ _ b
     case enter f args=>
      refine b.mono λe m n=>?_;cases e with
      |returned v=>exact HS g l _ _ n
      |panicked c=>exact g _ _ _ n
      |outgrown=>obtain⟨j,k,h0⟩:=n;exact⟨j,k,g _ _ _ h0⟩
     case row r args=>obtain b:=b;exact Rows.mono b λv m q=>HS g l _ _ q
    |halt x w'=>cases x<;>simp only[Oper.upon] at b ⊢ <;>first|exact g _ _ _ b|exact b
   ·exact .inr ⟨b,j,k,g _ _ _ h2⟩
  ·rename_i i;rw[Aaw i] at h;exact HS g l _ _ h
def Y7 {R:AR}{h:AV}{K K':SM→Prop}(b:∀fr,K fr→K' fr):∀(a:List (Nat×Nat)) (fr:SM),PA R h K a fr→PA R h K' a fr
 |[],fr,k=>b fr k
 |(_,d)::a,fr,k=>λu c=>Y7 b a ((d,u)::fr) (k u c)
def PA.imp {R:AR}{h:AV}{K K':SM→Prop}(b:∀fr,K fr→K' fr) (a:List (Nat×Nat)) (fr:SM) (k:PA R h K a fr):PA R h K' a fr:=Y7 b a fr k
def Oc:Value→Option Nat
 | .pointer (some ⟨b,0,none⟩)=>some b
 | .slice (some ⟨b,0,none⟩) _ _=>some b
 |_=>none
def Wm (h:AV) (v:Value):Prop:=∃b,Oc v=some b∧h.size≤b
def iH (a:List Nat) (f:Nat→Option Value):Prop:=∀s,s∈a→∀s',s'∈a→s≠s'→∀u c,f s=some u→f s'=some c→∀b d,Oc u=some b→Oc c=some d→b≠d
def VH (ops:Array Oper) (As:List Nat):List Nat:=As.filterMap λi=>G9 ops i
structure ZB where
 zs:List (Nat×List Nat)
 f:Nat→List (Option Value)→Option Value
def ZB.none:ZB:=⟨[],λ_ _=>Option.none⟩
structure Wp (B:World) (h0:AV) (n:FN) (m:SM) (ops:Array Oper) (ks As:List Nat) (Z:ZB) (R:AR) (listed:Array Bool) (a:Act) (w:World):Prop where
 ex:∃h,Wd B h w∧DX h0 h∧Fr n a m∧∀i,i∉ks→listed.getD i false=true→∃d v,G9 ops i=some d∧a.tmps[d]? =some v∧R i v h
 dis:∀i,i∈As→∀j,j∈As→i≠j→listed.getD i false=true→listed.getD j false=true→∀d d' u u',G9 ops i=some d→G9 ops j=some d'→a.tmps[d]? =some u→a.tmps[d']? =some u'→∀b b',Oc u=some b→Oc u'=some b'→b≠b'
 pz:∀z,z∈Z.zs→listed.getD z.1 false=true→∃d v,G9 ops z.1=some d∧a.tmps[d]? =some v∧Z.f z.1 (z.2.map λs=>a.tmps[s]?)=some v
def uH (ops:Array Oper) (a:List Nat) (Z:ZB):Prop:=∀z,z∈Z.zs→z.1<ops.size∧z.1∉a∧∀s,s∈z.2→∃o j,ops[z.1]? =some o∧j∈Mg o∧G9 ops j=some s∧j∉a
def uH.none {ops:Array Oper}{a:List Nat}:uH ops a ZB.none:=λ_ h=>by cases h
def iK (ops:Array Oper) (a:List Nat) (b:List (Nat×List Nat)):Bool:=b.all λz=> !a.contains z.1&&match ops[z.1]? with
 |some o=>z.2.all λs=>(Mg o).any λj=> !a.contains j&&match G9 ops j with|some d=>Nat.beq d s|none=>false
 |none=>false
def ZE {ops:Array Oper}{k:List Nat}{Z:ZB}(h:iK ops k Z.zs=true):uH ops k Z:=λz m=>by
 have a:=Aa6.1 h z m;simp only[Aa3,Abr] at a;have c:=a.2;split at c
 ·rename_i o l;refine⟨(Ab5.1 l).1,λg=>(by rw[Aa7.2 g] at a;cases a.1),λs n=>?_⟩;obtain⟨j,p,b⟩:=List.any_eq_true.1 (Aa6.1 c s n);simp only[Aa3,Abr] at b;refine⟨o,j,l,p,?_,λg=>by rw[Aa7.2 g] at b;cases b.1⟩;have i:=b.2;split at i
  ·rename_i d hd;rw[hd,Aa8 i]
  ·cases i
 ·cases c
def RF (R:AR) (As:List Nat) (Z:ZB) (i:Nat) (h:AV) (fr:SM) (v:Value) (h':AV):Prop:=R i v h'∧(As.contains i=true→Wm h v)∧∀sl,(i,sl)∈Z.zs→(∀s,s∈sl→(lk fr s).isSome=true)∧Z.f i (sl.map (lk fr))=some v
def Xk (P:Program) (ops:Array Oper) (Q:Exit→Act→World→Prop) (B:World) (n:FN) (m:SM) (h0:AV) (R:AR) (As:List Nat) (Z:ZB) (i:Nat) (o:Oper) (d:Nat) (c:List (Nat×Nat)):Prop:=
 ∀mt h,DX h0 h→PA R h (λfr=>match o.guard with
  |none=>LF P ops (Exit.then (KS B n d (RF R As Z i h fr) h (fr++(m++mt))) Q) [o] B h n (fr++(m++mt))
  |some (g,b)=>∃a,G9 ops g=some a∧((lk fr a=some (.bool b)∧LF P ops (Exit.then (KS B n d (RF R As Z i h fr) h (fr++(m++mt))) Q) [{ o with guard:=none}] B h n (fr++(m++mt)))∨∃v,lk fr a=some v∧yb v≠some b∧R i undef h)) c []
section
variable {P:Program}{ops:Array Oper}{Q:Exit→Act→World→Prop}{a:Act}{w:World}
def Jg (U:PO ops=true):∀(n:List Nat) (c:Nat) (b:Array Bool) (a:Act) (w:World),T8 b=c→b.size=ops.size→(∀i,i<ops.size→i∉n→b.getD i true=true)→(∀t,t∈n→t<ops.size∧b.getD t true=false)→L8 ops n→n.Nodup→
  wpList P ops Q (n.filterMap λt=>ops[t]?) a w→wpAny P .any ops Q c b a w
 |[],c,b,a,w,Z,A,y,z,_,_,g=>by
  have hr:Region.ready .any ops b=[]:=ZT λi B=>y i B (by simp);exact wpAny_done hr g c
 |t::r,c,b,a,w,Z,A,y,z,V,C,g=>by
  obtain⟨k,m⟩:=z t (by simp);have aa:0<T8 b:=by have:=MH m;omega
  obtain⟨c,rfl⟩:∃f,c=f+1:=⟨c-1,by omega⟩
  have only:∀j,j∈Region.ready .any ops b→j=t:=λj D=>by
   obtain⟨W,oj,d,o⟩:=mem_ready.1 D;have F:=(Ab5.1 d).1;by_cases q:j∈t::r
   ·rcases Aa5.1 q with rfl|hjr
    ·rfl
    ·obtain⟨p,hp,s⟩:=Mq V j hjr;obtain⟨o',G,e',H,I,J⟩:=Region.waitsFor_spec s;have:o'=oj:=Aa1 (G.symm.trans d);subst this;have X:=o e' H I;rw[J,getD_both (z p hp).2] at X;cases X
   ·rw[y j F q] at W;cases W
  obtain⟨i,_,q2,_⟩:=NA U A k m;refine⟨λh0=>absurd (h0▸q2) (by simp),λj D=>?_⟩;have K:=only j D;subst K;have d:ops[j]? =some ops[j]:=by simp [k]
  rw[Aef,d] at g;simp only at g;have l:=Ac5.1 C;have Y:=λa w=>Jg U r c (b.setIfInBounds j true) a w (by have:=MH m;omega) (by simpa using A)
   (λi B M=>by
    by_cases e:i=j
    ·subst e;have:i<b.size:=by omega
     simp [Acu,Acn,this]
    ·rw[getD_set_ne true (λx=>e x.symm)];exact y i B (by simp [e,M]))
   (λt' v=>by
    obtain⟨z1,z2⟩:=z t' (by simp [v]);exact⟨z1,by rw[getD_set_ne true (λx:j=t'=>l.1 (by rw[x];exact v))];exact z2⟩)
   (by cases r with
    |nil=>trivial
    |cons u r=>exact V.2) l.2
  unfold wpOp;simp only[d];unfold wpList at g;split
  ·rename_i s;rw[Aay s] at g;exact g.imp (Oper.wp_mono Y) id
  ·rename_i s;rw[Aaw s] at g;exact Y _ _ g
def Rr {k F:List Nat}{a:Array Bool}(hs:Ru ops k F=true) (M:L8 ops k) (c:Rm ops k a):
  ∀(d i:Nat),ops.size-i=d→i<ops.size→i∉k→i∉F→a.getD i true=false→∀t,t∈k→t∉Region.ready .any ops a:=by
 intro d
 induction d using Nat.strongRecOn with
 |_ d ih=>
  intro i hd hi B C l t m Q;obtain⟨_,U,n,b⟩:=mem_ready.1 Q;have V:=Aa6.1 hs i (Ab9.2 hi);simp only[Abq,Aa7,B,C,Acs] at V;obtain⟨j,hj,o⟩:=List.any_eq_true.1 V;simp only[Aa3,Abh,Abq,Abr] at o;obtain⟨⟨aa,D⟩,hw⟩:=o;obtain⟨W,q,e,X,Y,u⟩:=Region.waitsFor_spec hw;have G:j<ops.size:=Ab9.1 hj;rcases D with ⟨v,w⟩|hjh
  ·cases Z:a.getD j false with
   |true=>
    have x:=c.closed j W q Z e X Y;rw[u,getD_both l] at x;cases x
   |false=>
    have y:j<a.size:=by rw[c.size];omega
    exact ih (ops.size-j) (by omega) j rfl G (λh=>by rw[Aa7.2 h] at v;cases v) (λh=>by rw[Aa7.2 h] at w;cases w) (getD_in y Z) t m Q
  ·cases g:k with
   |nil=>rw[g] at m;cases m
   |cons s r=>
    rw[g] at hjh m M;have z:s=j:=by simpa using hjh
    subst z;rcases Aa5.1 m with rfl|htr
    ·have:W=U:=Aa1 (q.symm.trans n);subst this;have x:=b e X Y;rw[u,getD_both l] at x;cases x
    ·obtain⟨p,hp,H⟩:=Mq M t htr;obtain⟨o',I,e',J,K,A⟩:=Region.waitsFor_spec H;have:o'=U:=Aa1 (I.symm.trans n);subst this;have g3:=b e' J K;rw[A,getD_both (c.tail p (by rw[g];exact hp))] at g3;cases g3
def TZ {B:World}{h0:AV}{n:FN}{m:SM}{R:AR}(q D As:List Nat) (Z:ZB) (hZ:uH ops (q++D) Z) (cl:∀z,z∈Z.zs→((ops[z.1]?).bind (·.guard))=none) (b0:∀i,i∈As→∀v h,R i v h→∃b,Oc v=some b∧b<h.size) (b3:∀t,t∈q→t<ops.size) (b4:q.Nodup) (hb:PO ops=true)
  (F G:List Nat) (cm:F=[]∨D=[]) (b5:q=[]∨Ru ops q (F++G++D)=true) (aq:L8 ops q) (cn:N7 ops q=true) (b6:Region.noSelect ops=true) (hQ:∀c a w,¬Q (.panic c) a w)
  (b7:∀f,f∈F→f∉As∧∀sl,(f,sl)∉Z.zs) (hF:∀f,f∈F→(f<ops.size∧f∉q)∧Mk ops f=true∧∃o d ps,ops[f]? =some o∧o.dst=some d∧TE ops o ps=true∧Pa P ops n m h0 R f o ps)
  (bb:TF ops (q++D) n (m.map (·.1))=true)
  (bi:∀i v h h',DX h0 h→DX h h'→R i v h→R i v h')
  (am:∀i,i∈As→i∉q++D) (step:∀i o d,i∉q++D→ops[i]? =some o→o.dst=some d→∃ps,TE ops o ps=true∧(∀p∈ps,p.1∉D)∧Xk P ops Q B n m h0 R As Z i o d ps)
  (b8:∀a w h,Wd B h w→DX h0 h→Fr n a m→(∀i,i<ops.size→i∉q++D→∃d v,G9 ops i=some d∧a.tmps[d]? =some v∧R i v h)→iH (VH ops As) (λs=>a.tmps[s]?)→(∀z,z∈Z.zs→∃d v,G9 ops z.1=some d∧a.tmps[d]? =some v∧Z.f z.1 (z.2.map λs=>a.tmps[s]?)=some v)→wpList P ops Q (q.filterMap λt=>ops[t]?) a w)
  (bj:G=[]∨((∀f,f∈F→∀o,ops[f]? =some o→∀e,e∈o.after→Region.binds .any e=true→e.on<ops.size∧e.on∉q∧e.on∉F++G)∧∀k1 bk,q=k1::bk→∀(y:Nat) (k:Array Bool) (a:Act) (w:World),T8 k=y+1→Rm ops q k→Wp B h0 n m ops (q++D) As Z R k a w→(∀i,i<ops.size→i∉q→i∉G→k.getD i false=true)→k1∈Region.ready .any ops k→wpOp P ops Q k1 (wpAny P .any ops Q y (k.setIfInBounds k1 true)) a w)):
  ∀(y:Nat) (k:Array Bool) (a:Act) (w:World),T8 k=y→Rm ops q k→(∀i,i∈D→k.getD i false=true)→Wp B h0 n m ops (q++D) As Z R k a w→wpAny P .any ops Q y k a w:=by
 intro y;have bc:∀f,f∈F→∀x,x∈D→False:=λf hf x hx=>by
  rcases cm with h|h
  ·rw[h] at hf;cases hf
  ·rw[h] at hx;cases hx
 have b9:∀(k:Array Bool) (a:Act) (w:World),Wp B h0 n m ops (q++D) As Z R k a w→(∀i,i<ops.size→i∉q→k.getD i false=true)→∀z,z∈Z.zs→∃d v,G9 ops z.1=some d∧a.tmps[d]? =some v∧Z.f z.1 (z.2.map λs=>a.tmps[s]?)=some v:=by
  intro k a w ai K z hz;exact ai.pz z hz (K z.1 (hZ z hz).1 λh=>(hZ z hz).2.1 (Ad0 _ h))
 have ar:∀(k:Array Bool) (a:Act) (w:World),Wp B h0 n m ops (q++D) As Z R k a w→(∀i,i<ops.size→i∉q→k.getD i false=true)→iH (VH ops As) (λs=>a.tmps[s]?):=by
  intro k a w ai K s hs s' co U u u' e e';obtain⟨i,hi,hd⟩:=Aeg.1 hs;obtain⟨j,X,a5⟩:=Aeg.1 co;have lt:∀i d,G9 ops i=some d→i<ops.size:=λi d C=>by
   unfold G9 at C;cases ad:ops[i]? with
   |none=>rw[ad] at C;cases C
   |some oj=>exact(Ab5.1 ad).1
  exact ai.dis i hi j X (λe=>U (by subst e;rw[hd] at a5;exact Aa1 a5)) (K i (lt _ _ hd) (λh=>am i hi (Ad0 _ h))) (K j (lt _ _ a5) (λh=>am j X (Ad0 _ h))) _ _ _ _ hd a5 e e'
 induction y with
 |zero=>
  intro k a w hu I hD ai;have aa:∀i,k.getD i true=true:=λi=>Vw hu;obtain⟨h,g1,g2,g3,g4⟩:=ai.ex;have H:∀i,i<ops.size→i∉q→k.getD i false=true:=λi Y A=>by
   have h2:=aa i;have:i<k.size:=by rw[I.size];exact Y
   simpa [this] using h2
  have hf:=b8 a w h g1 g2 g3 (λi Y A=>g4 i A (H i Y λh=>A (Ad0 _ h))) (ar _ _ _ ai H) (b9 _ _ _ ai H);exact Jg hb q 0 k a w hu I.size (λi _ _=>aa i) (λt ht=>⟨b3 t ht,I.tail t ht⟩) aq b4 hf
 |succ y ih=>
  intro k a w hu I hD ai;obtain⟨h,g1,g2,g3,g4⟩:=ai.ex;by_cases aa:∀i,i<ops.size→i∉q→k.getD i true=true
  ·have H:∀i,i<ops.size→i∉q→k.getD i false=true:=λi Y A=>by
    have h2:=aa i Y A;have:i<k.size:=by rw[I.size];exact Y
    simpa [this] using h2
   have hf:=b8 a w h g1 g2 g3 (λi Y A=>g4 i A (H i Y λh=>A (Ad0 _ h))) (ar _ _ _ ai H) (b9 _ _ _ ai H);exact Jg hb q (y+1) k a w hu I.size aa (λt ht=>⟨b3 t ht,I.tail t ht⟩) aq b4 hf
  ·have ca:∀j,k.getD j false=true→j∉q:=λj X cp=>by
    have:=getD_both (I.tail j cp);rw[X] at this;cases this
   have ae:∀i o,i∈Region.ready .any ops k→ops[i]? =some o→∀ps,TE ops o ps=true→(∀p∈ps,p.1∉D)→∀p∈ps,∃v,a.tmps[p.2]? =some v∧R p.1 v h:=by
    intro i o hi ho ps au bl p hp;obtain⟨av,o',an,aw⟩:=mem_ready.1 hi;have:o'=o:=Aa1 (an.symm.trans ho);subst this;have J:=Aa6.1 au p hp;simp only[Aa3] at J;have X:p.1∈Mg o':=by simpa using J.1
    obtain⟨e,he,bm⟩:=Ab1.1 X;obtain⟨bn,a6⟩:=Ach.1 he;have a7:e∈o'.after:=by simpa using bn
    have h3:=aw e a7 a6;rw[bm] at h3;obtain⟨d',v,C,M,q3⟩:=g4 p.1 (λh=>(Ab3.1 h).elim (ca _ h3) (bl p hp)) h3;have h2:=J.2;rw[C] at h2;have:p.2=d':=Aa8 (by simpa using h2);exact⟨v,by rw[this];exact M,q3⟩
   have ax:∀i o d,i∉q→i∉q++D→i∈Region.ready .any ops k→ops[i]? =some o→o.dst=some d→∀v w' h',Wd B h' w'→DX h h'→R i v h'→(i∈As→Wm h v)→(∀sl,(i,sl)∈Z.zs→Z.f i (sl.map λs=>a.tmps[s]?)=some v)→wpAny P .any ops Q y (k.setIfInBounds i true) (a.put (some d) v) w':=by
    intro i o d A ab hi ho af v w' h' cq an hr ag cr;obtain⟨av,oo,cs,_⟩:=mem_ready.1 hi;have ay:i<ops.size:=(Ab5.1 cs).1;have hd:G9 ops i=some d:=by unfold G9;rw[ho];exact af
    have l:=Aa6.1 bb i (Ab9.2 ay);rw[hd] at l;simp only[Aa3,Abr,Aa6,Ab9,Abq,Aa7,ab,Acs] at l;obtain⟨⟨a8,bo⟩,bp⟩:=l;have az:d+1≤n.1:=by simpa [Nat.blt] using a8
    have al:d<n.1:=az;have a0:(a.put (some d) v).tmps[d]? =some v:=by
     simp only[Act.put,Acn];have:=g3.siz;simp [this,al]
    have ah:∀j dj,G9 ops j=some dj→j≠i→j∉q++D→(a.put (some d) v).tmps[dj]? =a.tmps[dj]? :=by
     intro j dj C e X;have bq:j<ops.size:=by
      unfold G9 at C;cases ad:ops[j]? with
      |none=>rw[ad] at C;cases C
      |some oj=>exact(Ab5.1 ad).1
     have J:=bp j bq;rw[C] at J;have U:d≠dj:=by
      rcases J with (J|J)|J
      ·exact absurd J X
      ·exact absurd (Aa8 J).symm e
      ·intro e';subst e';simp at J
     simp only[Act.put,Acn];rw[Aaw U]
    have be:∀j,j∈As→j≠i→(k.setIfInBounds i true).getD j false=true→i∈As→∀dj u,G9 ops j=some dj→(a.put (some d) v).tmps[dj]? =some u→∀b b',Oc v=some b→Oc u=some b'→b≠b':=by
     intro j X e K ct dj u C M b1 b2 z1 z2;rw[getD_set_ne false (λx=>e x.symm)] at K;rw[ah j dj C e (am j X)] at M;obtain⟨c6,vj,p1,p2,p3⟩:=g4 j (am j X) K;rw[C] at p1;cases p1;rw[M] at p2;cases p2;obtain⟨b,e1,e2⟩:=b0 j X _ _ p3;obtain⟨b',e3,e4⟩:=ag ct;rw[z1] at e3;rw[z2] at e1;cases e3;cases e1;omega
    refine ih _ _ _ (by have:=MH av;omega) (I.set hi A) (λj X=>getD_set_true (hD j X)) ⟨⟨h',cq,g2.trans an,?_,λj X K=>?_⟩,λi1 ao j1 a9 bf br bs d1 d2 u1 u2 C M q3 q4=>?_,λz hz K=>?_⟩
    rotate_left 3
    ·have bg:∀(lz:(k.getD z.1 false=true)∨z.1=i) (s:Nat),s∈z.2→(a.put (some d) v).tmps[s]? =a.tmps[s]? :=by
      intro lz s hs;obtain⟨oz,j,p1,p2,p3,p4⟩:=(hZ z hz).2.2 s hs;refine ah j s p3 (λe=>?_) p4;subst e;obtain⟨ed,he,bm⟩:=Ab1.1 p2;obtain⟨bn,a6⟩:=Ach.1 he;have a7:ed∈oz.after:=by simpa using bn
      rcases lz with lz|lz
      ·have h3:=I.closed z.1 oz p1 lz ed a7 a6;rw[bm,getD_both av] at h3;cases h3
      ·have h4:=Aa6.1 hb z.1 (Ab9.2 (hZ z hz).1);rw[p1] at h4;simp only[Adq,Acm,Adr] at h4;have h6:=h4 ed a7;simp only[a6,Ab4,Ac9,Abh] at h6;omega
     by_cases e:z.1=i
     ·refine⟨d,v,by rw[e];exact hd,a0,?_⟩;rw[Aeh (bg (.inr e)),e];exact cr z.2 (by rw[←e];exact hz)
     ·rw[getD_set_ne false (λx=>e x.symm)] at K;obtain⟨dz,vz,p1,p2,p3⟩:=ai.pz z hz K;refine⟨dz,vz,p1,by rw[ah z.1 dz p1 e (hZ z hz).2.1];exact p2,?_⟩;rw[Aeh (bg (.inl K))];exact p3
    rotate_left 2
    ·by_cases e:i1=i
     ·subst e;rw[hd] at C;cases C;rw[a0] at q3;cases q3;exact be j1 a9 (λe=>bf e.symm) bs ao d2 u2 M q4
     ·by_cases e':j1=i
      ·subst e';rw[hd] at M;cases M;rw[a0] at q4;cases q4;exact λb b' z1 z2 e2=>be i1 ao e br a9 d1 u1 C q3 b' b z2 z1 e2.symm
      ·rw[ah i1 d1 C e (am i1 ao)] at q3;rw[ah j1 d2 M e' (am j1 a9)] at q4;rw[getD_set_ne false (λx=>e x.symm)] at br;rw[getD_set_ne false (λx=>e' x.symm)] at bs;exact ai.dis i1 ao j1 a9 bf br bs d1 d2 u1 u2 C M q3 q4
    ·have hp:=g3.put a8 v;refine⟨hp.dfr,hp.siz,λi' u cb=>hp.at_ i' u ?_⟩;have U:Nat.beq d i'=false:=by
      cases V:Nat.beq d i' with
      |false=>rfl
      |true=>
       have:=Aa8 V;subst this;have J:=dE cb;rw[←Aa7] at J;rw[J] at bo;cases bo
     simp only[lk,U,Aa0];exact cb
    ·by_cases e:i=j
     ·subst e;refine⟨d,v,hd,?_,hr⟩;simp only[Act.put,Acn];have:=g3.siz;simp [this,al]
     ·rw[getD_set_ne false e] at K;obtain⟨dj,vj,C,M,q3⟩:=g4 j X K;refine⟨dj,vj,C,?_,bi _ _ _ _ g2 an q3⟩;have bq:j<ops.size:=by
       unfold G9 at C;cases ad:ops[j]? with
       |none=>rw[ad] at C;cases C
       |some oj=>exact(Ab5.1 ad).1
      have J:=bp j bq;rw[C] at J;have U:d≠dj:=by
       rcases J with (J|J)|J
       ·exact absurd J X
       ·exact absurd (Aa8 J) e
       ·intro e';subst e';simp at J
      simp only[Act.put,Acn];rw[Aaw U];exact M
   by_cases bt:∃f,f∈F∧f∈Region.ready .any ops k
   ·obtain⟨f,a1,ba⟩:=bt;obtain⟨cc,bu,o,d,ps,ho,af,au,cu⟩:=hF f a1;obtain⟨fr,hK,ag⟩:=LT (a:=a) (n:=n) _ _ (cu (LC a) h g2) (ae f o ba ho ps au λp _ h=>bc f a1 _ h) ⟨g3.dfr,g3.siz,λi v hi=>by simp [lk] at hi⟩;obtain⟨v,hy,hr⟩:=hK a (ag.append (g3.append g3.full));refine wpAny_first ho (Region.noSelect_spec b6) (λc a w hq=>absurd hq (hQ c _ w)) y k a w (λj oj X U cd bv=>?_) ba hy ?_
    ·have J:=Aa6.1 bu j (Ab9.2 (Ab5.1 X).1);simp only[ho,X,Abq,beq_iff_eq,U,Acs] at J;rcases J with J|J
     ·obtain⟨cv,ce,e,he,V,a2⟩:=Region.waitsFor_spec J;have:cv=oj:=Aa1 (ce.symm.trans X);subst this;exact absurd a2 (bv e he V)
     ·rcases J with J|J
      ·obtain⟨cw,cf,e,he,V,a2⟩:=Region.waitsFor_spec J;obtain⟨_,cx,cg,H⟩:=mem_ready.1 ba;have:cw=cx:=Aa1 (cf.symm.trans cg);subst this;have h5:=H e he V;rw[a2,getD_both cd] at h5;cases h5
      ·exact J
    ·rw[af];exact ax f o d cc.2 (λh=>(Ab3.1 h).elim cc.2 λh=>bc f a1 _ h) ba ho af v w h g1 (DX.refl h) hr (λhA=>absurd hA (b7 f a1).1) λsl a3=>absurd a3 ((b7 f a1).2 sl)
   have ch:∃k0,k0<ops.size∧k0∉q∧k.getD k0 true=false∧k0∉F:=by
    obtain⟨k1,c4,cy,cz⟩:∃k1,k1<ops.size∧k1∉q∧k.getD k1 true=false:=by
     apply Ade;intro bv;refine aa λi Y A=>?_;cases K:k.getD i true with
     |true=>rfl
     |false=>exact absurd ⟨i,Y,A,K⟩ bv
    obtain⟨i0,C,M,q3⟩:=MR (p:=λi=>k.getD i true||q.contains i) k1 (by simp [cz,cy]);simp only[Abu] at M;have aj:i0<ops.size:=by omega
    have bh:i0∉q:=λh=>by rw[Aa7.2 h] at M;cases M.2
    refine⟨i0,aj,bh,M.1,λhf=>bt ⟨i0,hf,mem_ready.2 ⟨M.1,ops[i0],by simp [aj],λe he ci=>?_⟩⟩⟩;have h4:=Aa6.1 hb i0 (Ab9.2 aj);have h5:ops[i0]? =some ops[i0]:=by simp [aj]
    rw[h5] at h4;simp only[Adq,Acm,Adr] at h4;have h6:=h4 e he;simp only[ci,Ab4,Ac9,Abh] at h6;have h7:=q3 e.on h6;have h9:=Aa6.1 cn i0 (Ab9.2 aj);simp only[Abq,Aa7,bh,Acs,h5,Adq,Acm,Adr] at h9;have ap:=h9 e he;simp only[ci,Ab4,Ac9,Abr] at ap;rcases ap with ap|ap
    ·cases ap
    rw[ap,Bool.or_false] at h7;have h8:e.on<k.size:=by rw[I.size];omega
    simp only[Acu,Adk h8,Acm] at h7 ⊢;exact h7
   have ⟨c7,bw,c5,cj,_⟩:=ch;obtain⟨i0,_,c0,_⟩:=NA hb I.size bw cj;refine⟨λh0=>absurd (h0▸c0) (by simp),λi hi=>?_⟩;obtain⟨av,o,ho,aw⟩:=mem_ready.1 hi;have ay:i<ops.size:=(Ab5.1 ho).1;by_cases W:i∈q∧∀k0,k0<ops.size→k0∉q→k0∉F++G→k.getD k0 false=true
   ·rcases bj with hG|⟨hF0,bj⟩
    ·obtain⟨k0,C,M,q3,q4⟩:=ch;have:=W.2 k0 C M (by rw[hG,Abx];exact q4);rw[getD_both q3] at this;cases this
    ·cases ak:q with
     |nil=>rw[ak] at W;cases W.1
     |cons k1 bk=>
      have ao:i=k1:=by
       have hm:=W.1;rw[ak] at hm;rcases Aa5.1 hm with e|hjr
       ·exact e
       ·rw[ak] at aq;obtain⟨p,hp,hw⟩:=Mq aq i hjr;obtain⟨o',an,e',c1,V,a2⟩:=Region.waitsFor_spec hw;have:o'=o:=Aa1 (an.symm.trans ho);subst this;have g3:=aw e' c1 V;rw[a2,getD_both (I.tail p (by rw[ak];exact hp))] at g3;cases g3
      subst ao;refine bj i bk ak y k a w hu I ai (λj C M q3=>?_) hi;by_cases bx:j∈F
      ·cases K:k.getD j false with
       |true=>rfl
       |false=>
        refine absurd ⟨j,bx,mem_ready.2 ⟨getD_in (by rw[I.size];exact C) K,ops[j],by simp [C],λe he V=>?_⟩⟩ bt;obtain⟨z1,z2,z3⟩:=hF0 j bx _ (by simp [C]) e he V;exact W.2 e.on z1 z2 z3
      ·exact W.2 j C M (λh=>(Ab3.1 h).elim bx q3)
   have A:i∉q:=λA=>by
    rcases b5 with hc|hc
    ·rw[hc] at A;cases A
    ·refine W ⟨A,λk0 C M q3=>?_⟩;cases K:k.getD k0 false with
     |true=>rfl
     |false=>exact absurd hi (Rr hc aq I _ k0 rfl C M (λh=>(Ab3.1 h).elim q3 λh=>by rw[hD k0 h] at K;cases K) (getD_in (by rw[I.size];exact C) K) i A)
   have ab:i∉q++D:=λh=>(Ab3.1 h).elim A λh=>by
    have:=hD i h;rw[getD_both av] at this;cases this
   have l:=Aa6.1 bb i (Ab9.2 ay);cases hd:G9 ops i with
   |none=>rw[hd] at l;simp only[Aa7,ab,Abq,Acs] at l;cases l
   |some d=>
   rw[hd] at l;simp only[Aa3,Abr,Aa6,Ab9,Abq,Aa7,ab,Acs] at l;obtain⟨⟨a8,bo⟩,bp⟩:=l;have az:d+1≤n.1:=by simpa [Nat.blt] using a8
   have al:d<n.1:=az;have af:o.dst=some d:=by unfold G9 at hd;rw[ho] at hd;exact hd
   obtain⟨ps,au,bl,bz⟩:=step i o d ab ho af;have a4:=ae i o hi ho ps au bl;obtain⟨fr,hK,ag⟩:=LT (a:=a) (n:=n) _ _ (bz (LC a) h g2) a4 ⟨g3.dfr,g3.siz,λi v hi=>by simp [lk] at hi⟩;have ac:Fr n a (fr++(m++LC a)):=ag.append (g3.append g3.full);have c2:∀i u,a.tmps[i]? =some u→lk (fr++(m++LC a)) i=some u:=by
    intro i u hu;have K:lk (LC a) i=some u:=by
     have:i<a.tmps.size:=(Ab5.1 hu).1;rw[U9 this];simp [Acu,hu]
    have c3:∃u',lk (fr++(m++LC a)) i=some u':=by
     rw[MX,MX,K];cases lk fr i with
     |some x=>exact⟨x,by simp⟩
     |none=>cases lk m i with
      |some x=>exact⟨x,by simp⟩
      |none=>exact⟨u,by simp⟩
    obtain⟨u',ck⟩:=c3;have:=ac.at_ i u' ck;rw[hu] at this;rw[ck,←Aa1 this]
   have next:=ax i o d A ab hi ho af
   have conv:∀a' w',KS B n d (RF R As Z i h fr) h (fr++(m++LC a)) a' w'→wpAny P .any ops Q y (k.setIfInBounds i true) a' w':=by
    rintro a' w' ⟨v,h',f1,f2,f3,f4⟩;have:=Fr.same al ac f1 λi u hi hu=>by
     have U:Nat.beq d i=false:=by
      cases V:Nat.beq d i with
      |false=>rfl
      |true=>exact absurd (Aa8 V).symm hi
     simp only[lk,U,Aa0];exact c2 i u hu
    subst this;refine next v w' h' f2 f3 f4.1 (λhA=>f4.2.1 (Aa7.2 hA)) λsl a3=>?_
    obtain⟨r1,r2⟩:=f4.2.2 sl a3;rw[←r2];congr 1;refine Aeh λs hs=>?_;obtain⟨u,hu⟩:=Option.isSome_iff_exists.1 (r1 s hs);rw[hu,ag.at_ s u hu]
   unfold wpOp;simp only[ho];cases hg:o.guard with
   |none=>
    rw[hg] at hK;rw[Aay (by simp [Region.wanted,hg])];exact(LH hg (hK a w ac g1)).imp (Oper.wp_mono conv) id
   |some gb=>
    obtain⟨g,b⟩:=gb;rw[hg] at hK;obtain⟨dg,C,hK⟩:=hK;rcases hK with ⟨k1,k2⟩|⟨v,k1,k2,k3⟩
    ·have hy:yielded ops a.tmps g=some b:=Qd ag C k1;rw[Aay (by simp [Region.wanted,hg,hy])];exact(Sf (LH rfl (k2 a w ac g1))).imp (Oper.wp_mono conv) id
    ·have hy:yielded ops a.tmps g≠some b:=by rw[Qd ag C k1];exact k2
     rw[Aaw (by simp [Region.wanted,hg,hy]),af];exact next undef w h g1 (DX.refl h) k3 (λhA=>by obtain⟨b,e,_⟩:=b0 i hA _ _ k3;cases e) λsl a3=>by
      have:=cl _ a3;rw[ho] at this;simp [hg] at this
end
def VI (ops:Array Oper) (a F:List Nat):Bool:=a.all (λt=>Nat.blt t ops.size)&&decide a.Nodup&&(a.isEmpty||Ru ops a F)&&N8 ops a&&N7 ops a&&PO ops&&Region.noSelect ops
def LG (P:Program) (ops:Array Oper) (a:List Nat) (n:FN) (m:SM) (h0:AV) (R:AR):List Nat→Prop
 |[]=>True
 |f::F=>((f<ops.size∧f∉a)∧Mk ops f=true∧∃o d b,ops[f]? =some o∧o.dst=some d∧TE ops o b=true∧Pa P ops n m h0 R f o b)∧LG P ops a n m h0 R F
def LG.at_ {P:Program}{ops:Array Oper}{b:List Nat}{n:FN}{m:SM}{h0:AV}{R:AR}:∀{F:List Nat},LG P ops b n m h0 R F→∀f,f∈F→(f<ops.size∧f∉b)∧Mk ops f=true∧∃o d c,ops[f]? =some o∧o.dst=some d∧TE ops o c=true∧Pa P ops n m h0 R f o c
 |[],_,f,a=>by cases a
 |g::F,⟨i,j⟩,f,a=>by
  rcases Aa5.1 a with rfl|a
  ·exact i
  ·exact LG.at_ j f a
def LG.cons {P:Program}{ops:Array Oper}{b:List Nat}{n:FN}{m:SM}{h0:AV}{R:AR}{f d:Nat}{o:Oper}{F:List Nat}(c:List (Nat×Nat)) (a:(Nat.blt f ops.size&& !b.contains f&&Mk ops f)=true) (i:ops[f]? =some o) (hd:o.dst=some d) (g:TE ops o c=true) (j:Pa P ops n m h0 R f o c) (t:LG P ops b n m h0 R F):LG P ops b n m h0 R (f::F):=by
 simp only[Aa3,Abr] at a;exact⟨⟨⟨(by simpa [Nat.blt] using a.1.1:f+1≤ops.size),λh=>by rw[Aa7.2 h] at a;cases a.1.2⟩,a.2,o,d,c,i,hd,g,j⟩,t⟩
def Cx (P:Program) (ops:Array Oper) (Q:Exit→Act→World→Prop) (B:World) (n:FN) (m:SM) (h0:AV) (R:AR) (a As:List Nat) (Z:ZB):Nat→List Oper→List (List (Nat×Nat))→Prop
 |i,o::l,b::pss=>(i∈a∨match o.dst with|some d=>Xk P ops Q B n m h0 R As Z i o d b|none=>False)∧Cx P ops Q B n m h0 R a As Z (i+1) l pss
 |_,_,_=>True
def SL (ops:Array Oper) (a:List Nat) (l:List Oper) (pss:List (List (Nat×Nat))):Bool:=Nat.beq l.length pss.length&&(l.zip pss).zipIdx.all λp=>a.contains p.2||TE ops p.1.1 p.1.2
def Cx.at_ {P:Program}{ops:Array Oper}{Q:Exit→Act→World→Prop}{B:World}{n:FN}{m:SM}{h0:AV}{R:AR}{p As:List Nat}{Z:ZB}:∀{l:List Oper}{pss:List (List (Nat×Nat))}{k i:Nat}{o:Oper}{d:Nat},Cx P ops Q B n m h0 R p As Z k l pss→l.length=pss.length→k+i∉p→l[i]? =some o→o.dst=some d→∃a,pss[i]? =some a∧Xk P ops Q B n m h0 R As Z (k+i) o d a
 |[],_,_,_,_,_,_,_,_,h,_=>by simp at h
 |_::_,[],_,_,_,_,_,c,_,_,_=>by simp at c
 |s::l,a::pss,k,0,o,d,g,c,j,b,hd=>by
  simp only[Ac7,Ab8] at b;subst b;simp only[Cx,hd] at g;exact⟨a,rfl,g.1.resolve_left j⟩
 |s::l,a::pss,k,i+1,o,d,g,c,j,b,hd=>by
  simp only[Ac3] at b;obtain⟨q,t,u⟩:=Cx.at_ (l:=l) (pss:=pss) (k:=k+1) (i:=i) g.2 (by simpa using c) (by rw[show k+1+i=k+(i+1) by omega];exact j) b hd;rw[show k+(i+1)=k+1+i by omega];exact⟨q,by simpa using t,u⟩
def Cx.cons {P:Program}{ops:Array Oper}{Q:Exit→Act→World→Prop}{B:World}{n:FN}{m:SM}{h0:AV}{R:AR}{p As:List Nat}{Z:ZB}{i:Nat}{o:Oper}{l:List Oper}{A:List (Nat×Nat)}{pss:List (List (Nat×Nat))}{d:Nat}(hd:o.dst=some d) (G:As.contains i=false) (C:(Z.zs.map (·.1)).contains i=false) (h:Uj P ops Q B n m h0 R i o d A) (t:Cx P ops Q B n m h0 R p As Z (i+1) l pss):Cx P ops Q B n m h0 R p As Z i (o::l) (A::pss):=by
 simp only[Cx,hd];refine⟨.inr λmt c H=>PA.imp (λfr k=>?_) _ _ (h mt c H),t⟩;have I:∀v j,R i v j→RF R As Z i c fr v j:=λv j r=>⟨r,λh=>(by rw[G] at h;cases h),λsl s=>by
  rw[Aa7.2 (Ab1.2 ⟨_,s,rfl⟩)] at C;cases C⟩
 have p:∀a w,KS B n d (R i) c (fr++(m++mt)) a w→KS B n d (RF R As Z i c fr) c (fr++(m++mt)) a w:=λa w ⟨v,j,u,y,J,K⟩=>⟨v,j,u,y,J,I v j K⟩
 have D:∀z,LF P ops (Exit.then (KS B n d (R i) c (fr++(m++mt))) Q) [z] B c n (fr++(m++mt))→LF P ops (Exit.then (KS B n d (RF R As Z i c fr) c (fr++(m++mt))) Q) [z] B c n (fr++(m++mt)):=λz k a w M U=>HS (λe a w q=>by cases e<;>first|exact p a w q|exact q) _ a w (k a w M U);cases F:o.guard with
 |none=>rw[F] at k;exact D _ k
 |some V=>
  obtain⟨g,b⟩:=V;rw[F] at k;obtain⟨W,u,y⟩:=k;refine⟨W,u,y.imp (λ⟨X,Y⟩=>⟨X,D _ Y⟩) λx=>x⟩
def Cx.al {P:Program}{ops:Array Oper}{Q:Exit→Act→World→Prop}{B:World}{n:FN}{m:SM}{h0:AV}{R:AR}{g As:List Nat}{Z:ZB}{i:Nat}{l:List Oper}{pss:List (List (Nat×Nat))}{d T:Nat}{cs:List Value}{ty:TypeId}{pos:String}{af:Array Edge}(k:R i=Z3 h0 T cs) (o:EB P T=some cs) (hd:Nat.blt d n.1=true) (a:(Z.zs.map (·.1)).contains i=false) (t:Cx P ops Q B n m h0 R g As Z (i+1) l pss):Cx P ops Q B n m h0 R g As Z i (⟨some d,.alloc T,ty,pos,af,none⟩::l) ([]::pss):=by
 refine⟨.inr ?_,t⟩;intro mt h p;show LF P ops (Exit.then (KS B n d (RF R As Z i h []) h _) Q) _ B h n _
 refine iB (DX.refl h) o hd λv h' q r'=>A9 q ?_;obtain⟨b,e,j,s,u⟩:=r';have w:R i v h':=by rw[k];exact⟨b,e,Acd p.siz j,s,u⟩
 exact⟨w,λ_=>⟨b,by rw[e];rfl,j⟩,λsl c=>by rw[Aa7.2 (Ab1.2 ⟨_,c,rfl⟩)] at a;cases a⟩
def Cx.z {P:Program}{ops:Array Oper}{Q:Exit→Act→World→Prop}{B:World}{n:FN}{m:SM}{h0:AV}{R:AR}{g As:List Nat}{Z:ZB}{i:Nat}{o:Oper}{l:List Oper}{j:List (Nat×Nat)}{pss:List (List (Nat×Nat))}{d:Nat}(sl:List Nat) (hd:o.dst=some d) (p:As.contains i=false) (u:o.guard=none) (b:(Z.zs.all λz=> !(Nat.beq z.1 i)||decide (z.2=sl))=true)
  (h:∀mt h,DX h0 h→PA R h (λfr=>LF P ops (Exit.then (KS B n d (λv h'=>R i v h'∧(sl.all λs=>(lk fr s).isSome)=true∧Z.f i (sl.map (lk fr))=some v) h (fr++(m++mt))) Q) [o] B h n (fr++(m++mt))) j []) (t:Cx P ops Q B n m h0 R g As Z (i+1) l pss):Cx P ops Q B n m h0 R g As Z i (o::l) (j::pss):=by
 simp only[Cx,hd];refine⟨.inr λmt x y=>PA.imp (λfr k=>?_) _ _ (h mt x y),t⟩;rw[u];refine λa w A C=>HS (λe a w q=>?_) _ a w (k a w A C);cases e<;>first|exact q|skip
 obtain⟨v,D,F,G,H,I,J,K⟩:=q;refine⟨v,D,F,G,H,I,λh=>(by rw[p] at h;cases h),λM c=>?_⟩;have:=Aa6.1 b _ c;simp only[Nat.beq_refl,Ab4,Ac9,Abh] at this;subst this;exact⟨λs U=>Aa6.1 J s U,K⟩
def Cx.nw {P:Program}{ops:Array Oper}{Q:Exit→Act→World→Prop}{B:World}{n:FN}{m:SM}{h0:AV}{R:AR}{g As:List Nat}{Z:ZB}{i:Nat}{o:Oper}{l:List Oper}{j:List (Nat×Nat)}{pss:List (List (Nat×Nat))}{d:Nat}(hd:o.dst=some d) (p:o.guard=none) (b:(Z.zs.map (·.1)).contains i=false)
  (h:∀mt h,DX h0 h→PA R h (λfr=>LF P ops (Exit.then (KS B n d (λv h'=>R i v h'∧Wm h v) h (fr++(m++mt))) Q) [o] B h n (fr++(m++mt))) j []) (t:Cx P ops Q B n m h0 R g As Z (i+1) l pss):Cx P ops Q B n m h0 R g As Z i (o::l) (j::pss):=by
 simp only[Cx,hd];refine⟨.inr λmt s u=>PA.imp (λfr k=>?_) _ _ (h mt s u),t⟩;rw[p];refine λa w x y=>HS (λe a w q=>?_) _ a w (k a w x y);cases e<;>first|exact q|skip
 obtain⟨v,z,A,C,D,F,G⟩:=q;exact⟨v,z,A,C,D,F,λ_=>G,λsl c=>by rw[Aa7.2 (Ab1.2 ⟨_,c,rfl⟩)] at b;cases b⟩
def Cx.skip {P:Program}{ops:Array Oper}{Q:Exit→Act→World→Prop}{B:World}{n:FN}{m:SM}{h0:AV}{R:AR}{a As:List Nat}{Z:ZB}{i:Nat}{o:Oper}{l:List Oper}{b:List (Nat×Nat)}{pss:List (List (Nat×Nat))}(h:a.contains i=true) (t:Cx P ops Q B n m h0 R a As Z (i+1) l pss):Cx P ops Q B n m h0 R a As Z i (o::l) (b::pss):=
 ⟨.inl (Aa7.1 h),t⟩
def Wo (S:Nat→Prop) (h a:AV) (c:List Nat) (L:List HP):Prop:=(∀b,S b→b<h.size)∧DX h a∧(∀b,b∈c→h.size≤b∧b<a.size)∧Sp S L a (λb=>(b<h.size∧¬S b)∨b∈c)
def Wo.nil {S:Nat→Prop}{L:List HP}{h g:AV}(a:St S L h) (o:DX h g):Wo S h g [] L:=
 ⟨a.1,o,λb i=>(by cases i),Sp.ext a.2 (λ_ x=>x) (λc d=>o.same c (d.elim (a.1 c) (·.1))) λc d=> .inl d⟩
def Wo.cons {S:Nat→Prop}{L:List HP}{h d:AV}{g:List Nat}{b T:Nat}{cs:List Value}(k:Wo S h d g L) (i:h.size≤b) (j:b<d.size) (l:d[b]? =some (.cells cs.toArray T (0,0))) (m:b∉g):Wo S h d (b::g) (Bx b T cs::L):=by
 obtain⟨n,o,p,q⟩:=k;refine⟨n,o,λc a=>?_,λc=>c=b,⟨λ_=>Acp,l⟩,λc a=>by subst a;exact .inr (Abn ..),q.mono λc a=>⟨a.imp_right (Abt _),λe=>?_⟩⟩
 ·rcases Aa5.1 a with rfl|a
  ·exact⟨i,j⟩
  ·exact p c a
 ·subst e;rcases a with a|a
  ·have:=a.1;omega
  ·exact m a
def Wo.st {S:Nat→Prop}{L:List HP}{h d:AV}{l:List Nat}(k:Wo S h d l L):St S L d:=by
 obtain⟨g,i,j,m⟩:=k;refine⟨λb n=>Aa9 (g b n) i.siz,m.mono λc a=>?_⟩;rcases a with a|a
 ·exact⟨Aa9 a.1 i.siz,a.2⟩
 ·exact⟨(j c a).2,λo=>by have:=g c o;have:=(j c a).1;omega⟩
def XM {b c:Nat}{l:List Nat}(h:b≠c) (t:b∉l):b∉c::l:=λe=>(Aa5.1 e).elim h t
def iH.at_ {a:List Nat}{f:Nat→Option Value}{s s' b c:Nat}(k:iH a f) (h:(a.contains s&&a.contains s'&& !(Nat.beq s s'))=true) (e:f s=some (.pointer (some ⟨b,0,none⟩))) (d:f s'=some (.pointer (some ⟨c,0,none⟩))):b≠c:=by
 simp only[Aa3,Abr,Aa7] at h;exact k s h.1.1 s' h.1.2 (λq=>by rw[q,Nat.beq_refl] at h;cases h.2) _ _ e d _ _ rfl rfl
def iH.of_ {a:List Nat}{f:Nat→Option Value}{s s' b c:Nat}{u d:Value}(k:iH a f) (h:(a.contains s&&a.contains s'&& !(Nat.beq s s'))=true) (e:f s=some u) (g:f s'=some d) (z:Oc u=some b) (i:Oc d=some c):b≠c:=by
 simp only[Aa3,Abr,Aa7] at h;exact k s h.1.1 s' h.1.2 (λq=>by rw[q,Nat.beq_refl] at h;cases h.2) _ _ e g _ _ z i
def Tg (r:Value→AV→Prop):Prop:=∀v h,r v h→∃b,Oc v=some b∧b<h.size
def fU {R:AR}:∀i,i∈([]:List Nat)→Tg (R i):=λi a=>by cases a
def Wj {R:AR}{a:Nat}{l:List Nat}(e:Tg (R a)) (t:∀i,i∈l→Tg (R i)):∀i,i∈a::l→Tg (R i):=λi b=>by
 rcases Aa5.1 b with rfl|b
 ·exact e
 ·exact t i b
def kP {R:AR}{h:AV}{a T:Nat}{cs:List Value}{l:List Nat}(e:R a=Z3 h T cs) (t:∀i,i∈l→Tg (R i)):∀i,i∈a::l→Tg (R i):=
 Wj (λv h' c=>by rw[e] at c;obtain⟨b,d,_,g,_⟩:=c;exact⟨b,by rw[d];rfl,g⟩) t
section
variable {P:Program}{ex:List (Nat×AP)}{RR N:AP}{cs:List Code}{B:World}{h:AV}{n:FN}{m m0:SM}{S:Nat→Prop}{L:List HP}
def Yj {l:List Oper}{id:Nat}(b F As:List Nat) (Z:ZB) (hZ:iK l.toArray b Z.zs=true) (aa:(Z.zs.all λz=> !F.contains z.1&&((l.toArray[z.1]?).bind (·.guard)).isNone)=true) (R:AR) (pss:List (List (Nat×Nat))) (fs:List (Nat×Nat)) {ls:List Oper}(hm:P.follows .mixedOrders=true) (hc:VI l.toArray b F=true) (ms:List Nat) (ab:m.map (·.1)=ms) (M:TF l.toArray b n ms=true)
  (C:SL l.toArray b l pss=true) (ac:(fs.all λp=>Nat.blt p.1 l.length&& !b.contains p.1&&(G9 l.toArray p.1).any (Nat.beq p.2 ·))=true) (ad:(b.filterMap λt=>l[t]?)=ls) (Q:Tr m0 m)
  (D:∀i v I h2,DX h I→DX I h2→R i v I→R i v h2)
  (ae:(As.all λi=> !b.contains i&& !F.contains i)=true) (af:∀i,i∈As→Tg (R i))
  (hF:LG P l.toArray b n m h R F)
  (step:Cx P l.toArray (Qx ex RR (W P ex RR cs N)) B n m h R b As Z 0 l pss)
  (ag:∀h',DX h h'→PA R h' (λfr=>iH (VH l.toArray As) (lk fr)→(∀z,z∈Z.zs→∀d v,G9 l.toArray z.1=some d→lk fr d=some v→(z.2.all λs=>(lk fr s).isSome)=true→Z.f z.1 (z.2.map (lk fr))=some v)→LF P l.toArray (Qx ex RR (W P ex RR cs N)) ls B h' n (fr++m)) fs []):WF P ex RR (.region id l.toArray true::cs) N B h n m0:=by
 intro a w J hw;subst ab;simp only[VI,Aa3,Abq,Abh] at hc;obtain⟨⟨⟨⟨⟨⟨I,h2⟩,h3⟩,h4⟩,h5⟩,h6⟩,h7⟩:=hc;simp only[SL,Aa3] at C;have U:l.length=pss.length:=Aa8 C.1;have y:∀i,i∈As→i∉b∧i∉F:=λi g=>by
  have:=Aa6.1 ae i g;simp only[Aa3,Abr] at this;exact⟨λh=>(by rw[Aa7.2 h] at this;cases this.1),λh=>(by rw[Aa7.2 h] at this;cases this.2)⟩
 have A:∀z,z∈Z.zs→z.1∉F∧((l.toArray[z.1]?).bind (·.guard))=none:=λz G=>by
  have:=Aa6.1 aa z G;simp only[Aa3,Abr,Option.isNone_iff_eq_none] at this;exact⟨λh=>(by rw[Aa7.2 h] at this;cases this.1),this.2⟩
 refine λrd ah=>O2 ah NM hm (TZ (R:=R) (B:=B) (h0:=h) (n:=n) (m:=m) b [] As Z (by rw[Abx];exact ZE hZ) (λz G=>A z G |>.2) af (λt ht=>by have:=Aa6.1 I t ht;simp [Nat.blt] at this ⊢;omega) h2 h6 F [] (.inr rfl) (by rw[Abx,Abx];exact h3.imp (λe=>by cases b with|nil=>rfl|cons _ _=>simp at e) λx=>x) (JU h4) h5 h7 (λc a w hq=>hq) (λf J=>⟨λhA=>(y f hA).2 J,λsl ai=>(A _ ai).1 J⟩) (λf J=>hF.at_ f J) (by rw[Abx];exact M) D (λi g=>by rw[Abx];exact(y i g).1) (λi o d g ho hd=>?_) (λa w h' g1 g2 g3 g4 g5 g6=>?_) (.inl rfl) _ _ _ _ ?_ ⟨by simp,λj oj _ q=>(by rw[getD_replicate_false] at q;cases q),λt ht=>getD_in (by have:=Aa6.1 I t ht;simp [Nat.blt] at this ⊢;omega) (getD_replicate_false _ _)⟩ (λi g=>by cases g) ⟨⟨h,hw.drew,DX.refl h,J.sub Q,λi _ q=>(by rw[getD_replicate_false] at q;cases q)⟩,λi _ j _ _ q=>(by rw[getD_replicate_false] at q;cases q),λz _ q=>(by rw[getD_replicate_false] at q;cases q)⟩)
 ·rw[Abx] at g;have H:l[i]? =some o:=by simpa using ho
  obtain⟨ps,V,K⟩:=Cx.at_ (k:=0) step U (by rw[Abz];exact g) H hd;rw[Abz] at K;refine⟨ps,?_,λ_ _=>Abm,K⟩;have al:i<l.length:=(Aba.1 H).1;have G:((o,ps),i)∈(l.zip pss).zipIdx:=by
   rw[Acy];exact⟨i,by rw[Aei,(Aej (z:=(o,ps))).2 ⟨H,V⟩];simp⟩
  have:=Aa6.1 C.2 _ G;simp only[Abq,Aa7,g,Acs] at this;exact this
 ·obtain⟨fr,k1,X⟩:=LT (a:=a) (n:=n) _ _ (ag h' g2) (λp hp=>by
   have e:=Aa6.1 ac p hp;simp only[Aa3,Abr] at e;have e1:p.1<l.toArray.size:=by have:=e.1.1;simp [Nat.blt] at this ⊢;omega
   obtain⟨d,v,V,K,q3⟩:=g4 p.1 e1 (λh=>by rw[Abx] at h;rw[Aa7.2 h] at e;cases e.1.2);have e2:=e.2;rw[V] at e2;have:p.2=d:=Aa8 (by simpa using e2);exact⟨v,by rw[this];exact K,q3⟩) ⟨g3.dfr,g3.siz,λi v g=>by simp [lk] at g⟩
  have Y:(b.filterMap λt=>l.toArray[t]?)=ls:=by rw[←ad];congr 1;funext t;simp
  rw[Y];exact k1 (λs hs s' aj ak u u' e e'=>g5 s hs s' aj ak u u' (X.at_ _ _ e) (X.at_ _ _ e')) (λz G d v V K q3=>by
   obtain⟨d',v',p1,p2,p3⟩:=g6 z G;rw[V] at p1;cases p1;rw[X.at_ d v K] at p2;cases p2;rw[←p3];congr 1;refine Aeh λs hs=>?_;obtain⟨u,hu⟩:=Option.isSome_iff_exists.1 (Aa6.1 q3 s hs);rw[hu,X.at_ s u hu]) a w (X.append g3) g1
 ·unfold T8;rw[Aek];simp
def tJ {l:List Oper}{id:Nat}(a F As:List Nat) (R:AR) (pss:List (List (Nat×Nat))) (j:List (Nat×Nat)) {C:List Oper}(G:P.follows .mixedOrders=true) (H:VI l.toArray a F=true) (ms:List Nat) (q:m.map (·.1)=ms) (c:TF l.toArray a n ms=true)
  (s:SL l.toArray a l pss=true) (u:(j.all λp=>Nat.blt p.1 l.length&& !a.contains p.1&&(G9 l.toArray p.1).any (Nat.beq p.2 ·))=true) (w:(a.filterMap λt=>l[t]?)=C) (g:Tr m0 m)
  (b:∀i v x D,DX h x→DX x D→R i v x→R i v D)
  (y:(As.all λi=> !a.contains i&& !F.contains i)=true) (z:∀i,i∈As→Tg (R i))
  (I:LG P l.toArray a n m h R F)
  (step:Cx P l.toArray (Qx ex RR (W P ex RR cs N)) B n m h R a As ZB.none 0 l pss)
  (A:∀h',DX h h'→PA R h' (λfr=>iH (VH l.toArray As) (lk fr)→LF P l.toArray (Qx ex RR (W P ex RR cs N)) C B h' n (fr++m)) j []):WF P ex RR (.region id l.toArray true::cs) N B h n m0:=
 Yj a F As ZB.none rfl rfl R pss j G H ms q c s u w g b y z I step λh' o=>PA.imp (λfr k d _=>k d) _ _ (A h' o)
end
def PQ (b o j:Nat):(⟨b,o,none⟩:Addr).add j=⟨b,o+j,none⟩:=by unfold Addr.add;split<;>simp_all
section
variable {S:Nat→Prop}{L:List HP}{h:AV}
def fY {α}{r:A4 α}{b e cap:Nat}{cs:List Value}{l:List α}(c:St S (Bx b e cs::L) h) (d:l.length≤cap) (g:cap≤maxLen) (i:cs.length=cap*r.sz) (j:LS S h r (cs.take (l.length*r.sz)) l):
  St S (OS r e (.slice (some ⟨b,0,none⟩) l.length cap) l::L) h:=
 (c.upd (H':=OS r e (.slice (some ⟨b,0,none⟩) l.length cap) l) .head (Abd _) λF a _=>⟨F,.inr ⟨b,cap,cs.toArray,rfl,a.1,a.2,d,g,by simpa using i,by simpa using j⟩,λ_ k=> .inl k,λ_ _ _=>rfl⟩).1
def St.bxcell {b T:Nat}{cs:List Value}(a:St S L h) (c:Bx b T cs∈L):h[b]? =some (.cells cs.toArray T (0,0)):=by
 obtain⟨F,k,_⟩:=a.get c;exact k.2
end
section
variable {P:Program}{ops:Array Oper}{C:World→Prop}{Q:Act→Prop}{n:FN}{m m':SM}{rest:List Oper}
variable {d:Nat}{ty:TypeId}{pos:String}{af:Array Edge}{X Y Z:Operand}{t:TypeId}{kd:IntKind}{v p:Value}
def Lm {e sz:Nat}(b:Na P t e sz=true):P.underlying t=some (.slice (P.elem t))∧∀w,(sizeOf (P.elem t)).run P w= .ok sz w:=by
 obtain⟨i,a,c,d,j⟩:=Me b;have g:P.elem t=e:=by simp [Program.elem,a]
 rw[g];exact⟨a,λw=>by simp [sizeOf,typeInfo,c,d]⟩
def tN {b o len cap e sz j:Nat}{y:Int}(i:BR m X=some (.slice (some ⟨b,o,none⟩) len cap)) (l:BR m Y=some (.int kd y)) (p:y=(j:Int)) (q:Na P t e sz=true) (v:j≤len) (x:j<cap) (hd:Nat.blt d n.1=true)
  (k:QF P ops C Q rest n ((d,.slice (some ⟨b,o+j*sz,none⟩) (len-j) (cap-j))::m)):QF P ops C Q (⟨some d,.slice t X (some Y) none none,ty,pos,af,none⟩::rest) n m:=λa c=>by
 obtain⟨g,s⟩:=Lm q;subst p;refine Du c hd (λw _=>?_) k;have u:¬cap=j:=by omega
 simp [execOp,c.eval i,c.eval l,run_sliceAt_slice _ _ _ _ _ _ g,run_slice_l w t _ len cap g kd (j:Int) (by omega) (by omega),s,sliced,u,PQ]
def gG {b o len cap e sz j:Nat}{y:Int}(i:BR m X=some (.slice (some ⟨b,o,none⟩) len cap)) (l:BR m Y=some (.int kd y)) (p:y=(j:Int)) (q:Na P t e sz=true) (v:j≤cap) (hd:Nat.blt d n.1=true)
  (k:QF P ops C Q rest n ((d,.slice (some ⟨b,o,none⟩) j cap)::m)):QF P ops C Q (⟨some d,.slice t X none (some Y) none,ty,pos,af,none⟩::rest) n m:=λa c=>by
 obtain⟨g,s⟩:=Lm q;subst p;refine Du c hd (λw _=>?_) k;have u:(⟨b,o,none⟩:Addr).add 0=⟨b,o,none⟩:=by rw[PQ];rfl
 simp [execOp,c.eval i,c.eval l,run_sliceAt_slice _ _ _ _ _ _ g,run_slice_h w t _ len cap g kd (j:Int) (by omega) (by omega),s,sliced,u]
def Y3 {c:Option Addr}{len cap e sz:Nat}{b:TypeId}(i:BR m X=some (.slice c len cap)) (j:Na P t e sz=true) (hd:Nat.blt d n.1=true) (k:QF P ops C Q rest n ((d,.int .i64 cap)::m)):
  QF P ops C Q (⟨some d,.call ⟨.builtin .cap,#[X],#[t]⟩,b,pos,af,none⟩::rest) n m:=λa g=>by
 obtain⟨l,o⟩:=Lm j;exact Du g hd (λw _=>by simp [execOp,resolve,invoke,builtin,g.eval i,run_cap_slice w t _ c len cap l,goInt]) k
end
section
variable {P:Program}{ops:Array Oper}{Q:Exit→Act→World→Prop}{n:FN}{m:SM}{rest:List Oper}
variable {d:Nat}{ty:TypeId}{pos:String}{af:Array Edge}{X Y:Operand}{B w:World}{h:AV}{S:Nat→Prop}{L L2:List HP}{v:Value}
def iX {T l t2 e sz b o dl dc sl sc:Nat}{g:Addr}{cs a:List Value}(m:Na P l e sz=true) (n:a.length=Nat.min sl dl*sz) (p:w.heap[b]? =some (.cells cs.toArray T (0,0)))
  (q:∀j u,a[j]? =some u→w.cell? (g.add j)=some u) (c:o+a.length≤cs.length) (s:∀u∈a,u.oneCell'=true):
  (Builtin.copy_ #[l,t2] ty #[.slice (some ⟨b,o,none⟩) dl dc,.slice (some g) sl sc]).run P w= .ok (goInt (Nat.min sl dl)) (w.setRow b (Ii cs o a).toArray):=by
 obtain⟨i,t,v,x,z⟩:=Me m;have y:=run_firstCells_some (P:=P) w sz (Nat.min sl dl) g sl sc a n q;have d:=run_storeCells_at P b o T a 0 cs.toArray w p (by simpa using c) s;have k:(List.take (o+0) cs.toArray.toList++a++List.drop (o+0+a.length) cs.toArray.toList)=Ii cs o a:=by simp [Ii]
 rw[k] at d;simp [Builtin.copy_,run_underlying t,Builtin.lenOf,sizeOf,typeInfo,v,x,y,d]
end
def LS.take {α S h}{r:A4 α}:∀{l:List α}{cs},LS S h r cs l→∀i,LS S h r (cs.take (i*r.sz)) (l.take i)
 |[],_,k,i=>by have k:_=[]:=k;subst k;simp [LS]
 |x::l,_,⟨b,c,e,a,d⟩,0=>by simp [LS]
 |x::l,_,⟨b,c,e,a,d⟩,i+1=>by
  subst e;have g:=r.len a;refine⟨b,c.take (i*r.sz),?_,a,d.take i⟩;rw[Acw,Nat.add_comm (i*r.sz),←g,List.take_append];rw[List.take_of_length_le (by omega),Nat.add_sub_cancel_left]
def LS.drop {α S h}{r:A4 α}:∀{l:List α}{cs},LS S h r cs l→∀i,LS S h r (cs.drop (i*r.sz)) (l.drop i)
 |[],_,k,i=>by have k:_=[]:=k;subst k;simp [LS]
 |x::l,_,⟨b,a,e,c,d⟩,0=>by subst e;rw[Nat.zero_mul];exact⟨b,a,rfl,c,d⟩
 |x::l,_,⟨b,a,e,c,d⟩,i+1=>by
  subst e;have g:=r.len c;have:(b++a).drop ((i+1)*r.sz)=a.drop (i*r.sz):=by
   rw[Acw,Nat.add_comm (i*r.sz),←g,List.drop_append];rw[List.drop_of_length_le (by omega),Nat.add_sub_cancel_left,Abj]
  rw[this,List.drop_succ_cons];exact d.drop i
def Pj {α}(l xs:List α):List α:=xs.take l.length++l.drop xs.length
section
variable {P:Program}{ops:Array Oper}{Q:Exit→Act→World→Prop}{n:FN}{m:SM}{rest:List Oper}
variable {d:Nat}{ty:TypeId}{pos:String}{af:Array Edge}{X Y:Operand}{B w:World}{h:AV}{S:Nat→Prop}{L L2:List HP}{v:Value}
def iY {a t2 e sz dl dc sl sc:Nat}{db sb:Option Addr}(b:Na P a e sz=true) (h0:Nat.min sl dl=0) (w:World):
  (Builtin.copy_ #[a,t2] ty #[.slice db dl dc,.slice sb sl sc]).run P w= .ok (goInt 0) w:=by
 obtain⟨i,c,d,j,k⟩:=Me b;have g:∀(x:Addr),(loadCells x 0).run P w= .ok #[] w:=λx=>by simpa using run_loadCells_list (P:=P) w x [] (by simp)
 cases db<;>cases sb<;>simp [Builtin.copy_,run_underlying c,Builtin.lenOf,Builtin.firstCells,sizeOf,typeInfo,d,h0,storeCells,g]
def Vb {α}{r:A4 α}{T Z t2 e:Nat}{s:Value}{l xs:List α}(hx:BR m X=some v) (hy:BR m Y=some s) (ht:Na P Z e r.sz=true) (y:uJ S h r s xs) (hd:Nat.blt d n.1=true) (hs:St S L h) (rp:Mu L (OS r T v l) (OS r T v (Pj l xs)) L2)
  (k:∀h',St S L2 h'→B9 S h S h'→LF P ops Q rest B h' n ((d,.int .i64 (Nat.min xs.length l.length:Nat))::m)):LF P ops Q (⟨some d,.call ⟨.builtin .copy,#[X,Y],#[Z,t2]⟩,ty,pos,af,none⟩::rest) B h n m:=by
 intro a w G A;refine wpList_plain rfl λK hK=>?_;unfold Oper.wp;obtain⟨M,p,_⟩:=rp.pick;obtain⟨F,g1,g2,_⟩:=Sp.pick p hs.2;obtain⟨ad,cap,hv,ae⟩:=OS.len g1;have aa:∃sb sc,s= .slice sb xs.length sc:=by
  rcases y with ⟨h1,I⟩|⟨sd,sc,_,h1,_⟩
  ·exact⟨none,0,by rw[h1,I];rfl⟩
  ·exact⟨_,sc,h1⟩
 by_cases h0:Nat.min xs.length l.length=0
 ·obtain⟨sb,sc,ab⟩:=aa;have c:=iY (P:=P) (ty:=ty) (t2:=t2) (dl:=l.length) (dc:=cap) (sl:=xs.length) (sc:=sc) (db:=ad) (sb:=sb) ht h0 w;have C:(execOp a.eval ⟨some d,.call ⟨.builtin .copy,#[X,Y],#[Z,t2]⟩,ty,pos,af,none⟩).run P w= .ok (.value (goInt 0)) w:=by
   simp [execOp,resolve,invoke,builtin,G.eval hx,G.eval hy,hv,ab,c]
  rw[C];have e:Pj l xs=l:=by
   unfold Pj;have:xs.length=0∨l.length=0:=by simp only[Nat.min_def] at h0;split at h0<;>omega
   rcases this with h|h
   ·rw[Ad5 h];simp
   ·rw[Ad5 h];simp
  rw[e] at rp;have i:=hs.upd rp (Abd _) λF J _=>⟨F,J,λ_ D=> .inl D,λ_ _ _=>rfl⟩
  have:=k h i.1 i.2 _ _ (G.put hd _) A;rw[h0] at this;exact hK _ _ this
 ·rcases g1 with ⟨_,I,_⟩|⟨g,cap',cur,J,k2,k3,k4,k5,k6,k7⟩
  ·exact absurd (by rw[I];simp) h0
  ·rcases y with ⟨_,I⟩|⟨sd,sc,news,j1,_,j3,j4⟩
   ·exact absurd (by rw[I];simp) h0
   ·have hg:w.heap[g]? =some (.cells cur.toList.toArray T (0,0)):=by rw[A.heap];simpa using k3
    have ag:=j3.len;have z:(xs.take l.length).length=Nat.min xs.length l.length:=by rw[Aca];exact Nat.min_comm _ _
    have hN:=j3.take l.length;have t:=hN.len;rw[z] at t;have ah:Nat.min xs.length l.length*r.sz≤l.length*r.sz:=Acq _ (Nat.min_le_right _ _);have ai:l.length*r.sz≤cap'*r.sz:=Acq _ k4;have c:=iX (P:=P) (ty:=ty) (t2:=t2) (b:=g) (o:=0) (dl:=l.length) (dc:=cap') (sl:=xs.length) (sc:=sc) (cs:=cur.toList) (T:=T) ht t hg (λj u hj=>by
     rw[I7,A.heap];exact j4 j u (by rw[Ada] at hj;split at hj;exact hj;cases hj)) (by simp;omega) (λu hu=>hN.one u hu)
    have C:(execOp a.eval ⟨some d,.call ⟨.builtin .copy,#[X,Y],#[Z,t2]⟩,ty,pos,af,none⟩).run P w= .ok (.value (goInt (Nat.min xs.length l.length))) (w.setRow g (Ii cur.toList 0 (news.take (l.length*r.sz))).toArray):=by
     simp [execOp,resolve,invoke,builtin,G.eval hx,G.eval hy,J,j1,c]
    rw[C];obtain⟨h',e1,e2,e3,e4⟩:=Qj w g cur (Ii cur.toList 0 (news.take (l.length*r.sz))).toArray T (by simpa using hg);rw[A.heap] at e2 e4;have U:(Pj l xs).length=l.length:=by unfold Pj;rw[Abi,z,Aco];simp only[Nat.min_def];split<;>omega
    have i:=hs.upd rp (h':=h') (by omega) λF1 H m2=>by
     rcases H with ⟨H,m3,m4⟩|⟨g',c',cur',H,q2,q3,_⟩
     ·refine⟨F1,.inl ⟨H,by rw[m3];simp [Pj],m4⟩,λ_ D=> .inl D,λV _ W=>?_⟩;by_cases e:V=g
      ·subst e;rw[e3,k3,m3];simp [Ii]
      ·exact e4 V e
     ·rw[J] at H;injection H with q _ _
      injection q with q
      injection q with q _ _
      subst q;refine⟨F1,.inr ⟨g,cap',_,by rw[U];exact J,q2,e3,by omega,k5,?_,?_⟩,λ_ D=> .inl D,λV _ W=>e4 V λe=>W ((q2 V).2 e)⟩
      ·simp only[Ii,Acb,Abj,Adp,Abi,Aco,Aec,t];omega
      ·rw[U];have ac:(Ii cur.toList 0 (news.take (l.length*r.sz))).take (l.length*r.sz)=news.take (l.length*r.sz)++(cur.toList.take (l.length*r.sz)).drop (xs.length*r.sz):=by
        simp only[Ii,Acb,Abj,Abz];rw[List.take_append];rw[List.take_of_length_le (by omega)];congr 1;rw[t];by_cases hc:xs.length≤l.length
        ·have:Nat.min xs.length l.length=xs.length:=Ady hc;rw[this,List.drop_take]
        ·have:Nat.min xs.length l.length=l.length:=Nat.min_eq_right (by omega);have hm:l.length*r.sz≤xs.length*r.sz:=Acq _ (by omega);rw[this,Nat.sub_self,Acb,List.drop_of_length_le (by simp;omega)]
       show LS S h' r (List.take (l.length*r.sz) (Ii cur.toList 0 (news.take (l.length*r.sz)))) (Pj l xs)
       rw[ac];exact(hN.append (k7.drop xs.length)).mono (λ_ x=>x) λb D=>e4 b λe=>(m2 g ((q2 g).2 rfl)).2 (e▸D)
    exact hK _ _ (k h' i.1 i.2 _ _ (G.put hd _) ⟨e1,A.os,A.tape,A.out⟩)
end
def Rm.head {ops:Array Oper}{c:Nat}{i:List Nat}{a:Array Bool}(b:Rm ops (c::i) a) (u:c∈Region.ready .any ops a) (k:c∉i):Rm ops i (a.setIfInBounds c true):=by
 obtain⟨_,oi,l,d⟩:=mem_ready.1 u;refine⟨by simp [b.size],λj m n o e p q=>?_,λt s=>by rw[getD_set_ne true (λe:c=t=>k (by rw[e];exact s))];exact b.tail t (Abt _ s)⟩;by_cases g:c=j
 ·subst g;have:m=oi:=Aa1 (n.symm.trans l);subst this;exact getD_set_true (d e p q)
 ·rw[getD_set_ne false g] at o;exact getD_set_true (b.closed j m n o e p q)
def O3 (n:Nat) (a G:List Nat):List Nat:=(List.range n).filter λi=> !a.contains i&& !G.contains i
def nC (ops:Array Oper) (b:Nat) (a F G:List Nat):Bool:=
 (b::a).all (λt=>Nat.blt t ops.size)&&decide (b::a).Nodup&&Ru ops (b::a) (F++G)&&N8 ops (b::a)&&N7 ops (b::a)&&PO ops&&Region.noSelect ops&&(a.isEmpty||Ru ops a (O3 ops.size a G))&&N7 ops a&&(G.all λi=> !(b::a).contains i)&&
 F.all λf=> !G.contains f&&match ops[f]? with|some o=>o.after.all λe=> !Region.binds .any e||(Nat.blt e.on ops.size&& !(b::a).contains e.on&& !(F++G).contains e.on)|none=>false
def yJ (P:Program) (l:List Oper) (Q:Exit→Act→World→Prop) (B:World) (n:FN) (d:SM) (o c:AV) (R:AR) (a G:List Nat):Prop:=
 ∃(b:AR) (pss:List (List (Nat×Nat))) (j:List (Nat×Nat)) (k:List Oper) (ms:List Nat),d.map (·.1)=ms∧
  TF l.toArray (a++O3 l.length a G) n ms=true∧SL l.toArray (a++O3 l.length a G) l pss=true∧
  ((l.zip pss).zipIdx.all λp=>(a++O3 l.length a G).contains p.2||p.1.2.all λq=> !(O3 l.length a G).contains q.1)=true∧
  (j.all λp=>Nat.blt p.1 l.length&& !(a++O3 l.length a G).contains p.1&&(G9 l.toArray p.1).any (Nat.beq p.2 ·))=true∧(a.filterMap λt=>l[t]?)=k∧
  (∀i,i∈G→∀v,R i v o→b i v c)∧(∀i v g m,DX c g→DX g m→b i v g→b i v m)∧
  Cx P l.toArray Q B n d c b (a++O3 l.length a G) [] ZB.none 0 l pss∧
  ∀h',DX c h'→PA b h' (λfr=>LF P l.toArray Q k B h' n (fr++d)) j []
def yJ.run {P:Program}{l:List Oper}{Q:Exit→Act→World→Prop}{B:World}{n:FN}{m2:SM}{h1 s:AV}{R:AR}{g:Nat}{q F G:List Nat}(k:yJ P l Q B n m2 h1 s R q G) (hc:nC l.toArray g q F G=true) (hQ:∀c a w,¬Q (.panic c) a w)
  {y:Nat} {b:Array Bool} {a a2:Act} {w2:World} (hu:T8 b=y+1) (J:Rm l.toArray (g::q) b) (hr:g∈Region.ready .any l.toArray b) (hl:∀i,i<l.toArray.size→i∉g::q→i∉G→b.getD i false=true)
  (g4:∀i,i∉g::q→b.getD i false=true→∃d v,G9 l.toArray i=some d∧a.tmps[d]? =some v∧R i v h1) (hw:Wd B s w2) (K:Fr n a2 m2) (M:∀(i:Nat) (u:Value),a.tmps[i]? =some u→a2.tmps[i]? =some u):
  wpAny P .any l.toArray Q y (b.setIfInBounds g true) a2 w2:=by
 obtain⟨R2,pss,fs,ls,ms,rfl,q1,H,q3,q4,q5,q6,q7,q8,q9⟩:=k;simp only[nC,Aa3,Abh] at hc;obtain⟨⟨⟨⟨⟨⟨⟨⟨⟨⟨c1,c2⟩,c3⟩,c4⟩,c5⟩,c6⟩,c7⟩,c8⟩,c9⟩,aa⟩,af⟩:=hc;have C:=Ac5.1 c2;have U:l.length=pss.length:=by
  simp only[SL,Aa3] at H;exact Aa8 H.1
 have ab:g<l.toArray.size:=by have:=Aa6.1 c1 g (Abn ..);simp [Nat.blt] at this ⊢;omega
 have ac:=J.size;have V:(b.setIfInBounds g true).getD g false=true:=by
  have:g<b.size:=by omega
  simp [this]
 have ad:∀i,i∈O3 l.length q G→(b.setIfInBounds g true).getD i false=true:=λi j=>by
  unfold O3 at j;obtain⟨h1,s⟩:=Ach.1 j;simp only[Aa3,Abr] at s;by_cases e:g=i
  ·subst e;exact V
  ·refine getD_set_true (hl i (by simpa using Ab9.1 h1) (λh=>?_) λh=>by rw[Aa7.2 h] at s;cases s.2);rcases Aa5.1 h with h|h
   ·exact e h.symm
   ·rw[Aa7.2 h] at s;cases s.1
 refine TZ (R:=R2) (B:=B) (h0:=s) (n:=n) (m:=m2) q (O3 l.length q G) [] ZB.none uH.none (λz I=>by cases I) (λi j=>by cases j) (λt ht=>?_) C.2 c6 [] [] (.inl rfl) ?_ ?_ c9 c7 hQ (λf K=>by cases K) (λf K=>by cases K) q1 q7 (λi j=>by cases j) (λi o d j ho hd=>?_) (λa w h' g1 g2 g3 g4 _ _=>?_) (.inl rfl) y _ _ _ ?_ (J.head hr C.1) ad ⟨⟨s,hw,DX.refl s,K,λi j A=>?_⟩,λi j=>(by cases j),λz I=>(by cases I)⟩
 ·have:=Aa6.1 c1 t (Abt _ ht);simp [Nat.blt] at this ⊢;omega
 ·rw[Abq] at c8;refine c8.imp (λe=>by cases q with|nil=>rfl|cons _ _=>simp at e) λx=>?_;rw[Abj,Abj];simpa using x
 ·have:=JU c4;cases q with
  |nil=>trivial
  |cons t r=>exact this.2
 ·have W:l[i]? =some o:=by simpa using ho
  obtain⟨ps,p1,p2⟩:=Cx.at_ (k:=0) q8 U (by rw[Abz];exact j) W hd;rw[Abz] at p2;have I:((o,ps),i)∈(l.zip pss).zipIdx:=by
   rw[Acy];exact⟨i,by rw[Aei,(Aej (z:=(o,ps))).2 ⟨W,p1⟩];simp⟩
  refine⟨ps,?_,λp hp h=>?_,p2⟩
  ·simp only[SL,Aa3] at H;have:=Aa6.1 H.2 _ I;rw[Abq] at this;exact this.resolve_left λh=>j (Aa7.1 h)
  ·have:=Aa6.1 q3 _ I;rw[Abq] at this;have:=Aa6.1 (this.resolve_left λh=>j (Aa7.1 h)) p hp;rw[Aa7.2 h] at this;cases this
 ·obtain⟨fr,g,k2⟩:=LT (a:=a) (n:=n) _ _ (q9 h' g2) (λp hp=>by
   have e:=Aa6.1 q4 p hp;simp only[Aa3,Abr] at e;have e1:p.1<l.toArray.size:=by have:=e.1.1;simp [Nat.blt] at this ⊢;omega
   obtain⟨d,v,q1,H,q3⟩:=g4 p.1 e1 (λh=>by rw[Aa7.2 h] at e;cases e.1.2);have e2:=e.2;rw[q1] at e2;have:p.2=d:=Aa8 (by simpa using e2);exact⟨v,by rw[this];exact H,q3⟩) ⟨g3.dfr,g3.siz,λi v j=>by simp [lk] at j⟩
  have X:(q.filterMap λt=>l.toArray[t]?)=ls:=by rw[←q5];congr 1;funext t;simp
  rw[X];exact g a w (k2.append g3) g1
 ·have:=MH (mem_ready.1 hr).1;omega
 ·have Y:g≠i:=λe=>by
   subst e;refine j (List.mem_append_right _ (Ach.2 ⟨Ab9.2 (by simpa using ab),?_⟩));simp only[Aa3,Abr];refine⟨?_,?_⟩
   ·cases D:q.contains g with
    |true=>exact absurd (Aa7.1 D) C.1
    |false=>rfl
   ·cases D:G.contains g with
    |true=>
     have:=Aa6.1 aa g (Aa7.1 D);simp at this
    |false=>rfl
  rw[getD_set_ne false Y] at A;have Z:i∉q:=λh=>j (Ad0 _ h);have ae:i<l.length:=by
   rcases Abk i b.size with h|h
   ·rw[ac] at h;simpa using h
   ·rw[Acu,Aee h] at A;cases A
  have hG:i∈G:=by
   apply Ade;intro hG;refine j (List.mem_append_right _ (Ach.2 ⟨Ab9.2 ae,?_⟩));simp only[Aa3,Abr];exact⟨by cases D:q.contains i with|true=>exact absurd (Aa7.1 D) Z|false=>rfl,by cases D:G.contains i with|true=>exact absurd (Aa7.1 D) hG|false=>rfl⟩
  obtain⟨d,v,p1,p2,p3⟩:=g4 i (λh=>(Aa5.1 h).elim (λe=>Y e.symm) Z) A;exact⟨d,v,p1,M _ _ p2,q6 i hG v p3⟩
def yI {P:Program}{l:List Oper}{Q:Exit→Act→World→Prop}{B:World}{n:FN}{A:SM}{C m:AV}{R:AR}{q:Nat}{b G:List Nat}(k:yJ P l Q B n A C m R b G) (M:q<l.length) (s:q∉G)
  {a c:Act} {w:World} (U:∀i,i<l.length→i∉q::b→∃d v,G9 l.toArray i=some d∧a.tmps[d]? =some v∧R i v C) (V:Wd B m w) (x:Fr n c A) (g:∀(i:Nat) (u:Value),a.tmps[i]? =some u→c.tmps[i]? =some u):
  wpList P l.toArray Q (b.filterMap λt=>l[t]?) c w:=by
 obtain⟨R2,pss,fs,ls,ms,rfl,D,F,H,W,X,Y,q7,q8,Z⟩:=k;obtain⟨fr,y,k2⟩:=LT (a:=c) (n:=n) _ _ (Z m (DX.refl m)) (λp hp=>by
  have e:=Aa6.1 W p hp;simp only[Aa3,Abr] at e;have I:p.1<l.length:=by have:=e.1.1;simp [Nat.blt] at this ⊢;omega
  have J:p.1∉b++O3 l.length b G:=λh=>by rw[Aa7.2 h] at e;cases e.1.2
  have j:p.1∉b:=λh=>J (Ad0 _ h);have o:p.1∈G:=by
   apply Ade;intro o;refine J (List.mem_append_right _ (Ach.2 ⟨Ab9.2 I,?_⟩));simp only[Aa3,Abr];exact⟨by cases z:b.contains p.1 with|true=>exact absurd (Aa7.1 z) j|false=>rfl,by cases z:G.contains p.1 with|true=>exact absurd (Aa7.1 z) o|false=>rfl⟩
  obtain⟨d,v,D,F,H⟩:=U p.1 I (λh=>(Aa5.1 h).elim (λe=>s (e▸o)) j);have K:=e.2;rw[D] at K;have:p.2=d:=Aa8 (by simpa using K);exact⟨v,by rw[this];exact g _ _ F,Y _ o v H⟩) ⟨x.dfr,x.siz,λi v hi=>by simp [lk] at hi⟩
 rw[X];exact y c w (k2.append x) V
section
variable {P:Program}{ex:List (Nat×AP)}{RR N:AP}{cs:List Code}{B:World}{h:AV}{n:FN}{m m0:SM}{S:Nat→Prop}{L:List HP}
end
def SQ (L:List HP):HP where
 holds:=λS F h=>Sp S L h F
 loc:=λk s e=>Sp.ext k s e λ_ x=>x
def uB (l:Nat) (r:Loop):HP where
 holds:=λ_ F h=>(∀b,F b↔b=l)∧h[l]? =some (.loop r)
 loc:=λ⟨a,c⟩ _ e=>⟨a,(e l (.inr ((a l).2 rfl))).trans c⟩
def Sp.app {S:Nat→Prop}{h:AV}:∀{L1 L:List HP}{A:Nat→Prop},Sp S (L1++L) h A→∃F,Sp S L1 h F∧(∀b,F b→A b)∧Sp S L h (λb=>A b∧¬F b)
 |[],L,A,k=>⟨λ_=>False,trivial,λ_ x=>x.elim,k.mono λb a=>⟨a,λx=>x⟩⟩
 |H::L1,L,A,⟨F,d,g,i⟩=>by
  obtain⟨G,j,c,l⟩:=Sp.app i;refine⟨λb=>F b∨G b,⟨F,d,λb a=> .inl a,j.mono λb a=>⟨.inr a,(c b a).2⟩⟩,λb a=>a.elim (g b) λx=>(c b x).1,l.mono λb a=>⟨a.1.1,λx=>x.elim a.1.2 a.2⟩⟩
def Sp.app2 {S:Nat→Prop}{h:AV}:∀{L1 L:List HP}{A F:Nat→Prop},Sp S L1 h F→(∀b,F b→A b)→Sp S L h (λb=>A b∧¬F b)→Sp S (L1++L) h A
 |[],L,A,F,_,_,k=>k.mono λb a=>a.1
 |H::L1,L,A,F,⟨G,d,c,g⟩,i,k=>⟨G,d,λb a=>i b (c b a),Sp.app2 g (λb a=>⟨i b a.1,a.2⟩) (k.mono λb a=>⟨⟨a.1,λx=>a.2 (c b x)⟩,λx=>a.2 x.1⟩)⟩
section
variable {S:Nat→Prop}{L L1 M:List HP}{h:AV}{H:HP}
def WK:∀{M:List HP},Px (M++H::L) H (M++L)
 |[]=> .head
 |K::M=> .tail WK
def St.mid (a:St S (H::(M++L)) h):St S (M++H::L) h:=⟨a.1,MZ WK a.2⟩
def St.rec {l:Nat}{r r':Loop}(d:St S (uB l r::L) h):h[l]? =some (.loop r)∧St S (uB l r'::L) (h.setIfInBounds l (.loop r'))∧B9 S h S (h.setIfInBounds l (.loop r')):=by
 obtain⟨F,k,_⟩:=d.get (Abn ..);have a:l<h.size:=(Ab5.1 k.2).1;refine⟨k.2,d.upd (H':=uB l r') .head (by simp) λF g _=>⟨F,⟨g.1,by simp [a]⟩,λ_ c=> .inl c,λb _ c=>?_⟩⟩;have:b≠l:=λe=>c ((g.1 b).2 e);simp [Aet (Ne.symm this)]
end
def Wd.putObj {B w:World}{h:AV}(k:Wd B h w) (l:Nat) (o:Obj):Wd B (h.setIfInBounds l o) (w.putObj l o):=⟨by show w.heap.setIfInBounds l o=_;rw[k.heap],k.os,k.tape,k.out⟩
abbrev Vh (a:Type):=(Nat→Prop)→AV→List Value→a→Prop
def YC {j σ:Type}(P:Program) (g:Value) (Y:Bool→σ→HP) (AR:Vh j) (d:j→σ→Option (Bool×σ)) (i:Nat→Prop) (h0:AV):Prop:=
 ∃l,g= .func (.yield l) #[] #[]∧∀(x:j) (s:σ) (out:Bool×σ),d x s=some out→∀(S:Nat→Prop) (L:List HP) (h:AV) (vs:List Value) (B w:World),B9 i h0 S h→St S (Y true s::L) h→AR S h vs x→Wd B h w→
  ∃fn b a c,(Instr.yield l vs.toArray).run P w= .ok (.round l fn b a c) w∧
   RoundIn Fence.wide 0 P l fn b a c w (λe w'=>∃S' h',e= .returned (.bool out.1)∧Wd B h' w'∧B9 S h S' h'∧St S' (Y out.1 out.2::L) h')
def YC.mono {n σ:Type}{P:Program}{b:Value}{Y:Bool→σ→HP}{AR:Vh n}{a:n→σ→Option (Bool×σ)}{c d:Nat→Prop}{h0 g:AV}(k:YC P b Y AR a c h0) (e:B9 c h0 d g):YC P b Y AR a d g:=by
 obtain⟨l,i,k⟩:=k;exact⟨l,i,λx s out j S L h vs B w m=>k x s out j S L h vs B w (e.trans m)⟩
def YL (P:Program) (ops:Array Oper) (Q:Exit→Act→World→Prop) (l:List Oper) (B:World) (h:AV) (n:FN) (m:SM):Prop:=∀a w,Fr n a m→Wd B h w→wpListIn (FF none) 0 P ops Q l a w
def iZ {P:Program}{l:Nat}{f:FuncId}{b:Array Value}{a d:Code}{w:World}{R:Ending→World→Prop}{g:Option Nat}{n i:Nat}(h:RoundIn Fence.wide n P l f b a d w R):RoundIn (FF g) i P l f b a d w R:=
 ⟨R9 g f,λc cs _=>by rw[Rn];exact h.2 c cs (room_wide _)⟩
section
variable {P:Program}{ex:List (Nat×AP)}{R N:AP}{cs:List Code}{B:World}{h:AV}{n:FN}{m m':SM}{S:Nat→Prop}{L:List HP}
end
section
variable {P:Program}{ops:Array Oper}{Q:Exit→Act→World→Prop}{n:FN}{m m':SM}{rest l:List Oper}{B:World}{h:AV}{S:Nat→Prop}{L:List HP}
def QU (g:∀a w,¬Q .outgrown a w):∀(k:Nat) (l:List Oper) (a:Act) (w:World),wpList P ops (Exit.then (wpListIn (FF none) 0 P ops Q (l.drop k)) Q) (l.take k) a w→wpListIn (FF none) 0 P ops Q l a w
 |0,l,a,w,h=>by simpa [wpList,Exit.then] using h
 |k+1,[],a,w,h=>by simpa [wpList,Exit.then] using h
 |k+1,o::l,a,w,h=>by
  simp only[List.take_succ_cons,List.drop_succ_cons] at h;unfold wpList at h;unfold wpListIn;split
  ·rename_i i;rw[Aay i] at h;have b:=h.imp (Oper.wp_mono λa w p=>QU g k l a w p) id;refine pQ (.inl rfl) g ?_;rcases b with b|⟨_,j,m,h2⟩
   ·refine .inl ?_;unfold Oper.wp at b ⊢;generalize (execOp a.eval o).run P w=r at b
    cases r with
    |ok q w'=>
     cases q<;>simp only[Oper.upon] at b ⊢
     case value v=>exact b
     case skip=>exact b
     case defer d=>exact b
     case enter f args=>
      refine b.mono λe s n=>?_;cases e with
      |returned v=>exact n
      |panicked c=>exact n
      |outgrown=>obtain⟨j,m,h0⟩:=n;exact⟨j,m,h0⟩
     case row r args=>exact b
    |halt x w'=>cases x<;>simp only[Oper.upon] at b ⊢;exact b
   ·exact absurd h2 (g j m)
  ·rename_i i;rw[Aaw i] at h;exact⟨λf _=>R9 none f,QU g k l _ w h⟩
def Aam {C:World→Prop}(k:YL P ops Q l B h n m):QF P ops C (λa=>∀w,Wd B h w→wpListIn (FF none) 0 P ops Q l a w) [] n m:=λa b w c=>k a w b c
def Aak (j:Nat) (b:∀a w,¬Q .outgrown a w) (k:LF P ops (Exit.then (wpListIn (FF none) 0 P ops Q (l.drop j)) Q) (l.take j) B h n m):YL P ops Q l B h n m:=λa w c d=>QU b j l a w (k a w c d)
def Aaq (k:YL P ops Q l B h n m):LF P ops (Exit.then (wpListIn (FF none) 0 P ops Q l) Q) [] B h n m:=λa w b c=>k a w b c
def YL.nil {ex:List (Nat×AP)}{R N:AP}{cs:List Code}(b:Tr m m') (k:WF P ex R cs N B h n m'):YL P ops (Qx ex R (W P ex R cs N)) [] B h n m:=λa w c d=>k a w (c.sub b) d
def YL.gy {o:Oper}{j e:Nat}{b:Bool}(g:o.guard=some (j,b)) (i:(ops[j]?).bind (·.dst)=some e) (l:lk m e=some (.bool b)) (k:YL P ops Q ({ o with guard:=none}::rest) B h n m):YL P ops Q (o::rest) B h n m:=by
 intro a w d p;have q:Region.wanted o (yielded ops a.tmps)=true:=by
  have:=d.at_ e _ l;simp [Region.wanted,g,yielded,i,this]
 have c:=k a w d p;unfold wpListIn at c ⊢;rw[Aay (by simp [Region.wanted])] at c;rw[Aay q];exact c
def YL.gn {o:Oper}{j e d:Nat}{b:Bool}(g:o.guard=some (j,!b)) (i:(ops[j]?).bind (·.dst)=some e) (l:lk m e=some (.bool b)) (p:o.dst=some d) (hd:Nat.blt d n.1=true) (k:YL P ops Q rest B h n ((d,undef)::m)):YL P ops Q (o::rest) B h n m:=by
 intro a w c q;have s:Region.wanted o (yielded ops a.tmps)=false:=by
  have:=c.at_ e _ l;cases b<;>simp [Region.wanted,g,yielded,i,this]
 unfold wpListIn;rw[Aaw (by rw[s];exact Bool.false_ne_true),p];exact⟨λf _=>R9 none f,k _ w (c.put hd _) q⟩
def zO {α σ:Type}{v:Value}{Y:Bool→σ→HP}{AR:Vh α}{g:α→σ→Option (Bool×σ)}{z:Nat→Prop}{h0:AV}{X:Operand}{xs:Array Operand}{b:Array TypeId}{vs:List Value}{d:Nat}{ty:TypeId}{pos:String}{af:Array Edge}{x:α}{s:σ}{out:Bool×σ}
  (p:YC P v Y AR g z h0) (A:BR m X=some v) (q:xs.toList.mapM (BR m)=some vs) (C:g x s=some out) (D:B9 z h0 S h) (F:St S (Y true s::L) h) (G:AR S h vs x) (hd:Nat.blt d n.1=true)
  (k:∀S' h',B9 S h S' h'→St S' (Y out.1 out.2::L) h'→YL P ops Q rest B h' n ((d,.bool out.1)::m)):YL P ops Q (⟨some d,.call ⟨.value X,xs,b⟩,ty,pos,af,none⟩::rest) B h n m:=by
 intro a w t H;obtain⟨l,rfl,p⟩:=p;obtain⟨fn,i,c,j,I,J⟩:=p x s out C S L h vs B w D F G H;unfold wpListIn;rw[Aay (by simp [Region.wanted])];refine⟨λf _=>R9 none f,?_⟩;have o:(execOp a.eval ⟨some d,.call ⟨.value X,xs,b⟩,ty,pos,af,none⟩).run P w= .ok (.round l fn i c j) w:=by
  have K:=t.eval A;have M:=WY t q;simp [execOp,resolve,Deferred.ofValue,invoke,K,M,I]
 have u:(⟨some d,.call ⟨.value X,xs,b⟩,ty,pos,af,none⟩:Oper).semAt (FF none).round a.eval=execOp a.eval ⟨some d,.call ⟨.value X,xs,b⟩,ty,pos,af,none⟩:=rfl;rw[u,o];refine⟨λhd=>(by rw[Tn] at hd;cases hd),iZ (RoundIn.mono J λe w' U=>?_)⟩;obtain⟨S',h',rfl,V,W,Z⟩:=U;exact k S' h' W Z _ w' (t.put hd _) V
end
section
variable {P:Program}{ex:List (Nat×AP)}{R N:AP}{cs:List Code}{B:World}{h:AV}{k:Nat}{Ds:List Nat}{m:SM}{S:Nat→Prop}{L:List HP}
end
section
variable {S:Nat→Prop}{L:List HP}{h:AV}
end
section
variable {P:Program}{ops:Array Oper}{Q:Exit→Act→World→Prop}{n:FN}{m m':SM}{rest l:List Oper}{B:World}{h:AV}{S:Nat→Prop}{L:List HP}
def Aaj {w σ:Type}{j:Value}{Y:Bool→σ→HP}{AR:Vh w}{b:w→σ→Option (Bool×σ)}{k:Nat→Prop}{h0:AV}{X:Operand}{xs:Array Operand}{g:Array TypeId}{vs:List Value}{d:Nat}{ty:TypeId}{pos:String}{af:Array Edge}{x:w}{s:σ}{out:Bool×σ}
  (l:YC P j Y AR b k h0) (o:BR m X=some j) (i:xs.toList.mapM (BR m)=some vs) (p:b x s=some out) (q:B9 k h0 S h) (a:St S (Y true s::L) h) (t:AR S h vs x) (hd:Nat.blt d n.1=true)
  (u:out.1=true→∀S' h',B9 S h S' h'→St S' (Y true out.2::L) h'→YL P ops Q rest B h' n ((d,.bool true)::m))
  (v:out.1=false→∀S' h',B9 S h S' h'→St S' (Y false out.2::L) h'→YL P ops Q rest B h' n ((d,.bool false)::m)):YL P ops Q (⟨some d,.call ⟨.value X,xs,g⟩,ty,pos,af,none⟩::rest) B h n m:=
 zO l o i p q a t hd λS' h' e a=>by
  cases c:out.1 with
  |true=>rw[c] at a;exact u c S' h' e a
  |false=>rw[c] at a;exact v c S' h' e a
end
section
variable {P:Program}{fn:Func}{B:World}{S S':Nat→Prop}{h h':AV}{post:Value→(Nat→Prop)→AV→Prop}{a:Act}{m:SM}{w:World}{L:List HP}
end
def wN:List Nat→SM→Option SM
 |[],_=>some []
 |k::a,m=>match lk m k with
  |some v=>match wN a m with
   |some r=>some ((k,v)::r)
   |none=>none
  |none=>none
def kp:∀{m a:SM}(b:List Nat),wN b m=some a→Tr m a
 |m,a,[],g=>by cases g;trivial
 |m,a,k::b,g=>by
  simp only[wN] at g;split at g
  ·rename_i v c;split at g
   ·rename_i r d;cases g;exact⟨c,kp b d⟩
   ·cases g
  ·cases g
def Zr {c:Type}(S:Nat→Prop) (d:AV) (r:A4 c) (T:TypeId) (l:List c) (v:Value) (a:AV):Prop:=∃g cap,v= .slice (some ⟨g,0,none⟩) l.length cap∧d.size≤g∧g<a.size∧(OS r T v l).holds S (λb=>b=g) a
def Zr.mono {q:Type}{S:Nat→Prop}{s a c:AV}{r:A4 q}{T:TypeId}{l:List q}{v:Value}(k:Zr S s r T l v a) (i:∀b,S b→b<s.size) (o:DX a c):Zr S s r T l v c:=by
 obtain⟨g,cap,j,m,d,n⟩:=k;exact⟨g,cap,j,m,Aa9 d o.siz,HP.loc _ n (λ_ x=>x) λb p=>o.same b (p.elim (λx=>by have:=i b x;omega) λx=>by subst x;exact d)⟩
def lT {d:Type}{S:Nat→Prop}{i:AV}{r:A4 d}{T:TypeId}{l:List d}:Tg (Zr S i r T l):=λv c ⟨g,_,a,_,b,_⟩=>⟨g,by rw[a];rfl,b⟩
def PP {b:Type}{R:AR}{S:Nat→Prop}{c:AV}{r:A4 b}{a T:Nat}{l:List b}{is:List Nat}(e:R a=Zr S c r T l) (t:∀i,i∈is→Tg (R i)):∀i,i∈a::is→Tg (R i):=Wj (by rw[e];exact lT) t
def Ns {u:Type}{S:Nat→Prop}{L:List HP}{w d:AV}{i:List Nat}{r:A4 u}{g T:Nat}{v:Value}{l:List u}(k:Wo S w d i L) (j:w.size≤g) (m:g<d.size) (n:(OS r T v l).holds S (λb=>b=g) d) (o:g∉i):Wo S w d (g::i) (OS r T v l::L):=by
 obtain⟨p,q,s,t⟩:=k;refine⟨p,q,λc a=>?_,λc=>c=g,n,λc a=>by subst a;exact .inr (Abn ..),t.mono λc a=>⟨a.imp_right (Abt _),λe=>?_⟩⟩
 ·rcases Aa5.1 a with rfl|a
  ·exact⟨j,m⟩
  ·exact s c a
 ·subst e;rcases a with a|a
  ·have:=a.1;omega
  ·exact o a
def Ti {α:Type}{P:Program}{ops:Array Oper}{Q:Exit→Act→World→Prop}{n:FN}{m:SM}{p:List Oper}{d:Nat}{ty:TypeId}{pos:String}{af:Array Edge}{B:World}{S:Nat→Prop}{h0 h:AV}{r:A4 α}{T e sz g:Nat}{z:List Value}{zx:α}{len cap:Int}{W X:IntKind}{U V:Operand}(he:OY P T=some (e,sz,g,z)) (q:r.sz=sz) (hz:r.rd S h z zx)
  (hx:BR m U=some (.int W len)) (hy:BR m V=some (.int X cap)) (s:KX len cap g=true) (t:Nat.blt 0 g=true) (hd:Nat.blt d n.1=true) (o:DX h0 h) (hS:∀b,S b→b<h0.size)
  (k:∀v h',DX h h'→Zr S h0 r e (List.replicate len.toNat zx) v h'→Wm h v→LF P ops Q p B h' n ((d,v)::m)):LF P ops Q (⟨some d,.makeSlice T U V,ty,pos,af,none⟩::p) B h n m:=by
 simp only[KX,Aa3,Abh] at s;obtain⟨⟨aa,ab⟩,G⟩:=s;obtain⟨a,rfl⟩:∃a:Nat,len=a:=⟨len.toNat,by omega⟩
 obtain⟨c,rfl⟩:∃c:Nat,cap=c:=⟨cap.toNat,by omega⟩
 have ad:((g*c:Nat):Int)≤140737488355328:=by rw[Int.natCast_mul];exact G
 have H:1≤g:=by simpa [Nat.blt] using t
 have ae:c≤g*c:=Nat.le_mul_of_pos_left _ H;have u:a≤c:=by omega
 have y:c≤maxLen:=by unfold maxLen;omega
 intro ac w I Y;refine wpList_plain rfl λK hK=>?_;unfold Oper.wp;obtain⟨i,zv,h1,h2,h3,h4,h5,h6,Z,h8⟩:=K1 he;have A:=run_make (P:=P) w T e i zv h1 h2 h3 W X (a:Int) (c:Int) (by omega) (by omega) (by rw[h5];omega) (by unfold maxLen at y;omega);simp only[Ab0,h6,h4] at A;have C:(execOp ac.eval ⟨some d,.makeSlice T U V,ty,pos,af,none⟩).run P w= .ok (.value (.slice (some ⟨w.heap.size,0,none⟩) a c)) (w.alloc (.cells (madeCells z.toArray (c*sz)) e)):=by
  simp [execOp,I.eval hx,I.eval hy,A]
 rw[C];have J:∀b,S b→b<h.size:=λb D=>Aa9 (hS b D) o.siz;have l:(madeCells z.toArray (c*sz)).toList=(List.replicate c z).flatten:=by rw[←Z];exact Mh z c (by omega)
 have M:(OS r e (.slice (some ⟨h.size,0,none⟩) a c) (List.replicate a zx)).holds S (λb=>b=h.size) (h.push (.cells (madeCells z.toArray (c*sz)) e)):=by
  refine .inr ⟨h.size,c,madeCells z.toArray (c*sz),by simp,λ_=>Acp,Kq _ _,by simpa using u,y,by rw[size_madeCells,q],?_⟩;rw[l];have:((List.replicate c z).flatten).take ((List.replicate a zx).length*r.sz)=(List.replicate a z).flatten:=by
   obtain⟨j,rfl⟩:=Nat.exists_eq_add_of_le u;rw[←List.replicate_append_replicate,List.flatten_append,Ad4,q,←Z];have:(List.replicate a z).flatten.length=a*z.length:=by simp
   rw[←this,Adn]
  rw[this];exact(R5 hz a).mono (λ_ x=>x) λb D=>Gw _ _ _ (J b D)
 have F:=Y.heap;have:=k (.slice (some ⟨w.heap.size,0,none⟩) a c) (h.push (.cells (madeCells z.toArray (c*sz)) e)) ⟨by simp,λb D=>Gw _ _ _ D⟩ (by rw[F];exact⟨h.size,c,by simp,o.siz,by simp,by simpa using M⟩) ⟨h.size,by rw[F];rfl,Abd _⟩;exact hK _ _ (this _ _ (I.put hd _) (Y.alloc _))
def xZ:Vh Int:=λ_ _ vs x=>vs=[.int .i64 x]∧AB x
def iE {a:Type}(r:A4 a):Vh (Int×List a):=λS b vs x=>∃v,vs=[.int .i64 x.1,v]∧AB x.1∧Sl S b r v x.2
def xZ.len {S:Nat→Prop}{a:AV}{vs:List Value}{x:Int}(k:xZ S a vs x):vs.length=1:=by rw[k.1];rfl
def xZ.mono {S S':Nat→Prop}{a h':AV}{vs:List Value}{x:Int}(k:xZ S a vs x) (_:B9 S a S' h'):xZ S' h' vs x:=k
def iE.len {a:Type}{r:A4 a}{S:Nat→Prop}{b:AV}{vs:List Value}{x:Int×List a}(k:iE r S b vs x):vs.length=2:=by obtain⟨v,e,_⟩:=k;rw[e];rfl
def iE.mono {d:Type}{r:A4 d}{S S':Nat→Prop}{g h':AV}{vs:List Value}{x:Int×List d}(k:iE r S g vs x) (e:B9 S g S' h'):iE r S' h' vs x:=by obtain⟨v,a,b,c⟩:=k;exact⟨v,a,b,c.mono' e⟩
open Go.ChangeMaps (setBlock)
def MI {κ β:Type}(kv:κ→Value) (vv:β→Value) (b r:Nat) (l rem:List (κ×β)):HP where
 holds:=λ_ F h=>(∀c,F c↔(c=b∨c=r))∧b≠r∧∃es a d seen,h[b]? =some (.map es a)∧es.toList.map (λe=>(e.key,e.val))=(l.map λe=>(kv e.1,vv e.2))∧OK es.toList a∧
  h[r]? =some (.mapIter (some b) d seen a)∧d=a∧(leftOf es seen).toList.map (λe=>(e.key,e.val))=rem.map λe=>(kv e.1,vv e.2)
 loc:=λ⟨g,i,es,c,d,seen,j,k,m,n,o⟩ _ e=>⟨g,i,es,c,d,seen,(e _ (.inr ((g _).2 (.inl rfl)))).trans j,k,m,(e _ (.inr ((g _).2 (.inr rfl)))).trans n,o⟩
section
variable {P:Program}{ops:Array Oper}{Q:Exit→Act→World→Prop}{n:FN}{m:SM}{rest:List Oper}
variable {d:Nat}{ty:TypeId}{pos:String}{af:Array Edge}{X:Operand}{B:World}{h:AV}{S:Nat→Prop}{L:List HP}{t kt et:TypeId}{b r:Nat}
variable {κ β:Type}{kv:κ→Value}{vv:β→Value}{l rem:List (κ×β)}
def Zs (q:St S (MP kv vv b l::L) h) (g:BR m X=some (.map (some b))) (y:P.underlying t=some (.map kt et)) (hd:Nat.blt d n.1=true)
  (k:∀r h',St S (MI kv vv b r l l::L) h'→B9 S h S h'→LF P ops Q rest B h' n ((d,.pointer (some ⟨r,0,none⟩))::m)):LF P ops Q (⟨some d,.range t X,ty,pos,af,none⟩::rest) B h n m:=by
 intro a w s j;refine wpList_plain rfl λK o=>?_;unfold Oper.wp;obtain⟨F,⟨z,es,c,u,v,A⟩,C,_⟩:=q.2;have D:w.heap[b]? =some (.map es c):=by rw[j.heap];exact u
 have i:(execOp a.eval ⟨some d,.range t X,ty,pos,af,none⟩).run P w= .ok (.value (.pointer (some ⟨w.heap.size,0,none⟩))) (w.alloc (.mapIter (some b) c #[] c)):=by
  simp [execOp,s.eval g,Instr.range,run_underlying y,MapKept.run_getObj_map D,newObj,Sem.run]
 rw[i];have G:b<h.size:=(C b ((z b).2 rfl)).1;obtain⟨H,I⟩:=q.upd (H':=MI kv vv b h.size l l) (h':=h.push (.mapIter (some b) c #[] c)) .head (by simp) λF J M=>⟨λx=>x=b∨x=h.size,⟨λx=>Acp,by omega,es,c,c,#[],by rw[Gw _ _ _ G];exact u,v,A,Kq _ _,rfl,by rw[show leftOf es #[]=es from Array.filter_eq_self.2 λx _=>(by simp)];exact v⟩,λx g=>g.imp (λe=>(J.1 x).2 e) λe=>by subst e;simp,λx g _=>Gw _ _ _ g⟩
 have p:=j.heap;exact o _ _ (k w.heap.size _ (by rw[p];exact H) I _ _ (s.put hd _) (j.alloc _))
def lV {h:AV}{b r:Nat}{o:Obj}(a:r<h.size) (c:b≠r):(h.setIfInBounds r o)[b]? =h[b]? ∧(h.setIfInBounds r o)[r]? =some o∧(h.setIfInBounds r o).size=h.size:=
 ⟨by rw[Aet (Ne.symm c)],by rw[Array.getElem?_setIfInBounds_self];simp [a],by simp⟩
def hE (hs:St S (MI kv vv b r l rem::L) h) (p:BR m X=some (.pointer (some ⟨r,0,none⟩))) (hd:Nat.blt d n.1=true)
  (k0:rem=[]→LF P ops Q rest B h n ((d,.tuple #[.bool false])::m))
  (C:∀(x:κ×β) (l1 s:List (κ×β)) h',rem=l1++x::s→St S (MI kv vv b r l (l1++s)::L) h'→B9 S h S h'→(∀w,Wd B h' w→(Instr.entry (.pointer (some ⟨r,0,none⟩))).run P w= .ok (.tuple #[kv x.1,vv x.2]) w)→LF P ops Q rest B h' n ((d,.tuple #[.bool true,kv x.1,vv x.2])::m)):LF P ops Q (⟨some d,.next X false,ty,pos,af,none⟩::rest) B h n m:=by
 intro a w D t;refine wpList_plain rfl λK u=>?_;unfold Oper.wp;obtain⟨F,⟨g1,gn,es,c,g,seen,J,g3,G,g5,g6,H⟩,hF,_⟩:=hs.2;have hr:w.heap[r]? =some (.mapIter (some b) g seen c):=by rw[t.heap];exact g5
 have hb:w.heap[b]? =some (.map es c):=by rw[t.heap];exact J
 have M:r<h.size:=(hF r ((g1 r).2 (.inr rfl))).1;subst g6;rcases run_next_at (P:=P) w ty r b g g seen es g hr hb (λx p=>G.2 x p) (Abd _) with ⟨h0,j⟩|⟨e,he,w1,hw1,j⟩
 ·have I:(execOp a.eval ⟨some d,.next X false,ty,pos,af,none⟩).run P w= .ok (.value (.tuple #[.bool false])) w:=by simp [execOp,D.eval p,j]
  rw[I];have v:rem=[]:=by
   have:(leftOf es seen).toList=[]:=by
    have:=Array.eq_empty_of_size_eq_zero h0;rw[this]
   rw[this] at H;cases rem with
   |nil=>rfl
   |cons _ _=>cases H
  exact u _ _ (k0 v _ _ (D.put hd _) t)
 ·have I:(execOp a.eval ⟨some d,.next X false,ty,pos,af,none⟩).run P w= .ok (.value (.tuple #[.bool true,e.key,e.val])) (setBlock w1 r (.mapIter (some b) g (seen.push e.born) g)):=by simp [execOp,D.eval p,j]
  rw[I];obtain⟨p1,p2,U⟩:=List.append_of_mem he;rw[U,Ack,Abl] at H;obtain⟨l1,lx,hl,q1,q2⟩:=List.map_eq_append_iff.1 H.symm;obtain⟨x,s,V,q3,q4⟩:=List.map_eq_cons_iff.1 q2;subst V;have k:e.key=kv x.1∧e.val=vv x.2:=by
   have:=q3;simp only[Adm] at this;exact⟨this.1.symm,this.2.symm⟩
  have z:((leftOf es seen).toList.map (·.born)).Nodup:=by
   unfold leftOf;rw[Array.toList_filter];exact(List.Sublist.map _ List.filter_sublist).nodup G.1
  have q:(leftOf es (seen.push e.born)).toList=p1++p2:=by
   have e1:(leftOf es (seen.push e.born)).toList=(leftOf es seen).toList.filter λy=>y.born != e.born:=by
    unfold leftOf;rw[Array.toList_filter,Array.toList_filter,List.filter_filter];congr 1;funext y;cases I:seen.contains y.born<;>cases h2:(y.born==e.born)<;>simp_all
   rw[e1,U,Adt,List.filter_cons];rw[U,Ack,Abl,List.nodup_append] at z;obtain⟨_,n2,n3⟩:=z;obtain⟨n4,_⟩:=Ac5.1 n2;simp only[bne_self_eq_false,Acz,Ac0];rw[List.filter_eq_self.2,List.filter_eq_self.2]
   ·intro y W;simp only[bne_iff_ne,ne_eq];exact λY=>n4 (by rw[←Y];exact Ab1.2 ⟨y,W,rfl⟩)
   ·intro y W;simp only[bne_iff_ne,ne_eq];exact λY=>n3 _ (Ab1.2 ⟨y,W,rfl⟩) _ (Abn ..) Y
  obtain⟨s1,s2,s3⟩:=lV (o:= .mapIter (some b) g (seen.push e.born) g) M gn;have Z:Wd B (h.setIfInBounds r (.mapIter (some b) g (seen.push e.born) g)) (setBlock w1 r (.mapIter (some b) g (seen.push e.born) g)):=by
   have i:Wd B h w1:=by
    rcases hw1 with rfl|rfl
    ·exact t
    ·exact t.drew
   exact⟨by show w1.heap.setIfInBounds _ _=_;rw[i.heap],i.os,i.tape,i.out⟩
  obtain⟨u1,u2⟩:=hs.upd (H':=MI kv vv b r l (l1++s)) (h':=h.setIfInBounds r (.mapIter (some b) g (seen.push e.born) g)) .head (by omega) λF C k2=>⟨F,⟨C.1,gn,es,g,g,seen.push e.born,by rw[s1];exact J,g3,G,s2,rfl,by rw[q,Ack,Ack,q1,q4]⟩,λx p=> .inl p,λx p aa=>by
   have:x≠r:=λe=>aa ((C.1 x).2 (.inr e));rw[Aet (Ne.symm this)]⟩
  have:=C x l1 s _ hl u1 u2 (λw' A=>by
   have:=run_entry_at (P:=P) w' r b g seen es g e (by rw[A.heap];exact s2) (by rw[A.heap,s1];exact J) (by
    have:e∈(leftOf es seen).toList:=he;unfold leftOf at this;rw[Array.toList_filter] at this;exact(Ach.1 this).1) G.1
   rw[this,k.1,k.2])
  rw[k.1,k.2];exact u _ _ (this _ _ (D.put hd _) Z)
def Zp {C:World→Prop}{Q:Act→Prop}{v:Value}(c:BR m X=some (.pointer (some ⟨r,0,none⟩))) (g:∀w,C w→(Instr.entry (.pointer (some ⟨r,0,none⟩))).run P w= .ok v w) (hd:Nat.blt d n.1=true)
  (k:QF P ops C Q rest n ((d,v)::m)):QF P ops C Q (⟨some d,.entry X,ty,pos,af,none⟩::rest) n m:=λa b=>
 Du b hd (λw i=>by simp [execOp,b.eval c,g w i]) k
def St.miMP (g:St S (MI kv vv b r l rem::L) h):St S (MP kv vv b l::L) h:=by
 obtain⟨F,⟨i,p,es,c,d,seen,j,k,m,_⟩,n,o⟩:=g.2;exact⟨g.1,λx=>x=b,⟨λ_=>Acp,es,c,j,k,m⟩,λx a=>n x ((i x).2 (.inl a)),o.mono λx a=>⟨a.1,λe=>a.2 ((i x).2 (.inl e))⟩⟩
end
def eW {b:Type}{c:Bool}{a y:b}(h:cond c (some a) none=some y):y=a:=by cases c<;>simp_all
def jF {d:Type}(c:Bool) (a b z:Option d):(cond c a b).or z=cond c (a.or z) (b.or z):=by cases c<;>rfl
def Zb {d g:Type}{f:d→Option g}{C:g}{x:d}{l1 b:List d}{K:Option g}{r:g}(c:∀e y,f e=some y→y=C) (E:cond ((l1++x::b).all λe=>(f e).isNone) K (some C)=some r):(f x).or (cond ((l1++b).all λe=>(f e).isNone) K (some C))=some r:=by
 cases a:f x with
 |none=>
  rw[Option.none_or];rw[List.all_append,List.all_cons,a] at E;rw[List.all_append];simpa using E
 |some y=>
  have:=c x y a;subst this;rw[List.all_append,List.all_cons,a] at E;simpa using E
def iW:List Nat→Nat→List HP→Option (List HP)
 |[],m,L=>some (L.drop m)
 |i::is,m,L=>match L[i]? with
  |some H=>match iW is m (L.eraseIdx i) with
   |some r=>some (H::r)
   |none=>none
  |none=>none
def YE:∀{L:List HP}{i:Nat}{H:HP},L[i]? =some H→Px L H (L.eraseIdx i)
 |[],i,H,h=>by simp at h
 |K::L,0,H,h=>by
  simp only[Ac7,Ab8] at h;subst h;exact .head
 |K::L,i+1,H,h=>by
  simp only[Ac3] at h;exact .tail (YE h)
def Sp.dropn {S:Nat→Prop}{h:AV}:∀(m:Nat) {L:List HP}{A:Nat→Prop},Sp S L h A→Sp S (L.drop m) h A
 |0,L,A,k=>k
 |m+1,[],A,k=>k
 |m+1,H::L,A,⟨F,_,_,k⟩=>Sp.dropn m (k.mono λb a=>a.1)
def Sp.sel {S:Nat→Prop}{h:AV}:∀(is:List Nat) {m:Nat}{L a:List HP}{A:Nat→Prop},iW is m L=some a→Sp S L h A→Sp S a h A
 |[],m,L,a,A,e,k=>by cases e;exact k.dropn m
 |i::is,m,L,a,A,e,k=>by
  simp only[iW] at e;split at e
  ·rename_i H b;split at e
   ·rename_i r c;cases e;obtain⟨F,d,g,j⟩:=Sp.pick (YE b) k;exact⟨F,d,g,Sp.sel is c j⟩
   ·cases e
  ·cases e
def St.sel {S:Nat→Prop}{h:AV}{L a:List HP}(b:St S L h) (is:List Nat) (m:Nat) (e:iW is m L=some a):St S a h:=⟨b.1,Sp.sel is e b.2⟩
abbrev IV (B:World) (S:Nat→Prop) (h:AV) (n:FN) (a:Act) (w:World) (m:SM) (L:List HP) (F:(Nat→Prop)→AV→Prop):Prop:=∃(S':Nat→Prop) (h':AV),Fr n a m∧Wd B h' w∧St S' L h'∧B9 S h S' h'∧F S' h'
def YF {vs:List Value}(h:vs.all (·.oneCell')=true):∀u∈vs,u.oneCell'=true:=λu a=>Aa6.1 h u a
section
variable {P:Program}{ops:Array Oper}{Q:Exit→Act→World→Prop}{n:FN}{m:SM}{rest:List Oper}
variable {d:Nat}{ty:TypeId}{pos:String}{af:Array Edge}{X Y:Operand}{B:World}{h:AV}{S:Nat→Prop}{L L2:List HP}{v:Value}
def Dt {T d:TypeId}{b o:Nat}{cs vs cs':List Value}{sz:Nat}{ag:Bool}(g:BR m X=some (.pointer (some ⟨b,o,none⟩))) (i:BR m Y=some v) (j:v.cells=vs.toArray) (l:vs.all (·.oneCell')=true)
  (p:Jw P T sz ag=true) (c:vs.length=sz) (q:St S L h) (r:Mu L (Bx b d cs) (Bx b d cs') L2) (a:Nat.ble (o+sz) cs.length=true) (s:Ii cs o vs=cs')
  (k:∀h',St S L2 h'→B9 S h S h'→LF P ops Q rest B h' n m):LF P ops Q (⟨none,.store T X Y,ty,pos,af,none⟩::rest) B h n m:=Th g i j (YF l) p c q r a s k
def C7 {T c:TypeId}{b:Nat}{cs vs:List Value}{sz:Nat}{ag:Bool}(d:BR m X=some (.pointer (some ⟨b,0,none⟩))) (g:BR m Y=some v) (i:v.cells=vs.toArray) (j:vs.all (·.oneCell')=true)
  (l:Jw P T sz ag=true) (a:Nat.beq vs.length sz=true) (o:St S L h) (r:Mu L (Bx b c cs) (Bx b c vs) L2) (p:Nat.beq cs.length sz=true)
  (k:∀h',St S L2 h'→B9 S h S h'→LF P ops Q rest B h' n m):LF P ops Q (⟨none,.store T X Y,ty,pos,af,none⟩::rest) B h n m:=by
 have q:=Aa8 a;have s:=Aa8 p;refine Th d g i (YF j) l q o r (by simp [s]) ?_ k;unfold Ii;rw[Ads (by omega)];simp
end
section
variable {P:Program}{ops:Array Oper}{C:World→Prop}{Q:Act→Prop}{n:FN}{m:SM}{rest:List Oper}{v:Value}
variable {d:Nat}{ty:TypeId}{pos:String}{af:Array Edge}{X Y:Operand}{h:AV}{S:Nat→Prop}{L:List HP}{t:TypeId}
def OF {T b o:Nat}{cs:List Value}(g:CK C h) (i:St S L h) (j:BR m X=some (.pointer (some ⟨b,o,none⟩))) (l:Bx b T cs∈L) (c:cs[o]? =some v) (p:Jw P t 1 false=true) (hd:Nat.blt d n.1=true)
  (k:QF P ops C Q rest n ((d,v)::m)):QF P ops C Q (⟨some d,.load t X,ty,pos,af,none⟩::rest) n m:=by
 have e:(cs.drop o).take 1=[v]:=by
  have a:=(Aba.1 c).1;have q:=(Aba.1 c).2;rw[Ad6 a,q];simp
 exact OE (vs:=[v]) g i j l e rfl p rfl hd k
def tW {o:Oper}{j e:Nat}{b:Bool}{u:Value}(p:o.guard=some (j,b)) (q:(ops[j]?).bind (·.dst)=some e) (g:lk m e=some u) (s:yb u≠some b) (i:o.dst=some d) (hd:Nat.blt d n.1=true) (k:QF P ops C Q rest n ((d,undef)::m)):QF P ops C Q (o::rest) n m:=by
 intro a c;have l:Region.wanted o (yielded ops a.tmps)=false:=by
  have:=c.at_ e _ g;cases u<;>simp_all [Region.wanted,yielded,yb]
 unfold wpQuiet;rw[Aaw (by rw[l];exact Bool.false_ne_true),i];exact k _ (c.put hd _)
def wJ (a:Op) (m:SM):Option Value:=
 match a with
 | .pick c x y=>match BR m c with
  |some (.bool true)=>BR m x
  |some (.bool false)=>BR m y
  |_=>none
 |_=>none
def RN (ops:Array Oper) (k:Nat):List Oper→SM→Option SM
 |[],m=>some m
 |o::r,m=>match o.guard,o.dst with
  |some (j,b),some d=>match (ops[j]?).bind (·.dst) with
   |some e=>match lk m e with
    |some u=>match yb u,b with
     |some true,true=>match wJ o.op m with
      |some v=>cond (Nat.blt d k) (RN ops k r ((d,v)::m)) none
      |none=>none
     |some false,false=>match wJ o.op m with
      |some v=>cond (Nat.blt d k) (RN ops k r ((d,v)::m)) none
      |none=>none
     |_,_=>cond (Nat.blt d k) (RN ops k r ((d,undef)::m)) none
    |none=>none
   |none=>none
  |none,some d=>match wJ o.op m with
   |some v=>cond (Nat.blt d k) (RN ops k r ((d,v)::m)) none
   |none=>none
  |_,none=>none
def Nk {a:Type}{c:Bool}{x:Option a}{y:a}(h:cond c x none=some y):c=true∧x=some y:=by cases c<;>simp_all
def Xl {u:Value}{b:Bool}(h:yb u=some b):u= .bool b:=by
 cases u<;>simp_all [yb]
def Xb {o:Oper}{d:Nat}{v:Value}(c:o.guard=none) (hd:o.dst=some d) (a:wJ o.op m=some v) (g:Nat.blt d n.1=true) (k:QF P ops C Q rest n ((d,v)::m)):QF P ops C Q (o::rest) n m:=by
 obtain⟨j,l,p,i,q,s⟩:=o;simp only at c hd a;subst c hd;unfold wJ at a;split at a
 ·split at a
  ·rename_i b;exact Q8 b a g k
  ·rename_i b;exact Q8 b a g k
  ·cases a
 ·cases a
def OD:∀{l:List Oper}{m p:SM},RN ops n.1 l m=some p→QF P ops C Q [] n p→QF P ops C Q l n m
 |[],m,p,h,k=>by cases h;exact k
 |o::r,m,p,h,k=>by
  simp only[RN] at h;split at h
  ·rename_i j b d g hd;split at h
   ·rename_i e s;split at h
    ·rename_i u t;split at h
     ·rename_i w;split at h
      ·rename_i v i;obtain⟨a,c⟩:=Nk h;have:=Xl w;subst this;exact Yy g s t (Xb rfl hd i a (OD c k))
      ·cases h
     ·rename_i w;split at h
      ·rename_i v i;obtain⟨a,c⟩:=Nk h;have:=Xl w;subst this;exact Yy g s t (Xb rfl hd i a (OD c k))
      ·cases h
     ·rename_i x y;obtain⟨a,c⟩:=Nk h;refine tW g s t (λz=>?_) hd a (OD c k);generalize A:yb u=zz at*
      subst z;revert x y;intro x y;exact Bool.rec (motive:=λq=>(some q=some true→q=true→False)→(some q=some false→q=false→False)→False) (λ_ h=>h rfl rfl) (λh _=>h rfl rfl) _ x y
    ·cases h
   ·cases h
  ·rename_i d g hd;split at h
   ·rename_i v i;obtain⟨a,c⟩:=Nk h;exact Xb g hd i a (OD c k)
   ·cases h
  ·cases h
def A0 {b:SM}(c:wN (b.map (·.1)) m=some b):QF P ops C (λa=>Fr n a b) [] n m:=lM (kp _ c)
def BG {l:List Oper}{c b:SM}(h:RN ops n.1 l m=some c) (d:wN (b.map (·.1)) c=some b):QF P ops C (λa=>Fr n a b) l n m:=OD h (A0 d)
end
section
variable {P:Program}{ops:Array Oper}{Q:Act→Prop}{n:FN}{m:SM}{rest:List Oper}{d:Nat}{ty:TypeId}{pos:String}{af:Array Edge}{X:Operand}{v:Value}{Ψ:Prop}{f:Nat}{xs:Array Operand}{tys:Array TypeId}{args vs:List Value}{first cap:Array Value}{h:AV}{B:World}{Z:(Nat→Prop)→AV→Prop}
def Jt (i:BR m X=some (.func (.func f) first cap)) (a:xs.toList.mapM (BR m)=some args) (c:first.toList++args++cap.toList=vs) (g:BK P f=true) (hd:Nat.blt d n.1=true)
  (j:∀h',DX h h'→B3 P f vs.toArray (λb=>b<h'.size) h' (λu S' l=>u=v∧Z S' l))
  (k:QF P ops (Cl B h) Q rest n ((d,v)::m)):QF P ops (Cl B h) Q (⟨some d,.call ⟨.value X,xs,tys⟩,ty,pos,af,none⟩::rest) n m:=
 If (Ψ:=True) i a c g hd (λh' o=>(j h' o).mono λ_ _ _ _ p=>⟨p.1,trivial⟩) λ_=>k
def QZ (i:BR m X=some (.func (.func f) first cap)) (a:xs.toList.mapM (BR m)=some args) (c:first.toList++args++cap.toList=vs) (g:BK P f=true) (hd:Nat.blt d n.1=true)
  (j:∀h',DX h h'→B3 P f vs.toArray (λb=>b<h'.size) h' (λu S' l=>u=v∧Ψ∧Z S' l))
  (k:Ψ→QF P ops (Cl B h) Q rest n ((d,v)::m)):QF P ops (Cl B h) Q (⟨some d,.call ⟨.value X,xs,tys⟩,ty,pos,af,none⟩::rest) n m:=
 If i a c g hd (λh' o=>(j h' o).mono λ_ _ _ _ p=>⟨p.1,p.2.1⟩) k
end
def iq {n:Int}(h:(decide (-9223372036854775808≤n)&&decide (n≤9223372036854775807))=true):AB n:=by
 simp only[Aa3,Abh] at h;exact h
def KZ {n:Nat}(h:n≤maxLen):AB (n:Int):=by unfold maxLen at h;unfold AB;omega
section
variable {P:Program}{fn:Func}{B:World}{S S':Nat→Prop}{h h':AV}{post:Value→(Nat→Prop)→AV→Prop}{a:Act}{m:SM}{w:World}
def UE {k t:Nat}{v:Value}(b:Fr (k,[]) a m) (c:Wd B h' w) (d:fn.results= #[.tmp t]) (g:lk m t=some v) (e:B9 S h S' h') (kp:post v S' h'):Rt P fn B S h post a w:=rt1 b d g c e kp
end
abbrev XR:=(Nat→Prop)→AR
def yK (a:List Nat) (f:Nat→Option Value) (X:Nat→Prop):Prop:=∀s,s∈a→∀u,f s=some u→∀b,Oc u=some b→X b
def uK (R:AR) (As:List Nat) (i:Nat) (h:AV) (v:Value) (h':AV):Prop:=R i v h'∧(As.contains i=true→Wm h v)
def To (P:Program) (ops:Array Oper) (Q:Exit→Act→World→Prop) (B:World) (n:FN) (m:SM) (h0:AV) (R:XR) (As:List Nat) (i:Nat) (o:Oper) (d:Nat) (c:List (Nat×Nat)):Prop:=
 ∀X mt h,DX h0 h→(∀b,X b→h0.size≤b∧b<h.size)→PA (R X) h (λfr=>match o.guard with
  |none=>LF P ops (Exit.then (KS B n d (uK (R X) As i h) h (fr++(m++mt))) Q) [o] B h n (fr++(m++mt))
  |some (g,b)=>∃a,G9 ops g=some a∧((lk fr a=some (.bool b)∧LF P ops (Exit.then (KS B n d (uK (R X) As i h) h (fr++(m++mt))) Q) [{ o with guard:=none}] B h n (fr++(m++mt)))∨∃v,lk fr a=some v∧yb v≠some b∧R X i undef h)) c []
section
variable {P:Program}{ops:Array Oper}{Q:Exit→Act→World→Prop}
end
def RE (P:Program) (ops:Array Oper) (ks:List Nat) (n:FN) (m:SM) (h0:AV) (R:XR):List Nat→Prop
 |[]=>True
 |f::F=>((f<ops.size∧f∉ks)∧Mk ops f=true∧∃o d a,ops[f]? =some o∧o.dst=some d∧TE ops o a=true∧∀X,Pa P ops n m h0 (R X) f o a)∧RE P ops ks n m h0 R F
def RE.at_ {P:Program}{ops:Array Oper}{ks:List Nat}{n:FN}{m:SM}{h0:AV}{R:XR}:∀{F:List Nat},RE P ops ks n m h0 R F→∀f,f∈F→(f<ops.size∧f∉ks)∧Mk ops f=true∧∃o d b,ops[f]? =some o∧o.dst=some d∧TE ops o b=true∧∀X,Pa P ops n m h0 (R X) f o b
 |[],_,f,a=>by cases a
 |g::F,⟨c,i⟩,f,a=>by
  rcases Aa5.1 a with rfl|a
  ·exact c
  ·exact RE.at_ i f a
def RE.cons {P:Program}{ops:Array Oper}{ks:List Nat}{n:FN}{m:SM}{h0:AV}{R:XR}{f d:Nat}{o:Oper}{F:List Nat}(b:List (Nat×Nat)) (a:(Nat.blt f ops.size&& !ks.contains f&&Mk ops f)=true) (g:ops[f]? =some o) (hd:o.dst=some d) (c:TE ops o b=true) (i:∀X,Pa P ops n m h0 (R X) f o b) (t:RE P ops ks n m h0 R F):RE P ops ks n m h0 R (f::F):=by
 simp only[Aa3,Abr] at a;exact⟨⟨⟨(by simpa [Nat.blt] using a.1.1:f+1≤ops.size),λh=>by rw[Aa7.2 h] at a;cases a.1.2⟩,a.2,o,d,b,g,hd,c,i⟩,t⟩
def F8 (P:Program) (ops:Array Oper) (Q:Exit→Act→World→Prop) (B:World) (n:FN) (m:SM) (h0:AV) (R:XR) (ks As:List Nat):Nat→List Oper→List (List (Nat×Nat))→Prop
 |i,o::l,a::pss=>(i∈ks∨match o.dst with|some d=>To P ops Q B n m h0 R As i o d a|none=>False)∧F8 P ops Q B n m h0 R ks As (i+1) l pss
 |_,_,_=>True
section
variable {P:Program}{ops:Array Oper}{Q:Exit→Act→World→Prop}{B:World}{n:FN}{m:SM}{h0:AV}{R:XR}{ks As:List Nat}
def F8.at_:∀{l:List Oper}{pss:List (List (Nat×Nat))}{k i:Nat}{o:Oper}{d:Nat},F8 P ops Q B n m h0 R ks As k l pss→l.length=pss.length→k+i∉ks→l[i]? =some o→o.dst=some d→∃a,pss[i]? =some a∧To P ops Q B n m h0 R As (k+i) o d a
 |[],_,_,_,_,_,_,_,_,h,_=>by simp at h
 |_::_,[],_,_,_,_,_,c,_,_,_=>by simp at c
 |p::l,a::pss,k,0,o,d,g,c,j,b,hd=>by
  simp only[Ac7,Ab8] at b;subst b;simp only[F8,hd] at g;exact⟨a,rfl,g.1.resolve_left j⟩
 |p::l,a::pss,k,i+1,o,d,g,c,j,b,hd=>by
  simp only[Ac3] at b;obtain⟨q,s,t⟩:=F8.at_ (l:=l) (pss:=pss) (k:=k+1) (i:=i) g.2 (by simpa using c) (by rw[show k+1+i=k+(i+1) by omega];exact j) b hd;rw[show k+(i+1)=k+1+i by omega];exact⟨q,by simpa using s,t⟩
def F8.cons {i:Nat}{o:Oper}{l:List Oper}{c:List (Nat×Nat)}{pss:List (List (Nat×Nat))}{d:Nat}(hd:o.dst=some d) (g:As.contains i=false) (j:o.guard=none)
  (h:∀X mt h,DX h0 h→(∀b,X b→h0.size≤b∧b<h.size)→PA (R X) h (λfr=>LF P ops (Exit.then (KS B n d (R X i) h (fr++(m++mt))) Q) [o] B h n (fr++(m++mt))) c []) (t:F8 P ops Q B n m h0 R ks As (i+1) l pss):F8 P ops Q B n m h0 R ks As i (o::l) (c::pss):=by
 simp only[F8,hd];refine⟨.inr λX mt p s u=>PA.imp (λfr k=>?_) _ _ (h X mt p s u),t⟩;rw[j];refine λa w x y=>HS (λe a w q=>?_) _ a w (k a w x y);cases e<;>first|exact q|skip
 obtain⟨v,z,A,C,D,F⟩:=q;exact⟨v,z,A,C,D,F,λh=>by rw[g] at h;cases h⟩
def F8.al {i:Nat}{l:List Oper}{pss:List (List (Nat×Nat))}{d T:Nat}{cs:List Value}{ty:TypeId}{pos:String}{af:Array Edge}(c:∀X,R X i=Z3 h0 T cs) (g:EB P T=some cs) (hd:Nat.blt d n.1=true) (t:F8 P ops Q B n m h0 R ks As (i+1) l pss):F8 P ops Q B n m h0 R ks As i (⟨some d,.alloc T,ty,pos,af,none⟩::l) ([]::pss):=by
 refine⟨.inr ?_,t⟩;intro X mt h j _;show LF P ops (Exit.then (KS B n d (uK (R X) As i h) h _) Q) _ B h n _
 refine iB (DX.refl h) g hd λv h' k r'=>A9 k ?_;obtain⟨b,e,a,o,p⟩:=r';have q:R X i v h':=by rw[c];exact⟨b,e,Acd j.siz a,o,p⟩
 exact⟨q,λ_=>⟨b,by rw[e];rfl,a⟩⟩
def F8.skip {i:Nat}{o:Oper}{l:List Oper}{a:List (Nat×Nat)}{pss:List (List (Nat×Nat))}(h:ks.contains i=true) (t:F8 P ops Q B n m h0 R ks As (i+1) l pss):F8 P ops Q B n m h0 R ks As i (o::l) (a::pss):=
 ⟨.inl (Aa7.1 h),t⟩
end
def lU (h0:AV) (R:XR) (i:Nat):Prop:=∃r,(∀X,R X i=r)∧∀v h,r v h→∃b,Oc v=some b∧h0.size≤b∧b<h.size
def Yg {h0:AV}{R:XR}:∀i,i∈([]:List Nat)→lU h0 R i:=λi a=>by cases a
def fT {R:XR}{h:AV}{a T:Nat}{cs:List Value}{l:List Nat}(e:∀X,R X a=Z3 h T cs) (t:∀i,i∈l→lU h R i):∀i,i∈a::l→lU h R i:=λi c=>by
 rcases Aa5.1 c with rfl|c
 ·exact⟨_,e,λv h' ⟨b,d,g,j,_⟩=>⟨b,by rw[d];rfl,g,j⟩⟩
 ·exact t i c
section
variable {P:Program}{ex:List (Nat×AP)}{RR N:AP}{cs:List Code}{B:World}{h:AV}{n:FN}{m m0:SM}{S:Nat→Prop}{L:List HP}
end
def SX (S:Nat→Prop) (h0 h:AV) (X:Nat→Prop):Nat→Prop:=λb=>SN S h0 h b∧¬X b
def SX.mono {S:Nat→Prop}{h0 h h':AV}{X c:Nat→Prop}(d:∀b,S b→b<h0.size) (g:DX h0 h) (j:DX h h') (u:∀b,X b→c b) (k:∀b,c b→X b∨h.size≤b):B9 (SX S h0 h X) h (SX S h0 h' c) h':=by
 have e:=SN.mono d g j;refine⟨λb a=>⟨e.sub b a.1,λl=>?_⟩,λb a=>e.same b a.1,e.siz⟩;rcases k b l with i|i
 ·exact a.2 i
 ·have:b<h.size:=a.1.elim (λx=>Aa9 (d b x) g.siz) (·.2);omega
def SX.lt {S:Nat→Prop}{h0 h:AV}{X:Nat→Prop}(a:∀b,S b→b<h0.size) (o:DX h0 h):∀b,SX S h0 h X b→b<h.size:=λb c=>c.1.elim (λx=>Aa9 (a b x) o.siz) (·.2)
def Mt {S:Nat→Prop}{L:List HP}{h0 h:AV}{X:Nat→Prop}(a:St S L h0) (o:DX h0 h):St (SX S h0 h X) [] h:=⟨SX.lt a.1 o,trivial⟩
def SX.ext {S:Nat→Prop}{h0 h:AV}{X:Nat→Prop}(a:∀b,S b→b<h0.size) (o:DX h0 h) (c:∀b,X b→h0.size≤b∧b<h.size):B9 S h0 (SX S h0 h X) h:=
 ⟨λb x=>⟨.inl x,λd=>by have:=a b x;have:=(c b d).1;omega⟩,λb g=>o.same b (a b g),o.siz⟩
def SX.done {S S2:Nat→Prop}{h0 h a:AV}{X:Nat→Prop}(o:DX h0 h) (j:∀b,X b→h0.size≤b∧b<h.size) (e:B9 (SX S h0 h X) h S2 a) (i:St S2 [xX (SX S h0 h X) h] a):DX h a∧B9 S2 a (SX S h0 a X) a:=by
 obtain⟨F,⟨k,l⟩,m,_⟩:=i.2;refine⟨⟨e.siz,λb c=>?_⟩,λb c=>?_,λ_ _=>rfl,Abd _⟩
 ·rcases Classical.em (SX S h0 h X b) with g|g
  ·exact e.same b g
  ·exact l b ⟨c,g⟩
 ·rcases Abk b h.size with g|g
  ·rcases Classical.em (SX S h0 h X b) with d|d
   ·exact⟨d.1.imp_right λx=>⟨x.1,i.1 b c⟩,d.2⟩
   ·exact absurd c (m b ((k b).2 ⟨g,d⟩)).2
  ·exact⟨.inr ⟨Acd o.siz g,i.1 b c⟩,λn=>by have:=(j b n).2;omega⟩
def iJ (S X:Nat→Prop) (h a:AV) (c:List Nat) (L:List HP):Prop:=(∀b,S b→b<h.size)∧DX h a∧(∀b,b∈c→(h.size≤b∧b<a.size)∧X b)∧Sp (SX S h a X) L a (λb=>(b<h.size∧¬S b)∨b∈c)
def iJ.nil {S X:Nat→Prop}{L:List HP}{h d:AV}(a:St S L h) (o:DX h d) (i:∀b,X b→h.size≤b∧b<d.size):iJ S X h d [] L:=
 ⟨a.1,o,λb j=>(by cases j),Sp.ext a.2 (λb x=>(SX.ext a.1 o i).sub b x) (λc g=>o.same c (g.elim (a.1 c) (·.1))) λc g=> .inl g⟩
def iJ.cons {S X:Nat→Prop}{L:List HP}{h d:AV}{g:List Nat}{b T:Nat}{cs:List Value}(k:iJ S X h d g L) (i:h.size≤b) (j:b<d.size) (l:d[b]? =some (.cells cs.toArray T (0,0))) (m:b∉g) (n:X b):iJ S X h d (b::g) (Bx b T cs::L):=by
 obtain⟨o,p,q,s⟩:=k;refine⟨o,p,λc a=>?_,λc=>c=b,⟨λ_=>Acp,l⟩,λc a=>by subst a;exact .inr (Abn ..),s.mono λc a=>⟨a.imp_right (Abt _),λe=>?_⟩⟩
 ·rcases Aa5.1 a with rfl|a
  ·exact⟨⟨i,j⟩,n⟩
  ·exact q c a
 ·subst e;rcases a with a|a
  ·have:=a.1;omega
  ·exact m a
def iJ.st {S X:Nat→Prop}{L:List HP}{h b:AV}{j:List Nat}(k:iJ S X h b j L):St (SX S h b X) L b:=by
 obtain⟨l,g,i,m⟩:=k;refine⟨SX.lt l g,m.mono λc a=>?_⟩;rcases a with a|a
 ·exact⟨Aa9 a.1 g.siz,λd=>d.1.elim a.2 λx=>by omega⟩
 ·exact⟨(i c a).1.2,λd=>d.2 (i c a).2⟩
def yK.at_ {a:List Nat}{f:Nat→Option Value}{X:Nat→Prop}(k:yK a f X) {s b:Nat}{u:Value}(h:a.contains s=true) (e:f s=some u) (z:Oc u=some b):X b:=k s (Aa7.1 h) u e b z
def yB {α}(l:List α) (i:Int):Option (List α):=if 0≤i∧i≤l.length∧0<l.length then some (l.take i.toNat) else none
def yV {α}(l:List α) (i:Int):Option (List α):=if 0≤i∧i<l.length then some (l.drop i.toNat) else none
section
variable {P:Program}{ops:Array Oper}{C:World→Prop}{Q:Act→Prop}{n:FN}{m m':SM}{rest:List Oper}
variable {d:Nat}{ty:TypeId}{pos:String}{af:Array Edge}{X Y Z:Operand}{t:TypeId}{kd:IntKind}{v p:Value}{S:Nat→Prop}{h:AV}
def Sl.ne {α}{r:A4 α}{l:List α}(k:Sl S h r v l) (h0:0<l.length):∃(b o cap:Nat),v= .slice (some ⟨b,o,none⟩) l.length cap∧l.length≤cap∧cap≤maxLen∧∀i x,l[i]? =some x→Pt S h r (.pointer (some ⟨b,o+i*r.sz,none⟩)) x:=by
 rcases k with ⟨_,rfl⟩|⟨a,cap,h1,h4,h5,h6⟩
 ·cases h0
 ·have c:=(h6 0 l[0] (by simp [h0])).1;obtain⟨b,o,g⟩:=a;simp only at c;subst c;exact⟨b,o,cap,h1,h4,h5,λi x d=>(h6 i x d).2⟩
def lA {α}{r:A4 α}{e:TypeId}{l g:List α}{y:Int}(p:BR m X=some v) (q:BR m Y=some (.int kd y)) (k0:Sl S h r v l) (s:Na P t e r.sz=true) (a:yB l y=some g) (hd:Nat.blt d n.1=true)
  (k:∀u,Sl S h r u g→QF P ops C Q rest n ((d,u)::m)):QF P ops C Q (⟨some d,.slice t X none (some Y) none,ty,pos,af,none⟩::rest) n m:=by
 unfold yB at a;split at a
 ·rename_i w;obtain⟨D,F,z⟩:=w;cases a;obtain⟨b,o,cap,rfl,G,A,B⟩:=k0.ne z;refine gG p q (j:=y.toNat) (by omega) s (by omega) hd (k _ (.inr ⟨⟨b,o,none⟩,cap,?_,?_,A,λi x c=>⟨rfl,?_⟩⟩))
  ·rw[Aca,Ady (by omega)]
  ·rw[Aca];omega
  ·rw[Ada] at c;split at c
   ·exact B i x c
   ·cases c
 ·cases a
def lC {α}{r:A4 α}{e:TypeId}{l c:List α}{y:Int}(p:BR m X=some v) (q:BR m Y=some (.int kd y)) (k0:Sl S h r v l) (s:Na P t e r.sz=true) (a:yV l y=some c) (hd:Nat.blt d n.1=true)
  (k:∀u,Sl S h r u c→QF P ops C Q rest n ((d,u)::m)):QF P ops C Q (⟨some d,.slice t X (some Y) none none,ty,pos,af,none⟩::rest) n m:=by
 unfold yV at a;split at a
 ·rename_i w;obtain⟨A,B⟩:=w;cases a;obtain⟨b,o,cap,rfl,D,F,z⟩:=k0.ne (by omega);refine tN p q (j:=y.toNat) (by omega) s (by omega) (by omega) hd (k _ (.inr ⟨⟨b,o+y.toNat*r.sz,none⟩,cap-y.toNat,?_,?_,by omega,λi x g=>⟨rfl,?_⟩⟩))
  ·rw[Aco]
  ·rw[Aco];omega
  ·rw[Add] at g;have:=z _ x g;rw[Acg,←Adj] at this;exact this
 ·cases a
end
def IF:A4 Value where
 sz:=1
 ag:=false
 rd:=λ_ _ cs x=>cs=[x]∧x.oneCell'=true
 len:=λ⟨h,_⟩=>by rw[h];rfl
 one:=λ⟨h,k⟩ v a=>by rw[h] at a;simp at a;rw[a];exact k
 mono:=λk _ _=>k
def Vm {α}(r:A4 α) (e:TypeId):List Value→List (List α)→List HP
 |u::a,l::b=>OS r e u l::Vm r e a b
 |_,_=>[]
def OO {α}(r:A4 α) (e T:TypeId) (v:Value) (ll:List (List α)):HP where
 holds:=λS F h=>∃vs:List Value,vs.length=ll.length∧Sp S (OS IF T v vs::Vm r e vs ll) h F
 loc:=λ⟨vs,a,k⟩ s e=>⟨vs,a,Sp.ext k s e λ_ x=>x⟩
section
variable {α:Type}{r:A4 α}{e T:TypeId}{v u:Value}{l:List α}{vs:List Value}{ll:List (List α)}{S F:Nat→Prop}{h:AV}{L L2:List HP}
def St.ooOpen (c:St S (OO r e T v ll::L) h):∃vs:List Value,vs.length=ll.length∧St S (OS IF T v vs::SQ (Vm r e vs ll)::L) h:=by
 obtain⟨F,⟨vs,i,G,j,d,k⟩,g,l⟩:=c.2;exact⟨vs,i,c.1,G,j,λb a=>g b (d b a),λb=>F b∧¬G b,k,λb a=>⟨g b a.1,a.2⟩,l.mono λb a=>⟨⟨a.1,λx=>a.2 (d b x)⟩,λx=>a.2 x.1⟩⟩
def QY (g:vs.length=ll.length) (c:St S (OS IF T v vs::SQ (Vm r e vs ll)::L) h):St S (OO r e T v ll::L) h:=by
 obtain⟨G,i,j,k,l,d,m⟩:=c.2;exact⟨c.1,λb=>G b∨k b,⟨vs,g,G,i,λ_ x=> .inl x,Sp.mono l λb a=>⟨.inr a,(d b a).2⟩⟩,λb a=>a.elim (j b) λx=>(d b x).1,m.mono λb a=>⟨a.1.1,λx=>x.elim a.1.2 a.2⟩⟩
def Vm.pick:∀{vs:List Value}{ll:List (List α)}{i:Nat}{u:Value}{l:List α},vs[i]? =some u→ll[i]? =some l→
  ∃M,Px (Vm r e vs ll) (OS r e u l) M∧∀c d,Px (Vm r e (vs.set i c) (ll.set i d)) (OS r e c d) M
 |[],_,_,_,_,a,_=>by simp at a
 |_::_,[],_,_,_,_,b=>by simp at b
 |g::j,k::m,0,u,l,a,b=>by
  simp only[Ac7,Ab8] at a b;subst a;subst b;exact⟨_,.head,λ_ _=> .head⟩
 |g::j,k::m,i+1,u,l,a,b=>by
  simp only[Ac3] at a b;obtain⟨M,p,q⟩:=Vm.pick a b;exact⟨_,.tail p,λc d=> .tail (q c d)⟩
def Rl {i:Nat}(s:vs[i]? =some u) (t:ll[i]? =some l):∃M,(∀{S:Nat→Prop}{h:AV}{L:List HP},St S (SQ (Vm r e vs ll)::L) h→St S (OS r e u l::SQ M::L) h)∧
  ∀d g {S:Nat→Prop} {h:AV} {L:List HP},St S (OS r e d g::SQ M::L) h→St S (SQ (Vm r e (vs.set i d) (ll.set i g))::L) h:=by
 obtain⟨M,p,q⟩:=Vm.pick (r:=r) (e:=e) s t;refine⟨M,λ{S h L} c=>?_,λd g {S h L} c=>?_⟩
 ·obtain⟨F,v,n,w⟩:=c.2;obtain⟨G,k,j,m⟩:=Sp.pick p v;exact⟨c.1,G,k,λb a=>n b (j b a),λb=>F b∧¬G b,m,λb a=>⟨n b a.1,a.2⟩,w.mono λb a=>⟨⟨a.1,λx=>a.2 (j b x)⟩,λx=>a.2 x.1⟩⟩
 ·obtain⟨G,k,j,y,m,o,z⟩:=c.2;exact⟨c.1,λb=>G b∨y b,MZ (q d g) ⟨G,k,λ_ x=> .inl x,Sp.mono m λb a=>⟨.inr a,(o b a).2⟩⟩,λb a=>a.elim (j b) λx=>(o b x).1,z.mono λb a=>⟨a.1.1,λx=>x.elim a.1.2 a.2⟩⟩
def Uz:∀{vs:List Value}{cs:List Value},LS S h IF cs vs→cs=vs
 |[],_,k=>k
 |x::vs,cs,⟨c,i,e,d,g⟩=>by
  have a:c=[x]:=d.1;have b:=Uz g;subst e;subst a;subst b;rfl
def X8 {S2:Nat→Prop}:∀{vs:List Value}{ll:List (List α)},vs.length=ll.length→(∀(i:Nat) (u:Value) (l:List α),vs[i]? =some u→ll[i]? =some l→Sl S2 h r u l)→LS S2 h (A4.sl r) vs ll
 |[],[],_,_=>rfl
 |u::vs,l::ll,c,k=>⟨[u],vs,rfl,⟨u,rfl,k 0 u l rfl rfl⟩,X8 (Nat.succ.inj c) λi d g a b=>k (i+1) d g a b⟩
def dS {S2:Nat→Prop}:∀{vs:List Value}{ll:List (List α)}{A:Nat→Prop},Sp S (Vm r e vs ll) h A→(∀b,S b→S2 b)→(∀b,A b→S2 b)→∀(i:Nat) (u:Value) (l:List α),vs[i]? =some u→ll[i]? =some l→Sl S2 h r u l
 |[],_,_,_,_,_,_,_,_,c,_=>by simp at c
 |_::_,[],_,_,_,_,_,_,_,_,d=>by simp at d
 |n::o,p::q,A,⟨F,j,k,m⟩,s,a,0,u,l,c,d=>by
  simp only[Ac7,Ab8] at c d;subst c;subst d;exact OS.sl (HP.loc _ j s λ_ _=>rfl) λb g=>a b (k b g)
 |n::o,p::q,A,⟨F,j,k,m⟩,s,a,i+1,u,l,c,d=>by
  simp only[Ac3] at c d;exact dS m s (λb g=>a b g.1) i u l c d
def St.ooPub (a:St S (OO r e T v ll::L) h):∃S',St S' (OS (A4.sl r) T v ll::L) h∧B9 S h S' h:=by
 obtain⟨vs,c,a⟩:=a.ooOpen;obtain⟨F,i,t,d,j⟩:=a.pub (.tail .head);have k:=dS (S2:=λb=>S b∨F b) i (λ_ x=> .inl x) λ_ x=> .inr x;refine⟨_,?_,j⟩;obtain⟨G,l,m,n⟩:=d.2;refine⟨d.1,G,?_,m,n⟩;rcases l with ⟨o,p,q⟩|⟨g,cap,cur,k1,k2,k3,k4,k5,k6,k7⟩
 ·subst p;have:ll=[]:=List.length_eq_zero_iff.1 c.symm;exact .inl ⟨o,this,q⟩
 ·rw[c] at k1 k4 k7;refine .inr ⟨g,cap,cur,k1,k2,k3,k4,k5,k6,?_⟩;have s:=Uz k7;have:=X8 c k;rw[←s] at this;exact this
def YP:∀{n:Nat}{A:Nat→Prop},Sp S (Vm r e (List.replicate n (.slice none 0 0)) (List.replicate n ([]:List α))) h A
 |0,_=>trivial
 |n+1,A=>⟨λ_=>False,.inl ⟨⟨none,rfl⟩,rfl,λ_ x=>x⟩,λ_ x=>x.elim,YP⟩
def St.ooNil {n:Nat}(a:St S (OS IF T v (List.replicate n (.slice none 0 0))::L) h):St S (OO r e T v (List.replicate n ([]:List α))::L) h:=by
 refine QY (vs:=List.replicate n (.slice none 0 0)) (by simp) ?_;obtain⟨G,c,d,g⟩:=a.2;exact⟨a.1,G,c,d,λ_=>False,YP,λ_ x=>x.elim,g.mono λb i=>⟨i,λx=>x⟩⟩
end
abbrev kW (a:Type):=(Nat→Prop)→AV→Value→a→Prop
def A4.fnr {o p:Type}(P:Program) (AR:Vh o) (j:kW p):A4 (o→Option p) where
 sz:=1
 ag:=false
 rd:=λS q cs t=>∃(f:FuncId) (a:Array Value),cs=[.func (.func f) #[] a]∧BK P f=true∧∀(S':Nat→Prop) (h':AV),(∀b,S b→S' b)→(∀b,S b→h'[b]? =q[b]?)→∀L,St S' L h'→∀x y vs,AR S' h' vs x→t x=some y→
  B3 P f (vs++a.toList).toArray S' h' (λv c d=>j c d v y∧St c L d)
 len:=λ⟨_,_,q,_⟩=>by rw[q];rfl
 one:=λ⟨_,_,q,_⟩ v i=>by rw[q] at i;simp at i;rw[i];rfl
 mono:=λ⟨f,a,k,l,m⟩ s e=>⟨f,a,k,l,λS' h' s' n=>m S' h' (λb g=>s' b (s b g)) λb g=>(n b (s b g)).trans (e b g)⟩
def Rd.fnr {i j:Type}{P:Program}{AR:Vh i}{g:kW j}{S l v}{m:i→Option j}(k:Rd S l (A4.fnr P AR g) v m):
  ∃(f:FuncId) (a:Array Value),v= .func (.func f) #[] a∧BK P f=true∧∀(S':Nat→Prop) (h':AV),(∀b,S b→S' b)→(∀b,S b→h'[b]? =l[b]?)→∀L,St S' L h'→∀x y vs,AR S' h' vs x→m x=some y→
  B3 P f (vs++a.toList).toArray S' h' (λv c d=>g c d v y∧St c L d):=by
 obtain⟨_,rfl,f,a,rfl,l⟩:=k;exact⟨f,a,rfl,l⟩
def Nm {k l:Type}{P:Program}{AR:Vh k}{g:kW l}{S h}{m:k→Option l}(f:FuncId) (a:Array Value) (i:BK P f=true)
  (j:∀(S':Nat→Prop) (h':AV),(∀b,S b→S' b)→(∀b,S b→h'[b]? =h[b]?)→∀L,St S' L h'→∀x y vs,AR S' h' vs x→m x=some y→B3 P f (vs++a.toList).toArray S' h' (λv c d=>g c d v y∧St c L d)):
  Rd S h (A4.fnr P AR g) (.func (.func f) #[] a) m:=⟨_,rfl,f,a,rfl,i,j⟩
def zS {b c:Type}(r:A4 b) (r':A4 c):kW (List b×List c):=λS d v y=>∃v1 a,v= .tuple #[v1,a]∧Sl S d r v1 y.1∧Sl S d r' a y.2
def B3.grow {P f args S h}{b a:Value→(Nat→Prop)→AV→Prop}(k:B3 P f args S h b) (c:∀v S' h',b v S' h'→∃S2,B9 S' h' S2 h'∧a v S2 h'):B3 P f args S h a:=
 λB w d=>(k B w d).mono λ_ _ ⟨v,S',h',g,i,j,l⟩=>let ⟨S2,e,m⟩:=c v S' h' l;⟨v,S2,h',g,i,j.trans e,m⟩
def Pd {q s:Type}{r:A4 q}{r':A4 s}{e i:TypeId}{P:Program}{f:FuncId}{a:Array Value}{S:Nat→Prop}{t:AV}{L:List HP}{y:List q×List s}
  (k:B3 P f a S t (λv S' h'=>∃v1 b,v= .tuple #[v1,b]∧St S' (OS r e v1 y.1::OS r' i b y.2::L) h')):
  B3 P f a S t (λv S' h'=>zS r r' S' h' v y∧St S' L h'):=by
 refine k.grow λv S' h' ⟨v1,b,j,l⟩=>?_;obtain⟨p,c,m,n⟩:=l.pubs .head;obtain⟨S2,d,g,o⟩:=c.pubs .head;exact⟨S2,m.trans g,⟨v1,b,j,n.mono g.sub g.same,o⟩,d⟩
abbrev FR:=(Nat→Value)→(Nat→Prop)→(Nat→Prop)→AR
def uE (R:FR) (a:Nat→Value) (X:Nat→Prop):AR:=λi v h=>v=a i∧∃F:Nat→Prop,(∀b,F b→X b)∧R a X F i v h
abbrev UX (fp:Nat→Nat→Prop):Nat→Prop:=λb=>∃j,fp j b
def yA (B:World) (h0:AV) (n:FN) (m:SM) (ops:Array Oper) (ks:List Nat) (R:FR) (c:Array Bool) (a:Act) (w:World):Prop:=
 ∃(fp:Nat→Nat→Prop) (g:Nat→Value) (h:AV),Wd B h w∧DX h0 h∧Fr n a m∧(∀i b,fp i b→h0.size≤b∧b<h.size)∧(∀i j b,fp i b→fp j b→i=j)∧(∀i,c.getD i false=false→∀b,¬fp i b)∧
  ∀i,i∉ks→c.getD i false=true→∃d,G9 ops i=some d∧a.tmps[d]? =some (g i)∧R g (UX fp) (fp i) i (g i) h
def nQ (R:FR) (a:Nat→Value) (X:Nat→Prop) (i:Nat) (h:AV) (v:Value) (h':AV):Prop:=∃F:Nat→Prop,(∀b,F b→h.size≤b∧b<h'.size)∧R a (λb=>X b∨F b) F i v h'
def Vg (P:Program) (ops:Array Oper) (Q:Exit→Act→World→Prop) (B:World) (n:FN) (m:SM) (h0:AV) (R:FR) (i:Nat) (o:Oper) (d:Nat) (j:List (Nat×Nat)):Prop:=
 ∀a X mt h,DX h0 h→(∀b,X b→h0.size≤b∧b<h.size)→PA (uE R a X) h (λfr=>match o.guard with
  |none=>LF P ops (Exit.then (KS B n d (nQ R a X i h) h (fr++(m++mt))) Q) [o] B h n (fr++(m++mt))
  |some (g,b)=>∃c,G9 ops g=some c∧((lk fr c=some (.bool b)∧LF P ops (Exit.then (KS B n d (nQ R a X i h) h (fr++(m++mt))) Q) [{ o with guard:=none}] B h n (fr++(m++mt)))∨∃v,lk fr c=some v∧yb v≠some b∧nQ R a X i h undef h)) j []
def Xi (P:Program) (ops:Array Oper) (n:FN) (m:SM) (h0:AV) (R:FR) (f:Nat) (o:Oper) (c:List (Nat×Nat)):Prop:=
 ∀b X mt h,DX h0 h→PA (uE R b X) h (λfr=>∀a,Fr n a (fr++(m++mt))→∃v,Yields P ops o v a∧R b X (λ_=>False) f v h) c []
def zpB (ops:Array Oper) (a:List (Nat×List Nat)):Bool:=a.all λz=>match ops[z.1]? with
 |some o=>z.2.all λk=>(Mg o).contains k
 |none=>false
section
variable {P:Program}{ops:Array Oper}{Q:Exit→Act→World→Prop}
def Wh {B:World}{h0:AV}{n:FN}{m:SM}{R:FR}(ks:List Nat) (ba:∀t,t∈ks→t<ops.size) (bb:ks.Nodup) (hb:PO ops=true)
  (F:List Nat) (bc:ks=[]∨Ru ops ks F=true) (a0:L8 ops ks) (bx:N7 ops ks=true) (be:Region.noSelect ops=true) (hQ:∀c a w,¬Q (.panic c) a w)
  (hF:∀f,f∈F→(f<ops.size∧f∉ks)∧Mk ops f=true∧∃o d ps,ops[f]? =some o∧o.dst=some d∧TE ops o ps=true∧Xi P ops n m h0 R f o ps)
  (ax:TF ops ks n (m.map (·.1))=true)
  (a1:∀G i v h h' X X' F,DX h0 h→DX h h'→(∀b,F b→h0.size≤b∧b<h.size)→(∀b,X b→X' b)→(∀b,X' b→X b∨h.size≤b)→R G X F i v h→R G X' F i v h')
  (bf:∀G bg X F i v h,(∀o,ops[i]? =some o→∀k,k∈Mg o→G k=bg k)→R G X F i v h→R bg X F i v h)
  (step:∀i o d,i∉ks→ops[i]? =some o→o.dst=some d→∃ps,TE ops o ps=true∧Vg P ops Q B n m h0 R i o d ps)
  (bh:∀a w h fp G,Wd B h w→DX h0 h→Fr n a m→(∀i b,fp i b→h0.size≤b∧b<h.size)→(∀i j b,fp i b→fp j b→i=j)→(∀i,i<ops.size→i∉ks→∃d,G9 ops i=some d∧a.tmps[d]? =some (G i)∧R G (UX fp) (fp i) i (G i) h)→wpList P ops Q (ks.filterMap λt=>ops[t]?) a w):
  ∀(D:Nat) (l:Array Bool) (a:Act) (w:World),T8 l=D→Rm ops ks l→yA B h0 n m ops ks R l a w→wpAny P .any ops Q D l a w:=by
 intro D
 induction D with
 |zero=>
  intro l a w hu C ai;have M:∀i,l.getD i true=true:=λi=>Vw hu;obtain⟨fp,G,h,g1,g2,g3,hX,dj,aj,g4⟩:=ai;have H:∀i,i<ops.size→i∉ks→l.getD i false=true:=λi I s=>by
   have h2:=M i;have:i<l.size:=by rw[C.size];exact I
   simpa [this] using h2
  have hf:=bh a w h fp G g1 g2 g3 hX dj (λi I s=>g4 i s (H i I s));exact Jg hb ks 0 l a w hu C.size (λi _ _=>M i) (λt ht=>⟨ba t ht,C.tail t ht⟩) a0 bb hf
 |succ D ih=>
  intro l a w hu C ai;obtain⟨fp,G,h,g1,g2,g3,hX,dj,aj,g4⟩:=ai;have bz:∀b,UX fp b→h0.size≤b∧b<h.size:=λb ⟨j,A⟩=>hX j b A;by_cases M:∀i,i<ops.size→i∉ks→l.getD i true=true
  ·have H:∀i,i<ops.size→i∉ks→l.getD i false=true:=λi I s=>by
    have h2:=M i I s;have:i<l.size:=by rw[C.size];exact I
    simpa [this] using h2
   have hf:=bh a w h fp G g1 g2 g3 hX dj (λi I s=>g4 i s (H i I s));exact Jg hb ks (D+1) l a w hu C.size M (λt ht=>⟨ba t ht,C.tail t ht⟩) a0 bb hf
  ·have bi:∀j,l.getD j false=true→j∉ks:=λj A b0=>by
    have:=getD_both (C.tail j b0);rw[A] at this;cases this
   have aa:∀i o,i∈Region.ready .any ops l→ops[i]? =some o→∀ps,TE ops o ps=true→∀p∈ps,∃v,a.tmps[p.2]? =some v∧uE R G (UX fp) p.1 v h:=by
    intro i o hi ho ps ak p hp;obtain⟨ag,o',J,ae⟩:=mem_ready.1 hi;have:o'=o:=Aa1 (J.symm.trans ho);subst this;have q:=Aa6.1 ak p hp;simp only[Aa3] at q;have A:p.1∈Mg o':=by simpa using q.1
    obtain⟨e,he,al⟩:=Ab1.1 A;obtain⟨am,an⟩:=Ach.1 he;have b1:e∈o'.after:=by simpa using am
    have h3:=ae e b1 an;rw[al] at h3;obtain⟨d',V,q2,q3⟩:=g4 p.1 (bi _ h3) h3;have h2:=q.2;rw[V] at h2;have:p.2=d':=Aa8 (by simpa using h2);exact⟨G p.1,by rw[this];exact q2,rfl,fp p.1,λb hb=>⟨p.1,hb⟩,q3⟩
   have ao:∀i o d,i∉ks→i∈Region.ready .any ops l→ops[i]? =some o→o.dst=some d→∀v w' h',Wd B h' w'→DX h h'→nQ R G (UX fp) i h v h'→wpAny P .any ops Q D (l.setIfInBounds i true) (a.put (some d) v) w':=by
    intro i o d s hi ho ab v w' h' b2 J b3;obtain⟨FN,ap,hr⟩:=b3;obtain⟨ag,oo,b4,_⟩:=mem_ready.1 hi;have ac:i<ops.size:=(Ab5.1 b4).1;have hd:G9 ops i=some d:=by unfold G9;rw[ho];exact ab
    have z:=Aa6.1 ax i (Ab9.2 ac);rw[hd] at z;simp only[Aa3,Abr,Aa6,Ab9,Abq,Aa7,s,Acs] at z;obtain⟨⟨av,a2⟩,a3⟩:=z;have aq:d+1≤n.1:=by simpa [Nat.blt] using av
    have af:d<n.1:=aq;have cm:(a.put (some d) v).tmps[d]? =some v:=by
     simp only[Act.put,Acn];have:=g3.siz;simp [this,af]
    have cn:∀j dj,G9 ops j=some dj→j≠i→j∉ks→(a.put (some d) v).tmps[dj]? =a.tmps[dj]? :=by
     intro j dj V e A;have a4:j<ops.size:=by
      unfold G9 at V;cases K:ops[j]? with
      |none=>rw[K] at V;cases V
      |some oj=>exact(Ab5.1 K).1
     have q:=a3 j a4;rw[V] at q;have W:d≠dj:=by
      rcases q with (q|q)|q
      ·exact absurd q A
      ·exact absurd (Aa8 q).symm e
      ·intro e';subst e';simp at q
     simp only[Act.put,Acn];rw[Aaw W]
    have b5:∀b,¬fp i b:=aj i (getD_in (by rw[C.size];exact ac) (by
     cases U:l.getD i false with
     |false=>rfl
     |true=>rw[getD_both ag] at U;cases U) |> λ_=>(by
     cases U:l.getD i false with
     |false=>rfl
     |true=>rw[getD_both ag] at U;cases U))
    have b6:∀b,(UX (λj b=>(j=i∧FN b)∨fp j b) b)↔(UX fp b∨FN b):=λb=>by
     constructor
     ·rintro⟨j,A|A⟩
      ·exact .inr A.2
      ·exact .inl ⟨j,A⟩
     ·rintro(⟨j,A⟩|Y)
      ·exact⟨j,.inr A⟩
      ·exact⟨i,.inl ⟨rfl,Y⟩⟩
    have ay:UX (λj b=>(j=i∧FN b)∨fp j b)=λb=>UX fp b∨FN b:=funext λb=>propext (b6 b);have bj:∀j,j≠i→(λk=>if k=i then v else G k) j=G j:=λj e=>Aaw e;have bk:∀(j:Nat) (oj:Oper),ops[j]? =some oj→(∀k,k∈Mg oj→l.getD k false=true)→∀k,k∈Mg oj→G k=(λk=>if k=i then v else G k) k:=λj oj _ hp k hk=>by
     have:k≠i:=λe=>by
      subst e;have q:=hp _ hk;rw[getD_both ag] at q;cases q
     exact(bj k this).symm
    have b7:∀(j:Nat) (oj:Oper),l.getD j false=true→ops[j]? =some oj→∀k,k∈Mg oj→l.getD k false=true:=λj oj b8 K k hk=>by
     obtain⟨e,he,al⟩:=Ab1.1 hk;obtain⟨am,an⟩:=Ach.1 he;have:=C.closed j oj K b8 e (by simpa using am) an;rw[al] at this;exact this
    have b9:∀(o':Oper),ops[i]? =some o'→∀k,k∈Mg o'→l.getD k false=true:=λo' J k hk=>by
     obtain⟨_,o2,ca,ae⟩:=mem_ready.1 hi;have:o2=o':=Aa1 (ca.symm.trans J);subst this;obtain⟨e,he,al⟩:=Ab1.1 hk;obtain⟨am,an⟩:=Ach.1 he;have:=ae e (by simpa using am) an;rw[al] at this;exact this
    have bl:(λb=>(i=i∧FN b)∨fp i b)=FN:=funext λb=>propext ⟨λx=>x.elim (·.2) λy=>absurd y (b5 b),λx=> .inl ⟨rfl,x⟩⟩;refine ih _ _ _ (by have:=MH ag;omega) (C.set hi s) ⟨λj b=>(j=i∧FN b)∨fp j b,λk=>if k=i then v else G k,h',b2,g2.trans J,?_,λj b A=>?_,λj j' b q h2=>?_,λj U b A=>?_,λj A U=>?_⟩
    rotate_left 1
    ·rcases A with A|A
     ·exact⟨Acd g2.siz (ap b A.2).1,(ap b A.2).2⟩
     ·exact⟨(hX j b A).1,Aa9 (hX j b A).2 J.siz⟩
    ·rcases q with q|q<;>rcases h2 with h2|h2
     ·rw[q.1,h2.1]
     ·have:=(ap b q.2).1;have:=(hX _ b h2).2;omega
     ·have:=(ap b h2.2).1;have:=(hX _ b q).2;omega
     ·exact dj _ _ b q h2
    ·by_cases e:i=j
     ·subst e;have:i<l.size:=by rw[C.size];exact ac
      simp [this] at U
     ·rcases A with A|A
      ·exact e A.1.symm
      ·rw[getD_set_ne false e] at U;exact aj j U b A
    rotate_left 1
    ·have hp:=g3.put av v;refine⟨hp.dfr,hp.siz,λi' u bm=>hp.at_ i' u ?_⟩;have W:Nat.beq d i'=false:=by
      cases Y:Nat.beq d i' with
      |false=>rfl
      |true=>
       have:=Aa8 Y;subst this;have q:=dE bm;rw[←Aa7] at q;rw[q] at a2;cases a2
     simp only[lk,W,Aa0];exact bm
    ·by_cases e:i=j
     ·subst e;refine⟨d,hd,?_,?_⟩
      rotate_left 1
      ·rw[ay];show R _ _ (λb=>(i=i∧FN b)∨fp i b) i (if i=i then v else G i) h'
       rw[bl,Aay rfl];exact bf _ _ _ _ _ _ _ (λo' J=>bk i o' J (b9 o' J)) hr
      rw[show (λk=>if k=i then v else G k) i=v from Aay rfl];simp only[Act.put,Acn];have:=g3.siz;simp [this,af]
     ·rw[getD_set_ne false e] at U;obtain⟨dj,V,q2,q3⟩:=g4 j A U;have bn:(λb=>(j=i∧FN b)∨fp j b)=fp j:=funext λb=>propext ⟨λx=>x.elim (λy=>absurd y.1.symm e) id,.inr⟩;refine⟨dj,V,?_,?_⟩
      rotate_left 1
      ·rw[ay];show R _ _ (λb=>(j=i∧FN b)∨fp j b) j (if j=i then v else G j) h'
       rw[bn,Aaw λx=>e x.symm];exact bf _ _ _ _ _ _ _ (λoj K=>bk j oj K (b7 j oj U K)) (a1 _ _ _ _ _ _ _ _ g2 J (hX j) (λb x=> .inl x) (λb x=>x.imp_right λy=>(ap b y).1) q3)
      rw[bj j λx=>e x.symm];have a4:j<ops.size:=by
       unfold G9 at V;cases K:ops[j]? with
       |none=>rw[K] at V;cases V
       |some oj=>exact(Ab5.1 K).1
      have q:=a3 j a4;rw[V] at q;have W:d≠dj:=by
       rcases q with (q|q)|q
       ·exact absurd q A
       ·exact absurd (Aa8 q) e
       ·intro e';subst e';simp at q
      simp only[Act.put,Acn];rw[Aaw W];exact q2
   by_cases bo:∃f,f∈F∧f∈Region.ready .any ops l
   ·obtain⟨f,cb,aw⟩:=bo;obtain⟨cc,a5,o,d,ps,ho,ab,ak,cd⟩:=hF f cb;obtain⟨fr,hK,ar⟩:=LT (a:=a) (n:=n) _ _ (cd G (UX fp) (LC a) h g2) (aa f o aw ho ps ak) ⟨g3.dfr,g3.siz,λi v hi=>by simp [lk] at hi⟩;obtain⟨v,hy,hr⟩:=hK a (ar.append (g3.append g3.full));refine wpAny_first ho (Region.noSelect_spec be) (λc a w hq=>absurd hq (hQ c _ w)) D l a w (λj oj A W bp a6=>?_) aw hy ?_
    ·have q:=Aa6.1 a5 j (Ab9.2 (Ab5.1 A).1);simp only[ho,A,Abq,beq_iff_eq,W,Acs] at q;rcases q with q|q
     ·obtain⟨ce,bq,e,he,Y,a7⟩:=Region.waitsFor_spec q;have:ce=oj:=Aa1 (bq.symm.trans A);subst this;exact absurd a7 (a6 e he Y)
     ·rcases q with q|q
      ·obtain⟨cf,br,e,he,Y,a7⟩:=Region.waitsFor_spec q;obtain⟨_,cg,bs,H⟩:=mem_ready.1 aw;have:cf=cg:=Aa1 (br.symm.trans bs);subst this;have h5:=H e he Y;rw[a7,getD_both bp] at h5;cases h5
      ·exact q
    ·rw[ab];exact ao f o d cc.2 aw ho ab v w h g1 (DX.refl h) ⟨λ_=>False,λ_ x=>x.elim,by have e:(λb=>UX fp b∨False)=UX fp:=funext λb=>propext (or_iff_left id);rw[e];exact hr⟩
   have bt:∃k0,k0<ops.size∧k0∉ks∧l.getD k0 true=false∧k0∉F:=by
    obtain⟨k1,co,ch,ci⟩:∃k1,k1<ops.size∧k1∉ks∧l.getD k1 true=false:=by
     apply Ade;intro a6;refine M λi I s=>?_;cases U:l.getD i true with
     |true=>rfl
     |false=>exact absurd ⟨i,I,s,U⟩ a6
    obtain⟨i0,V,q2,q3⟩:=MR (p:=λi=>l.getD i true||ks.contains i) k1 (by simp [ci,ch]);simp only[Abu] at q2;have ad:i0<ops.size:=by omega
    have az:i0∉ks:=λh=>by rw[Aa7.2 h] at q2;cases q2.2
    refine⟨i0,ad,az,q2.1,λhf=>bo ⟨i0,hf,mem_ready.2 ⟨q2.1,ops[i0],by simp [ad],λe he bu=>?_⟩⟩⟩;have h4:=Aa6.1 hb i0 (Ab9.2 ad);have h5:ops[i0]? =some ops[i0]:=by simp [ad]
    rw[h5] at h4;simp only[Adq,Acm,Adr] at h4;have h6:=h4 e he;simp only[bu,Ab4,Ac9,Abh] at h6;have h7:=q3 e.on h6;have h9:=Aa6.1 bx i0 (Ab9.2 ad);simp only[Abq,Aa7,az,Acs,h5,Adq,Acm,Adr] at h9;have ah:=h9 e he;simp only[bu,Ab4,Ac9,Abr] at ah;rcases ah with ah|ah
    ·cases ah
    rw[ah,Bool.or_false] at h7;have h8:e.on<l.size:=by rw[C.size];omega
    simp only[Acu,Adk h8,Acm] at h7 ⊢;exact h7
   have ⟨cq,a8,cp,bv,_⟩:=bt;obtain⟨i0,_,cj,_⟩:=NA hb C.size a8 bv;refine⟨λh0=>absurd (h0▸cj) (by simp),λi hi=>?_⟩;obtain⟨ag,o,ho,ae⟩:=mem_ready.1 hi;have ac:i<ops.size:=(Ab5.1 ho).1;have s:i∉ks:=λs=>by
    rcases bc with hc|hc
    ·rw[hc] at s;cases s
    ·obtain⟨k0,V,q2,q3,q4⟩:=bt;exact Rr hc a0 C _ k0 rfl V q2 q4 (getD_in (by rw[C.size];exact V) (by
      cases U:l.getD k0 false with
      |false=>rfl
      |true=>rw[getD_both q3] at U;cases U)) i s hi
   have z:=Aa6.1 ax i (Ab9.2 ac);cases hd:G9 ops i with
   |none=>rw[hd] at z;simp only[Aa7,s,Abq,Acs] at z;cases z
   |some d=>
   rw[hd] at z;simp only[Aa3,Abr,Aa6,Ab9,Abq,Aa7,s,Acs] at z;obtain⟨⟨av,a2⟩,a3⟩:=z;have aq:d+1≤n.1:=by simpa [Nat.blt] using av
   have af:d<n.1:=aq;have ab:o.dst=some d:=by unfold G9 at hd;rw[ho] at hd;exact hd
   obtain⟨ps,ak,a9⟩:=step i o d s ho ab;have au:=aa i o hi ho ps ak;obtain⟨fr,hK,ar⟩:=LT (a:=a) (n:=n) _ _ (a9 G (UX fp) (LC a) h g2 bz) au ⟨g3.dfr,g3.siz,λi v hi=>by simp [lk] at hi⟩;have Z:Fr n a (fr++(m++LC a)):=ar.append (g3.append g3.full);have ck:∀i u,a.tmps[i]? =some u→lk (fr++(m++LC a)) i=some u:=by
    intro i u hu;have U:lk (LC a) i=some u:=by
     have:i<a.tmps.size:=(Ab5.1 hu).1;rw[U9 this];simp [Acu,hu]
    have cl:∃u',lk (fr++(m++LC a)) i=some u':=by
     rw[MX,MX,U];cases lk fr i with
     |some x=>exact⟨x,by simp⟩
     |none=>cases lk m i with
      |some x=>exact⟨x,by simp⟩
      |none=>exact⟨u,by simp⟩
    obtain⟨u',bw⟩:=cl;have:=Z.at_ i u' bw;rw[hu] at this;rw[bw,←Aa1 this]
   have next:=ao i o d s hi ho ab
   have conv:∀a' w',KS B n d (nQ R G (UX fp) i h) h (fr++(m++LC a)) a' w'→wpAny P .any ops Q D (l.setIfInBounds i true) a' w':=by
    rintro a' w' ⟨v,h',f1,f2,f3,f4⟩;have:=Fr.same af Z f1 λi u hi hu=>by
     have W:Nat.beq d i=false:=by
      cases Y:Nat.beq d i with
      |false=>rfl
      |true=>exact absurd (Aa8 Y).symm hi
     simp only[lk,W,Aa0];exact ck i u hu
    subst this;exact next v w' h' f2 f3 f4
   unfold wpOp;simp only[ho];cases hg:o.guard with
   |none=>
    rw[hg] at hK;rw[Aay (by simp [Region.wanted,hg])];exact(LH hg (hK a w Z g1)).imp (Oper.wp_mono conv) id
   |some gb=>
    obtain⟨g,b⟩:=gb;rw[hg] at hK;obtain⟨dg,V,hK⟩:=hK;rcases hK with ⟨k1,k2⟩|⟨v,k1,k2,k3⟩
    ·have hy:yielded ops a.tmps g=some b:=Qd ar V k1;rw[Aay (by simp [Region.wanted,hg,hy])];exact(Sf (LH rfl (k2 a w Z g1))).imp (Oper.wp_mono conv) id
    ·have hy:yielded ops a.tmps g≠some b:=by rw[Qd ar V k1];exact k2
     rw[Aaw (by simp [Region.wanted,hg,hy]),ab];exact next undef w h g1 (DX.refl h) k3
end
def SA (P:Program) (ops:Array Oper) (ks:List Nat) (n:FN) (m:SM) (h0:AV) (R:FR):List Nat→Prop
 |[]=>True
 |f::F=>((f<ops.size∧f∉ks)∧Mk ops f=true∧∃o d a,ops[f]? =some o∧o.dst=some d∧TE ops o a=true∧Xi P ops n m h0 R f o a)∧SA P ops ks n m h0 R F
def SA.at_ {P:Program}{ops:Array Oper}{ks:List Nat}{n:FN}{m:SM}{h0:AV}{R:FR}:∀{F:List Nat},SA P ops ks n m h0 R F→∀f,f∈F→(f<ops.size∧f∉ks)∧Mk ops f=true∧∃o d b,ops[f]? =some o∧o.dst=some d∧TE ops o b=true∧Xi P ops n m h0 R f o b
 |[],_,f,a=>by cases a
 |g::F,⟨c,h2⟩,f,a=>by
  rcases Aa5.1 a with rfl|a
  ·exact c
  ·exact SA.at_ h2 f a
def SA.cons {P:Program}{ops:Array Oper}{ks:List Nat}{n:FN}{m:SM}{h0:AV}{R:FR}{f d:Nat}{o:Oper}{F:List Nat}(c:List (Nat×Nat)) (b:(Nat.blt f ops.size&& !ks.contains f&&Mk ops f)=true) (j:ops[f]? =some o) (hd:o.dst=some d) (g:TE ops o c=true)
  (k:∀i X mt h,DX h0 h→PA (uE R i X) h (λfr=>∀a,Fr n a (fr++(m++mt))→∃v,Yields P ops o v a∧R i X (λ_=>False) f v h) c []) (t:SA P ops ks n m h0 R F):SA P ops ks n m h0 R (f::F):=by
 simp only[Aa3,Abr] at b;exact⟨⟨⟨(by simpa [Nat.blt] using b.1.1:f+1≤ops.size),λh=>by rw[Aa7.2 h] at b;cases b.1.2⟩,b.2,o,d,c,j,hd,g,k⟩,t⟩
def Ci (P:Program) (ops:Array Oper) (Q:Exit→Act→World→Prop) (B:World) (n:FN) (m:SM) (h0:AV) (R:FR) (ks:List Nat):Nat→List Oper→List (List (Nat×Nat))→Prop
 |i,o::l,a::pss=>(i∈ks∨match o.dst with|some d=>Vg P ops Q B n m h0 R i o d a|none=>False)∧Ci P ops Q B n m h0 R ks (i+1) l pss
 |_,_,_=>True
section
variable {P:Program}{ops:Array Oper}{Q:Exit→Act→World→Prop}{B:World}{n:FN}{m:SM}{h0:AV}{R:FR}{ks:List Nat}
def Ci.at_:∀{l:List Oper}{pss:List (List (Nat×Nat))}{k i:Nat}{o:Oper}{d:Nat},Ci P ops Q B n m h0 R ks k l pss→l.length=pss.length→k+i∉ks→l[i]? =some o→o.dst=some d→∃a,pss[i]? =some a∧Vg P ops Q B n m h0 R (k+i) o d a
 |[],_,_,_,_,_,_,_,_,h,_=>by simp at h
 |_::_,[],_,_,_,_,_,c,_,_,_=>by simp at c
 |p::l,a::pss,k,0,o,d,g,c,j,b,hd=>by
  simp only[Ac7,Ab8] at b;subst b;simp only[Ci,hd] at g;exact⟨a,rfl,g.1.resolve_left j⟩
 |p::l,a::pss,k,i+1,o,d,g,c,j,b,hd=>by
  simp only[Ac3] at b;obtain⟨q,s,t⟩:=Ci.at_ (l:=l) (pss:=pss) (k:=k+1) (i:=i) g.2 (by simpa using c) (by rw[show k+1+i=k+(i+1) by omega];exact j) b hd;rw[show k+(i+1)=k+1+i by omega];exact⟨q,by simpa using s,t⟩
def Ci.cons {i:Nat}{o:Oper}{l:List Oper}{g:List (Nat×Nat)}{pss:List (List (Nat×Nat))}{d:Nat}(hd:o.dst=some d) (j:o.guard=none)
  (h:∀c X mt h,DX h0 h→(∀b,X b→h0.size≤b∧b<h.size)→PA (uE R c X) h (λfr=>LF P ops (Exit.then (KS B n d (R c X (λ_=>False) i) h (fr++(m++mt))) Q) [o] B h n (fr++(m++mt))) g []) (t:Ci P ops Q B n m h0 R ks (i+1) l pss):Ci P ops Q B n m h0 R ks i (o::l) (g::pss):=by
 simp only[Ci,hd];refine⟨.inr λc X mt p s u=>PA.imp (λfr k=>?_) _ _ (h c X mt p s u),t⟩;rw[j];refine λa w y z=>HS (λe a w q=>?_) _ a w (k a w y z);cases e<;>first|exact q|skip
 obtain⟨v,h2,A,C,D,F⟩:=q;exact⟨v,h2,A,C,D,λ_=>False,λ_ x=>x.elim,by have e:(λb=>X b∨False)=X:=funext λb=>propext (or_iff_left id);rw[e];exact F⟩
def PR {i:Nat}{o:Oper}{l:List Oper}{c:List (Nat×Nat)}{pss:List (List (Nat×Nat))}{d:Nat}(hd:o.dst=some d) (g:o.guard=none)
  (h:∀a X mt h,DX h0 h→(∀b,X b→h0.size≤b∧b<h.size)→PA (uE R a X) h (λfr=>LF P ops (Exit.then (KS B n d (nQ R a X i h) h (fr++(m++mt))) Q) [o] B h n (fr++(m++mt))) c []) (t:Ci P ops Q B n m h0 R ks (i+1) l pss):Ci P ops Q B n m h0 R ks i (o::l) (c::pss):=by
 simp only[Ci,hd];refine⟨.inr λa X mt j p q=>PA.imp (λfr k=>?_) _ _ (h a X mt j p q),t⟩;rw[g];exact k
def Ci.skip {i:Nat}{o:Oper}{l:List Oper}{a:List (Nat×Nat)}{pss:List (List (Nat×Nat))}(h:ks.contains i=true) (t:Ci P ops Q B n m h0 R ks (i+1) l pss):Ci P ops Q B n m h0 R ks i (o::l) (a::pss):=
 ⟨.inl (Aa7.1 h),t⟩
end
section
variable {P:Program}{ex:List (Nat×AP)}{RR N:AP}{cs:List Code}{B:World}{h:AV}{n:FN}{m m0:SM}{S:Nat→Prop}{L:List HP}
def VP {l:List Oper}{id:Nat}(ks F:List Nat) (zs:List (Nat×List Nat)) (Q:zpB l.toArray zs=true) (R:FR) (pss:List (List (Nat×Nat))) (fs:List (Nat×Nat)) {U:List Oper}(hm:P.follows .mixedOrders=true) (hc:VI l.toArray ks F=true) (ms:List Nat) (V:m.map (·.1)=ms) (C:TF l.toArray ks n ms=true)
  (u:SL l.toArray ks l pss=true) (Y:(fs.all λp=>Nat.blt p.1 l.length&& !ks.contains p.1&&(G9 l.toArray p.1).any (Nat.beq p.2 ·))=true) (Z:(ks.filterMap λt=>l[t]?)=U) (D:Tr m0 m)
  (y:∀q i v g h2 X X' F,DX h g→DX g h2→(∀b,F b→h.size≤b∧b<g.size)→(∀b,X b→X' b)→(∀b,X' b→X b∨g.size≤b)→R q X F i v g→R q X' F i v h2)
  (aa:∀q s X F i v g,(∀z,z∈zs→z.1=i→∀k,k∈z.2→q k=s k)→R q X F i v g→R s X F i v g)
  (hF:SA P l.toArray ks n m h R F)
  (step:Ci P l.toArray (Qx ex RR (W P ex RR cs N)) B n m h R ks 0 l pss)
  (ab:∀h' (fp:Nat→Nat→Prop) (q:Nat→Value),DX h h'→(∀i b,fp i b→h.size≤b∧b<h'.size)→(∀i j b,fp i b→fp j b→i=j)→PA (λi v h2=>v=q i∧R q (UX fp) (fp i) i v h2) h' (λfr=>LF P l.toArray (Qx ex RR (W P ex RR cs N)) U B h' n (fr++m)) fs []):WF P ex RR (.region id l.toArray true::cs) N B h n m0:=by
 intro a w hf hw;subst V;simp only[VI,Aa3,Abq,Abh] at hc;obtain⟨⟨⟨⟨⟨⟨g,h2⟩,h3⟩,h4⟩,h5⟩,h6⟩,h7⟩:=hc;simp only[SL,Aa3] at u;have G:l.length=pss.length:=Aa8 u.1;refine λrd ac=>O2 ac NM hm (Wh (R:=R) (B:=B) (h0:=h) (n:=n) (m:=m) ks (λt ht=>by have:=Aa6.1 g t ht;simp [Nat.blt] at this ⊢;omega) h2 h6 F (h3.imp (λe=>by cases ks with|nil=>rfl|cons _ _=>simp at e) λx=>x) (JU h4) h5 h7 (λc a w hq=>hq) (λf hf=>hF.at_ f hf) C y (λq s X F i v g hp hr=>aa q s X F i v g (λz ad e k hk=>?_) hr) (λi o d K H hd=>?_) (λa w h' fp q g1 g2 g3 gX gD g4=>?_) _ _ _ _ ?_ ⟨by simp,λj oj _ I=>(by rw[getD_replicate_false] at I;cases I),λt ht=>getD_in (by have:=Aa6.1 g t ht;simp [Nat.blt] at this ⊢;omega) (getD_replicate_false _ _)⟩ ⟨λ_ _=>False,λ_=>undef,h,hw.drew,DX.refl h,hf.sub D,λ_ _ x=>x.elim,λ_ _ _ x=>x.elim,λ_ _ _ x=>x,λi _ I=>(by rw[getD_replicate_false] at I;cases I)⟩)
 ·have g:=Aa6.1 Q z ad;subst e;cases H:l.toArray[z.1]? with
  |none=>rw[H] at g;cases g
  |some o=>
   rw[H] at g;exact hp o H k (Aa7.1 (Aa6.1 g k hk))
 ·have A:l[i]? =some o:=by simpa using H
  obtain⟨ps,q1,M⟩:=Ci.at_ (k:=0) step G (by rw[Abz];exact K) A hd;rw[Abz] at M;refine⟨ps,?_,M⟩;have ae:i<l.length:=(Aba.1 A).1;have Q:((o,ps),i)∈(l.zip pss).zipIdx:=by
   rw[Acy];exact⟨i,by rw[Aei,(Aej (z:=(o,ps))).2 ⟨A,q1⟩];simp⟩
  have:=Aa6.1 u.2 _ Q;simp only[Abq,Aa7,K,Acs] at this;exact this
 ·obtain⟨fr,k1,k2⟩:=LT (a:=a) (n:=n) _ _ (ab h' fp q g2 gX gD) (λp hp=>by
   have e:=Aa6.1 Y p hp;simp only[Aa3,Abr] at e;have e1:p.1<l.toArray.size:=by have:=e.1.1;simp [Nat.blt] at this ⊢;omega
   obtain⟨d,q1,M,q3⟩:=g4 p.1 e1 (λh=>by rw[Aa7.2 h] at e;cases e.1.2);have e2:=e.2;rw[q1] at e2;have:p.2=d:=Aa8 (by simpa using e2);exact⟨q p.1,by rw[this];exact M,rfl,q3⟩) ⟨g3.dfr,g3.siz,λi v K=>by simp [lk] at K⟩
  have J:(ks.filterMap λt=>l.toArray[t]?)=U:=by rw[←Z];congr 1;funext t;simp
  rw[J];exact k1 a w (k2.append g3) g1
 ·unfold T8;rw[Aek];simp
end
def mH:Value→Nat→Value
 | .tuple xs,i=>xs.getD i undef
 |_,_=>undef
abbrev OW (S:Nat→Prop) (h0:AV) (X F:Nat→Prop) (M:List HP) (h:AV):Prop:=Sp (SX S h0 h X) M h F
def OW.mono {S X a F:Nat→Prop}{h0 h h':AV}{M:List HP}(c:∀b,S b→b<h0.size) (d:DX h0 h) (g:DX h h') (i:∀b,F b→h0.size≤b∧b<h.size) (u:∀b,X b→a b) (j:∀b,a b→X b∨h.size≤b) (k:OW S h0 X F M h):OW S h0 a F M h':=
 Sp.ext k (SX.mono c d g u j).sub (λb l=>g.same b (l.elim (SX.lt c d b) λx=>(i b x).2)) λ_ x=>x
def SX.fz {S:Nat→Prop}{L:List HP}{h0 h:AV}{X:Nat→Prop}(a:St S L h0) (o:DX h0 h):St (SX S h0 h X) [xX (SX S h0 h X) h] h:=(Mt (X:=X) a o).fz
def OW.done {S S2:Nat→Prop}{h0 h h2:AV}{X:Nat→Prop}{M:List HP}(u:∀b,S b→b<h0.size) (o:DX h0 h) (p:∀b,X b→h0.size≤b∧b<h.size) (e:B9 (SX S h0 h X) h S2 h2) (k:St S2 (xX (SX S h0 h X) h::M) h2):
  ∃F:Nat→Prop,(∀b,F b→h.size≤b∧b<h2.size)∧DX h h2∧B9 S2 h2 (SX S h0 h2 λb=>X b∨F b) h2∧OW S h0 (λb=>X b∨F b) F M h2:=by
 obtain⟨l,⟨m,q⟩,s,t⟩:=k.2;have d:∀b,((b<h2.size∧¬S2 b)∧¬l b)→h.size≤b∧b<h2.size:=λb a=>by
  refine⟨Nat.le_of_not_lt λc=>?_,a.1.1⟩;rcases Classical.em (SX S h0 h X b) with g|g
  ·exact a.1.2 (e.sub b g)
  ·exact a.2 ((m b).2 ⟨c,g⟩)
 have n:B9 S2 h2 (SX S h0 h2 λb=>X b∨((b<h2.size∧¬S2 b)∧¬l b)) h2:=by
  refine⟨λb a=>?_,λ_ _=>rfl,Abd _⟩;have c:=k.1 b a;rcases Abk b h.size with g|g
  ·rcases Classical.em (SX S h0 h X b) with i|i
   ·exact⟨i.1.imp_right λx=>⟨x.1,c⟩,λj=>j.elim i.2 λx=>x.1.2 a⟩
   ·exact absurd a (s b ((m b).2 ⟨g,i⟩)).2
  ·exact⟨.inr ⟨Acd o.siz g,c⟩,λj=>j.elim (λx=>by have:=(p b x).2;omega) λx=>x.1.2 a⟩
 refine⟨_,d,⟨e.siz,λb a=>?_⟩,n,?_⟩
 ·rcases Classical.em (SX S h0 h X b) with g|g
  ·exact e.same b g
  ·exact q b ⟨a,g⟩
 ·exact Sp.ext t n.sub (λ_ _=>rfl) λ_ x=>x
def Xj (S:Nat→Prop) (fp:Nat→Nat→Prop) (h h2:AV) (js:List Nat) (L:List HP):Prop:=(∀b,S b→b<h.size)∧DX h h2∧(∀i b,fp i b→h.size≤b∧b<h2.size)∧Sp (SX S h h2 (UX fp)) L h2 (λb=>(b<h.size∧¬S b)∨∃j,j∈js∧fp j b)
section
variable {S:Nat→Prop}{L M:List HP}{h h2:AV}{fp:Nat→Nat→Prop}{js:List Nat}{j:Nat}
def iM (a:∀i b,fp i b→h.size≤b∧b<h2.size):∀b,UX fp b→h.size≤b∧b<h2.size:=λb ⟨j,x⟩=>a j b x
def Xj.nil (a:St S L h) (o:DX h h2) (g:∀i b,fp i b→h.size≤b∧b<h2.size):Xj S fp h h2 [] L:=
 ⟨a.1,o,g,Sp.ext a.2 (λb x=>(SX.ext a.1 o (iM g)).sub b x) (λc d=>o.same c (d.elim (a.1 c) (·.1))) λc d=> .inl d⟩
def Yl {S:Nat→Prop}{h:AV}{L:List HP}:∀{M:List HP}{c d A:Nat→Prop},Sp S M h c→Sp S L h d→(∀b,c b→A b)→(∀b,d b→A b)→(∀b,c b→¬d b)→Sp S (M++L) h A
 |[],c,d,A,_,h2,_,g,_=>h2.mono g
 |H::M,c,d,A,⟨F,l,i,m⟩,h2,j,g,k=>
  ⟨F,l,λb a=>j b (i b a),Yl m h2 (λb a=>⟨j b a.1,a.2⟩) (λb a=>⟨g b a,λn=>k b (i b n) a⟩) λb a=>k b a.1⟩
def Xj.cons (k:Xj S fp h h2 js L) (m:∀i j b,fp i b→fp j b→i=j) (d:js.contains j=false) (q:OW S h (UX fp) (fp j) M h2):Xj S fp h h2 (j::js) (M++L):=by
 obtain⟨n,o,g,p⟩:=k;refine⟨n,o,g,Yl q p (λb a=> .inr ⟨j,Abn ..,a⟩) (λb a=>a.imp_right λ⟨i,c,x⟩=>⟨i,Abt _ c,x⟩) λb a l=>?_⟩;rcases l with l|⟨i,c,x⟩
 ·have:=(g j b a).1;omega
 ·have:=m _ _ _ a x;subst this;rw[Aa7.2 c] at d;cases d
def Xj.st (k:Xj S fp h h2 js L):St (SX S h h2 (UX fp)) L h2:=by
 obtain⟨g,d,j,l⟩:=k;refine⟨SX.lt g d,l.mono λc a=>?_⟩;rcases a with a|⟨i,_,a⟩
 ·exact⟨Aa9 a.1 d.siz,λb=>b.1.elim a.2 λx=>by omega⟩
 ·exact⟨(j i c a).2,λb=>b.2 ⟨i,a⟩⟩
end
section
variable {α:Type}{r:A4 α}{e T:TypeId}{v u:Value}{l:List α}{vs:List Value}{ll:List (List α)}{S F:Nat→Prop}{h:AV}{L L2:List HP}
def St.one {H:HP}(a:St S L h) (b:H∈L):St S [H] h:=by
 obtain⟨F,k,c⟩:=a.get b;exact⟨a.1,F,k,c,trivial⟩
def St.oolen (a:St S L h) (b:OO r e T v ll∈L):∃c cap,v= .slice c ll.length cap∧ll.length≤maxLen:=by
 obtain⟨vs,d,k⟩:=(a.one b).ooOpen;have:=k.oslen (Abn ..);rwa [d] at this
def IN (h:AV) (q u:Value):Prop:=∃a:Addr,q= .pointer (some a)∧IZ h a=some u
def Aat (u:Value) (k:Nat) (q:Value):Prop:=∃a n c,u= .slice (some a) n c∧q= .pointer (some (a.add k))
def cL {S:Nat→Prop}{i:Nat}(k:OS IF T v vs |>.holds S F h) (b:vs[i]? =some u) {q:Value}(l:EP v i q):IN h q u:=by
 obtain⟨g,n,c,m,rfl⟩:=l;rcases k with ⟨⟨s,d⟩,k2,_⟩|⟨g',cap,cur,d,k2,k3,k4,k5,k6,k7⟩
 ·subst k2;simp at b
 ·rw[m] at d;injection d with a _ _
  injection a with a
  injection a with a _ _
  subst a;have o:=Uz k7;have p:i<vs.length:=(Aba.1 b).1;refine⟨_,rfl,?_⟩;simp only[IZ,k3,Adw,Acz,Ac0];have j:(cur.toList.take (vs.length*IF.sz))[i]? =some u:=by rw[o];exact b
  rw[Aci (by show i<vs.length*1;omega)] at j;simpa using j
def St.ooAt (A:St S L h) (B:OO r e T v ll∈L) {i:Nat}(w:ll[i]? =some l) {q:Value}(x:EP v i q):
  ∃u,IN h q u∧Sl (λb=>b<h.size) h r u l∧OU (λb=>b<h.size) h q [u]:=by
 obtain⟨vs,C,k⟩:=(A.one B).ooOpen;have d:i<vs.length:=by rw[C];exact(Aba.1 w).1
 have y:vs[i]? =some vs[i]:=by simp [d]
 obtain⟨F,z,s⟩:=k.get (Abn ..);have m:=cL z y x;obtain⟨M,D,_⟩:=Rl (r:=r) (e:=e) y w;have G:St S (SQ (Vm r e vs ll)::[OS IF T v vs]) h:=k.sel [1,0] 0 rfl;have H:=D G;refine⟨vs[i],m,H.oslAll (Abn ..),?_⟩;obtain⟨g,n,c,I,rfl⟩:=x;obtain⟨a,o,J⟩:=m;injection o with o
 injection o with o
 subst o;rcases z with ⟨⟨Q,t⟩,q2,_⟩|⟨g',cap,cur,t,q2,_⟩
 ·rw[q2] at d;exact absurd d (Nat.not_lt_zero _)
 ·rw[I] at t;injection t with p _ _
  injection p with p
  injection p with p _ _
  subst p;refine⟨⟨g,i,none⟩,rfl,rfl,(s g ((q2 g).2 rfl)).1,λj K=>?_⟩;simp only[List.length_singleton] at K;have:j=0:=by omega
  subst this;exact J
def OW.oslen {S X F:Nat→Prop}{h0 h:AV}{M:List HP}(k:OW S h0 X F M h) (a:OS r T v l∈M):∃b cap,v= .slice b l.length cap∧l.length≤maxLen:=by
 obtain⟨F,k,_⟩:=Sp.get a k;exact OS.len k
def OW.oolen {S X F:Nat→Prop}{h0 h:AV}{M:List HP}(k:OW S h0 X F M h) (a:OO r e T v ll∈M):∃b cap,v= .slice b ll.length cap∧ll.length≤maxLen:=by
 obtain⟨F,⟨vs,c,d,k,_⟩,_⟩:=Sp.get a k;rw[←c];exact OS.len k
def PW {a:Type}:∀{l:List a}{i:Nat}{x:a},l[i]? =some x→l.set i x=l
 |[],_,_,h=>by simp at h
 |y::l,0,x,h=>by simp at h;rw[h];rfl
 |y::l,i+1,x,h=>by
  simp only[Ac3] at h;rw[List.set_cons_succ,PW h]
end
section
variable {P:Program}{ops:Array Oper}{C:World→Prop}{Q:Act→Prop}{Q2:Exit→Act→World→Prop}{n:FN}{m m':SM}{rest:List Oper}
variable {d:Nat}{ty:TypeId}{pos:String}{af:Array Edge}{X Y:Operand}{t:TypeId}{v p:Value}{B:World}{h:AV}{S:Nat→Prop}{L L2:List HP}
def Q9 {α}{r:A4 α}{ll:List (List α)}{c T e:Nat}{i:Int}{x:List α}(g:St S L h) (j:OO r c T v ll∈L) (l:BR m X=some v) (o:BR m Y=some (.int .i64 i)) (p:Na P t e 1=true) (s:Go.Proofs.YtedgiljmffngoaaGreat.ix ll i=some x) (hd:Nat.blt d n.1=true)
  (k:∀q,EP v (i.toNat*(A4.sl r).sz+0) q→QF P ops C Q rest n ((d,q)::m)):QF P ops C Q (⟨some d,.indexAddr t X Y,ty,pos,af,none⟩::rest) n m:=by
 obtain⟨vs,u,w⟩:=(g.one j).ooOpen;obtain⟨h0,y⟩:=EY s;have a:i.toNat<vs.length:=by rw[u];exact(Aba.1 y).1
 have b:Go.Proofs.YtedgiljmffngoaaGreat.ix vs i=some vs[i.toNat]:=by unfold Go.Proofs.YtedgiljmffngoaaGreat.ix;rw[Aaw (by omega)];simp [a]
 exact BS (r:=IF) w (Abn ..) l o p b hd k
def gQ {α}{r:A4 α}{ll:List (List α)}{e0 T aty e sz}(b:St S L h) (c:OO r e0 T v ll∈L) (g:BR m X=some v) (i:Na P t e sz=true) (hd:Nat.blt d n.1=true)
  (k:ll.length≤maxLen→QF P ops C Q rest n ((d,.int .i64 ll.length)::m)):QF P ops C Q (⟨some d,.call ⟨.builtin .len,#[X],#[t]⟩,aty,pos,af,none⟩::rest) n m:=by
 obtain⟨j,cap,rfl,a⟩:=b.oolen c;exact Pm g i hd (k a)
def VX {α}{r:A4 α}{ll:List (List α)}{s T:Nat}{i:Int}{l:List α}{q:Value}(w:CK C h) (x:St S L h) (y:OO r s T v ll∈L) (z:BR m X=some q) (A:Go.Proofs.YtedgiljmffngoaaGreat.ix ll i=some l) (B:EP v (i.toNat*(A4.sl r).sz+0) q) (D:Jw P t 1 false=true) (hd:Nat.blt d n.1=true)
  (k:∀u,IN h q u→Sl (λb=>b<h.size) h r u l→QF P ops C Q rest n ((d,u)::m)):QF P ops C Q (⟨some d,.load t X,ty,pos,af,none⟩::rest) n m:=by
 have g:EP v i.toNat q:=by have:=B;rwa [show i.toNat*(A4.sl r).sz+0=i.toNat from Acr _] at this
 obtain⟨u,F,o,G⟩:=x.ooAt y (EY A).2 g;obtain⟨p,cap,H⟩:∃p cap,u= .slice p l.length cap:=by
  rcases o with ⟨c,j⟩|⟨a,cap,c,_⟩
  ·exact⟨none,0,by rw[c,j];rfl⟩
  ·exact⟨_,cap,c⟩
 have I:My (λb=>b<h.size) S h IF q u:=⟨[u],G,rfl,by rw[H];rfl⟩
 refine P4 (r:=IF) w (λb J=>J) z I D (λ_=>rfl) hd λK M=>?_;obtain⟨cs,c,j,U⟩:=M;subst j;have:K=u:=c;subst this;exact k _ F o
def Yx {α}{r:A4 α}{l:List α}{A:Nat→Prop}{u:Value}{e:Nat}{i:Int}{x:α}(y:BR m X=some u) (z:BR m Y=some (.int .i64 i)) (k0:Sl A h r u l) (B:Na P t e r.sz=true) (D:Go.Proofs.YtedgiljmffngoaaGreat.ix l i=some x) (hd:Nat.blt d n.1=true)
  (k:∀q,Pt A h r q x→Aat u (i.toNat*r.sz) q→QF P ops C Q rest n ((d,q)::m)):QF P ops C Q (⟨some d,.indexAddr t X Y,ty,pos,af,none⟩::rest) n m:=by
 obtain⟨h0,v⟩:=EY D;have c:i.toNat<l.length:=(Aba.1 v).1;rcases k0 with ⟨_,F⟩|⟨a,cap,e1,e3,e4,e5⟩
 ·subst F;simp at c
 ·subst e1;obtain⟨g,p⟩:=e5 _ _ v;have j:a.add (i.toNat*r.sz)=⟨a.block,a.off+i.toNat*r.sz,none⟩:=by
   obtain⟨b,o,G⟩:=a;simp only at g;subst g;unfold Addr.add;split<;>simp_all
  intro H s;refine Du s hd (λw _=>by simp [execOp,s.eval y,s.eval z,M9 (P:=P) (w:=w) (cap:=cap) (a:=a) B h0 c]) (k _ (by rw[j];exact p) ⟨a,_,_,rfl,rfl⟩)
def Y8 {α}{r:A4 α}{ll:List (List α)}{a T:Nat}{i:Int}{l b:List α}{q u:Value}(I:BR m X=some q) (J:BR m Y=some u) (K:EP v (i.toNat*(A4.sl r).sz+0) q) (Q:ix ll i=some l) (U:Jw P t 1 false=true)
  (F:St S (OS r a u b::OO r a T v ll::L) h) (k:∀h',St S (OO r a T v (upd ll i b)::L) h'→B9 S h S h'→LF P ops Q2 rest B h' n m):LF P ops Q2 (⟨none,.store t X Y,ty,pos,af,none⟩::rest) B h n m:=by
 obtain⟨h0,G⟩:=EY Q;have j:St S (OO r a T v ll::OS r a u b::L) h:=F.pick (.tail .head);obtain⟨vs,H,V⟩:=j.ooOpen;have c:i.toNat<vs.length:=by rw[H];exact(Aba.1 G).1
 have o:ix vs i=some vs[i.toNat]:=by unfold ix;rw[Aaw (by omega)];simp [c]
 have W:vs[i.toNat]? =some vs[i.toNat]:=by simp [c]
 obtain⟨ad,cap,p,_⟩:=F.oslen (Abn ..);have d:u.oneCell'=true:=by rw[p];rfl
 obtain⟨M,Z,t2⟩:=Rl (r:=r) (e:=a) W G;refine E9 (r:=IF) (r':=IF) (i:=i) (x:=vs[i.toNat]) (g:=λ_ y=>y) (off:=0) (y:=u) I J ⟨[u],rfl,rfl,d⟩ K o NT.id U (λ_=>rfl) V .head λh' s e'=>k h' ?_ e';have w:St S (SQ (Vm r a vs ll)::OS IF T v (upd vs i u)::OS r a u b::L) h':=s.pick (.tail .head);have z:=Z w;have A:St S (OS r a u b::SQ M::OS IF T v (upd vs i u)::L) h':=by
  have:=z.drop .head;exact(this.pick (.tail (.tail .head)))
 have C:=t2 u b A;have D:St S (OS IF T v (upd vs i u)::SQ (Vm r a (vs.set i.toNat u) (ll.set i.toNat b))::L) h':=C.pick (.tail .head);exact QY (by simp [upd,H]) D
def lX {α}{r:A4 α}{ll:List (List α)}{o T:Nat}{i j:Int}{l:List α}{x y:α}{q A u Z:Value}(hx:BR m X=some A) (hy:BR m Y=some Z) (C:Rd S h r Z y) (ep:EP v (i.toNat*(A4.sl r).sz+0) q) (D:IN h q u) (G:Aat u (j.toNat*r.sz) A)
  (hi:ix ll i=some l) (z:ix l j=some x) (ht:Jw P t r.sz r.ag=true) (h1:r.ag=false→r.sz=1)
  (hs:St S (OO r o T v ll::L) h) (k:∀h',St S (OO r o T v (upd ll i (upd l j y))::L) h'→B9 S h S h'→LF P ops Q2 rest B h' n m):LF P ops Q2 (⟨none,.store t X Y,ty,pos,af,none⟩::rest) B h n m:=by
 obtain⟨h0,p⟩:=EY hi;obtain⟨vs,hl,ks⟩:=hs.ooOpen;have H:i.toNat<vs.length:=by rw[hl];exact(Aba.1 p).1
 have I:vs[i.toNat]? =some vs[i.toNat]:=by simp [H]
 have J:EP v i.toNat q:=by have:=ep;rwa [show i.toNat*(A4.sl r).sz+0=i.toNat from Acr _] at this
 obtain⟨F,k1,aa⟩:=ks.get (Abn ..);have he:vs[i.toNat]=u:=by
  obtain⟨a,a1,a2⟩:=cL k1 I J;obtain⟨a',d,b2⟩:=D;rw[a1] at d;injection d with d
  injection d with d
  subst d;rw[a2] at b2;exact Aa1 b2
 obtain⟨M,t1,t2⟩:=Rl (r:=r) (e:=o) I p;have K:St S (SQ (Vm r o vs ll)::OS IF T v vs::L) h:=ks.pick (.tail .head);have b:=t1 K;rw[he] at b;have Q:EP u (j.toNat*r.sz+0) A:=by
  obtain⟨F3,s,_⟩:=b.get (Abn ..);obtain⟨a,nn,c,e1,e2⟩:=G;rcases s with ⟨⟨ad,s⟩,z2,_⟩|⟨g,cap,cur,s,_⟩
  ·subst z2;unfold ix at z;split at z<;>simp at z
  ·rw[e1] at s;injection s with U _ _
   injection U with U
   subst U;refine⟨g,nn,c,e1,?_⟩;rw[e2,PQ,Abz];rfl
 refine E9 (r:=r) (r':=r) (i:=j) (x:=x) (g:=λ_ y=>y) (off:=0) (y:=y) hx hy C Q z NT.id ht h1 b .head λh' V e'=>k h' ?_ e';have W:=t2 u (upd l j y) V;have w:St S (OS IF T v vs::SQ (Vm r o (vs.set i.toNat u) (ll.set i.toNat (upd l j y)))::L) h':=W.pick (.tail .head);rw[PW (he▸I)] at w;exact QY (by simp [upd,hl]) w
def lY {α}(r:A4 α) (i:Nat) {T e a:Nat}{len cap:Int}{j l:IntKind}{U V:Operand}(o:OY P T=some (e,1,a,[.slice none 0 0]))
  (p:BR m U=some (.int j len)) (q:BR m V=some (.int l cap)) (c:KX len cap a=true) (b:Nat.blt 0 a=true) (hd:Nat.blt d n.1=true) (s:St S L h)
  (k:∀v h',St S (OO r i e v (List.replicate len.toNat ([]:List α))::L) h'→B9 S h S h'→LF P ops Q2 rest B h' n ((d,v)::m)):LF P ops Q2 (⟨some d,.makeSlice T U V,ty,pos,af,none⟩::rest) B h n m:=
 J9 (r:=IF) (zx:= .slice none 0 0) o rfl ⟨rfl,rfl⟩ p q c b hd s λv h' g t=>k v h' g.ooNil t
end
def St.zs {α}{S:Nat→Prop}{L:List HP}{h:AV}(b:St S L h) (r:A4 α) (T:TypeId) (a:Option Addr):St S (OS r T (.slice a 0 0) ([]:List α)::L) h:=
 (b.add (Abd _) (λ_ _=>rfl) ⟨λ_=>False,Or.inl ⟨⟨a,rfl⟩,rfl,λ_ x=>x⟩,λ_ x=>x.elim⟩).1
section
variable {P:Program}{ops:Array Oper}{C:World→Prop}{Q:Act→Prop}{Q2:Exit→Act→World→Prop}{n:FN}{m m':SM}{rest:List Oper}
variable {d:Nat}{ty:TypeId}{pos:String}{af:Array Edge}{X Y Z:Operand}{t:TypeId}{kd kd2:IntKind}{v p:Value}{S:Nat→Prop}{h:AV}{B:World}{L:List HP}
def lE {α}{r:A4 α}{e:TypeId}{l:List α}(j:BR m X=some v) (o:BR m Y=some (.int kd 0)) (p:BR m Z=some (.int kd2 0)) (k0:Sl S h r v l) (q:Na P t e r.sz=true) (hd:Nat.blt d n.1=true)
  (k:∀b,QF P ops C Q rest n ((d,.slice b 0 0)::m)):QF P ops C Q (⟨some d,.slice t X none (some Y) (some Z),ty,pos,af,none⟩::rest) n m:=λa c=>by
 obtain⟨i,s⟩:=Lm q;obtain⟨b,len,cap,rfl⟩:∃b len cap,v= .slice b len cap:=by
  rcases k0 with ⟨g,_⟩|⟨a,cap,g,_⟩
  ·exact⟨none,0,0,g⟩
  ·exact⟨_,_,_,g⟩
 refine Du c hd (λw _=>?_) (k b);simp [execOp,c.eval j,c.eval o,c.eval p,run_sliceAt_slice _ _ _ _ _ _ i,run_slice_hm w t b len cap i kd kd2 0 0 (by omega) (by omega) (by omega),s,sliced]
def tM {e sz:Nat}(g:BR m X=some (.slice none 0 0)) (i:BR m Y=some (.int kd 0)) (j:Na P t e sz=true) (hd:Nat.blt d n.1=true)
  (k:QF P ops C Q rest n ((d,.slice none 0 0)::m)):QF P ops C Q (⟨some d,.slice t X none (some Y) none,ty,pos,af,none⟩::rest) n m:=λa b=>by
 obtain⟨c,l⟩:=Lm j;refine Du b hd (λw _=>?_) k;simp [execOp,b.eval g,b.eval i,run_sliceAt_slice _ _ _ _ _ _ c,run_slice_h w t none 0 0 c kd 0 (by omega) (by omega),l,sliced]
def lD {e sz:Nat}(g:BR m X=some (.slice none 0 0)) (i:BR m Y=some (.int kd 0)) (j:BR m Z=some (.int kd2 0)) (l:Na P t e sz=true) (hd:Nat.blt d n.1=true)
  (k:QF P ops C Q rest n ((d,.slice none 0 0)::m)):QF P ops C Q (⟨some d,.slice t X none (some Y) (some Z),ty,pos,af,none⟩::rest) n m:=λa b=>by
 obtain⟨c,o⟩:=Lm l;refine Du b hd (λw _=>?_) k;simp [execOp,b.eval g,b.eval i,b.eval j,run_sliceAt_slice _ _ _ _ _ _ c,run_slice_hm w t none 0 0 c kd kd2 0 0 (by omega) (by omega) (by omega),o,sliced]
def lZ {t s e sz g:Nat}{z:List Value}{kq H:IntKind}{y:Int}(I:BR m X=some (.slice none 0 0)) (J:BR m Y=some (.int kq y)) (M:OY P t=some (e,sz,g,z)) (Q:P.underlying s=some (.int H))
  (h0:0<y) (u:Ih y.toNat g=true) (v:Nat.blt 0 g=true) (hd:Nat.blt d n.1=true) (U:St S L h)
  (k:∀b c' cs' h',y.toNat≤c'→c'≤maxLen→cs'.length=c'*sz→St S (Bx b e cs'::L) h'→B9 S h S h'→LF P ops Q2 rest B h' n ((d,.slice (some ⟨b,0,none⟩) y.toNat c')::m)):
  LF P ops Q2 (⟨some d,.call ⟨.builtin .append,#[X,Y],#[t,s]⟩,ty,pos,af,none⟩::rest) B h n m:=by
 intro a w x o;obtain⟨j,rfl⟩:∃j:Nat,y=j:=⟨y.toNat,by omega⟩
 have u:=(MV u).le;simp only[Ab0] at u k;have p:0<g:=(by simpa [Nat.blt] using v:1≤g)
 obtain⟨i,l,V,W,Z,u4,u5,u6,u7,u8⟩:=K1 M;have aa:j≤j*g:=Nat.le_mul_of_pos_right _ p;have q:=Lib.run_append_nil_zeros (P:=P) w t s ty e i l kq H V Q W Z j (by omega) (by omega) (by omega) (by rw[u5];omega);refine wpList_plain rfl λK hK=>?_;unfold Oper.wp;have A:(execOp a.eval ⟨some d,.call ⟨.builtin .append,#[X,Y],#[t,s]⟩,ty,pos,af,none⟩).run P w= .ok (.value (.slice (some ⟨w.heap.size,0,none⟩) j (grownCap w j 0 e)))
   (w.drew.alloc (.cells (Builtin.zeroCells l.cells j++Builtin.zeroCells l.cells (grownCap w j 0 e-j)) e)):=by
  simp [execOp,resolve,invoke,builtin,x.eval I,x.eval J,q]
 rw[A];have C:=grownCap_ge w j 0 e;have D:=grownCap_le_maxLen w j 0 e (by unfold maxLen;omega);have F:l.cells.size=sz:=by rw[u6];simpa using u7
 have c:=U.push e (Builtin.zeroCells l.cells j++Builtin.zeroCells l.cells (grownCap w j 0 e-j)).toList;rw[Array.toArray_toList] at c;have G:=(show Wd B h w.drew from⟨o.heap,o.os,o.tape,o.out⟩).alloc (.cells (Builtin.zeroCells l.cells j++Builtin.zeroCells l.cells (grownCap w j 0 e-j)) e);have hz:w.heap.size=h.size:=by rw[o.heap]
 rw[hz];refine hK _ _ (k _ _ _ _ C D ?_ c.1 c.2 _ _ (x.put hd _) G);simp only[Aec,Array.size_append,size_zeroCells,F,←Acg];congr 1;omega
def Aas {o:Oper}{j e:Nat}{b:Bool}(g:o.guard=some (j,b)) (i:(ops[j]?).bind (·.dst)=some e) (l:lk m e=some (.bool b)) (k:LF P ops Q2 ({ o with guard:=none}::rest) B h n m):LF P ops Q2 (o::rest) B h n m:=by
 intro a w d p;have q:Region.wanted o (yielded ops a.tmps)=true:=by
  have:=d.at_ e _ l;simp [Region.wanted,g,yielded,i,this]
 have c:=k a w d p;unfold wpList at c ⊢;rw[Aay (by simp [Region.wanted])] at c;rw[Aay q];exact c
def Aan {l:List Oper}{b c:Bool}(a:b=c) (k:QF P ops C Q l n ((d,.bool c)::m)):QF P ops C Q l n ((d,.bool b)::m):=a▸k
def Aar {l:List Oper}{b c:Bool}(a:b=c) (k:LF P ops Q2 l B h n ((d,.bool c)::m)):LF P ops Q2 l B h n ((d,.bool b)::m):=a▸k
def tL {b len cap e sz:Nat}(a:BR m X=some (.slice (some ⟨b,0,none⟩) len cap)) (c:BR m Y=some (.int kd 0)) (g:Na P t e sz=true) (hd:Nat.blt d n.1=true)
  (k:QF P ops C Q rest n ((d,.slice (some ⟨b,0,none⟩) 0 cap)::m)):QF P ops C Q (⟨some d,.slice t X none (some Y) none,ty,pos,af,none⟩::rest) n m:=
 gG a c (j:=0) rfl g (Aa4 _) hd k
def zK (P:Program) (t:TypeId):Bool:=match P.underlying t with|some (.slice _)=>true|_=>false
def lH (g:BR m X=some v) (b:zK P t=true) (hd:Nat.blt d n.1=true) (k:QF P ops C Q rest n ((d,.iface t v)::m)):QF P ops C Q (⟨some d,.makeInterface t X,ty,pos,af,none⟩::rest) n m:=λa c=>by
 unfold zK at b;split at b
 ·rename_i e i;refine Du c hd (λw _=>?_) k;simp [execOp,c.eval g,Instr.makeInterface,run_underlying i]
 ·cases b
end
def cK {α}{S:Nat→Prop}{h:AV}{r:A4 α}{cs:List Value}:LS S h r (cs.take (([]:List α).length*r.sz)) ([]:List α):=by
 show cs.take (0*r.sz)=[]
 rw[Nat.zero_mul];rfl
section
variable {P:Program}{ex:List (Nat×AP)}{RR N:AP}{cs:List Code}{B:World}{h:AV}{n:FN}{m m':SM}{S:Nat→Prop}{L:List HP}{C:World→Prop}{l:List Oper}{fuel:Nat}{listed:Array Bool}
variable {d:Nat}{ty:TypeId}{pos:String}{af:Array Edge}{X Y:Operand}{t:TypeId}{v:Value}
def HF (P:Program) (l:List Oper) (Q:Exit→Act→World→Prop) (C:World→Prop) (fuel:Nat) (listed:Array Bool) (B:World) (h:AV) (n:FN) (m:SM):Prop:=
 ∀a w,Fr n a m→Wd B h w→wpAnyH P .any l.toArray Q C fuel listed a w
abbrev QW (P:Program) (ex:List (Nat×AP)) (RR:AP) (cs:List Code) (N:AP):Exit→Act→World→Prop:=Qx ex RR (W P ex RR cs N)
def iF (l:List Oper) (listed:Array Bool) (i:Nat):Bool:=Region.noSelect l.toArray&&Region.free .any l.toArray listed i&&(Region.ready .any l.toArray listed).contains i
def Yi {id:Nat}(C:World→Prop) (c:P.follows .mixedOrders=true) (k:HF P l (QW P ex RR cs N) C l.toArray.size (Array.replicate l.toArray.size false) B h n m):WF P ex RR (.region id l.toArray true::cs) N B h n m:=
 λa w d g i b=>O2 b NM c (wpAny_of_held _ _ _ _ (k a _ d g.drew))
def PZ {o:Op}(i:Nat) (q:l[i]? =some ⟨some d,o,ty,pos,af,none⟩) (c:iF l listed i=true) (s:∀w,Wd B h w→C w) (hd:Nat.blt d n.1=true)
  (b:∀a w,Fr n a m→C w→(execOp a.eval ⟨some d,o,ty,pos,af,none⟩).run P w= .ok (.value v) w) (k:HF P l (QW P ex RR cs N) C fuel (listed.setIfInBounds i true) B h n ((d,v)::m)):HF P l (QW P ex RR cs N) C (fuel+1) listed B h n m:=by
 intro a w j p;simp only[iF,Aa3] at c;exact wpAnyH_take (oi:=⟨some d,o,ty,pos,af,none⟩) (v:=v) (by simpa using q) c.1.1 c.1.2 c.2 (λ_ _ _ t=>t.elim) (.inl ⟨by simp [Region.wanted],λw' g=>b a w' j g⟩) (s w p) (k _ _ (j.put hd v) p)
def PY (i:Nat) (b:l[i]? =some ⟨some d,.move X,ty,pos,af,none⟩) (c:iF l listed i=true) (g:∀w,Wd B h w→C w) (j:BR m X=some v) (hd:Nat.blt d n.1=true) (k:HF P l (QW P ex RR cs N) C fuel (listed.setIfInBounds i true) B h n ((d,v)::m)):HF P l (QW P ex RR cs N) C (fuel+1) listed B h n m:=
 PZ i b c g hd (λa w o _=>by simp [execOp,o.eval j]) k
def Vd (i:Nat) (b:l[i]? =some ⟨some d,.assign X,ty,pos,af,none⟩) (c:iF l listed i=true) (g:∀w,Wd B h w→C w) (j:BR m X=some v) (hd:Nat.blt d n.1=true) (k:HF P l (QW P ex RR cs N) C fuel (listed.setIfInBounds i true) B h n ((d,v)::m)):HF P l (QW P ex RR cs N) C (fuel+1) listed B h n m:=
 PZ i b c g hd (λa w o _=>by simp [execOp,o.eval j]) k
def Qa (i:Nat) {b o j off:Nat}(p:l[i]? =some ⟨some d,.fieldAddr t X j,ty,pos,af,none⟩) (c:iF l listed i=true) (q:∀w,Wd B h w→C w) (s:BR m X=some (.pointer (some ⟨b,o,none⟩))) (u:Zz P t j off=true) (hd:Nat.blt d n.1=true) (k:HF P l (QW P ex RR cs N) C fuel (listed.setIfInBounds i true) B h n ((d,.pointer (some ⟨b,o+off,none⟩))::m)):HF P l (QW P ex RR cs N) C (fuel+1) listed B h n m:=
 have g:(⟨b,o,none⟩:Addr).add off=⟨b,o+off,none⟩:=by unfold Addr.add;split<;>simp_all
 PZ i p c q hd (λa w v _=>by simp [execOp,v.eval s,Lo u,g]) k
def OH (i:Nat) {b o sz T:Nat}{ag:Bool}{q vs:List Value}(s:l[i]? =some ⟨some d,.load t X,ty,pos,af,none⟩) (c:iF l listed i=true) (u:∀w,Wd B h w→C w) (v:BR m X=some (.pointer (some ⟨b,o,none⟩))) (y:∀w,C w→w.heap[b]? =some (.cells q.toArray T (0,0))) (z:(q.drop o).take sz=vs) (A:Nat.beq vs.length sz=true) (D:Jw P t sz ag=true) (F:(ag||Nat.beq sz 1)=true) (hd:Nat.blt d n.1=true)
  (k:HF P l (QW P ex RR cs N) C fuel (listed.setIfInBounds i true) B h n ((d,if ag then .agg vs.toArray else vs.headD undef)::m)):HF P l (QW P ex RR cs N) C (fuel+1) listed B h n m:=
 PZ i s c u hd (λa w G H=>by
  have I:(Bx b T q).holds (λ_=>True) (λx=>x=b) w.heap:=⟨λ_=>Acp,y w H⟩
  have g:=Aa8 A;have:=Ny (P:=P) (w:=w) (S:=λ_=>True) (p:= .pointer (some ⟨b,o,none⟩)) (cs:=vs) (sz:=sz) (ag:=ag) (t:=t) ⟨⟨b,o,none⟩,rfl,rfl,trivial,λj J=>by
   rw[Bx.cell I,←z,Aci (by omega),Add]⟩ g D (λe=>by subst e;simpa using F)
  simp [execOp,G.eval v,this]) k
def Xg (i:Nat) {α}{r:A4 α}{xs:List α}{T e:Nat}{j:Int}{x:α}(s:l[i]? =some ⟨some d,.indexAddr t X Y,ty,pos,af,none⟩) (c:iF l listed i=true) (u:∀w,Wd B h w→C w) (y:St S L h) (z:OS r T v xs∈L) (A:BR m X=some v) (D:BR m Y=some (.int .i64 j)) (F:Na P t e r.sz=true) (o:ix xs j=some x) (hd:Nat.blt d n.1=true)
  (k:∀q,EP v (j.toNat*r.sz+0) q→HF P l (QW P ex RR cs N) C fuel (listed.setIfInBounds i true) B h n ((d,q)::m)):HF P l (QW P ex RR cs N) C (fuel+1) listed B h n m:=by
 obtain⟨g,cap,rfl,H⟩:=y.osAt z (EY o).2;have G:j.toNat<xs.length:=(Aba.1 (EY o).2).1;have b:(⟨g,0,none⟩:Addr).add (j.toNat*r.sz)=⟨g,j.toNat*r.sz,none⟩:=by unfold Addr.add;split<;>simp_all
 exact PZ i s c u hd (λa w p I=>by simp [execOp,p.eval A,p.eval D,M9 (P:=P) (w:=w) (cap:=cap) (a:=⟨g,0,none⟩) F (EY o).1 G,b]) (k _ ⟨g,_,_,rfl,rfl⟩)
def Zt (i:Nat) {o:Oper}(p:l[i]? =some o) (d:o.guard=none) (c:Region.ready .any l.toArray listed=[i])
  (k:LF P l.toArray (Exit.then (λq w'=>C w'∧wpAnyH P .any l.toArray (QW P ex RR cs N) C fuel (listed.setIfInBounds i true) q w') (QW P ex RR cs N)) [o] B h n m):HF P l (QW P ex RR cs N) C (fuel+1) listed B h n m:=by
 intro a w s t;refine wpAnyH_all c (by simp) λj g=>?_;rw[Ace] at g;subst g;unfold wpOp;have b:l.toArray[j]? =some o:=by simpa using p
 simp only[b];rw[Aay (by simp [Region.wanted,d])];exact LH d (k a w s t)
def Ui {Q:Exit→Act→World→Prop}{ops:Array Oper}(c:∀w,Wd B h w→C w) (k:HF P l (QW P ex RR cs N) C fuel listed B h n m):LF P ops (Exit.then (λd w'=>C w'∧wpAnyH P .any l.toArray (QW P ex RR cs N) C fuel listed d w') Q) [] B h n m:=
 λa w g b=>⟨c w b,k a w g b⟩
def Sd (c:Region.ready .any l.toArray listed=[]) (b:Tr m m') (k:WF P ex RR cs N B h n m'):HF P l (QW P ex RR cs N) C fuel listed B h n m:=
 λa w d g=>wpAnyH_done c (k a w (d.sub b) g) _
def St.bxW {b T:Nat}{vs:List Value}(a:St S L h) (c:Bx b T vs∈L) {w:World}(d:Wd B h w):w.heap[b]? =some (.cells vs.toArray T (0,0)):=by
 rw[d.heap];exact a.bxcell c
end
section
variable {P:Program}{ops:Array Oper}{Q:Exit→Act→World→Prop}{a:Act}{w:World}
def Vt {o:Oper}{K K':Act→World→Prop}(m:o.guard=none) (g:∀a w,K a w→K' a w) (h:wpList P ops (Exit.then K Q) [o] a w):wpList P ops (Exit.then K' Q) [o] a w:=by
 unfold wpList at h ⊢;rw[Aay (by simp [Region.wanted,m])] at h ⊢;rcases h with b|⟨b,i,j,h2⟩
 ·refine .inl ?_;unfold Oper.wp at b ⊢;generalize (execOp a.eval o).run P w=r at b
  cases r with
  |ok n w'=>
   cases n<;>simp only[Oper.upon] at b ⊢
   case value v=>exact g _ _ b
   case skip=>exact g _ _ b
   case defer d=>exact g _ _ b
   case enter f args=>
    refine b.mono λe k l=>?_;cases e with
    |returned v=>exact g _ _ l
    |panicked c=>exact l
    |outgrown=>obtain⟨i,j,h0⟩:=l;exact⟨i,j,h0⟩
   case row r args=>exact Rows.mono b λv k p=>g _ _ p
  |halt x w'=>cases x<;>simp only[Oper.upon] at b ⊢;exact b
 ·exact .inr ⟨b,i,j,h2⟩
end
section
variable {P:Program}{ops:Array Oper}{Q:Exit→Act→World→Prop}{B:World}{n:FN}{m:SM}{h0:AV}
def YX (As:List Nat) (R:XR):FR:=λ_ X F i v h=>R X i v h∧∀b,F b↔i∈As∧Oc v=some b
def YX.fr {As:List Nat}{R:XR}{a:Nat→Value}{X:Nat→Prop}{i:Nat}{v:Value}{h:AV}(k:uE (YX As R) a X i v h):R X i v h:=by
 obtain⟨_,_,_,k,_⟩:=k;exact k
def PA.sub {R b:AR}{h:AV}{K:SM→Prop}(c:∀i v,b i v h→R i v h):∀(a:List (Nat×Nat)) (fr:SM),PA R h K a fr→PA b h K a fr
 |[],_,k=>k
 |(_,d)::a,fr,k=>λu g=>PA.sub c a _ (k u (c _ _ g))
def YX.step {R:XR}{As:List Nat}(q:∀X i,i∈As→∀v h,R X i v h→∃b,Oc v=some b∧h0.size≤b∧b<h.size) (y:∀i,i∈As→∀X s v h,R X i v h→R s i v h)
  (l:∀i v h h' X s,DX h0 h→DX h h'→(∀b,X b→s b)→(∀b,s b→X b∨h.size≤b)→R X i v h→R s i v h') {i:Nat} {o:Oper} {d:Nat} {D:List (Nat×Nat)} (k:To P ops Q B n m h0 R As i o d D):Vg P ops Q B n m h0 (YX As R) i o d D:=λF X mt h G U=>by
 have H:∀v h',DX h h'→uK (R X) As i h v h'→nQ (YX As R) F X i h v h':=λv h' V ⟨t,z⟩=>by
  by_cases p:i∈As
  ·obtain⟨b,u,W⟩:=z (Aa7.2 p);obtain⟨b',I,e4,Y⟩:=q X i p v h' t;rw[u] at I;cases I;exact⟨λc=>c=b,λc A=>by subst A;exact⟨W,Y⟩,y i p _ _ _ _ t,λc=>⟨λh=>⟨p,by rw[h];exact u⟩,λh=>by rw[u] at h;exact(Aa1 h.2).symm⟩⟩
  ·refine⟨λ_=>False,λc A=>A.elim,?_,λc=>⟨λh=>h.elim,λh=>p h.1⟩⟩;exact l i v h' h' X _ (G.trans V) (DX.refl h') (λb C=> .inl C) (λb C=> .inl (C.resolve_right id)) t
 refine PA.imp (λfr j=>?_) _ _ (PA.sub (λi v Z=>YX.fr Z) _ _ (k X mt h G U));have J:∀o:Oper,o.guard=none→LF P ops (Exit.then (KS B n d (uK (R X) As i h) h (fr++(m++mt))) Q) [o] B h n (fr++(m++mt))→LF P ops (Exit.then (KS B n d (nQ (YX As R) F X i h) h (fr++(m++mt))) Q) [o] B h n (fr++(m++mt)):=λo x k a w hf hw=>Vt x (λa w ⟨v,h',q1,q2,K,q4⟩=>⟨v,h',q1,q2,K,H v h' K q4⟩) (k a w hf hw);cases x:o.guard with
 |none=>rw[x] at j;exact J o x j
 |some g=>
  rw[x] at j;obtain⟨dg,e,k⟩:=j;refine⟨dg,e,k.imp (λk=>⟨k.1,J _ rfl k.2⟩) λ⟨v,t,z,M⟩=>⟨v,t,z,H _ _ (DX.refl h) ⟨M,λp=>?_⟩⟩⟩;obtain⟨b,u,_⟩:=q X i (Aa7.1 p) _ _ M;cases u
def Uj.x {R:AR}{i:Nat}{o:Oper}{d:Nat}{j:List (Nat×Nat)}(k:Uj P ops Q B n m h0 R i o d j):To P ops Q B n m h0 (λ_=>R) [] i o d j:=λX mt h p _=>by
 refine PA.imp (λfr b=>?_) _ _ (k mt h p);have l:∀o:Oper,o.guard=none→LF P ops (Exit.then (KS B n d (R i) h (fr++(m++mt))) Q) [o] B h n (fr++(m++mt))→LF P ops (Exit.then (KS B n d (uK R [] i h) h (fr++(m++mt))) Q) [o] B h n (fr++(m++mt)):=λo c k a w q s=>Vt c (λa w ⟨v,h',t,u,y,z⟩=>⟨v,h',t,u,y,z,λh=>by cases h⟩) (k a w q s);cases c:o.guard with
 |none=>rw[c] at b;exact l o c b
 |some g=>
  rw[c] at b;obtain⟨A,e,k⟩:=b;exact⟨A,e,k.imp (λk=>⟨k.1,l _ rfl k.2⟩) λk=>k⟩
def Wi {R:XR}(l As:List Nat) (W:∀X i,i∈As→∀v h,R X i v h→∃b,Oc v=some b∧h0.size≤b∧b<h.size) (Y:∀i,i∈As→∀X A v h,R X i v h→R A i v h) (Z:∀t,t∈l→t<ops.size) (aa:l.Nodup) (C:PO ops=true)
  (F:List Nat) (J:l=[]∨Ru ops l F=true) (ab:L8 ops l) (ac:N7 ops l=true) (K:Region.noSelect ops=true) (hQ:∀c a w,¬Q (.panic c) a w)
  (ad:∀f,f∈F→f∉As) (hF:∀f,f∈F→(f<ops.size∧f∉l)∧Mk ops f=true∧∃o d x,ops[f]? =some o∧o.dst=some d∧TE ops o x=true∧∀X,Pa P ops n m h0 (R X) f o x)
  (M:TF ops l n (m.map (·.1))=true)
  (p:∀i v h h' X A,DX h0 h→DX h h'→(∀b,X b→A b)→(∀b,A b→X b∨h.size≤b)→R X i v h→R A i v h')
  (ae:∀i,i∈As→i∉l) (step:∀i o d,i∉l→ops[i]? =some o→o.dst=some d→∃x,TE ops o x=true∧To P ops Q B n m h0 R As i o d x)
  (af:∀a w h X,Wd B h w→DX h0 h→Fr n a m→(∀b,X b→h0.size≤b∧b<h.size)→(∀i,i<ops.size→i∉l→∃d v,G9 ops i=some d∧a.tmps[d]? =some v∧R X i v h)→iH (VH ops As) (λs=>a.tmps[s]?)→yK (VH ops As) (λs=>a.tmps[s]?) X→wpList P ops Q (l.filterMap λt=>ops[t]?) a w)
  (q:Nat) (g:Array Bool) (a:Act) (w:World) (D:T8 g=q) (y:Rm ops l g) (ag:∀i,g.getD i false=false) (h1:Wd B h0 w) (h2:Fr n a m):wpAny P .any ops Q q g a w:=by
 refine Wh (R:=YX As R) l Z aa C F J ab ac K hQ (λf hf=>?_) M (λU i v h h' X A F o1 o2 _ x1 x2 k=>⟨p i v h h' X A o1 o2 x1 x2 k.1,k.2⟩) (λU am X F i v h _ k=>k) (λi o d y ho hd=>?_) (λa w h fp U g1 g2 g3 g4 g5 g6=>?_) q g a w D y ⟨λ_ _=>False,λ_=>undef,h0,h1,DX.refl h0,h2,λ_ _ h=>h.elim,λ_ _ _ h=>h.elim,λ_ _ _ h=>h,λi _ hl=>by rw[ag i] at hl;cases hl⟩
 ·obtain⟨q1,q2,o,d,x,q3,q4,q5,q6⟩:=hF f hf;exact⟨q1,q2,o,d,x,q3,q4,q5,λU X mt h hO=>PA.imp (λfr k a ha=>by
   obtain⟨v,y1,y2⟩:=k a ha;exact⟨v,y1,y2,λb=>⟨λh=>h.elim,λh=>ad f hf h.1⟩⟩) _ _ (PA.sub (λi v hv=>YX.fr hv) _ _ (q6 X mt h hO))⟩
 ·obtain⟨x,q1,q2⟩:=step i o d y ho hd;exact⟨x,q1,YX.step W Y p q2⟩
 ·have G:∀s,s∈VH ops As→∀u,a.tmps[s]? =some u→∃i,i∈As∧G9 ops i=some s∧u=U i∧∀b,Oc u=some b→fp i b:=λs V u D=>by
   obtain⟨i,y,e⟩:=Aeg.1 V;have ah:i<ops.size:=by
    rcases Abk i ops.size with h|h
    ·exact h
    ·unfold G9 at e;rw[Aee h] at e;cases e
   obtain⟨d,H,z,_,I⟩:=g6 i ah (ae i y);rw[e] at H;cases H;rw[D] at z;cases z;exact⟨i,y,e,rfl,λb C=>(I b).2 ⟨y,C⟩⟩
  refine af a w h (UX fp) g1 g2 g3 (λb ⟨j,hj⟩=>g4 j b hj) (λi y hk=>?_) (λs V s' ai aj u u' D ak b b' C al e=>?_) (λs V u D b C=>?_)
  ·obtain⟨d,H,z,I,_⟩:=g6 i y hk;exact⟨d,U i,H,z,I⟩
  ·obtain⟨i,_,H,_,z⟩:=G s V u D;obtain⟨j,_,I,_,e4⟩:=G s' ai u' ak;subst e;have:=g5 i j b (z b C) (e4 b al);subst this;rw[H] at I;exact aj (Aa1 I)
  ·obtain⟨i,_,_,_,z⟩:=G s V u D;exact⟨i,z b C⟩
end
def qT (ops:Array Oper) (a:Nat) (F:List Nat):Bool:=Nat.ble a ops.size&&VI ops (List.range' a (ops.size-a)) F
def YW {α}(l:List α):∀(j a:Nat),l.length-a=j→(List.range' a j).filterMap (λt=>l[t]?)=l.drop a
 |0,a,h=>by rw[Ads (by omega)];rfl
 |j+1,a,h=>by
  have b:a<l.length:=by omega
  rw[List.range'_succ,List.filterMap_cons_some (Abf b),YW l j (a+1) (by omega),←Ad6 b]
section
variable {P:Program}{ex:List (Nat×AP)}{RR N:AP}{cs:List Code}{B:World}{h:AV}{n:FN}{m m0:SM}{S:Nat→Prop}{L:List HP}
def Yk {l:List Oper}{id:Nat}(g F As:List Nat) (R:XR) (pss:List (List (Nat×Nat))) (fs:List (Nat×Nat)) {ls:List Oper}(hm:P.follows .mixedOrders=true) (hc:VI l.toArray g F=true) (ms:List Nat) (aa:m.map (·.1)=ms) (H:TF l.toArray g n ms=true)
  (A:SL l.toArray g l pss=true) (ab:(fs.all λp=>Nat.blt p.1 l.length&& !g.contains p.1&&(G9 l.toArray p.1).any (Nat.beq p.2 ·))=true) (ac:(g.filterMap λt=>l[t]?)=ls) (I:Tr m0 m)
  (C:∀i v D Y X Z,DX h D→DX D Y→(∀b,X b→Z b)→(∀b,Z b→X b∨D.size≤b)→R X i v D→R Z i v Y)
  (ad:(As.all λi=> !g.contains i&& !F.contains i)=true) (J:∀i,i∈As→lU h R i)
  (hF:RE P l.toArray g n m h R F)
  (step:F8 P l.toArray (Qx ex RR (W P ex RR cs N)) B n m h R g As 0 l pss)
  (ae:∀h' X,DX h h'→(∀b,X b→h.size≤b∧b<h'.size)→PA (R X) h' (λfr=>iH (VH l.toArray As) (lk fr)→yK (VH l.toArray As) (lk fr) X→LF P l.toArray (Qx ex RR (W P ex RR cs N)) ls B h' n (fr++m)) fs []):WF P ex RR (.region id l.toArray true::cs) N B h n m0:=by
 intro a w K hw;subst aa;simp only[VI,Aa3,Abq,Abh] at hc;obtain⟨⟨⟨⟨⟨⟨D,Y⟩,h3⟩,h4⟩,h5⟩,h6⟩,h7⟩:=hc;simp only[SL,Aa3] at A;have M:l.length=pss.length:=Aa8 A.1;have y:∀i,i∈As→i∉g∧i∉F:=λi q=>by
  have:=Aa6.1 ad i q;simp only[Aa3,Abr] at this;exact⟨λh=>(by rw[Aa7.2 h] at this;cases this.1),λh=>(by rw[Aa7.2 h] at this;cases this.2)⟩
 refine λrd af=>O2 af NM hm (Wi (R:=R) (B:=B) (h0:=h) (n:=n) (m:=m) g As (λX i q v h' Q=>by obtain⟨r,U,e2⟩:=J i q;rw[U] at Q;exact e2 v h' Q) (λi q X Z v h' Q=>by obtain⟨r,U,_⟩:=J i q;rw[U] at Q ⊢;exact Q) (λt ht=>by have:=Aa6.1 D t ht;simp [Nat.blt] at this ⊢;omega) Y h6 F (h3.imp (λe=>by cases g with|nil=>rfl|cons _ _=>simp at e) λx=>x) (JU h4) h5 h7 (λc a w hq=>hq) (λf K hA=>(y f hA).2 K) (λf K=>hF.at_ f K) H C (λi q=>(y i q).1) (λi o d q ho hd=>?_) (λa w h' X g1 g2 g3 gX g4 g5 g6=>?_) _ _ _ _ ?_ ⟨by simp,λj oj _ hl=>(by rw[getD_replicate_false] at hl;cases hl),λt ht=>getD_in (by have:=Aa6.1 D t ht;simp [Nat.blt] at this ⊢;omega) (getD_replicate_false _ _)⟩ (λi=>getD_replicate_false _ _) hw.drew (K.sub I))
 ·have G:l[i]? =some o:=by simpa using ho
  obtain⟨ps,q1,q2⟩:=F8.at_ (k:=0) step M (by rw[Abz];exact q) G hd;rw[Abz] at q2;refine⟨ps,?_,q2⟩;have ai:i<l.length:=(Aba.1 G).1;have hz:((o,ps),i)∈(l.zip pss).zipIdx:=by
   rw[Acy];exact⟨i,by rw[Aei,(Aej (z:=(o,ps))).2 ⟨G,q1⟩];simp⟩
  have:=Aa6.1 A.2 _ hz;simp only[Abq,Aa7,q,Acs] at this;exact this
 ·obtain⟨fr,k1,k2⟩:=LT (a:=a) (n:=n) _ _ (ae h' X g2 gX) (λp hp=>by
   have e:=Aa6.1 ab p hp;simp only[Aa3,Abr] at e;have U:p.1<l.toArray.size:=by have:=e.1.1;simp [Nat.blt] at this ⊢;omega
   obtain⟨d,v,q1,q2,q3⟩:=g4 p.1 U (λh=>by rw[Aa7.2 h] at e;cases e.1.2);have e2:=e.2;rw[q1] at e2;have:p.2=d:=Aa8 (by simpa using e2);exact⟨v,by rw[this];exact q2,q3⟩) ⟨g3.dfr,g3.siz,λi v q=>by simp [lk] at q⟩
  have V:(g.filterMap λt=>l.toArray[t]?)=ls:=by rw[←ac];congr 1;funext t;simp
  rw[V];exact k1 (λs hs s' ag ah u u' e e'=>g5 s hs s' ag ah u u' (k2.at_ _ _ e) (k2.at_ _ _ e')) (λs hs u e=>g6 s hs u (k2.at_ _ _ e)) a w (k2.append g3) g1
 ·unfold T8;rw[Aek];simp
def Tb {l:List Oper}{id:Nat}(b:Nat) (F:List Nat) (R:AR) (pss:List (List (Nat×Nat))) (fs:List (Nat×Nat)) (hm:P.follows .mixedOrders=true) (hc:qT l.toArray b F=true) (ms:List Nat) (G:m.map (·.1)=ms) (z:TF l.toArray (List.range' b (l.toArray.size-b)) n ms=true)
  (H:XG l.toArray (l.take b) pss=true) (I:(fs.all λp=>Nat.blt p.1 b&&(G9 l.toArray p.1).any (Nat.beq p.2 ·))=true) (A:Tr m0 m)
  (q:∀i v s u,DX h s→DX s u→R i v s→R i v u)
  (hF:Ro P l.toArray b n m h R F)
  (step:AQ P l.toArray (Qx ex RR (W P ex RR cs N)) B n m h R 0 (l.take b) pss)
  (J:∀h',DX h h'→PA R h' (λfr=>LF P l.toArray (Qx ex RR (W P ex RR cs N)) (l.drop b) B h' n (fr++m)) fs []):WF P ex RR (.region id l.toArray true::cs) N B h n m0:=by
 intro a w C hw;subst G;simp only[qT,VI,Aa3,Abq,Abh] at hc;obtain⟨h0,⟨⟨⟨⟨⟨s,u⟩,h3⟩,h4⟩,h5⟩,h6⟩,h7⟩:=hc;have ac:b≤l.toArray.size:=Adl h0;have g:∀t,t∈List.range' b (l.toArray.size-b)↔b≤t∧t<l.toArray.size:=λt=>by rw[List.mem_range'_1];omega
 refine λrd K=>O2 K NM hm (Wi (R:=λ_=>R) (B:=B) (h0:=h) (n:=n) (m:=m) (List.range' b (l.toArray.size-b)) [] (λX i k=>by cases k) (λi k=>by cases k) (λt M=>((g t).1 M).2) u h6 F (h3.imp (λe=>List.isEmpty_iff.1 e) λx=>x) (JU h4) h5 h7 (λc a w hq=>hq) (λf C hA=>by cases hA) (λf C=>by
  obtain⟨D,y,o,d,Q,U,q4,q5,q6⟩:=hF.at_ f C;exact⟨⟨by omega,λh=>by have:=(g f).1 h;omega⟩,y,o,d,Q,U,q4,q5,λ_=>q6⟩) z (λi v s u _ _ o1 o2 _ _ r=>q i v s u o1 o2 r) (λi k=>by cases k) (λi o d k V hd=>?_) (λa w h' X g1 g2 Y gX g4 g5 g6=>?_) _ _ _ _ ?_ ⟨by simp,λj oj _ hl=>(by rw[getD_replicate_false] at hl;cases hl),λt M=>getD_in (by have:=((g t).1 M).2;simp at this ⊢;omega) (getD_replicate_false _ _)⟩ (λi=>getD_replicate_false _ _) hw.drew (C.sub A))
 ·have Z:i<l.toArray.size:=by
   rcases Abk i l.toArray.size with h|h
   ·exact h
   ·rw[Aee h] at V;cases V
  have aa:i<b:=by
   rcases Abk i b with h|h
   ·exact h
   ·exact absurd ((g i).2 ⟨h,Z⟩) k
  have ab:(l.take b)[i]? =some o:=by rw[Aci aa];simpa using V
  obtain⟨Q,D,y⟩:=AQ.at_ step H ab hd;rw[Abz] at y;exact⟨Q,D,y.x⟩
 ·obtain⟨fr,k1,k2⟩:=LT (a:=a) (n:=n) _ _ (J h' g2) (λp hp=>by
   have e:=Aa6.1 I p hp;simp only[Aa3] at e;have e1:p.1<b:=(by simpa [Nat.blt] using e.1:p.1+1≤b)
   obtain⟨d,v,D,y,U⟩:=g4 p.1 (by omega) (λh=>by have:=(g p.1).1 h;omega);have e2:=e.2;rw[D] at e2;have:p.2=d:=Aa8 (by simpa using e2);exact⟨v,by rw[this];exact y,U⟩) ⟨Y.dfr,Y.siz,λi v k=>by simp [lk] at k⟩
  rw[show (List.range' b (l.toArray.size-b)).filterMap (λt=>l.toArray[t]?)=l.drop b from by
   simp only[List.getElem?_toArray,Adp];exact YW l _ b rfl]
  exact k1 a w (k2.append Y) g1
 ·unfold T8;rw[Aek];simp
def Ms {l:List Oper}{id:Nat}(a:Nat) (R:AR) (pss:List (List (Nat×Nat))) (g:List (Nat×Nat)) (u:P.follows .mixedOrders=true) (w:qT l.toArray a []=true) (ms:List Nat) (j:m.map (·.1)=ms) (c:TF l.toArray (List.range' a (l.toArray.size-a)) n ms=true)
  (k:XG l.toArray (l.take a) pss=true) (o:(g.all λp=>Nat.blt p.1 a&&(G9 l.toArray p.1).any (Nat.beq p.2 ·))=true) (d:Tr m0 m)
  (b:∀i v q t,DX h q→DX q t→R i v q→R i v t)
  (step:AQ P l.toArray (Qx ex RR (W P ex RR cs N)) B n m h R 0 (l.take a) pss)
  (s:∀h',DX h h'→PA R h' (λfr=>LF P l.toArray (Qx ex RR (W P ex RR cs N)) (l.drop a) B h' n (fr++m)) g []):WF P ex RR (.region id l.toArray true::cs) N B h n m0:=Tb a [] R pss g u w ms j c k o d b trivial step s
end
section
variable {P:Program}
end
section
variable {P:Program}{ops:Array Oper}{C:World→Prop}{Q:Act→Prop}{n:FN}{m:SM}{rest:List Oper}{d:Nat}{ty:TypeId}{pos:String}{af:Array Edge}{X Y:Operand}{t2:TypeId}
end
section
variable {P:Program}{ex:List (Nat×AP)}{RR N:AP}{cs:List Code}{B:World}{h:AV}{n:FN}{m m0:SM}
end
abbrev vI (n:Int):Value:= .int .i64 n
abbrev vP (b o:Nat):Value:= .pointer (some ⟨b,o,none⟩)
abbrev vN:Value:= .slice none 0 0
section
variable {P:Program}{ops:Array Oper}{C:World→Prop}{Q:Act→Prop}{n:FN}{m m':SM}{rest:List Oper}
variable {d:Nat}{ty:TypeId}{pos:String}{af:Array Edge}{X Y:Operand}{t t1 t2:TypeId}{x y:Int}{kd:IntKind}{v p:Value}
def BP (e:(BR m X,Nat.blt d n.1)=(some v,true)) (k:QF P ops C Q rest n ((d,v)::m)):QF P ops C Q (⟨some d,.move X,ty,pos,af,none⟩::rest) n m:=
 LE (Aaz (λz=>z.1) e) (Aaz (λz=>z.2) e) k
def Kg (e:(BR m X,Nat.blt d n.1)=(some v,true)) (k:QF P ops C Q rest n ((d,v)::m)):QF P ops C Q (⟨some d,.assign X,ty,pos,af,none⟩::rest) n m:=
 Mw (Aaz (λz=>z.1) e) (Aaz (λz=>z.2) e) k
def Pk {b}(e:(BR m X,Nat.blt d n.1)=(some (.bool b),true)) (k:QF P ops C Q rest n ((d,.bool (!b))::m)):QF P ops C Q (⟨some d,.unOp .not t1 X,ty,pos,af,none⟩::rest) n m:=
 gJ (Aaz (λz=>z.1) e) (Aaz (λz=>z.2) e) k
def BZ {o:Oper}{j e:Nat}{b:Bool}(e:(o.guard,(ops[j]?).bind (·.dst),lk m e)=(some (j,b),some e,some (.bool b))) (k:QF P ops C Q ({ o with guard:=none}::rest) n m):QF P ops C Q (o::rest) n m:=
 Yy (Aaz (λz=>z.1) e) (Aaz (λz=>z.2.1) e) (Aaz (λz=>z.2.2) e) k
def El {c X Y:Operand}{b:Bool}(e:(BR m c,BR m (if b then X else Y),Nat.blt d n.1)=(some (.bool b),some v,true)) (k:QF P ops C Q rest n ((d,v)::m)):QF P ops C Q (⟨some d,.pick c X Y,ty,pos,af,none⟩::rest) n m:=
 Q8 (Aaz (λz=>z.1) e) (Aaz (λz=>z.2.1) e) (Aaz (λz=>z.2.2) e) k
def K4 (e:(BR m X,BR m Y,Nat.blt d n.1)=(some (.int kd x),some (.int kd y),true)) (k:QF P ops C Q rest n ((d,.bool (decide (x<y)))::m)):QF P ops C Q (⟨some d,.binOp .lss t1 X Y t2,ty,pos,af,none⟩::rest) n m:=
 gO (Aaz (λz=>z.1) e) (Aaz (λz=>z.2.1) e) (Aaz (λz=>z.2.2) e) k
def lJ (e:(BR m X,BR m Y,Nat.blt d n.1)=(some (.int kd x),some (.int kd y),true)) (k:QF P ops C Q rest n ((d,.bool (decide (x≤y)))::m)):QF P ops C Q (⟨some d,.binOp .leq t1 X Y t2,ty,pos,af,none⟩::rest) n m:=
 gP (Aaz (λz=>z.1) e) (Aaz (λz=>z.2.1) e) (Aaz (λz=>z.2.2) e) k
def JH (e:(BR m X,BR m Y,Nat.blt d n.1)=(some (.int kd x),some (.int kd y),true)) (k:QF P ops C Q rest n ((d,.bool (decide (y<x)))::m)):QF P ops C Q (⟨some d,.binOp .gtr t1 X Y t2,ty,pos,af,none⟩::rest) n m:=
 gT (Aaz (λz=>z.1) e) (Aaz (λz=>z.2.1) e) (Aaz (λz=>z.2.2) e) k
def RC (e:(BR m X,BR m Y,Nat.blt d n.1)=(some (.int kd x),some (.int kd y),true)) (k:QF P ops C Q rest n ((d,.bool (decide (x=y)))::m)):QF P ops C Q (⟨some d,.binOp .eql t1 X Y t2,ty,pos,af,none⟩::rest) n m:=
 gW (Aaz (λz=>z.1) e) (Aaz (λz=>z.2.1) e) (Aaz (λz=>z.2.2) e) k
def Sc (e:(BR m X,BR m Y,Nat.blt d n.1)=(some (.int kd x),some (.int kd y),true)) (k:QF P ops C Q rest n ((d,.bool (decide (x≠y)))::m)):QF P ops C Q (⟨some d,.binOp .neq t1 X Y t2,ty,pos,af,none⟩::rest) n m:=
 gN (Aaz (λz=>z.1) e) (Aaz (λz=>z.2.1) e) (Aaz (λz=>z.2.2) e) k
def Mx (e:(BR m X,BR m Y,Nat.blt d n.1)=(some (.int .i64 x),some (.int .i64 y),true)) (k:QF P ops C Q rest n ((d,.int .i64 (BC (x+y)))::m)):QF P ops C Q (⟨some d,.binOp .add t1 X Y t2,ty,pos,af,none⟩::rest) n m:=
 Y5 (Aaz (λz=>z.1) e) (Aaz (λz=>z.2.1) e) (Aaz (λz=>z.2.2) e) k
def PT (e:(BR m X,BR m Y,Nat.blt d n.1)=(some (.int .i64 x),some (.int .i64 y),true)) (k:QF P ops C Q rest n ((d,.int .i64 (BC (x-y)))::m)):QF P ops C Q (⟨some d,.binOp .sub t1 X Y t2,ty,pos,af,none⟩::rest) n m:=
 Yv (Aaz (λz=>z.1) e) (Aaz (λz=>z.2.1) e) (Aaz (λz=>z.2.2) e) k
def Yz {xs:Array Value}{i:Nat}{u:Value}(e:(BR m X,xs[i]?,Nat.blt d n.1)=(some (.tuple xs),some u,true)) (k:QF P ops C Q rest n ((d,u)::m)):QF P ops C Q (⟨some d,.extract X i,ty,pos,af,none⟩::rest) n m:=
 gU (Aaz (λz=>z.1) e) (Aaz (λz=>z.2.1) e) (Aaz (λz=>z.2.2) e) k
end
section
variable {P:Program}{ex:List (Nat×AP)}{R N:AP}{cs:List Code}{B:World}{h:AV}{n:FN}{m m':SM}
def DZ {l:List Oper}{id:Nat}{y:Code}(k:QF P l.toArray (Wd B h) (λa=>∀w,Wd B h w→W P ex R (y::cs) N a w) l n m):WF P ex R (.seq (.region id l.toArray false) y::cs) N B h n m:=C9 (JO (.inl rfl) k)
def WF.sl {l:List Oper}{id:Nat}{y:Code}(k:LF P l.toArray (Qx ex R (W P ex R (y::cs) N)) l B h n m):WF P ex R (.seq (.region id l.toArray false) y::cs) N B h n m:=C9 (Bv k)
def Dr {ops:Array Oper}{C:World→Prop}{d:Nat}{ty:TypeId}{pos:String}{af:Array Edge}{X:Operand}{v:Value}(e:(BR m X,Nat.blt d n.1)=(some v,true)) (b:Tr ((d,v)::m) m') (k:WF P ex R cs N B h n m'):QF P ops C (λa=>∀w,Wd B h w→W P ex R cs N a w) [⟨some d,.assign X,ty,pos,af,none⟩] n m:=Kg e (E7 b k)
def AH {ex:List (Nat×AP)}{R N:AP}{m:SM}{b:Bool}{k:Type}{a d r:k}{X:Operand}{x y:Code}(g:BR m X=some (.bool b)) (E:cond b a d=r) (i:b=true→a=r→WF P ex R (x::cs) N B h n m) (j:b=false→d=r→WF P ex R (y::cs) N B h n m):WF P ex R (.cond X x y::cs) N B h n m:=QV g (λc=>i c (G2 c E)) (λc=>j c (G3 c E))
end
end Go.Proofs.YtedgiljmffngoaaGreat
