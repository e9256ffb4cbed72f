import Derived.Test.YtedgiljmffngoaaGreatPCore10
namespace Go.Proofs.YtedgiljmffngoaaGreat
set_option linter.all false
open Go.RowKit
abbrev AR:=Nat→Value→AS→Prop
def HA (ops:Array Oper) (i:Nat):Option Nat:=(ops[i]?).bind (·.dst)
def Ma (o:Oper):List Nat:=(o.after.toList.filter (Region.binds .any)).map (·.on)
def KS (B:World) (n:FN) (d:Nat) (R:Value→AS→Prop) (h:AS) (m:SM):Act→World→Prop:=λa w=>
 ∃v h',Fr n a ((d,v)::m)∧Wd B h' w∧DT h h'∧R v h'
def PA (R:AR) (h:AS) (K:SM→Prop):List (Nat×Nat)→SM→Prop
 |[],fr=>K fr
 |(j,d)::a,fr=>∀u,R j u h→PA R h K a ((d,u)::fr)
def yb:Value→Option Bool
 | .bool b=>some b
 |_=>none
def Ud (P:Program) (ops:Array Oper) (Q:Exit→Act→World→Prop) (B:World) (n:FN) (m:SM) (h0:AS) (R:AR) (i:Nat) (o:Oper) (d:Nat) (ps:List (Nat×Nat)):Prop:=
 ∀mt h,DT h0 h→PA R h (λfr=>match o.guard with
  |none=>LF P ops (Exit.then (KS B n d (R i) h (fr++(m++mt))) Q) [o] B h n (fr++(m++mt))
  |some (g,b)=>∃a,HA ops g=some a∧((lk fr a=some (.bool b)∧LF P ops (Exit.then (KS B n d (R i) h (fr++(m++mt))) Q) [{ o with guard:=none}] B h n (fr++(m++mt)))∨∃v,lk fr a=some v∧yb v≠some b∧R i undef h)) ps []
def TE (ops:Array Oper) (o:Oper) (ps:List (Nat×Nat)):Bool:=ps.all λp=>(Ma o).contains p.1&&(HA ops p.1).any (Nat.beq p.2 ·)
def MN {m mt:SM}{i:Nat}:lk (m++mt) i=(lk m i).or (lk mt i):=by
 induction m with
 |nil=>simp [lk]
 |cons e r a=>
  obtain⟨j,v⟩:=e;simp only[Aa4,lk];cases Nat.beq j i with
  |true=>simp
  |false=>simpa using a
def Fr.append {n a m mt}(c:Fr n a m) (g:Fr n a mt):Fr n a (m++mt):=⟨c.dfr,c.siz,λi v b=>by
 rw[MN] at b;cases d:lk m i with
 |some u=>rw[d] at b;simp at b;subst b;exact c.at_ i _ d
 |none=>rw[d] at b;simp at b;exact g.at_ i v b⟩
def LB (a:Act):SM:=(List.range a.tmps.size).map λi=>(i,a.tmps.getD i undef)
def R0 (f:Nat→Value):∀(k s i:Nat),s≤i→i<s+k→lk ((List.range' s k).map λi=>(i,f i)) i=some (f i)
 |0,s,i,a,b=>by omega
 |k+1,s,i,a,b=>by
  simp only[List.range'_succ,Aaz,lk];by_cases e:s=i
  ·subst e;simp
  ·have:Nat.beq s i=false:=by
    cases c:Nat.beq s i with
    |false=>rfl
    |true=>exact absurd (Aah c) e
   rw[this];exact R0 f k (s+1) i (by omega) (by omega)
def U1 {a:Act}{i:Nat}(h:i<a.tmps.size):lk (LB a) i=some (a.tmps.getD i undef):=by
 unfold LB;rw[List.range_eq_range'];exact R0 _ _ 0 i (by omega) (by omega)
def Rz (f:Nat→Value):∀(k s i:Nat),s+k≤i→lk ((List.range' s k).map λi=>(i,f i)) i=none
 |0,s,i,h=>rfl
 |k+1,s,i,h=>by
  simp only[List.range'_succ,Aaz,lk];have:Nat.beq s i=false:=by
   cases a:Nat.beq s i with
   |false=>rfl
   |true=>exact absurd (Aah a) (by omega)
  rw[this];exact Rz f k (s+1) i (by omega)
def Fr.full {n a m}(h:Fr n a m):Fr n a (LB a):=⟨h.dfr,h.siz,λi v b=>by
 by_cases c:i<a.tmps.size
 ·rw[U1 c] at b;injection b with b
  subst b;simp [Ab1,Acq c]
 ·unfold LB at b;rw[List.range_eq_range',Rz _ _ 0 i (by omega)] at b;cases b⟩
section
variable {P:Program}{ops:Array Oper}{Q:Exit→Act→World→Prop}{a:Act}{w:World}
def LG {o:Oper}{K:Act→World→Prop}(l:o.guard=none) (h:wpList P ops (Exit.then K Q) [o] a w):o.wp P a w K Q∨(o.asks P a w∧LetsOut Q):=by
 unfold wpList at h;rw[Aab (by simp [Region.wanted,l])] at h;rcases h with b|⟨b,g,i,h2⟩
 ·refine .inl ?_;unfold Oper.wp at b ⊢;generalize (execOp a.eval o).run P w=r at b
  cases r with
  |ok m w'=>
   cases m<;>simp only[Oper.upon] at b ⊢
   case value v=>exact b
   case skip=>exact b
   case defer d=>exact b
   case enter f args=>
    refine b.mono λe j k=>?_;cases e with
    |returned v=>exact k
    |panicked c=>exact k
    |outgrown=>obtain⟨g,i,h0⟩:=k;exact⟨g,i,h0⟩
   case row r args=>obtain b:=b;exact Rows.mono b λv j n=>n
  |halt x w'=>cases x<;>simp only[Oper.upon] at b ⊢;exact b
 ·exact .inr ⟨b,g,i,h2⟩
def Se {o:Oper}{K:Act→World→Prop}(h:({ o with guard:=none}:Oper).wp P a w K Q∨(({ o with guard:=none}:Oper).asks P a w∧LetsOut Q)):o.wp P a w K Q∨(o.asks P a w∧LetsOut Q):=h
def T5 (a:Array Bool):Nat:=a.toList.count false
def MB {a:Array Bool}{i:Nat}(h:a.getD i true=false):T5 (a.setIfInBounds i true)+1=T5 a:=by
 have b:i<a.size:=by
  rcases Aar i a.size with h'|h'
  ·exact h'
  ·simp [Adm h'] at h
 have c:a[i]=false:=by simpa [b] using h
 have g:false∈a.toList:=by rw[←c];simp
 have d:0<a.toList.count false:=List.count_pos_iff.2 g;unfold T5;rw[Array.toList_setIfInBounds,List.count_set (by simpa using b)];have j:a.toList[i]'(by simpa using b)=false:=by simpa using c
 rw[j];rw[show (if (false==false)=true then 1 else 0:Nat)=1 from rfl,show(if (true==false)=true then 1 else 0:Nat)=0 from rfl];omega
def Vj {a:Array Bool}(h:T5 a=0) {i:Nat}:a.getD i true=true:=by
 cases b:a.getD i true with
 |true=>rfl
 |false=>have:=MB b;omega
def ZK {a:Array Bool}(h:∀i,i<ops.size→a.getD i true=true):Region.ready .any ops a=[]:=by
 apply List.eq_nil_iff_forall_not_mem.2;intro j c;obtain⟨b,o,d,_⟩:=mem_ready.1 c;rw[h j (Abb.1 d).1] at b;cases b
def M7 {a:Array Bool}(n:PI ops=true) (w:a.size=ops.size) {k:Nat}(x:k<ops.size) (o:a.getD k true=false):∃i,i≤k∧i∈Region.ready .any ops a∧∀j,j<i→a.getD j true=true:=by
 obtain⟨i,q,s,g⟩:=MF (p:=λi=>a.getD i true) k o;have b:i<ops.size:=by omega
 refine⟨i,q,mem_ready.2 ⟨s,ops[i],by simp [b],λe t c=>?_⟩,g⟩;have d:=Aaf.1 n i (Abe.2 b);have u:ops[i]? =some ops[i]:=by simp [b]
 rw[u] at d;simp only[Acx,Abu,Acy] at d;have l:=d e t;simp only[c,Abo,Aci,Aam] at l;have m:=g e.on l;have v:e.on<a.size:=by omega
 simp only[Ab1,Acq v,Abu] at m ⊢;exact m
def Fr.same {n:FN}{a b:Act}{d:Nat}{v:Value}{l k:SM}(hd:d<n.1) (h:Fr n a l) (h':Fr n b ((d,v)::k)) (m:∀i u,i≠d→a.tmps[i]? =some u→lk ((d,v)::k) i=some u):b=a.put (some d) v:=by
 obtain⟨t,o⟩:=a;obtain⟨t',c⟩:=b;have p:o=n.2:=h.dfr;have q:c=n.2:=h'.dfr;subst p;subst q;have w:t.size=n.1:=h.siz;have x:t'.size=n.1:=h'.siz;simp only[Act.put,Act.mk.injEq,and_true];apply Array.ext_getElem?;intro i;rw[Abw];by_cases e:d=i
 ·subst e;rw[Aab rfl,Aab (by omega)];exact h'.at_ d v (by simp [lk])
 ·rw[zY e];cases g:t[i]? with
  |some u=>exact h'.at_ i u (m i u (λs=>e s.symm) g)
  |none=>
   have:t.size≤i:=by
    rcases Aar i t.size with j|j
    ·rw[Acq j] at g;cases g
    ·exact j
   exact Adm (by omega)
def LR {R:AR}{h:AS}{K:SM→Prop}{n:FN}:∀(k:List (Nat×Nat)) (fr:SM),PA R h K k fr→(∀p∈k,∃v,a.tmps[p.2]? =some v∧R p.1 v h)→Fr n a fr→∃c,K c∧Fr n a c
 |[],fr,l,_,g=>⟨fr,l,g⟩
 |(j,d)::k,fr,l,q,g=>by
  obtain⟨v,s,t⟩:=q (j,d) (by simp);refine LR k _ (l v t) (λw m=>q w (by simp [m])) ⟨g.dfr,g.siz,λi u b=>?_⟩;simp only[lk] at b;cases o:Nat.beq d i with
  |true=>
   rw[o] at b;simp only[zV,Abd] at b;have:=Aah o;subst this;subst b;exact s
  |false=>rw[o] at b;simp only[zX] at b;exact g.at_ i u b
def cO {m:SM}{i:Nat}{v:Value}(h:lk m i=some v):i∈m.map (·.1):=by
 induction m with
 |nil=>simp [lk] at h
 |cons e r b=>
  obtain⟨j,u⟩:=e;simp only[lk] at h;cases a:Nat.beq j i with
  |true=>have:=Aah a;subst this;simp
  |false=>rw[a] at h;simp only[zX] at h;simp [b h]
def QZ {n:FN}{fr:SM}{g d:Nat}(c:Fr n a fr) {v:Value}(b:HA ops g=some d) (i:lk fr d=some v):yielded ops a.tmps g=yb v:=by
 have j:=c.at_ d v i;unfold yielded;unfold HA at b;simp only[b,zU,j];cases v<;>rfl
def AV (P:Program) (ops:Array Oper) (Q:Exit→Act→World→Prop) (B:World) (n:FN) (m:SM) (h0:AS) (R:AR):Nat→List Oper→List (List (Nat×Nat))→Prop
 |i,o::l,ps::pss=>(match o.dst with|some d=>Ud P ops Q B n m h0 R i o d ps|none=>False)∧AV P ops Q B n m h0 R (i+1) l pss
 |_,_,_=>True
def W7 (ops:Array Oper) (l:List Oper) (pss:List (List (Nat×Nat))):Bool:=Nat.beq l.length pss.length&&(l.zip pss).all λp=>TE ops p.1 p.2
def AV.at_ {B:World}{n:FN}{m:SM}{h0:AS}{R:AR}:∀{l:List Oper}{pss:List (List (Nat×Nat))}{k i:Nat}{o:Oper}{d:Nat},AV P ops Q B n m h0 R k l pss→W7 ops l pss=true→l[i]? =some o→o.dst=some d→∃ps,TE ops o ps=true∧Ud P ops Q B n m h0 R (k+i) o d ps
 |[],_,_,_,_,_,_,_,h,_=>by simp at h
 |_::_,[],_,_,_,_,_,a,_,_=>by simp [W7] at a
 |g::l,ps::pss,k,0,o,d,b,a,c,hd=>by
  simp only[Acg,Abd] at c;subst c;simp only[AV,hd] at b;simp only[W7,List.zip_cons_cons,List.all_cons,Aaa] at a;exact⟨ps,a.2.1,b.1⟩
 |g::l,ps::pss,k,i+1,o,d,b,a,c,hd=>by
  simp only[Acc] at c;simp only[AV] at b;simp only[W7,List.zip_cons_cons,List.all_cons,Aaa,Abm] at a;have:=AV.at_ (l:=l) (pss:=pss) (k:=k+1) (i:=i) b.2 (by simp only[W7,Aaa];exact⟨by have:=a.1;simpa using this,a.2.2⟩) c hd;rw[show k+(i+1)=k+1+i by omega];exact this
end
def AV.cons {P:Program}{ops:Array Oper}{Q:Exit→Act→World→Prop}{B:World}{n:FN}{m:SM}{h0:AS}{R:AR}{i:Nat}{o:Oper}{l:List Oper}{ps:List (Nat×Nat)}{pss:List (List (Nat×Nat))}{d:Nat}(hd:o.dst=some d) (h:Ud P ops Q B n m h0 R i o d ps) (t:AV P ops Q B n m h0 R (i+1) l pss):AV P ops Q B n m h0 R i (o::l) (ps::pss):=by
 simp only[AV,hd];exact⟨h,t⟩
def SN (S:Nat→Prop) (h0 h:AS):Nat→Prop:=λb=>S b∨(h0.size≤b∧b<h.size)
def SN.mono {S h0 h h'}(d:∀b,S b→b<h0.size) (g:DT h0 h) (a:DT h h'):CG (SN S h0 h) h (SN S h0 h') h':=
 ⟨λb c=>c.imp_right λx=>⟨x.1,Aak x.2 a.siz⟩,λb c=>a.same b (c.elim (λx=>Aak (d b x) g.siz) (·.2)),a.siz⟩
def SN.st {S L h0 h}(c:St S L h0) (o:DT h0 h):St (SN S h0 h) L h:=by
 refine⟨λb a=>a.elim (λx=>Aak (c.1 b x) o.siz) (·.2),?_⟩;refine Sp.ext c.2 (λb x=> .inl x) (λb a=>o.same b (a.elim (c.1 b) (·.1))) λb a=>⟨Aak a.1 o.siz,λx=>x.elim a.2 λy=>by omega⟩
def SN.ext {S h0 h}(a:∀b,S b→b<h0.size) (o:DT h0 h):CG S h0 (SN S h0 h) h:=⟨λ_ x=> .inl x,λb c=>o.same b (a b c),o.siz⟩
section
variable {P:Program}{ex:List (Nat×AP)}{RR N:AP}{cs:List Code}{B:World}{h:AS}{n:FN}{m m0:SM}{S:Nat→Prop}{L:List HP}
end
def BB {P:Program}{ops:Array Oper}{Q:Exit→Act→World→Prop}{B:World}{n:FN}{d:Nat}{R:Value→AS→Prop}{h h':AS}{m:SM}{v:Value}(o:DT h h') (r:R v h'):LF P ops (Exit.then (KS B n d R h m) Q) [] B h' n ((d,v)::m):=
 λ_ _ a b=>⟨v,h',a,b,o,r⟩
def Fz (a:Nat→Prop) (h:AS):HP where
 holds:=λ_ F h'=>(∀b,F b↔a b)∧∀b,a b→h'[b]? =h[b]?
 loc:=λ⟨c,g⟩ _ e=>⟨c,λb d=>(e b (.inr ((c b).2 d))).trans (g b d)⟩
def wV (S:Nat→Prop) (h:AS):HP:=Fz (λb=>b<h.size∧¬S b) h
def St.fz {S L h}(a:St S L h):St S [wV S h] h:=⟨a.1,_,⟨λ_=>Abx,λ_ _=>rfl⟩,λb c=>c,trivial⟩
def Fz.done {S S2:Nat→Prop}{h0 h a:AS}(o:DT h0 h) (e:CG (SN S h0 h) h S2 a) (d:St S2 [wV (SN S h0 h) h] a):DT h a∧CG S2 a (SN S h0 a) a:=by
 obtain⟨F,⟨j,k⟩,l,_⟩:=d.2;refine⟨⟨e.siz,λb c=>?_⟩,λb c=>?_,λ_ _=>rfl,Aal _⟩
 ·rcases Classical.em (SN S h0 h b) with g|g
  ·exact e.same b g
  ·exact k b ⟨c,g⟩
 ·rcases Aar b h.size with g|g
  ·rcases Classical.em (SN S h0 h b) with i|i
   ·exact i.imp_right λx=>⟨x.1,d.1 b c⟩
   ·exact absurd c (l b ((j b).2 ⟨g,i⟩)).2
  ·exact .inr ⟨Abk o.siz g,d.1 b c⟩
def ZH (sz:Nat):Nat→List (Nat×Value)→Bool
 |_,[]=>true
 |k,(i,v)::r=>Nat.beq i k&&Nat.beq v.cells.toList.length sz&&ZH sz (k+1) r
def UR {sz len:Nat}:∀(pv:List (Nat×Value)) (k:Nat) (pre a:List Value),ZH sz k pv=true→pre.length=k*sz→a.length=pv.length*sz→k+pv.length≤len→
  NB (Uu sz len) (pre++a) pv=some (pre++(pv.map λp=>p.2.cells.toList).flatten)
 |[],k,pre,a,_,_,c,_=>by
  have:a=[]:=Adc (by simpa using c);subst this;simp [NB]
 |(i,v)::r,k,pre,a,h0,m,c,g=>by
  simp only[ZH,Aaa] at h0;obtain⟨⟨d,j⟩,n⟩:=h0;have d:=Aah d;subst d;have l:=Aah j;simp only[Abm,Ab2] at c;have o:i<len:=by simp at g;omega
  have q:(Uu sz len)[i]? =some (i*sz,sz):=by simp [Uu,o]
  simp only[NB,q];have s:(Nat.beq v.cells.toList.length sz&&Nat.ble (i*sz+sz) (pre++a).length)=true:=by
   rw[j,Ack];exact Nat.ble_eq_true_of_le (by rw[Aas];omega)
  rw[s];simp only[zV];have b:IZ (pre++a) (i*sz) v.cells.toList=(pre++v.cells.toList)++a.drop sz:=by
   unfold IZ;rw[←m,Acu,←List.drop_drop,List.drop_left,l]
  rw[b,UR r (i+1) (pre++v.cells.toList) (a.drop sz) n (by rw[Aas,l,Ab2];omega) (by rw[Acb];omega) (by simp at g;omega)];simp
def Xp {sz:Nat}:∀(pv:List (Nat×Value)) (k:Nat),ZH sz k pv=true→∀p∈pv,p.1<k+pv.length
 |[],_,_,p,a=>by cases a
 |(i,v)::r,k,h0,p,a=>by
  simp only[ZH,Aaa] at h0;obtain⟨⟨b,d⟩,c⟩:=h0;have b:=Aah b;rcases Aae.1 a with h|h
  ·subst h;simp;omega
  ·have:=Xp r (k+1) c p h;simp;omega
def Ez {P:Program}{ops:Array Oper}{Q:Exit→Act→World→Prop}{n:FN}{m:SM}{c:List Oper}{d:Nat}{ty:TypeId}{g:String}{v:Array Edge}{B:World}{h:AS}{S:Nat→Prop}{L:List HP}
  {T e sz j len:Nat} {z cs:List Value} {a:Array (Nat×Operand)} {pv:List (Nat×Value)} (t:OR P T=some (e,sz,j,z)) (l:a.toList.mapM (iJ m)=some pv)
  (u:ZH sz 0 pv=true) (o:Nat.beq pv.length len=true) (w:(pv.map λp=>p.2.cells.toList).flatten=cs) (q:Nat.blt 0 len=true) (s:Nat.ble (len*sz) 16777216=true) (hd:Nat.blt d n.1=true) (x:St S L h)
  (k:∀b h',St S (Bx b e cs::L) h'→CG S h S h'→LF P ops Q c B h' n ((d,.slice (some ⟨b,0,none⟩) len len)::m)):LF P ops Q (⟨some d,.buildSlice T len a,ty,g,v,none⟩::c) B h n m:=by
 have o:=Aah o;subst o;obtain⟨i,A,_,_,_,_,_,_,y,_⟩:=Kz t;refine mT t l (cs:=cs) ?_ q s (λp l=>by have:=Xp pv 0 u p l;omega) hd x k;have:=UR (len:=pv.length) pv 0 [] (List.replicate pv.length z).flatten u (by simp) (by simp [y]) (by omega);rw[Aav,Aav,w] at this;exact this
def tF {α}(S:Nat→Prop) (h:AS) (r:A6 α) (s:Value) (xs:List α):Prop:=
 (s= .slice none 0 0∧xs=[])∨∃(b:Addr) (sc:Nat) (a:List Value),s= .slice (some b) xs.length sc∧xs.length≤maxLen∧LQ S h r a xs∧∀j u,a[j]? =some u→IQ h (b.add j)=some u
def UF {α}{S:Nat→Prop}{h:AS}{r:A6 α}(b:Nat):∀(l:List α) (o:Nat),(∀i x,l[i]? =some x→Pt S h r (.pointer (some ⟨b,o+i*r.sz,none⟩)) x)→∃c,LQ S h r c l∧∀j u,c[j]? =some u→IQ h ⟨b,o+j,none⟩=some u
 |[],_,_=>⟨[],rfl,λj u d=>by simp at d⟩
 |x::l,o,k=>by
  obtain⟨cs,⟨a,p,_,w,q⟩,n⟩:=k 0 x rfl;obtain⟨c,s,t⟩:=UF b l (o+r.sz) λi y v=>by
   have:=k (i+1) y (by simpa using v);rwa [Ab2,Nat.add_comm (i*r.sz),←Ac2] at this
  have z:=r.len n;refine⟨cs++c,⟨cs,c,rfl,n,s⟩,λj u d=>?_⟩;have m:a=⟨b,o,none⟩:=by simpa using p.symm
  subst m;by_cases g:j<cs.length
  ·rw[Ad1 g] at d;rw[←d];exact q j g
  ·rw[Ad2 (by omega)] at d;have:=t _ u d;rw[show o+r.sz+(j-cs.length)=o+j by omega] at this;exact this
def Sl.src {α}{S:Nat→Prop}{h:AS}{r:A6 α}{s:Value}{xs:List α}(k:Sl S h r s xs):tF S h r s xs:=by
 rcases k with k|⟨a,cap,h1,h4,h5,h6⟩
 ·exact .inl k
 ·cases xs with
  |nil=>exact .inr ⟨a,cap,[],h1,Aad _,rfl,λj u l=>by simp at l⟩
  |cons x xs=>
   have c:=(h6 0 x rfl).1;obtain⟨b,o,s⟩:=a;simp only at c;subst c;obtain⟨d,m,n⟩:=UF b (x::xs) o λi y p=>(h6 i y p).2;refine .inr ⟨_,cap,d,h1,Abk h4 h5,m,λj u l=>?_⟩;have g:(⟨b,o,none⟩:Addr).add j=⟨b,o+j,none⟩:=by unfold Addr.add;split<;>simp_all
   rw[g];exact n j u l
def St.src {α}{S:Nat→Prop}{h:AS}{r:A6 α}{T:Nat}{s:Value}{xs:List α}{L:List HP}(l:St S L h) (m:OS r T s xs∈L):tF S h r s xs:=by
 obtain⟨F,k,n⟩:=l.get m;rcases k with ⟨⟨d,c⟩,k2,_⟩|⟨g,cap,cur,c,k2,k3,k4,k5,k6,k7⟩
 ·subst k2;cases d with
  |none=>exact .inl ⟨c,rfl⟩
  |some d=>exact .inr ⟨d,0,[],c,Aad _,rfl,λj u a=>by simp at a⟩
 ·refine .inr ⟨_,cap,_,c,Abk k4 k5,k7,λj u a=>?_⟩;have b:(⟨g,0,none⟩:Addr).add j=⟨g,j,none⟩:=by unfold Addr.add;split<;>simp_all
  have i:=(Aai.1 a).1;simp only[Abl] at i;rw[Abr (by omega)] at a;rw[b];simp only[IQ,k3,Ac4,Ab4,Ab5];simpa using a
section
variable {P:Program}{ops:Array Oper}{Q:Exit→Act→World→Prop}{n:FN}{m:SM}{rest:List Oper}
variable {d:Nat}{ty:TypeId}{pos:String}{af:Array Edge}{X Y:Operand}{B w:World}{h:AS}{S:Nat→Prop}{L L2:List HP}{v:Value}
def V0 {α}{r:A6 α}{T ty e sz a:Nat}{z:List Value}{v s:Value}{l xs:List α}{F:Nat→Prop}(p:OR P T=some (e,sz,a,z)) (j:r.sz=sz)
  (c:tF S h r s xs) (m:l.length+xs.length≤maxLen) (n:Jh (l.length+xs.length) a) (q:Wd B h w) (k:(OS r e v l).holds S F h) (y:∀b,S b→b<h.size∧¬F b):
  ∃t w' h' u,(Builtin.append_ #[T,T] ty #[v,s]).run P w= .ok t w'∧Wd B h' w'∧h.size≤h'.size∧(OS r e t (l++xs)).holds S u h'∧(∀b,u b→F b∨(h.size≤b∧b<h'.size))∧∀b,b<h.size→¬F b→h'[b]? =h[b]? :=by
 rcases c with ⟨rfl,rfl⟩|⟨sd,sc,news,d,_,hn,hc⟩
 ·obtain⟨i,D,d,x,G,H,I,J,K,M⟩:=Kz p;rw[Aa3];refine⟨v,w,h,F,?_,q,Aal _,k,λb A=> .inl A,λ_ _ _=>rfl⟩;rcases k with ⟨⟨C,rfl⟩,rfl,hF⟩|⟨g,cap,cur,rfl,hF,hg,hlc,hcm,hcs,hrd⟩
  ·cases C<;>simp [Builtin.append_,run_underlying d,sizeOf,typeInfo,x,Builtin.lenOf,Builtin.firstCells,loadCells,loadCellsFrom,storeCells]
  ·have o:l.length≤cap:=hlc;simp [Builtin.append_,run_underlying d,sizeOf,typeInfo,x,Builtin.lenOf,Builtin.firstCells,loadCells,loadCellsFrom,storeCells,o]
 ·exact Un p j d hn hc m n q k y
def oV {α}{r:A6 α}{T e sz y:Nat}{z:List Value}{v s:Value}{l xs:List α}{LL:Value→List HP}{a:Act}(g:Fr n a m) (hx:BV m X=some v) (hy:BV m Y=some s) (he:OR P T=some (e,sz,y,z)) (A:r.sz=sz)
  (t:tF S h r s xs) (C:l.length+xs.length≤maxLen) (D:Jh (l.length+xs.length) y) (hd:Nat.blt d n.1=true) (hw:Wd B h w) (u:St S L h) (rp:∀i,Mo L (OS r e v l) (OS r e i (l++xs)) (LL i))
  (k:∀i a w h',Fr n a ((d,i)::m)→Wd B h' w→St S (LL i) h'→CG S h S h'→wpList P ops Q rest a w):
  wpList P ops Q (⟨some d,.call ⟨.builtin .append,#[X,Y],#[T,T]⟩,ty,pos,af,none⟩::rest) a w:=by
 refine wpList_plain rfl λK hK=>?_;unfold Oper.wp;obtain⟨M,p,_⟩:=(rp v).pick;obtain⟨F,g1,g2,_⟩:=Sp.pick p u.2;obtain⟨i,w',h',F',e1,e2,e3,e4,e5,e6⟩:=V0 (ty:=ty) he A t C D hw g1 λb c=>⟨u.1 b c,λg=>(g2 b g).2 c⟩
 have H:(execOp a.eval ⟨some d,.call ⟨.builtin .append,#[X,Y],#[T,T]⟩,ty,pos,af,none⟩).run P w= .ok (.value i) w':=by
  simp [execOp,resolve,invoke,builtin,g.eval hx,g.eval hy,e1]
 rw[H];obtain⟨M,p,q⟩:=(rp i).pick;have I:St S (LL i) h'∧CG S h S h':=by
  obtain⟨G,aa,j,ab⟩:=Sp.pick p u.2;obtain⟨ai,aj,J,ac,U,ad,o,ae,V,W⟩:=V0 (ty:=ty) he A t C D hw aa λb c=>⟨u.1 b c,λg=>(j b g).2 c⟩
  rw[e1] at U;injection U with ev ew
  subst ev;subst ew;have hh:J=h':=by rw[←ad.heap,e2.heap]
  subst hh;have Z:∀b,S b→J[b]? =h[b]? :=λb c=>W b (u.1 b c) λg=>(j b g).2 c;refine⟨⟨λb c=>Aak (u.1 b c) o,MR q ⟨ac,ae,λb c=>?_,?_⟩⟩,λ_ x=>x,Z,o⟩
  ·rcases V b c with g|⟨hl,hu⟩
   ·exact⟨Aak (j b g).1 o,(j b g).2⟩
   ·exact⟨hu,λag=>absurd (u.1 b ag) (by omega)⟩
  ·refine Sp.ext ab (λ_ x=>x) (λb c=>?_) λb c=>⟨⟨Aak c.1.1 o,c.1.2⟩,λah=>?_⟩
   ·rcases c with c|c
    ·exact Z b c
    ·exact W b c.1.1 c.2
   ·rcases V b ah with g|⟨hl,_⟩
    ·exact c.2 g
    ·exact absurd c.1.1 (by omega)
 exact hK _ _ (k i _ w' h' (g.put hd _) e2 I.1 I.2)
def KO {α}{r:A6 α}{T e sz b:Nat}{z:List Value}{v s:Value}{l xs:List α}{LL:Value→List HP}(x:BV m X=some v) (y:BV m Y=some s) (A:OR P T=some (e,sz,b,z)) (j:r.sz=sz)
  (g:tF S h r s xs) (i:Nat.blt 0 b=true) (o:I2 (l.length+xs.length) b=true) (hd:Nat.blt d n.1=true) (p:St S L h) (C:∀c,Mo L (OS r e v l) (OS r e c (l++xs)) (LL c))
  (k:∀c h',St S (LL c) h'→CG S h S h'→LF P ops Q rest B h' n ((d,c)::m)):LF P ops Q (⟨some d,.call ⟨.builtin .append,#[X,Y],#[T,T]⟩,ty,pos,af,none⟩::rest) B h n m:=λa w q t=>
 have D:1≤b:=by simpa [Nat.blt] using i
 have F:l.length+xs.length≤(l.length+xs.length)*b:=Nat.le_mul_of_pos_right _ D;have u:=MJ o;have G:=u.le
 oV q x y A j g (by unfold maxLen;omega) u hd t p C λc a w h' q t p e=>k c h' p e a w q t
end
def Ct (k:IntKind) (n:Int):k.has (k.wrap n):=by
 cases k<;>simp only[IntKind.has,IntKind.wrap,IntKind.min,IntKind.max,IntKind.bits,IntKind.signed]<;>simp<;>(try split)<;>omega
def Qt (k:IntKind) {n:Int}(h:k.has n) (j:Nat):k.has (n.fdiv (2^j)):=by
 have c:(0:Int)<2^j:=Int.pow_pos (by decide);have l:k.min≤0∧0≤k.max:=by cases k<;>decide
 have e:n.fdiv (2^j)=n/2^j:=Int.fdiv_eq_ediv_of_nonneg _ (Int.le_of_lt c);rw[e];obtain⟨a,b⟩:=h;by_cases h0:0≤n
 ·have d:=Int.ediv_nonneg h0 (Int.le_of_lt c);have g:=Int.ediv_le_self (2^j) h0;exact⟨by omega,by omega⟩
 ·have d:n/2^j≤0:=by
   have:=Int.ediv_le_ediv c (show n≤0 by omega);simpa using this
  have g:n≤n/2^j:=by
   have i:(1:Int)≤2^j:=c;rw[Int.le_ediv_iff_mul_le c];have:=Int.mul_le_mul_of_nonpos_left (a:=n) (by omega) i;simpa using this
  exact⟨by omega,by omega⟩
def iT (k:IntKind) {n m:Int}(h:k.has n):k.has (n.tmod m):=by
 have i:k.min≤0∧0≤k.max:=by cases k<;>decide
 obtain⟨a,b⟩:=h;by_cases h0:0≤n
 ·have d:0≤n.tmod m:=Int.tmod_nonneg m h0;have g:n.tmod m≤n:=by
   have e:=Int.natAbs_tmod n m;have c:n.natAbs%m.natAbs≤n.natAbs:=Nat.mod_le _ _;omega
  exact⟨by omega,by omega⟩
 ·have d:(-n).tmod m= -(n.tmod m):=Int.neg_tmod n m;have g:0≤(-n).tmod m:=Int.tmod_nonneg m (by omega);have c:(-n).tmod m≤ -n:=by
   have e:=Int.natAbs_tmod (-n) m;have c:(-n).natAbs%m.natAbs≤(-n).natAbs:=Nat.mod_le _ _;omega
  exact⟨by omega,by omega⟩
def A6.intk (k:IntKind):A6 Int where
 sz:=1
 ag:=false
 rd:=λ_ _ cs x=>cs=[.int k x]∧k.has x
 len:=λ⟨h,_⟩=>by rw[h];rfl
 one:=λ⟨h,_⟩ v a=>by rw[h] at a;simp at a;rw[a];rfl
 mono:=λh _ _=>h
def Rd.intk {S h v k x}(q:Rd S h (A6.intk k) v x):v= .int k x∧k.has x:=by obtain⟨_,rfl,rfl,h⟩:=q;exact⟨rfl,h⟩
def FJ (o:BinOp) (k:IntKind) (x y:Int):Int:=
 let a:=BitVec.ofInt k.bits x
 let b:=BitVec.ofInt k.bits y
 k.wrap ((match o with| .and=>a&&&b| .or=>a|||b| .xor=>a ^^^ b|_=>a&&& ~~~b).toNat)
def SO (k:IntKind) (x y:Int):Option Int:=if y=0 then none else some (k.wrap (x.tdiv y))
def Uq (x y:Int):Option Int:=if y=0 then none else some (x.tmod y)
def Dh (k:IntKind) (x:Int) (j:Nat):Int:=k.wrap (x*2^(min j k.bits))
def EJ (k:IntKind) (x:Int) (j:Nat):Int:=x.fdiv (2^(min j k.bits))
def QK (y:Int):Option Nat:=if y<0 then none else some y.toNat
def Ox {k x y z}(h:SO k x y=some z):k.has z:=by
 unfold SO at h;split at h
 ·cases h
 ·cases h;exact Ct _ _
def bZ {k:IntKind}{x y z}(a:k.has x) (h:Uq x y=some z):k.has z:=by
 unfold Uq at h;split at h
 ·cases h
 ·cases h;exact iT k a
def VD (s:ByteArray) (i:Int):Option Int:=if i<0 then none else (s[i.toNat]?).map λb=>(b.toNat:Int)
def Lg {s i x}(h:VD s i=some x):IntKind.u8.has x:=by
 unfold VD at h;split at h
 ·cases h
 ·obtain⟨b,_,rfl⟩:=Abn.1 h;have:=b.toNat_lt;simp [IntKind.has,IntKind.min,IntKind.max,IntKind.bits,IntKind.signed];omega
section
variable {P:Program}{ops:Array Oper}{C:World→Prop}{Q:Act→Prop}{n:FN}{m m':SM}{rest:List Oper}
variable {d:Nat}{ty:TypeId}{pos:String}{af:Array Edge}{X Y Z:Operand}{t t1 t2:TypeId}{x y z:Int}{kd kd2:IntKind}{v p:Value}{S:Nat→Prop}{L:List HP}{h:AS}
def PO {a:BinOp}{u:Value}(b:BV m X=some (.int kd x)) (c:BV m Y=some (.int kd y)) (hd:Nat.blt d n.1=true) (g:∀w,(binOp a t1 (.int kd x) (.int kd y)).run P w= .ok u w)
  (k:QF P ops C Q rest n ((d,u)::m)):QF P ops C Q (⟨some d,.binOp a t1 X Y t2,ty,pos,af,none⟩::rest) n m:=λ_ i=>Oy i b c hd g k
def kS (a:BV m X=some (.int kd x)) (b:BV m Y=some (.int kd y)) (hd:Nat.blt d n.1=true) (k:QF P ops C Q rest n ((d,.int kd (kd.wrap (x+y)))::m)):QF P ops C Q (⟨some d,.binOp .add t1 X Y t2,ty,pos,af,none⟩::rest) n m:=PO a b hd (λw=>by simp [binOp,Op.intArith]) k
def jZ (a:BV m X=some (.int kd x)) (b:BV m Y=some (.int kd y)) (hd:Nat.blt d n.1=true) (k:QF P ops C Q rest n ((d,.int kd (kd.wrap (x-y)))::m)):QF P ops C Q (⟨some d,.binOp .sub t1 X Y t2,ty,pos,af,none⟩::rest) n m:=PO a b hd (λw=>by simp [binOp,Op.intArith]) k
def kF (a:BV m X=some (.int kd x)) (b:BV m Y=some (.int kd y)) (hd:Nat.blt d n.1=true) (k:QF P ops C Q rest n ((d,.int kd (kd.wrap (x*y)))::m)):QF P ops C Q (⟨some d,.binOp .mul t1 X Y t2,ty,pos,af,none⟩::rest) n m:=PO a b hd (λw=>by simp [binOp,Op.intArith]) k
def kQ (a:BV m X=some (.int kd x)) (b:BV m Y=some (.int kd y)) (hd:Nat.blt d n.1=true) (k:QF P ops C Q rest n ((d,.int kd (FJ .and kd x y))::m)):QF P ops C Q (⟨some d,.binOp .and t1 X Y t2,ty,pos,af,none⟩::rest) n m:=PO a b hd (λw=>by simp [binOp,Op.intBits,FJ]) k
def fH (a:BV m X=some (.int kd x)) (b:BV m Y=some (.int kd y)) (hd:Nat.blt d n.1=true) (k:QF P ops C Q rest n ((d,.int kd (FJ .or kd x y))::m)):QF P ops C Q (⟨some d,.binOp .or t1 X Y t2,ty,pos,af,none⟩::rest) n m:=PO a b hd (λw=>by simp [binOp,Op.intBits,FJ]) k
def Yj (a:BV m X=some (.int kd x)) (b:BV m Y=some (.int kd y)) (hd:Nat.blt d n.1=true) (k:QF P ops C Q rest n ((d,.int kd (FJ .xor kd x y))::m)):QF P ops C Q (⟨some d,.binOp .xor t1 X Y t2,ty,pos,af,none⟩::rest) n m:=PO a b hd (λw=>by simp [binOp,Op.intBits,FJ]) k
def VM (b:BV m X=some (.int kd x)) (c:BV m Y=some (.int kd y)) (hd:Nat.blt d n.1=true) (a:SO kd x y=some z) (k:QF P ops C Q rest n ((d,.int kd z)::m)):QF P ops C Q (⟨some d,.binOp .quo t1 X Y t2,ty,pos,af,none⟩::rest) n m:=by
 unfold SO at a;split at a
 ·cases a
 ·rename_i h0;cases a;exact PO b c hd (λw=>by simp [binOp,Op.intDiv,h0]) k
def kE (b:BV m X=some (.int kd x)) (c:BV m Y=some (.int kd y)) (hd:Nat.blt d n.1=true) (a:Uq x y=some z) (k:QF P ops C Q rest n ((d,.int kd z)::m)):QF P ops C Q (⟨some d,.binOp .rem t1 X Y t2,ty,pos,af,none⟩::rest) n m:=by
 unfold Uq at a;split at a
 ·cases a
 ·rename_i h0;cases a;exact PO b c hd (λw=>by simp [binOp,Op.intDiv,h0]) k
def Yt {b:BinOp}{u:Value}(g:BV m X=some (.int kd x)) (i:BV m Y=some (.int kd2 y)) (hd:Nat.blt d n.1=true) (j:∀w,(binOp b t1 (.int kd x) (.int kd2 y)).run P w= .ok u w)
  (k:QF P ops C Q rest n ((d,u)::m)):QF P ops C Q (⟨some d,.binOp b t1 X Y t2,ty,pos,af,none⟩::rest) n m:=λa c=>by
 refine Dx c hd (λw _=>?_) k;have l:(eqGuard b t1 X Y (.int kd x) (.int kd2 y)).run P w= .ok () w:=by
  unfold eqGuard;cases b<;>simp
 simp [execOp,c.eval g,c.eval i,l,j]
def Sa {j:Nat}(b:BV m X=some (.int kd x)) (c:BV m Y=some (.int kd2 y)) (hd:Nat.blt d n.1=true) (a:QK y=some j) (k:QF P ops C Q rest n ((d,.int kd (Dh kd x j))::m)):QF P ops C Q (⟨some d,.binOp .shl t1 X Y t2,ty,pos,af,none⟩::rest) n m:=by
 unfold QK at a;split at a
 ·cases a
 ·rename_i h0;cases a;exact Yt b c hd (λw=>by simp [binOp,Op.shift,h0,Dh]) k
def JU {j:Nat}(b:BV m X=some (.int kd x)) (c:BV m Y=some (.int kd2 y)) (hd:Nat.blt d n.1=true) (a:QK y=some j) (k:QF P ops C Q rest n ((d,.int kd (EJ kd x j))::m)):QF P ops C Q (⟨some d,.binOp .shr t1 X Y t2,ty,pos,af,none⟩::rest) n m:=by
 unfold QK at a;split at a
 ·cases a
 ·rename_i h0;cases a;exact Yt b c hd (λw=>by simp [binOp,Op.shift,h0,EJ]) k
def Dv {src dst:TypeId}{c:TypeDesc}(g:BV m X=some (.int kd x)) (i:P.underlying src=some c) (j:P.underlying dst=some (.int kd2)) (hd:Nat.blt d n.1=true) (k:QF P ops C Q rest n ((d,.int kd2 (kd2.wrap x))::m)):QF P ops C Q (⟨some d,.convert src dst X,ty,pos,af,none⟩::rest) n m:=λa b=>
 Dx b hd (λw _=>by simp [execOp,b.eval g,convert,run_underlying i,run_underlying j,Conv.intToInt]) k
def Li {s:ByteArray}(i:BV m X=some (.string s)) (j:BV m Y=some (.int kd y)) (l:P.underlying t=some .string) (c:VD s y=some z) (hd:Nat.blt d n.1=true) (k:QF P ops C Q rest n ((d,.int .u8 z)::m)):QF P ops C Q (⟨some d,.index t X Y,ty,pos,af,none⟩::rest) n m:=λa g=>by
 unfold VD at c;split at c
 ·cases c
 ·rename_i h0;obtain⟨b,o,rfl⟩:=Abn.1 c;exact Dx g hd (λw _=>by simp [execOp,g.eval i,g.eval j,Instr.index,asIntOf,run_underlying l,show 0≤y by omega,o]) k
def VP {A:Nat→Prop}(g:CK C h) (i:∀b,A b→b<h.size) (j:BV m X=some p) (k0:Ms A S h (A6.intk kd) p x) (l:Jj P t 1 false=true) (hd:Nat.blt d n.1=true)
  (k:kd.has x→QF P ops C Q rest n ((d,.int kd x)::m)):QF P ops C Q (⟨some d,.load t X,ty,pos,af,none⟩::rest) n m:=λa o=>
 ZL g i o j k0 l (λ_=>rfl) hd λv q c s=>by obtain⟨rfl,u⟩:=s.intk;exact k u q c
end
end Go.Proofs.YtedgiljmffngoaaGreat
