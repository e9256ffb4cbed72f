import Derived.Test.YtabonambpbofgaaGreatQCore10
import Derived.MapKept
namespace Go.Proofs.YtabonambpbofgaaGreat
set_option linter.all false
open Go.RowKit
variable {m:SM}{a:Act}{K:Act->World->Prop}{o:Oper}{T b d e:Nat}{n:FN}{h h' h0:AV}{R:Value->AV->Prop}{B w:World}{ops:Array Oper}{P:Program}{A F S S2:Nat->Prop}{L:List HP}{g:String}{s u:Value}{LL:Value->List HP}{vs:List Value}{kd:IntKind}{ks:List Nat}{es:List MapEntry}{j:Bool}{af c:Array Edge}{rest:List Oper}{xs:Array Value}{X:Operand}
abbrev AR:=Nat->Value->AV->Prop
def Io(ops:Array Oper)(i:Nat):Option Nat:=(ops[i]?).bind (·.dst)
def N1(o:Oper):List Nat:=(o.after.toList.filter (Region.binds .any)).map (·.on)
def KS(B:World)(n:FN)(d:Nat)(R:Value->AV->Prop)(h:AV)(m:SM):Act->World->Prop:=λa w=>
 ∃v h',Fr n a ((d,v)::m)/\Wd B h' w/\Ef h h'/\R v h'
def PA(R:AR)(h:AV)(K:SM->Prop):List (Nat×Nat)->SM->Prop
 |[],fr=>K fr
 |(j,d)::a,fr=>∀u,R j u h->PA R h K a ((d,u)::fr)
def yb:Value->Option Bool
 | .bool b=>some b
 |_=>none
def WO(P:Program)(ops:Array Oper)(Q:Exit->Act->World->Prop)(B:World)(n:FN)(m:SM)(h0:AV)(R:AR)(i:Nat)(o:Oper)(d:Nat)(c:List (Nat×Nat)):Prop:=
 ∀mt h,Ef h0 h->PA R h (λfr=>match o.guard with
  |none=>LF P ops (Exit.then (KS B n d (R i) h (fr++(m++mt))) Q) [o] B h n (fr++(m++mt))
  |some (g,b)=>∃a,Io ops g=some a/\((lk fr a=some (.bool b)/\LF P ops (Exit.then (KS B n d (R i) h (fr++(m++mt))) Q) [{ o with guard:=none}] B h n (fr++(m++mt)))\/∃v,lk fr a=some v/\yb v≠some b/\R i undef h)) c []
def Uf(ops:Array Oper)(o:Oper)(a:List (Nat×Nat)):Bool:=a.all λp=>(N1 o).contains p.1&&(Io ops p.1).any (Nat.beq p.2 ·)
def Np{mt:SM}{i:Nat}:lk (m++mt) i=(lk m i).or (lk mt i):=by
 induction m with
 |nil=>simp[lk]
 |cons e r a=>
  obtain⟨j,v⟩:=e;simp only[Ag4,lk];cases Nat.beq j i with
  |true=>simp
  |false=>simpa using a
def Fr.append{n a m mt}(c:Fr n a m)(g:Fr n a mt):Fr n a (m++mt):=⟨c.dfr,c.siz,λi v b=>by
 rw[Np]at b;cases d:lk m i with
 |some u=>rw[d]at b;simp at b;subst b;exact c.at_ i _ d
 |none=>rw[d]at b;simp at b;exact g.at_ i v b⟩
def Mp(a:Act):SM:=(List.range a.tmps.size).map λi=>(i,a.tmps.getD i undef)
def TZ(f:Nat->Value):∀(k s i:Nat),s<=i->i<s+k->lk ((List.range' s k).map λi=>(i,f i)) i=some (f i)
 |0,s,i,a,b=>Ω
 |k+1,s,i,a,b=>by
  simp only[List.range'_succ,Ag9,lk];by_cases e:s=i
  ·subst e;simp
  ·have:Nat.beq s i=false:=by
    cases c:Nat.beq s i with
    |false=>rfl
    |true=>exact absurd (Ag1 c) e
   rw[this];exact TZ f k (s+1) i Ω Ω
def Wo{i:Nat}(h:i<a.tmps.size):lk (Mp a) i=some (a.tmps.getD i undef):=by
 unfold Mp;rw[List.range_eq_range'];exact TZ _ _ 0 i Ω Ω
def TY(f:Nat->Value):∀(k s i:Nat),s+k<=i->lk ((List.range' s k).map λi=>(i,f i)) i=none
 |0,s,i,h=>rfl
 |k+1,s,i,h=>by
  simp only[List.range'_succ,Ag9,lk];have:Nat.beq s i=false:=by
   cases a:Nat.beq s i with
   |false=>rfl
   |true=>exact absurd (Ag1 a) Ω
  rw[this];exact TY f k (s+1) i Ω
def Fr.full{n a m}(h:Fr n a m):Fr n a (Mp a):=⟨h.dfr,h.siz,λi v b=>by
 by_cases c:i<a.tmps.size
 ·rw[Wo c]at b;injection b with b
  subst b;simp[Aik,Ai8 c]
 ·unfold Mp at b;rw[List.range_eq_range',TY _ _ 0 i Ω]at b;cases b⟩
section
variable{P:Program}{ops:Array Oper}{Q:Exit->Act->World->Prop}{a:Act}{w:World}
def KV(l:o.guard=none)(h:wpList P ops (Exit.then K Q) [o] a w):o.wp P a w K Q\/(o.asks P a w/\LetsOut Q):=by
 unfold wpList at h;rw[Agp (by simp[Region.wanted,l])]at h;rcases h with b|⟨b,g,i,h2⟩
 ·refine .inl ?_;unfold Oper.wp at b ⊢;generalize (execOp a.eval o).run P w=r at b
  cases r with
  |ok m w'=>
   cases m<;>simp only[Oper.upon]at b ⊢
   case value v=>exact b
   case skip=>exact b
   case defer d=>exact b
   case enter f args=>
    refine b.mono λe j k=>?_;cases e with
    |returned v=>exact k
    |panicked c=>exact k
    |outgrown=>obtain⟨g,i,h0⟩:=k;exact⟨g,i,h0⟩
   case row r args=>obtain b:=b;exact Rows.mono b λv j n=>n
  |halt x w'=>cases x<;>simp only[Oper.upon]at b ⊢;exact b
 ·exact .inr ⟨b,g,i,h2⟩
def RQ(h:({ o with guard:=none}:Oper).wp P a w K Q\/(({ o with guard:=none}:Oper).asks P a w/\LetsOut Q)):o.wp P a w K Q\/(o.asks P a w/\LetsOut Q):=h
def Yu(a:Array Bool):Nat:=a.toList.count false
def Qi{a:Array Bool}{i:Nat}(h:a.getD i true=false):Yu (a.setIfInBounds i true)+1=Yu a:=by
 have b:i<a.size:=by
  rcases Ag7 i a.size with h'|h'
  ·exact h'
  ·simp[Aj5 h']at h
 have c:a[i]=false:=by simpa[b]using h
 have g:false∈a.toList:=by rw[<-c];simp
 have d:0<a.toList.count false:=List.count_pos_iff.2 g;unfold Yu;rw[Array.toList_setIfInBounds,List.count_set (by simpa using b)];have j:a.toList[i]'(by simpa using b)=false:=by simpa using c
 rw[j];rw[show(if(false==false)=true then 1 else 0:Nat)=1 from rfl,show(if(true==false)=true then 1 else 0:Nat)=0 from rfl];omega
def Xg{a:Array Bool}(h:Yu a=0){i:Nat}:a.getD i true=true:=by
 cases b:a.getD i true with
 |true=>rfl
 |false=>have:=Qi b;omega
def cX{a:Array Bool}(h:∀i,i<ops.size->a.getD i true=true):Region.ready .any ops a=[]:=by
 apply List.eq_nil_iff_forall_not_mem.2;intro j c;obtain⟨b,o,d,_⟩:=mem_ready.1 c;rw[h j (Ahu.1 d).1]at b;cases b
def P3{a:Array Bool}(n:SY ops=true)(w:a.size=ops.size){k:Nat}(x:k<ops.size)(o:a.getD k true=false):∃i,i<=k/\i∈Region.ready .any ops a/\∀j,j<i->a.getD j true=true:=by
 obtain⟨i,q,s,g⟩:=Nl (p:=λi=>a.getD i true) k o;have b:i<ops.size:=Ω
 refine⟨i,q,mem_ready.2 ⟨s,ops[i],by simp[b],λe t c=>?_⟩,g⟩;have d:=Agz.1 n i (Ahy.2 b);have u:ops[i]? =some ops[i]:=by simp[b]
 rw[u]at d;simp only[Aix,Aic,Ajj]at d;have l:=d e t;simp only[c,Ahm,Ajc,Ahb]at l;have m:=g e.on l;have v:e.on<a.size:=Ω
 simp only[Aik,Ai8 v,Aic]at m ⊢;exact m
def Fr.same{b:Act}{v:Value}{l k:SM}(hd:d<n.1)(h:Fr n a l)(h':Fr n b ((d,v)::k))(m:∀i u,i≠d->a.tmps[i]? =some u->lk ((d,v)::k) i=some u):b=a.put (some d) v:=by
 obtain⟨t,ds⟩:=a;obtain⟨t',c⟩:=b;have o:ds=n.2:=h.dfr;have p:c=n.2:=h'.dfr;subst o;subst p;have s:t.size=n.1:=h.siz;have w:t'.size=n.1:=h'.siz;simp only[Act.put,Act.mk.injEq,and_true];apply Array.ext_getElem?;intro i;rw[Aii];by_cases e:d=i
 ·subst e;rw[Agp rfl,Agp Ω];exact h'.at_ d v (by simp[lk])
 ·rw[Agn e];cases g:t[i]? with
  |some u=>exact h'.at_ i u (m i u (λq=>e q.symm) g)
  |none=>
   have:t.size<=i:=by
    rcases Ag7 i t.size with j|j
    ·rw[Ai8 j]at g;cases g
    ·exact j
   exact Aj5 Ω
def OB{R:AR}{h:AV}{K:SM->Prop}{n:FN}:∀(k:List (Nat×Nat))(fr:SM),PA R h K k fr->(∀p∈k,∃v,a.tmps[p.2]? =some v/\R p.1 v h)->Fr n a fr->∃c,K c/\Fr n a c
 |[],fr,l,_,g=>⟨fr,l,g⟩
 |(j,d)::k,fr,l,q,g=>by
  obtain⟨v,s,t⟩:=q (j,d) (by simp);refine OB k _ (l v t) (λw m=>q w (by simp[m])) ⟨g.dfr,g.siz,λi u b=>?_⟩;simp only[lk]at b;cases o:Nat.beq d i with
  |true=>
   rw[o]at b;simp only[Ago,Ahv]at b;have:=Ag1 o;subst this;subst b;exact s
  |false=>rw[o]at b;simp only[Agq]at b;exact g.at_ i u b
def jV{i:Nat}{v:Value}(h:lk m i=some v):i∈m.map (·.1):=by
 induction m with
 |nil=>simp[lk]at h
 |cons e r b=>
  obtain⟨j,u⟩:=e;simp only[lk]at h;cases a:Nat.beq j i with
  |true=>have:=Ag1 a;subst this;simp
  |false=>rw[a]at h;simp only[Agq]at h;simp[b h]
def Rv{fr:SM}{g:Nat}(c:Fr n a fr){v:Value}(b:Io ops g=some d)(i:lk fr d=some v):yielded ops a.tmps g=yb v:=by
 have j:=c.at_ d v i;unfold yielded;unfold Io at b;simp only[b,Agm,j];cases v<;>rfl
def A7(P:Program)(ops:Array Oper)(Q:Exit->Act->World->Prop)(B:World)(n:FN)(m:SM)(h0:AV)(R:AR):Nat->List Oper->List (List (Nat×Nat))->Prop
 |i,o::l,a::pss=>(match o.dst with|some d=>WO P ops Q B n m h0 R i o d a|none=>False)/\A7 P ops Q B n m h0 R (i+1) l pss
 |_,_,_=>True
def ZA(ops:Array Oper)(l:List Oper)(pss:List (List (Nat×Nat))):Bool:=Nat.beq l.length pss.length&&(l.zip pss).all λp=>Uf ops p.1 p.2
def A7.at_{B:World}{n:FN}{m:SM}{h0:AV}{R:AR}:∀{l:List Oper}{pss:List (List (Nat×Nat))}{k i:Nat}{o:Oper}{d:Nat},A7 P ops Q B n m h0 R k l pss->ZA ops l pss=true->l[i]? =some o->o.dst=some d->∃b,Uf ops o b=true/\WO P ops Q B n m h0 R (k+i) o d b
 |[],_,_,_,_,_,_,_,h,_=>by simp at h
 |_::_,[],_,_,_,_,_,a,_,_=>by simp[ZA]at a
 |j::l,b::pss,k,0,o,d,c,a,g,hd=>by
  simp only[Aiw,Ahv]at g;subst g;simp only[A7,hd]at c;simp only[ZA,List.zip_cons_cons,List.all_cons,Agu]at a;exact⟨b,a.2.1,c.1⟩
 |j::l,b::pss,k,i+1,o,d,c,a,g,hd=>by
  simp only[Air]at g;simp only[A7]at c;simp only[ZA,List.zip_cons_cons,List.all_cons,Agu,Ain]at a;have:=A7.at_ (l:=l) (pss:=pss) (k:=k+1) (i:=i) c.2 (by simp only[ZA,Agu];exact⟨by have:=a.1;simpa using this,a.2.2⟩) g hd;rw[show k+(i+1)=k+1+i from Ω];exact this
end
def A7.cons{P:Program}{ops:Array Oper}{Q:Exit->Act->World->Prop}{B:World}{n:FN}{m:SM}{h0:AV}{R:AR}{i:Nat}{o:Oper}{l:List Oper}{a:List (Nat×Nat)}{pss:List (List (Nat×Nat))}{d:Nat}(hd:o.dst=some d)(h:WO P ops Q B n m h0 R i o d a)(t:A7 P ops Q B n m h0 R (i+1) l pss):A7 P ops Q B n m h0 R i (o::l) (a::pss):=by
 simp only[A7,hd];exact⟨h,t⟩
def SN(S:Nat->Prop)(h0 h:AV):Nat->Prop:=λb=>S b\/(h0.size<=b/\b<h.size)
def SN.mono{S h0 h h'}(d:∀b,S b->b<h0.size)(g:Ef h0 h)(a:Ef h h'):CO (SN S h0 h) h (SN S h0 h') h':=
 ⟨λb c=>c.imp_right λx=>⟨x.1,Ag6 x.2 a.siz⟩,λb c=>a.same b (c.elim (λx=>Ag6 (d b x) g.siz) (·.2)),a.siz⟩
def SN.st{S L h0 h}(c:St S L h0)(o:Ef h0 h):St (SN S h0 h) L h:=by
 refine⟨λb a=>a.elim (λx=>Ag6 (c.1 b x) o.siz) (·.2),?_⟩;refine Sp.ext c.2 (λb x=> .inl x) (λb a=>o.same b (a.elim (c.1 b) (·.1))) λb a=>⟨Ag6 a.1 o.siz,λx=>x.elim a.2 λy=>Ω⟩
def SN.ext{S h0 h}(a:∀b,S b->b<h0.size)(o:Ef h0 h):CO S h0 (SN S h0 h) h:=⟨λ_ x=> .inl x,λb c=>o.same b (a b c),o.siz⟩
section
variable{P:Program}{ex:List (Nat×AP)}{RR N:AP}{cs:List Code}{B:World}{h:AV}{n:FN}{m m0:SM}{S:Nat->Prop}{L:List HP}
end
def BB{Q:Exit->Act->World->Prop}{v:Value}(o:Ef h h')(r:R v h'):LF P ops (Exit.then (KS B n d R h m) Q) [] B h' n ((d,v)::m):=
 λ_ _ a b=>⟨v,h',a,b,o,r⟩
def Fz(a:Nat->Prop)(h:AV):HP where
 holds:=λ_ F h'=>(∀b,F b↔a b)/\∀b,a b->h'[b]? =h[b]?
 loc:=λ⟨c,g⟩ _ e=>⟨c,λb d=>(e b (.inr ((c b).2 d))).trans (g b d)⟩
def Aeg(S:Nat->Prop)(h:AV):HP:=Fz (λb=>b<h.size/\¬S b) h
def St.fz{S L h}(a:St S L h):St S [Aeg S h] h:=⟨a.1,_,⟨λ_=>Iff.rfl,λ_ _=>rfl⟩,λb c=>c,trivial⟩
def Fz.done{a:AV}(o:Ef h0 h)(e:CO (SN S h0 h) h S2 a)(d:St S2 [Aeg (SN S h0 h) h] a):Ef h a/\CO S2 a (SN S h0 a) a:=by
 obtain⟨F,⟨j,k⟩,l,_⟩:=d.2;refine⟨⟨e.siz,λb c=>?_⟩,λb c=>?_,λ_ _=>rfl,Ag5 _⟩
 ·rcases Classical.em (SN S h0 h b)with g|g
  ·exact e.same b g
  ·exact k b ⟨c,g⟩
 ·rcases Ag7 b h.size with g|g
  ·rcases Classical.em (SN S h0 h b)with i|i
   ·exact i.imp_right λx=>⟨x.1,d.1 b c⟩
   ·exact absurd c (l b ((j b).2 ⟨g,i⟩)).2
  ·exact .inr ⟨Ah2 o.siz g,d.1 b c⟩
def Y6(sz:Nat):Nat->List (Nat×Value)->Bool
 |_,[]=>true
 |k,(i,v)::r=>Nat.beq i k&&Nat.beq v.cells.toList.length sz&&Y6 sz (k+1) r
def V7{sz len:Nat}:∀(pv:List (Nat×Value))(k:Nat)(pre a:List Value),Y6 sz k pv=true->pre.length=k*sz->a.length=pv.length*sz->k+pv.length<=len->
  Nh (Wh sz len) (pre++a) pv=some (pre++(pv.map λp=>p.2.cells.toList).flatten)
 |[],k,pre,a,_,_,c,_=>by
  have:a=[]:=Akh (by simpa using c);subst this;simp[Nh]
 |(i,v)::r,k,pre,a,h0,m,c,g=>by
  simp only[Y6,Agu]at h0;obtain⟨⟨d,j⟩,n⟩:=h0;have d:=Ag1 d;subst d;have l:=Ag1 j;simp only[Ain,Aij]at c;have o:i<len:=by simp at g;omega
  have q:(Wh sz len)[i]? =some (i*sz,sz):=by simp[Wh,o]
  simp only[Nh,q];have s:(Nat.beq v.cells.toList.length sz&&Nat.ble (i*sz+sz) (pre++a).length)=true:=by
   rw[j,Bool.true_and];exact Nat.ble_eq_true_of_le (by rw[Ahh];omega)
  rw[s];simp only[Ago];have b:IY (pre++a) (i*sz) v.cells.toList=(pre++v.cells.toList)++a.drop sz:=by
   unfold IY;rw[<-m,List.take_left,<-List.drop_drop,List.drop_left,l]
  rw[b,V7 r (i+1) (pre++v.cells.toList) (a.drop sz) n (by rw[Ahh,l,Aij];omega) (by rw[Ai7];omega) (by simp at g;omega)];simp
def Z4{sz:Nat}:∀(pv:List (Nat×Value))(k:Nat),Y6 sz k pv=true->∀p∈pv,p.1<k+pv.length
 |[],_,_,p,a=>by cases a
 |(i,v)::r,k,h0,p,a=>by
  simp only[Y6,Agu]at h0;obtain⟨⟨b,d⟩,c⟩:=h0;have b:=Ag1 b;rcases Agv.1 a with h|h
  ·subst h;simp;omega
  ·have:=Z4 r (k+1) c p h;simp;omega
def IX{Q:Exit->Act->World->Prop}{c:List Oper}{ty:TypeId}{v:Array Edge}
  {T e sz j len:Nat} {z cs:List Value} {a:Array (Nat×Operand)} {pv:List (Nat×Value)} (t:OI P T=some (e,sz,j,z)) (l:a.toList.mapM (cZ m)=some pv)
  (u:Y6 sz 0 pv=true) (o:Nat.beq pv.length len=true) (w:(pv.map λp=>p.2.cells.toList).flatten=cs) (q:Nat.blt 0 len=true) (s:Nat.ble (len*sz) 16777216=true) (hd:Nat.blt d n.1=true) (x:St S L h)
  (k:∀b h',St S (Bx b e cs::L) h'->CO S h S h'->LF P ops Q c B h' n ((d,.slice (some ⟨b,0,none⟩) len len)::m)):LF P ops Q (⟨some d,.buildSlice T len a,ty,g,v,none⟩::c) B h n m:=by
 have o:=Ag1 o;subst o;obtain⟨i,A,_,_,_,_,_,_,y,_⟩:=NP t;refine nM t l (cs:=cs) ?_ q s (λp l=>by have:=Z4 pv 0 u p l;omega) hd x k;have:=V7 (len:=pv.length) pv 0 [] (List.replicate pv.length z).flatten u (by simp) (by simp[y]) Ω;rw[Ag3,Ag3,w]at this;exact this
def Abb{α}(S:Nat->Prop)(h:AV)(r:A9 α)(s:Value)(xs:List α):Prop:=
 (s= .slice none 0 0/\xs=[])\/∃(b:Addr)(sc:Nat)(a:List Value),s= .slice (some b) xs.length sc/\xs.length<=maxLen/\M6 S h r a xs/\∀j u,a[j]? =some u->KE h (b.add j)=some u
def Vn{α}{S:Nat->Prop}{h:AV}{r:A9 α}(b:Nat):∀(l:List α)(o:Nat),(∀i x,l[i]? =some x->Pt S h r (.pointer (some ⟨b,o+i*r.sz,none⟩)) x)->∃c,M6 S h r c l/\∀j u,c[j]? =some u->KE h ⟨b,o+j,none⟩=some u
 |[],_,_=>⟨[],rfl,λj u d=>by simp at d⟩
 |x::l,o,k=>by
  obtain⟨cs,⟨a,p,_,w,q⟩,n⟩:=k 0 x rfl;obtain⟨c,s,t⟩:=Vn b l (o+r.sz) λi y v=>by
   have:=k (i+1) y (by simpa using v);rwa [Aij,Nat.add_comm (i*r.sz),<-Nat.add_assoc]at this
  have z:=r.len n;refine⟨cs++c,⟨cs,c,rfl,n,s⟩,λj u d=>?_⟩;have m:a=⟨b,o,none⟩:=by simpa using p.symm
  subst m;by_cases g:j<cs.length
  ·rw[Aj6 g]at d;rw[<-d];exact q j g
  ·rw[Aj7 Ω]at d;have:=t _ u d;rw[show o+r.sz+(j-cs.length)=o+j from Ω]at this;exact this
def Sl.src{α}{r:A9 α}{xs:List α}(k:Sl S h r s xs):Abb S h r s xs:=by
 rcases k with k|⟨a,cap,h1,h4,h5,h6⟩
 ·exact .inl k
 ·cases xs with
  |nil=>exact .inr ⟨a,cap,[],h1,Agr _,rfl,λj u l=>by simp at l⟩
  |cons x xs=>
   have c:=(h6 0 x rfl).1;obtain⟨b,o,s⟩:=a;simp only at c;subst c;obtain⟨d,m,n⟩:=Vn b (x::xs) o λi y p=>(h6 i y p).2;refine .inr ⟨_,cap,d,h1,Ah2 h4 h5,m,λj u l=>?_⟩;have g:(⟨b,o,none⟩:Addr).add j=⟨b,o+j,none⟩:=by unfold Addr.add;split<;>simp_all
   rw[g];exact n j u l
def St.src{α}{r:A9 α}{xs:List α}(l:St S L h)(m:OS r T s xs∈L):Abb S h r s xs:=by
 obtain⟨F,k,n⟩:=l.get m;rcases k with⟨⟨d,c⟩,k2,_⟩|⟨g,cap,cur,c,k2,k3,k4,k5,k6,k7⟩
 ·subst k2;cases d with
  |none=>exact .inl ⟨c,rfl⟩
  |some d=>exact .inr ⟨d,0,[],c,Agr _,rfl,λj u a=>by simp at a⟩
 ·refine .inr ⟨_,cap,_,c,Ah2 k4 k5,k7,λj u a=>?_⟩;have b:(⟨g,0,none⟩:Addr).add j=⟨g,j,none⟩:=by unfold Addr.add;split<;>simp_all
  have i:=(Ag0.1 a).1;simp only[Ah3]at i;rw[Aif Ω]at a;rw[b];simp only[KE,k3,Ajs,Ail,Aim];simpa using a
section
variable{P:Program}{ops:Array Oper}{Q:Exit->Act->World->Prop}{n:FN}{m:SM}{rest:List Oper}
variable{d:Nat}{ty:TypeId}{pos:String}{af:Array Edge}{X Y:Operand}{B w:World}{h:AV}{S:Nat->Prop}{L L2:List HP}{v:Value}
def Xx{α}{r:A9 α}{ty sz a:Nat}{z:List Value}{v:Value}{l xs:List α}(p:OI P T=some (e,sz,a,z))(j:r.sz=sz)
  (c:Abb S h r s xs) (m:l.length+xs.length<=maxLen) (n:NR (l.length+xs.length) a) (q:Wd B h w) (k:(OS r e v l).holds S F h) (y:∀b,S b->b<h.size/\¬F b):
  ∃t w' h' u,(Builtin.append_ #[T,T] ty #[v,s]).run P w= .ok t w'/\Wd B h' w'/\h.size<=h'.size/\(OS r e t (l++xs)).holds S u h'/\(∀b,u b->F b\/(h.size<=b/\b<h'.size))/\∀b,b<h.size->¬F b->h'[b]? =h[b]? :=by
 rcases c with⟨rfl,rfl⟩|⟨sd,sc,news,d,_,hn,hc⟩
 ·obtain⟨i,D,d,x,G,H,I,J,K,M⟩:=NP p;rw[Ahz];refine⟨v,w,h,F,?_,q,Ag5 _,k,λb A=> .inl A,λ_ _ _=>rfl⟩;rcases k with⟨⟨C,rfl⟩,rfl,hF⟩|⟨g,cap,cur,rfl,hF,hg,hlc,hcm,hcs,hrd⟩
  ·cases C<;>simp[Builtin.append_,run_underlying d,sizeOf,typeInfo,x,Builtin.lenOf,Builtin.firstCells,loadCells,loadCellsFrom,storeCells]
  ·have o:l.length<=cap:=hlc;simp[Builtin.append_,run_underlying d,sizeOf,typeInfo,x,Builtin.lenOf,Builtin.firstCells,loadCells,loadCellsFrom,storeCells,o]
 ·exact WZ p j d hn hc m n q k y
def xE{α}{r:A9 α}{sz y:Nat}{z:List Value}{v:Value}{l xs:List α}(g:Fr n a m)(hx:B5 m X=some v)(hy:B5 m Y=some s)(he:OI P T=some (e,sz,y,z))(A:r.sz=sz)
  (t:Abb S h r s xs) (C:l.length+xs.length<=maxLen) (D:NR (l.length+xs.length) y) (hd:Nat.blt d n.1=true) (hw:Wd B h w) (u:St S L h) (rp:∀i,Nm L (OS r e v l) (OS r e i (l++xs)) (LL i))
  (k:∀i a w h',Fr n a ((d,i)::m)->Wd B h' w->St S (LL i) h'->CO S h S h'->wpList P ops Q rest a w):
  wpList P ops Q (⟨some d,.call ⟨.builtin .append,#[X,Y],#[T,T]⟩,ty,pos,af,none⟩::rest) a w:=by
 refine wpList_plain rfl λK hK=>?_;unfold Oper.wp;obtain⟨M,p,_⟩:=(rp v).pick;obtain⟨F,g1,g2,_⟩:=Sp.pick p u.2;obtain⟨i,w',h',F',e1,e2,e3,e4,e5,e6⟩:=Xx (ty:=ty) he A t C D hw g1 λb c=>⟨u.1 b c,λg=>(g2 b g).2 c⟩
 have H:(execOp a.eval ⟨some d,.call ⟨.builtin .append,#[X,Y],#[T,T]⟩,ty,pos,af,none⟩).run P w= .ok (.value i) w':=by
  simp[execOp,resolve,invoke,builtin,g.eval hx,g.eval hy,e1]
 rw[H];obtain⟨M,p,q⟩:=(rp i).pick;have I:St S (LL i) h'/\CO S h S h':=by
  obtain⟨G,aa,j,ab⟩:=Sp.pick p u.2;obtain⟨ai,aj,J,ac,U,ad,o,ae,V,W⟩:=Xx (ty:=ty) he A t C D hw aa λb c=>⟨u.1 b c,λg=>(j b g).2 c⟩
  rw[e1]at U;injection U with ev ew
  subst ev;subst ew;have hh:J=h':=by rw[<-ad.heap,e2.heap]
  subst hh;have Z:∀b,S b->J[b]? =h[b]? :=λb c=>W b (u.1 b c) λg=>(j b g).2 c;refine⟨⟨λb c=>Ag6 (u.1 b c) o,O1 q ⟨ac,ae,λb c=>?_,?_⟩⟩,λ_ x=>x,Z,o⟩
  ·rcases V b c with g|⟨hl,hu⟩
   ·exact⟨Ag6 (j b g).1 o,(j b g).2⟩
   ·exact⟨hu,λag=>absurd (u.1 b ag) Ω⟩
  ·refine Sp.ext ab (λ_ x=>x) (λb c=>?_) λb c=>⟨⟨Ag6 c.1.1 o,c.1.2⟩,λah=>?_⟩
   ·rcases c with c|c
    ·exact Z b c
    ·exact W b c.1.1 c.2
   ·rcases V b ah with g|⟨hl,_⟩
    ·exact c.2 g
    ·exact absurd c.1.1 Ω
 exact hK _ _ (k i _ w' h' (g.put hd _) e2 I.1 I.2)
def Eg{α}{r:A9 α}{sz:Nat}{z:List Value}{v:Value}{l xs:List α}(x:B5 m X=some v)(y:B5 m Y=some s)(A:OI P T=some (e,sz,b,z))(j:r.sz=sz)
  (g:Abb S h r s xs) (i:Nat.blt 0 b=true) (o:HN (l.length+xs.length) b=true) (hd:Nat.blt d n.1=true) (p:St S L h) (C:∀c,Nm L (OS r e v l) (OS r e c (l++xs)) (LL c))
  (k:∀c h',St S (LL c) h'->CO S h S h'->LF P ops Q rest B h' n ((d,c)::m)):LF P ops Q (⟨some d,.call ⟨.builtin .append,#[X,Y],#[T,T]⟩,ty,pos,af,none⟩::rest) B h n m:=λa w q t=>
 have D:1<=b:=by simpa[Nat.blt]using i
 have F:l.length+xs.length<=(l.length+xs.length)*b:=Nat.le_mul_of_pos_right _ D;have u:=Oq o;have G:=u.le
 xE q x y A j g (by unfold maxLen;omega) u hd t p C λc a w h' q t p e=>k c h' p e a w q t
end
def D8(k:IntKind)(n:Int):k.has (k.wrap n):=by
 cases k<;>simp only[IntKind.has,IntKind.wrap,IntKind.min,IntKind.max,IntKind.bits,IntKind.signed]<;>simp<;>(try split)<;>omega
def T7(k:IntKind){n:Int}(h:k.has n)(j:Nat):k.has (n.fdiv (2^j)):=by
 have c:(0:Int)<2^j:=Int.pow_pos (by decide);have l:k.min<=0/\0<=k.max:=by cases k<;>decide
 have e:n.fdiv (2^j)=n/2^j:=Int.fdiv_eq_ediv_of_nonneg _ (Int.le_of_lt c);rw[e];obtain⟨a,b⟩:=h;by_cases h0:0<=n
 ·have d:=Int.ediv_nonneg h0 (Int.le_of_lt c);have g:=Int.ediv_le_self (2^j) h0;exact⟨Ω,Ω⟩
 ·have d:n/2^j<=0:=by
   have:=Int.ediv_le_ediv c (show n<=0 from Ω);simpa using this
  have g:n<=n/2^j:=by
   have i:(1:Int)<=2^j:=c;rw[Int.le_ediv_iff_mul_le c];have:=Int.mul_le_mul_of_nonpos_left (a:=n) Ω i;simpa using this
  exact⟨Ω,Ω⟩
def pG(k:IntKind){n m:Int}(h:k.has n):k.has (n.tmod m):=by
 have i:k.min<=0/\0<=k.max:=by cases k<;>decide
 obtain⟨a,b⟩:=h;by_cases h0:0<=n
 ·have d:0<=n.tmod m:=Int.tmod_nonneg m h0;have g:n.tmod m<=n:=by
   have e:=Int.natAbs_tmod n m;have c:n.natAbs%m.natAbs<=n.natAbs:=Nat.mod_le _ _;omega
  exact⟨Ω,Ω⟩
 ·have d:(-n).tmod m= -(n.tmod m):=Int.neg_tmod n m;have g:0<=(-n).tmod m:=Int.tmod_nonneg m Ω;have c:(-n).tmod m<= -n:=by
   have e:=Int.natAbs_tmod (-n) m;have c:(-n).natAbs%m.natAbs<=(-n).natAbs:=Nat.mod_le _ _;omega
  exact⟨Ω,Ω⟩
def A9.intk(k:IntKind):A9 Int where
 sz:=1
 ag:=false
 rd:=λ_ _ cs x=>cs=[.int k x]/\k.has x
 len:=λ⟨h,_⟩=>by rw[h];rfl
 one:=λ⟨h,_⟩ v a=>by rw[h]at a;simp at a;rw[a];rfl
 mono:=λh _ _=>h
def Rd.intk{S h v k x}(q:Rd S h (A9.intk k) v x):v= .int k x/\k.has x:=by obtain⟨_,rfl,rfl,h⟩:=q;exact⟨rfl,h⟩
def Jz(o:BinOp)(k:IntKind)(x y:Int):Int:=
 let a:=BitVec.ofInt k.bits x
 let b:=BitVec.ofInt k.bits y
 k.wrap ((match o with| .and=>a&&&b| .or=>a|||b| .xor=>a ^^^ b|_=>a&&& ~~~b).toNat)
def Tv(k:IntKind)(x y:Int):Option Int:=if y=0 then none else some (k.wrap (x.tdiv y))
def Wb(x y:Int):Option Int:=if y=0 then none else some (x.tmod y)
def Ej(k:IntKind)(x:Int)(j:Nat):Int:=k.wrap (x*2^(min j k.bits))
def F6(k:IntKind)(x:Int)(j:Nat):Int:=x.fdiv (2^(min j k.bits))
def Rj(y:Int):Option Nat:=if y<0 then none else some y.toNat
def P4{k x y z}(h:Tv k x y=some z):k.has z:=by
 unfold Tv at h;split at h
 ·cases h
 ·cases h;exact D8 _ _
def jC{k:IntKind}{x y z}(a:k.has x)(h:Wb x y=some z):k.has z:=by
 unfold Wb at h;split at h
 ·cases h
 ·cases h;exact pG k a
def bE(s:ByteArray)(i:Int):Option Int:=if i<0 then none else(s[i.toNat]?).map λb=>(b.toNat:Int)
def SW{s i x}(h:bE s i=some x):IntKind.u8.has x:=by
 unfold bE at h;split at h
 ·cases h
 ·obtain⟨b,_,rfl⟩:=Ah6.1 h;have:=b.toNat_lt;simp[IntKind.has,IntKind.min,IntKind.max,IntKind.bits,IntKind.signed];omega
section
variable{P:Program}{ops:Array Oper}{C:World->Prop}{Q:Act->Prop}{n:FN}{m m':SM}{rest:List Oper}
variable{d:Nat}{ty:TypeId}{pos:String}{af:Array Edge}{X Y Z:Operand}{t t1 t2:TypeId}{x y z:Int}{kd kd2:IntKind}{v p:Value}{S:Nat->Prop}{L:List HP}{h:AV}
def Rs{a:BinOp}(b:B5 m X=some (.int kd x))(c:B5 m Y=some (.int kd y))(hd:Nat.blt d n.1=true)(g:∀w,(binOp a t1 (.int kd x) (.int kd y)).run P w= .ok u w)
  (k:QF P ops C Q rest n ((d,u)::m)):QF P ops C Q (⟨some d,.binOp a t1 X Y t2,ty,pos,af,none⟩::rest) n m:=λ_ i=>P5 i b c hd g k
def rU(a:B5 m X=some (.int kd x))(b:B5 m Y=some (.int kd y))(hd:Nat.blt d n.1=true)(k:QF P ops C Q rest n ((d,.int kd (kd.wrap (x+y)))::m)):QF P ops C Q (⟨some d,.binOp .add t1 X Y t2,ty,pos,af,none⟩::rest) n m:=Rs a b hd (λw=>by simp[binOp,Op.intArith]) k
def rD(a:B5 m X=some (.int kd x))(b:B5 m Y=some (.int kd y))(hd:Nat.blt d n.1=true)(k:QF P ops C Q rest n ((d,.int kd (kd.wrap (x-y)))::m)):QF P ops C Q (⟨some d,.binOp .sub t1 X Y t2,ty,pos,af,none⟩::rest) n m:=Rs a b hd (λw=>by simp[binOp,Op.intArith]) k
def rI(a:B5 m X=some (.int kd x))(b:B5 m Y=some (.int kd y))(hd:Nat.blt d n.1=true)(k:QF P ops C Q rest n ((d,.int kd (kd.wrap (x*y)))::m)):QF P ops C Q (⟨some d,.binOp .mul t1 X Y t2,ty,pos,af,none⟩::rest) n m:=Rs a b hd (λw=>by simp[binOp,Op.intArith]) k
def rR(a:B5 m X=some (.int kd x))(b:B5 m Y=some (.int kd y))(hd:Nat.blt d n.1=true)(k:QF P ops C Q rest n ((d,.int kd (Jz .and kd x y))::m)):QF P ops C Q (⟨some d,.binOp .and t1 X Y t2,ty,pos,af,none⟩::rest) n m:=Rs a b hd (λw=>by simp[binOp,Op.intBits,Jz]) k
def Aar(a:B5 m X=some (.int kd x))(b:B5 m Y=some (.int kd y))(hd:Nat.blt d n.1=true)(k:QF P ops C Q rest n ((d,.int kd (Jz .or kd x y))::m)):QF P ops C Q (⟨some d,.binOp .or t1 X Y t2,ty,pos,af,none⟩::rest) n m:=Rs a b hd (λw=>by simp[binOp,Op.intBits,Jz]) k
def XD(b:B5 m X=some (.int kd x))(c:B5 m Y=some (.int kd y))(hd:Nat.blt d n.1=true)(a:Tv kd x y=some z)(k:QF P ops C Q rest n ((d,.int kd z)::m)):QF P ops C Q (⟨some d,.binOp .quo t1 X Y t2,ty,pos,af,none⟩::rest) n m:=by
 unfold Tv at a;split at a
 ·cases a
 ·rename_i h0;cases a;exact Rs b c hd (λw=>by simp[binOp,Op.intDiv,h0]) k
def rH(b:B5 m X=some (.int kd x))(c:B5 m Y=some (.int kd y))(hd:Nat.blt d n.1=true)(a:Wb x y=some z)(k:QF P ops C Q rest n ((d,.int kd z)::m)):QF P ops C Q (⟨some d,.binOp .rem t1 X Y t2,ty,pos,af,none⟩::rest) n m:=by
 unfold Wb at a;split at a
 ·cases a
 ·rename_i h0;cases a;exact Rs b c hd (λw=>by simp[binOp,Op.intDiv,h0]) k
def cD{b:BinOp}(g:B5 m X=some (.int kd x))(i:B5 m Y=some (.int kd2 y))(hd:Nat.blt d n.1=true)(j:∀w,(binOp b t1 (.int kd x) (.int kd2 y)).run P w= .ok u w)
  (k:QF P ops C Q rest n ((d,u)::m)):QF P ops C Q (⟨some d,.binOp b t1 X Y t2,ty,pos,af,none⟩::rest) n m:=λa c=>by
 refine GH c hd (λw _=>?_) k;have l:(eqGuard b t1 X Y (.int kd x) (.int kd2 y)).run P w= .ok () w:=by
  unfold eqGuard;cases b<;>simp
 simp[execOp,c.eval g,c.eval i,l,j]
def XC{j:Nat}(b:B5 m X=some (.int kd x))(c:B5 m Y=some (.int kd2 y))(hd:Nat.blt d n.1=true)(a:Rj y=some j)(k:QF P ops C Q rest n ((d,.int kd (Ej kd x j))::m)):QF P ops C Q (⟨some d,.binOp .shl t1 X Y t2,ty,pos,af,none⟩::rest) n m:=by
 unfold Rj at a;split at a
 ·cases a
 ·rename_i h0;cases a;exact cD b c hd (λw=>by simp[binOp,Op.shift,h0,Ej]) k
def LN{j:Nat}(b:B5 m X=some (.int kd x))(c:B5 m Y=some (.int kd2 y))(hd:Nat.blt d n.1=true)(a:Rj y=some j)(k:QF P ops C Q rest n ((d,.int kd (F6 kd x j))::m)):QF P ops C Q (⟨some d,.binOp .shr t1 X Y t2,ty,pos,af,none⟩::rest) n m:=by
 unfold Rj at a;split at a
 ·cases a
 ·rename_i h0;cases a;exact cD b c hd (λw=>by simp[binOp,Op.shift,h0,F6]) k
def IB{b c:TypeId}{ds:TypeDesc}(i:B5 m X=some (.int kd x))(j:P.underlying b=some ds)(l:P.underlying c=some (.int kd2))(hd:Nat.blt d n.1=true)(k:QF P ops C Q rest n ((d,.int kd2 (kd2.wrap x))::m)):QF P ops C Q (⟨some d,.convert b c X,ty,pos,af,none⟩::rest) n m:=λa g=>
 GH g hd (λw _=>by simp[execOp,g.eval i,convert,run_underlying j,run_underlying l,Conv.intToInt]) k
def Sf{s:ByteArray}(i:B5 m X=some (.string s))(j:B5 m Y=some (.int kd y))(l:P.underlying t=some .string)(c:bE s y=some z)(hd:Nat.blt d n.1=true)(k:QF P ops C Q rest n ((d,.int .u8 z)::m)):QF P ops C Q (⟨some d,.index t X Y,ty,pos,af,none⟩::rest) n m:=λa g=>by
 unfold bE at c;split at c
 ·cases c
 ·rename_i h0;obtain⟨b,o,rfl⟩:=Ah6.1 c;exact GH g hd (λw _=>by simp[execOp,g.eval i,g.eval j,Instr.index,asIntOf,run_underlying l,show 0<=y from Ω,o]) k
def nF(g:CK C h)(i:∀b,A b->b<h.size)(j:B5 m X=some p)(k0:OJ A S h (A9.intk kd) p x)(l:LD P t 1 false=true)(hd:Nat.blt d n.1=true)
  (k:kd.has x->QF P ops C Q rest n ((d,.int kd x)::m)):QF P ops C Q (⟨some d,.load t X,ty,pos,af,none⟩::rest) n m:=λa o=>
 cY g i o j k0 l (λ_=>rfl) hd λv q c s=>by obtain⟨rfl,u⟩:=s.intk;exact k u q c
end
def qS{α}{p:α->Prop}:∀x∈([]:List α),p x:=λu h=>by cases h
def all_cons{α}{p:α->Prop}{x:α}{l:List α}(h:p x)(t:∀x∈l,p x):∀y∈x::l,p y:=λu a=>by
 rcases Agv.1 a with rfl|a
 ·exact h
 ·exact t u a
def Acl{α}{p:α->Prop}{l:List α}{i:Int}{z:α}(h:∀x∈l,p x)(a:ix l i=some z):p z:=h _ (Ahx (FQ a).2)
def uA(b:Bool):b=false\/b=true:=by cases b<;>simp
def KY:∀u∈([]:List Value),u.oneCell'=true:=λu h=>by cases h
def BH{v:Value}(h:v.oneCell'=true)(t:∀u∈vs,u.oneCell'=true):∀u∈v::vs,u.oneCell'=true:=λu a=>by
 rcases Agv.1 a with rfl|a
 ·exact h
 ·exact t u a
def St.osone{α}{r:A9 α}{v:Value}{l:List α}(a:St S L h)(b:OS r T v l∈L):v.oneCell'=true:=(a.oslAll b).one
def Kp:Value->Value->Bool
 | .agg a,.agg b=>Rf a.toList b.toList
 |a,b=>WA a b
def KT{κ β}(kv:κ->Value)(m:List (κ×β))(k:κ):Option β:=(m.find? λe=>Kp (kv k) (kv e.1)).map (·.2)
def Mj{κ β}(kv:κ->Value):List (κ×β)->κ->β->List (κ×β)
 |[],k,x=>[(k,x)]
 |(a,y)::r,k,x=>if Kp (kv k) (kv a) then(k,x)::r else(a,y)::Mj kv r k x
def V5(p:Value->Bool):List MapEntry->Nat->Option (Nat×Value)
 |[],_=>none
 |e::es,i=>if p e.key then some (i,e.val) else V5 p es (i+1)
structure NU{κ:Type}(P:Program)(T:TypeId)(kv:κ->Value):Prop where
 chk:∀k e w,(Instr.checkKey e 10000 T (kv k)).run P w= .ok () w
 find:∀k (es:List MapEntry) w,(∀e∈es,∃k',e.key=kv k')->(Instr.findKey T (kv k) es).run P w= .ok (V5 (Kp (kv k)) es 0) w
 same:∀k k',Kp (kv k) (kv k')=true->Instr.sameBits 10000 (kv k') (kv k)=true
def P8(a:TypeDesc)(k:Value)(p:Value->Bool):∀(es:List MapEntry)(i:Nat),(∀e∈es,Instr.sameNow a k e.key=some (p e.key))->Instr.findNow a k es i=some (V5 p es i)
 |[],_,_=>rfl
 |e::es,i,h=>by
  have b:=h e (by simp);have c:=P8 a k p es (i+1) λe d=>h e (by simp[d]);simp only[Instr.findNow,b,V5];cases p e.key
  ·simpa using c
  ·rfl
def P9{P:Program}(T:TypeId)(k:Value)(p:Value->Bool)(w:World):∀(es:List MapEntry)(i:Nat),(∀e∈es,(Op.equal T k e.key).run P w= .ok (p e.key) w)->(Instr.findAsking T k es i).run P w= .ok (V5 p es i) w
 |[],_,_=>rfl
 |e::es,i,h=>by
  have a:=h e (by simp);have b:=P9 T k p w es (i+1) λe c=>h e (by simp[c]);simp only[Instr.findAsking,Sem.run_bind,a,Result.andThen_ok,V5];cases p e.key
  ·simpa using b
  ·rfl
def TF{a b:ByteArray}:(a==b)=true↔a=b:=by
 obtain⟨a⟩:=a;obtain⟨b⟩:=b;rw[show((⟨a⟩:ByteArray)==⟨b⟩)=(a==b)from rfl];simp
def NU.str{T:TypeId}(b:P.underlying T=some .string)(c:∀(s:ByteArray) e w,(Instr.checkKey e 10000 T (.string s)).run P w= .ok () w):NU P T Value.string where
 chk:=c
 find:=λk es w h=>by
  have:Instr.findNow .string (.string k) es 0=some (V5 (Kp (.string k)) es 0):=P8 _ _ _ es 0 λe d=>by obtain⟨a,g⟩:=h e d;rw[g];rfl
  simp[Instr.findKey,run_underlying b,this]
 same:=λk a h=>by
  have:k=a:=TF.1 (by simpa[Kp,WA]using h);subst this;simp[Instr.sameBits,TF.2]
def NU.int{T:TypeId}(b:P.underlying T=some (.int kd))(c:∀(s:Int) e w,(Instr.checkKey e 10000 T (.int kd s)).run P w= .ok () w):NU P T (Value.int kd) where
 chk:=c
 find:=λk es w h=>by
  have:Instr.findNow (.int kd) (.int kd k) es 0=some (V5 (Kp (.int kd k)) es 0):=P8 _ _ _ es 0 λe d=>by
   obtain⟨a,g⟩:=h e d;rw[g];simp[Instr.sameNow,Kp,WA,T6]
  simp[Instr.findKey,run_underlying b,this]
 same:=λk a h=>by
  have:k=a:=by simpa[Kp,WA]using h
  subst this;simp[Instr.sameBits]
def NU.agg{κ:Type}{T:TypeId}{f:κ->List Value}{i:Array _}(l:P.underlying T=some (.struct i))(n:eI P T=some ks)(m:∀k,(f k).map N3=ks)(o:∀a b,R9 (f a) (f b)=true)
  (p:∀k e w,(Instr.checkKey e 10000 T (.agg (f k).toArray)).run P w= .ok () w) (q:∀a b,Rf (f a) (f b)=true->f a=f b) (s:∀a,Instr.sameBits 10000 (.agg (f a).toArray) (.agg (f a).toArray)=true):NU P T (λk=>Value.agg (f k).toArray) where
 chk:=p
 find:=λk es w h=>by
  have d:(Instr.findAsking T (.agg (f k).toArray) es).run P w= .ok (V5 (Kp (.agg (f k).toArray)) es 0) w:=P9 T _ _ w es 0 λe t=>by
   obtain⟨c,u⟩:=h e t;rw[u];have:=(YJ (w:=w) n (m k) (m c) (o k c)).1;simpa[Op.equal,Op.maxDepth,Kp]using this
  have g:Instr.findNow (.struct i) (.agg (f k).toArray) es 0=some (V5 (Kp (.agg (f k).toArray)) es 0)\/Instr.findNow (.struct i) (.agg (f k).toArray) es 0=none:=by
   cases es with
   |nil=>exact .inl rfl
   |cons e es=>exact .inr rfl
  rcases g with j|j
  ·simp[Instr.findKey,run_underlying l,j]
  ·simp[Instr.findKey,run_underlying l,j,d]
 same:=λk c h=>by
  have h':Rf (f k) (f c)=true:=by simpa[Kp]using h
  have:=q k c h';simp only[this];exact s c
def Og(es:List MapEntry)(c:Nat):Prop:=(es.map (·.born)).Nodup/\∀x,x∈es->x.born<c
def Og.push{c:Nat}(k:Og es c)(e:MapEntry)(l:e.born=c):Og (es++[e]) (c+1):=by
 refine⟨?_,λx d=>?_⟩
 ·rw[Ah5,Ajw];refine⟨k.1,by simp,λa g b i=>?_⟩;simp only[Ag9,List.map_nil,Aho]at i;obtain⟨y,j,rfl⟩:=Ahr.1 g;have:=k.2 y j;omega
 ·rcases Ahi.1 d with d|d
  ·have:=k.2 x d;omega
  ·simp only[Aho]at d;subst d;omega
def Og.of{a:List MapEntry}{c:Nat}(k:Og es c)(h:a.map (·.born)=es.map (·.born)):Og a c:=by
 refine⟨by rw[h];exact k.1,λx b=>?_⟩;have:x.born∈es.map (·.born):=by rw[<-h];exact Ahr.2 ⟨x,b,rfl⟩
 obtain⟨y,d,e⟩:=Ahr.1 this;have:=k.2 y d;omega
def TX(es:List MapEntry)(j:Nat)(f:MapEntry->MapEntry)(a:∀e,(f e).born=e.born):(es.modify j f).map (·.born)=es.map (·.born):=by
 apply Ah1;intro i;simp only[Aig,List.getElem?_modify];by_cases e:j=i
 ·subst e;cases es[j]? <;>simp[a]
 ·simp[e]
def MP{κ β:Type}(kv:κ->Value)(vv:β->Value)(b:Nat)(m:List (κ×β)):HP where
 holds:=λ_ F h=>(∀c,F c↔c=b)/\∃es a,h[b]? =some (.map es a)/\es.toList.map (λe=>(e.key,e.val))=(m.map λe=>(kv e.1,vv e.2))/\Og es.toList a
 loc:=λ⟨d,es,c,g,i⟩ _ e=>⟨d,es,c,(e _ (.inr ((d _).2 rfl))).trans g,i⟩
def MP.flat{κ β}{kv:κ->Value}{vv:β->Value}{b m}:(MP kv vv b m).Flat:=λ{_ _ _ _} k=>k
section
variable{κ β:Type}{kv:κ->Value}{vv:β->Value}
def SS:∀{es:List MapEntry}{m:List (κ×β)},es.map (λe=>(e.key,e.val))=m.map (λe=>(kv e.1,vv e.2))->∀e∈es,∃b,e.key=kv b
 |[],_,_,_,a=>by cases a
 |x::es,[],h,_,_=>by simp at h
 |x::es,y::m,h,e,a=>by
  simp only[Ag9,List.cons.injEq,Aja]at h;rcases Agv.1 a with rfl|a
  ·exact⟨_,h.1.1⟩
  ·exact SS h.2 e a
def aU(k:κ):∀{es:List MapEntry}{m:List (κ×β)}(i:Nat),es.map (λe=>(e.key,e.val))=m.map (λe=>(kv e.1,vv e.2))->(V5 (Kp (kv k)) es i).map (·.2)=(KT kv m k).map vv
 |[],[],_,_=>rfl
 |[],_::_,_,h=>by simp at h
 |x::es,[],_,h=>by simp at h
 |x::es,y::m,i,h=>by
  simp only[Ag9,List.cons.injEq,Aja]at h;have a:=aU k (i+1) h.2;simp only[V5,h.1.1,KT,Aje]at a ⊢;cases Kp (kv k) (kv y.1)
  ·simpa using a
  ·simp[h.1.2]
def Us(k:κ):∀{es:List MapEntry}{m:List (κ×β)}(i:Nat)(x:β),es.map (λe=>(e.key,e.val))=m.map (λe=>(kv e.1,vv e.2))->V5 (Kp (kv k)) es i=none->Mj kv m k x=m++[(k,x)]
 |[],[],_,_,_,_=>rfl
 |[],_::_,_,_,h,_=>by simp at h
 |x::es,[],_,_,h,_=>by simp at h
 |x::es,y::m,i,z,h,a=>by
  simp only[Ag9,List.cons.injEq,Aja]at h;simp only[V5,h.1.1]at a;split at a
  ·cases a
  ·rename_i b;simp only[Mj,b,Ail,Aim,Us k (i+1) z h.2 a,Ag4]
def Ur(k:κ)(u:Value):∀{es:List MapEntry}{m:List (κ×β)}(i j:Nat)(v:Value)(x:β),es.map (λe=>(e.key,e.val))=m.map (λe=>(kv e.1,vv e.2))->V5 (Kp (kv k)) es i=some (j,v)->
  i<=j/\j-i<es.length/\(∃a,(es[j-i]?).map (·.key)=some (kv a)/\Kp (kv k) (kv a)=true)/\(es.modify (j-i) λe=>{ e with key:=kv k,val:=vv x}).map (λe=>(e.key,e.val))=(Mj kv m k x).map λe=>(kv e.1,vv e.2)
 |[],_,_,_,_,_,_,h=>by simp[V5]at h
 |x::es,[],_,_,_,_,h,_=>by simp at h
 |x::es,y::m,i,j,v,z,h,b=>by
  simp only[Ag9,List.cons.injEq,Aja]at h;simp only[V5,h.1.1]at b;split at b
  ·rename_i c;obtain⟨rfl,rfl⟩:i=j/\x.val=v:=by simpa using b
   refine⟨Ag5 _,by simp,⟨y.1,by simp[h.1.1],c⟩,?_⟩;simp[Mj,c,h.2]
  ·rename_i c;obtain⟨o,d,⟨a,g,l⟩,n⟩:=Ur k u (i+1) j v z h.2 b;have e:j-i=(j-(i+1))+1:=Ω
   refine⟨Ω,by rw[e];simpa using d,⟨a,by rw[e];simpa using g,l⟩,?_⟩;rw[e];simp only[List.modify_succ_cons,Ag9,Mj,c,Ail,Aim,n,h.1.1,h.1.2]
end
section
variable{P:Program}{ops:Array Oper}{C:World->Prop}{Q:Act->Prop}{n:FN}{m m':SM}{rest:List Oper}
variable{d:Nat}{ty:TypeId}{pos:String}{af:Array Edge}{X Y Z:Operand}{t t1 t2:TypeId}{v p u:Value}{S:Nat->Prop}{L L2:List HP}{h:AV}{b:Nat}
variable{κ β:Type}{kv:κ->Value}{vv:β->Value}{l:List (κ×β)}{k0:κ}{z:β}{kt et:TypeId}
def UY(k:P.underlying t=some (.map kt et))(g:NU P kt kv)(q:∀w,(zeroValue et).run P w= .ok (vv z) w){es:Array MapEntry}{c:Nat}(m:w.heap[b]? =some (.map es c))(n:es.toList.map (λe=>(e.key,e.val))=l.map λe=>(kv e.1,vv e.2)):
  (Instr.lookup t (.map (some b)) (kv k0) j).run P w= .ok (if j then .tuple #[vv ((KT kv l k0).getD z),.bool (KT kv l k0).isSome] else vv ((KT kv l k0).getD z)) w:=by
 have a:=g.find k0 es.toList w (SS n);have d:=aU (kv:=kv) (vv:=vv) k0 0 n;have s:=q w;cases o:V5 (Kp (kv k0)) es.toList 0 with
 |none=>
  rw[o]at a d;have i:KT kv l k0=none:=by simpa using d.symm
  simp[Instr.lookup,run_underlying k,MapKept.run_getObj_map m,g.chk,a,s,i]
 |some r=>
  rw[o]at a d;obtain⟨y,i,p⟩:∃y,KT kv l k0=some y/\vv y=r.2:=Ah6.1 (by simpa using d.symm);obtain⟨u,v⟩:=r;simp only at p;subst p;simp[Instr.lookup,run_underlying k,MapKept.run_getObj_map m,g.chk,a,i]
def Nd(o:CK C h)(p:St S L h)(q:MP kv vv b l∈L)(s:B5 m X=some (.map (some b)))(v:B5 m Y=some (kv k0))(x:P.underlying t=some (.map kt et))(y:NU P kt kv)(A:∀w,(zeroValue et).run P w= .ok (vv z) w)(hd:Nat.blt d n.1=true)
  (B:(if j then .tuple #[vv ((KT kv l k0).getD z),.bool (KT kv l k0).isSome] else vv ((KT kv l k0).getD z))=u)
  (k:QF P ops C Q rest n ((d,u)::m)):QF P ops C Q (⟨some d,.lookup t X Y j,ty,pos,af,none⟩::rest) n m:=λa g=>by
 refine GH g hd (λw D=>?_) k;obtain⟨F,⟨G,es,c,H,I,_⟩,i⟩:=p.get q;have J:w.heap[b]? =some (.map es c):=(o w D b (i b ((G b).2 rfl)).1).trans H;simp[execOp,g.eval s,g.eval v,UY x y A J I,B]
end
section
variable{P:Program}{ops:Array Oper}{Q:Exit->Act->World->Prop}{n:FN}{m:SM}{rest:List Oper}
variable{d:Nat}{ty:TypeId}{pos:String}{af:Array Edge}{X Y Z:Operand}{B w:World}{h:AV}{S:Nat->Prop}{L L2:List HP}{v:Value}{t kt et:TypeId}{b:Nat}
variable{κ β:Type}{kv:κ->Value}{vv:β->Value}{l:List (κ×β)}{k0:κ}{x:β}
def TM(hs:St S L h)(rp:Nm L (MP kv vv b l) (MP kv vv b (Mj kv l k0 x)) L2)(hx:B5 m X=some (.map (some b)))(hy:B5 m Y=some (kv k0))(hz:B5 m Z=some (vv x))(hT:P.underlying t=some (.map kt et))(G:NU P kt kv)
  (k:∀h',St S L2 h'->CO S h S h'->LF P ops Q rest B h' n m):LF P ops Q (⟨none,.mapUpdate t X Y Z,ty,pos,af,none⟩::rest) B h n m:=by
 intro a w q u;refine wpList_plain rfl λK v=>?_;unfold Oper.wp;obtain⟨M,p,_⟩:=rp.pick;obtain⟨F,⟨g1,es,c,g2,H,g4⟩,hF,_⟩:=Sp.pick p hs.2;have y:w.heap[b]? =some (.map es c):=by rw[u.heap];exact g2
 have I:=G.find k0 es.toList w (SS H);have z:∀(o:Obj)(h0:w.heap=h),(∀c',c'≠b->(w.heap.setIfInBounds b o)[c']? =h[c']?)/\(w.heap.setIfInBounds b o)[b]? =some o/\(w.heap.setIfInBounds b o).size=h.size:=λo h0=>by
  have J:b<w.heap.size:=(Ahu.1 y).1;refine⟨λc' A=>by rw[Aj8 (Ne.symm A),h0],?_,by simp[h0]⟩;rw[Array.getElem?_setIfInBounds_self];simp[J]
 have C:∀(d:Array MapEntry)(c':Nat),d.toList.map (λe=>(e.key,e.val))=(Mj kv l k0 x).map (λe=>(kv e.1,vv e.2))->Og d.toList c'->wpList P ops Q rest a { w with heap:=w.heap.setIfInBounds b (.map d c')}:=λd c' he U=>by
  obtain⟨s1,s2,s3⟩:=z (.map d c') u.heap;have V:Wd B (w.heap.setIfInBounds b (.map d c')) { w with heap:=w.heap.setIfInBounds b (.map d c')}:=⟨rfl,u.os,u.tape,u.out⟩
  obtain⟨u1,u2⟩:=hs.upd (h':=w.heap.setIfInBounds b (.map d c')) rp Ω λF k1 k2=>⟨F,⟨k1.1,d,c',s2,he,U⟩,λc A=> .inl A,λc _ A=>s1 c λe=>A ((k1.1 c).2 e)⟩
  exact k _ u1 u2 a _ q V
 cases i:V5 (Kp (kv k0)) es.toList 0 with
 |none=>
  rw[i]at I;have g:(execOp a.eval ⟨none,.mapUpdate t X Y Z,ty,pos,af,none⟩).run P w= .ok .skip { w with heap:=w.heap.setIfInBounds b (.map (es.push { key:=kv k0,val:=vv x,born:=c}) (c+1))}:=by
   simp[execOp,q.eval hx,q.eval hy,q.eval hz,Instr.mapUpdate,run_underlying hT,MapKept.run_getObj_map y,G.chk,I,MapKept.run_setObj_map _ y]
  rw[g];refine v _ _ (C _ _ ?_ (by rw[Array.toList_push];exact g4.push _ rfl));rw[Us k0 0 x H i];simp[H]
 |some r=>
  obtain⟨j,r2⟩:=r;rw[i]at I;obtain⟨_,q2,⟨W,q3,q4⟩,q5⟩:=Ur k0 (vv x) 0 j r2 x H i;have D:((es[j]?).map (·.key)).getD (kv k0)=kv W:=by
   have:(es[j]?).map (·.key)=some (kv W):=by simpa using q3
   simp[this]
  have s:(Instr.keyThatStays (kv W) (kv k0)).run P w= .ok (kv k0) w:=by simp[Instr.keyThatStays,G.same _ _ q4]
  have g:(execOp a.eval ⟨none,.mapUpdate t X Y Z,ty,pos,af,none⟩).run P w= .ok .skip { w with heap:=w.heap.setIfInBounds b (.map (es.modify j λe=>{ e with key:=kv k0,val:=vv x}) c)}:=by
   simp[execOp,q.eval hx,q.eval hy,q.eval hz,Instr.mapUpdate,run_underlying hT,MapKept.run_getObj_map y,G.chk,I,D,s,MapKept.run_setObj_map _ y]
  rw[g];refine v _ _ (C _ _ ?_ (by rw[Array.toList_modify];exact g4.of (TX _ _ _ λ_=>rfl)));simpa using q5
def XK{K E:TypeId}(hd:Nat.blt d n.1=true)(o:St S L h)(kv:κ->Value)(vv:β->Value)
  (k:∀b h',St S (MP kv vv b []::L) h'->CO S h S h'->LF P ops Q rest B h' n ((d,.map (some b))::m)):LF P ops Q (⟨some d,.makeMap t none,ty,pos,af,none⟩::rest) B h n m:=by
 intro a w p l;refine wpList_plain rfl λK g=>?_;unfold Oper.wp;have c:(execOp a.eval ⟨some d,.makeMap t none,ty,pos,af,none⟩).run P w= .ok (.value (.map (some w.heap.size))) (w.alloc (.map #[] 0)):=by
  first|rfl|(simp[execOp,Instr.makeMap,newObj,Sem.run])
 rw[c];obtain⟨q,s⟩:=o.add (h':=h.push (.map #[] 0)) (H':=MP kv vv h.size []) (by simp) (λb i=>I5 _ _ _ i) ⟨λb=>b=h.size,⟨λ_=>Iff.rfl,#[],0,NH _ _,rfl,List.nodup_nil,λx u=>by cases u⟩,λb i=>by subst i;simp⟩;have j:=l.heap;exact g _ _ (k w.heap.size _ (by rw[j];exact q) s _ _ (p.put hd _) (l.alloc _))
end
def Aep(P:Program)(T:TypeId):Option (List (Nat×Nat)×List Value):=
 match P.underlying T,E8 P T with
 |some (.array n e),some z=>(P.info? e).map λi=>((List.range n).map λk=>(k*i.size,i.size),z)
 |_,_=>none
def Afn(P:Program)(t len sz:Nat):Bool:=
 match P.underlying t with
 |some (.array n e)=>Nat.beq n len&&(match P.info? e with|some i=>Nat.beq i.size sz|none=>false)
 |_=>false
def V6{p q:Nat->Option (Nat×Nat)}(h:∀i x,p i=some x->q i=some x):∀(pv:List (Nat×Value))(cs cs':Array Value),Instr.fill p cs pv=some cs'->Instr.fill q cs pv=some cs'
 |[],_,_,e=>e
 |(i,v)::r,cs,cs',e=>by
  simp only[Instr.fill]at e ⊢;cases a:p i with
  |none=>rw[a]at e;cases e
  |some x=>
   obtain⟨o,s⟩:=x;rw[a]at e;rw[h i _ a];simp only at e ⊢;split at e
   ·cases e
   ·rename_i b;rw[Agn b];exact V6 h r _ _ e
def mO{T:TypeId}{pl z pv cs}(h:Aep P T=some (pl,z))(o:Nh pl z pv=some cs):P.built T pv=some cs.toArray:=by
 unfold Aep at h;split at h
 ·rename_i n e p s a;simp only[Ah6,Aja]at h;obtain⟨g,b,rfl,rfl⟩:=h;unfold E8 at a;simp only[Ah6,Aiq]at a;obtain⟨w,⟨i,t,c⟩,d⟩:=a;simp only[Program.built,t,s,c,b];have l:=PG _ pv p cs o;rw[<-d]at l;have u:=V6 (q:=λi=>some (i*g.size,g.size)) (λj x m=>by
   rw[List.getElem?_toArray,Aig]at m;obtain⟨k,v,rfl⟩:=Ah6.1 m;obtain⟨_,rfl⟩:=Ag0.1 v;simp) pv _ _ l
  simpa using u
 ·cases h
section
variable{P:Program}{ops:Array Oper}{C:World->Prop}{Q:Act->Prop}{n:FN}{m m':SM}{rest:List Oper}
variable{d:Nat}{ty:TypeId}{pos:String}{af:Array Edge}{X Y Z:Operand}{t:TypeId}{S:Nat->Prop}{L:List HP}{h:AV}{i:Int}{kd:IntKind}
def rP{T:TypeId}{b:Array (Nat×Operand)}{pl z pv cs}(s:Aep P T=some (pl,z))(c:b.toList.mapM (cZ m)=some pv)(o:Nh pl z pv=some cs)(hd:Nat.blt d n.1=true)(k:QF P ops C Q rest n ((d,.agg cs.toArray)::m)):QF P ops C Q (⟨some d,.build T b,ty,pos,af,none⟩::rest) n m:=λa q=>by
 refine GH q hd (λw _=>?_) k;have i:(b.map λ(p:Nat×Operand)=>(p.1,a.eval p.2)).toList=pv:=by
  obtain⟨l⟩:=b;simp only at c;simp only[List.map_toArray];clear o k
  induction l generalizing pv with
  |nil=>simp at c;subst c;rfl
  |cons x l t=>
   simp only[Ai9,Ajp,Aiq,cZ,Ah6]at c;obtain⟨y,⟨v,u,rfl⟩,A,j,g⟩:=c;simp only[Ajq,Ahv]at g;subst g;simp only[Ag9,q.eval u,t j]
 have:=run_build (P:=P) w T (b.map λ(p:Nat×Operand)=>(p.1,a.eval p.2)) cs.toArray (by rw[i];exact mO s o);simp only[execOp,Sem.run_bind,this];rfl
def Aav{o len sz:Nat}(u:B5 m X=some (.pointer (some ⟨b,o,none⟩)))(v:B5 m Y=some (.int kd i))(c:Afn P t len sz=true)(h0:0<=i)(x:i<len)(hd:Nat.blt d n.1=true)
  (k:QF P ops C Q rest n ((d,.pointer (some ⟨b,o+i.toNat*sz,none⟩))::m)):QF P ops C Q (⟨some d,.indexAddr t X Y,ty,pos,af,none⟩::rest) n m:=λa l=>by
 unfold Afn at c;split at c
 ·rename_i z e y;simp only[Agu]at c;obtain⟨p,g⟩:=c;have p:=Ag1 p;subst p;split at g
  ·rename_i s q;have g:=Ag1 g;subst g;have j:(⟨b,o,none⟩:Addr).add (i.toNat*s.size)=⟨b,o+i.toNat*s.size,none⟩:=by unfold Addr.add;split<;>simp_all
   exact GH l hd (λw _=>by simp[execOp,l.eval u,l.eval v,Instr.indexAt,asIntOf,run_underlying y,Instr.sureAddr,h0,x,Su q,j]) k
  ·cases g
 ·cases c
def rM{B:Type}{o:Nat}{cs:List Value}{l:List B}{z:B}(f:B->Value)(p:CK C h)(q:St S L h)(s:B5 m X=some (.pointer (some ⟨b,o+i.toNat*1,none⟩)))(u:Bx b T cs∈L)(v:(cs.drop o).take l.length=l.map f)(w:Go.Proofs.YtabonambpbofgaaGreat.ix l i=some z)(x:LD P t 1 false=true)(hd:Nat.blt d n.1=true)
  (k:QF P ops C Q rest n ((d,f z)::m)):QF P ops C Q (⟨some d,.load t X,ty,pos,af,none⟩::rest) n m:=by
 obtain⟨h0,g⟩:=FQ w;have y:(cs.drop (o+i.toNat*1)).take 1=[f z]:=by
  have j:((cs.drop o).take l.length)[i.toNat]? =some (f z):=by rw[v,Aig,g];rfl
  have c:i.toNat<l.length:=(Ag0.1 g).1;rw[Aif c,Ai0]at j;rw[Aih];obtain⟨a,A⟩:=Ag0.1 j;rw[Ai2 a,A];rfl
 exact Fk (vs:=[f z]) p q s u y rfl x rfl hd k
end
def eQ(h:AV)(T:TypeId)(cs:List Value)(v:Value)(a:AV):Prop:=∃b,v= .pointer (some ⟨b,0,none⟩)/\h.size<=b/\b<a.size/\a[b]? =some (.cells cs.toArray T (0,0))
def eQ.mono{a c:AV}{T cs v}(k:eQ h T cs v a)(o:Ef a c):eQ h T cs v c:=by
 obtain⟨b,e,g,d,i⟩:=k;exact⟨b,e,g,Ag6 d o.siz,(o.same b d).trans i⟩
def eQ.st{g:AV}{T cs v}(k:eQ h T cs v g)(d:St S L h)(o:Ef h g):∃b,v= .pointer (some ⟨b,0,none⟩)/\St S (Bx b T cs::L) g:=by
 obtain⟨b,e,m,i,j⟩:=k;refine⟨b,e,λc a=>Ag6 (d.1 c a) o.siz,λc=>c=b,⟨λ_=>Iff.rfl,j⟩,λc a=>by subst a;exact⟨i,λl=>absurd (d.1 c l) Ω⟩,?_⟩;refine Sp.ext d.2 (λ_ x=>x) (λc a=>o.same c (a.elim (d.1 c) (·.1))) λc a=>⟨⟨Ag6 a.1 o.siz,a.2⟩,λe=>by have:=a.1;omega⟩
def nN{Q:Exit->Act->World->Prop}{ty:TypeId}{pos:String}{j:AV}{T:TypeId}{cs:List Value}(o:Ef h j)(c:E8 P T=some cs)(hd:Nat.blt d n.1=true)
  (k:∀v h',Ef j h'->eQ h T cs v h'->LF P ops Q rest B h' n ((d,v)::m)):LF P ops Q (⟨some d,.alloc T,ty,pos,af,none⟩::rest) B j n m:=by
 intro a w s q;refine wpList_plain rfl λK t=>?_;unfold Oper.wp;unfold E8 at c;simp only[Ah6,Aiq]at c;obtain⟨z,⟨i,u,c⟩,l⟩:=c;have x:z.cells=cs.toArray:=by rw[<-l]
 have g:(execOp a.eval ⟨some d,.alloc T,ty,pos,af,none⟩).run P w= .ok (.value (.pointer (some ⟨w.heap.size,0,none⟩))) (w.alloc (.cells cs.toArray T)):=by
  simp[execOp,Instr.alloc,newVar,newRow,zeroValue,typeInfo,u,c,x]
 rw[g];have p:=q.heap;exact t _ _ (k _ _ ⟨by simp,λb y=>I5 _ _ _ y⟩ ⟨j.size,by rw[p],o.siz,by simp,NH _ _⟩ _ _ (s.put hd _) (q.alloc _))
def N5(ops:Array Oper)(f:Nat):Bool:=(List.range ops.size).all λj=>j==f||(Region.waitsFor .any ops j f||(Region.waitsFor .any ops f j||match ops[f]?,ops[j]? with
 |some oi,some a=>oi.apart ops a
 |_,_=>false))
def Qe(P:Program)(ops:Array Oper)(n:FN)(m:SM)(h0:AV)(R:AR)(i:Nat)(o:Oper)(b:List (Nat×Nat)):Prop:=
 ∀mt h,Ef h0 h->PA R h (λfr=>∀a,Fr n a (fr++(m++mt))->∃v,Yields P ops o v a/\R i v h) b []
section
variable{P:Program}{ops:Array Oper}{Q:Exit->Act->World->Prop}{a:Act}{w:World}
end
def TQ(P:Program)(ops:Array Oper)(a:Nat)(n:FN)(m:SM)(h0:AV)(R:AR):List Nat->Prop
 |[]=>True
 |f::F=>(f<a/\N5 ops f=true/\∃o d b,ops[f]? =some o/\o.dst=some d/\Uf ops o b=true/\Qe P ops n m h0 R f o b)/\TQ P ops a n m h0 R F
def TQ.at_{P:Program}{ops:Array Oper}{b:Nat}{n:FN}{m:SM}{h0:AV}{R:AR}:∀{F:List Nat},TQ P ops b n m h0 R F->∀f,f∈F->f<b/\N5 ops f=true/\∃o d c,ops[f]? =some o/\o.dst=some d/\Uf ops o c=true/\Qe P ops n m h0 R f o c
 |[],_,f,a=>by cases a
 |g::F,⟨i,j⟩,f,a=>by
  rcases Agv.1 a with rfl|a
  ·exact i
  ·exact TQ.at_ j f a
def TQ.cons{P:Program}{ops:Array Oper}{a:Nat}{n:FN}{m:SM}{h0:AV}{R:AR}{f d:Nat}{o:Oper}{F:List Nat}(b:List (Nat×Nat))(c:(Nat.blt f a&&N5 ops f)=true)(i:ops[f]? =some o)(hd:o.dst=some d)(g:Uf ops o b=true)(j:Qe P ops n m h0 R f o b)(t:TQ P ops a n m h0 R F):TQ P ops a n m h0 R (f::F):=by
 simp only[Agu]at c;exact⟨⟨(by simpa[Nat.blt]using c.1:f+1<=a),c.2,o,d,b,i,hd,g,j⟩,t⟩
def UF{i:Nat}{ty:TypeId}{b:String}(g:Fr n a m)(j:B5 m X=some (.tuple xs))(k:xs[i]? =some u):Yields P ops ⟨some d,.extract X i,ty,b,c,none⟩ u a:=
 .inl ⟨by simp[Region.wanted],λw=>by simp[execOp,g.eval j,Instr.extract,k]⟩
def Oh{ty:TypeId}{b:String}(g:Fr n a m)(i:B5 m X=some u):Yields P ops ⟨some d,.move X,ty,b,c,none⟩ u a:=
 .inl ⟨by simp[Region.wanted],λw=>by simp[execOp,g.eval i]⟩
section
variable{P:Program}{ex:List (Nat×AP)}{RR N:AP}{cs:List Code}{B:World}{h:AV}{n:FN}{m m0:SM}{S:Nat->Prop}{L:List HP}
end
end Go.Proofs.YtabonambpbofgaaGreat
