import Derived.Test.YtedgiljmffngoaaGreatGCore14
import Derived.Lib.SliceRun
import Derived.Lib.Overlaps
import Derived.Lib.AppendZerosOnto
namespace Go.Proofs.YtedgiljmffngoaaGreat
set_option linter.all false
open Go.RowKit
section
variable {P:Program}{ops:Array Oper}{C:World→Prop}{Q:Act→Prop}{n:FN}{m m':SM}{rest:List Oper}
variable {d:Nat}{ty:TypeId}{pos:String}{af:Array Edge}{X Y Z:Operand}{t t1 t2:TypeId}{v:Value}{S:Nat→Prop}{L:List HP}{h:AW}
def KV {b:Addr}(g:BT m X=some (.pointer (some b))) (hd:Nat.blt d n.1=true) (k:QF P ops C Q rest n ((d,.pointer (some b))::m)):QF P ops C Q (⟨some d,.nilCheck X,ty,pos,af,none⟩::rest) n m:=λa c=>
 Dn c hd (λw _=>by simp [execOp,c.eval g]) k
def sW (P:Program) (t j off a:Nat) (sz:Nat) (ag:Bool):Bool:=
 match P.underlying t with
 |some (.struct b)=>(match b[j]? with|some f=>Nat.beq f.offset off&&Nat.beq f.type a&&Jd P a sz ag|none=>false)
 |_=>false
def YG {a sz:Nat}{ag:Bool}(h:Jd P a sz ag=true) (w:World):(isAgg a).run P w= .ok ag w∧(sizeOf a).run P w= .ok sz w:=by
 obtain⟨i,b,c,d,g,j⟩:=Py h;refine⟨?_,by simp [sizeOf,typeInfo,c,g]⟩;subst j;simp only[isAgg,Sem.run_bind,run_underlying d,Result.andThen_ok];cases b<;>rfl
def sK {xs:Array Value}{j off v sz:Nat}{ag:Bool}{u:Value}(p:BT m X=some (.agg xs)) (b:sW P t j off v sz ag=true) (g:(if ag then some (.agg (xs.extract off (off+sz))) else xs[off]?)=some u) (hd:Nat.blt d n.1=true) (k:QF P ops C Q rest n ((d,u)::m)):QF P ops C Q (⟨some d,.field t X j,ty,pos,af,none⟩::rest) n m:=λa i=>by
 unfold sW at b;split at b
 ·rename_i z c;split at b
  ·rename_i f q;simp only[tO] at b;obtain⟨⟨l,o⟩,x⟩:=b;have l:=tV l;have o:=tV o;subst l;subst o;refine Dn i hd (λw _=>?_) k;obtain⟨s,y⟩:=YG x w;cases ag
   ·simp only[wH,wI] at g;simp [execOp,i.eval p,Instr.field,run_underlying c,q,asAgg,part,s,g]
   ·simp only[if_true,vB] at g;simp [execOp,i.eval p,Instr.field,run_underlying c,q,asAgg,part,s,y,g]
  ·cases b
 ·cases b
def bH {b:Addr}{l c:Nat}(j:BT m X=some (.slice (some b) l c)) (o:BT m Y=some (.slice none 0 0)) (hd:Nat.blt d n.1=true) (g:∃e,P.underlying t1=some (.slice e)) (k:QF P ops C Q rest n ((d,.bool false)::m)):QF P ops C Q (⟨some d,.binOp .eql t1 X Y t2,ty,pos,af,none⟩::rest) n m:=λa i=>by
 obtain⟨e,g⟩:=g;refine Dn i hd (λw _=>?_) k;have p:(eqGuard .eql t1 X Y (.slice (some b) l c) (.slice none 0 0)).run P w= .ok () w:=by unfold eqGuard;simp
 have q:=Lib.run_eql_slice_nil (P:=P) w t1 e (some b) l c 0 0 g;simp [execOp,i.eval j,i.eval o,p,q]
def XY (g:BT m X=some (.slice none 0 0)) (i:BT m Y=some (.slice none 0 0)) (hd:Nat.blt d n.1=true) (b:∃e,P.underlying t1=some (.slice e)) (k:QF P ops C Q rest n ((d,.bool true)::m)):QF P ops C Q (⟨some d,.binOp .eql t1 X Y t2,ty,pos,af,none⟩::rest) n m:=λa c=>by
 obtain⟨e,b⟩:=b;refine Dn c hd (λw _=>?_) k;have j:(eqGuard .eql t1 X Y (.slice none 0 0) (.slice none 0 0)).run P w= .ok () w:=by unfold eqGuard;simp
 have l:=Lib.run_eql_slice_nil (P:=P) w t1 e none 0 0 0 0 b;simp [execOp,c.eval g,c.eval i,j,l]
end
def Xl {P:Program}{ops:Array Oper}{n:FN}{m:SM}{d:Nat}{ty:TypeId}{pos:String}{af:Array Edge}{X:Operand}{b o j off t:Nat}{a:Act}(g:Fr n a m) (i:BT m X=some (.pointer (some ⟨b,o,none⟩))) (k:YV P t j off=true):Yields P ops ⟨some d,.fieldAddr t X j,ty,pos,af,none⟩ (.pointer (some ⟨b,o+off,none⟩)) a:=by
 have c:(⟨b,o,none⟩:Addr).add off=⟨b,o+off,none⟩:=by unfold Addr.add;split<;>simp_all
 exact .inl ⟨by simp [Region.wanted],λw=>by simp [execOp,g.eval i,LY k,c]⟩
def St.bxAll {α}{r:A7 α}{x:α}{b T:Nat}{cs:List Value}{S:Nat→Prop}{L:List HP}{h:AW}(a:St S L h) (c:Bx b T cs∈L) (d:r.rd S h cs x):Pt (λb=>b<h.size) h r (.pointer (some ⟨b,0,none⟩)) x:=by
 obtain⟨F,k,g⟩:=a.get c;refine⟨cs,⟨⟨b,0,none⟩,rfl,rfl,(g b ((k.1 b).2 rfl)).1,λj l=>?_⟩,r.mono d (λb i=>a.1 b i) λ_ _=>rfl⟩;rw[uT];exact Bx.cell k j
def Sl.cases {α}{S:Nat→Prop}{h:AW}{r:A7 α}{v:Value}{l:List α}(k:Sl S h r v l):(v= .slice none 0 0∧l=[])∨∃(a:Addr) (cap:Nat),v= .slice (some a) l.length cap∧Sl S h r (.slice (some a) l.length cap) l:=by
 rcases k with k|⟨a,cap,h1,h2⟩
 ·exact .inl k
 ·exact .inr ⟨a,cap,h1,.inr ⟨a,cap,rfl,h2⟩⟩
section
variable {P:Program}{ops:Array Oper}{Q:Exit→Act→World→Prop}{n:FN}{m:SM}{rest:List Oper}
variable {d:Nat}{ty:TypeId}{pos:String}{af:Array Edge}{X Y:Operand}{B w:World}{h:AW}{S:Nat→Prop}{L L2:List HP}{v:Value}
def Sb {α}{r:A7 α}{T e sz g:Nat}{z:List Value}(p:N3 P T=some (e,sz,g,z)) (q:r.sz=sz) (hd:Nat.blt d n.1=true) (s:St S L h)
  (k:∀v h',St S (OS r e v []::L) h'→CB S h S h'→LF P ops Q rest B h' n ((d,v)::m)):LF P ops Q (⟨some d,.buildSlice T 0 #[],ty,pos,af,none⟩::rest) B h n m:=by
 intro a w t o;refine wpList_plain rfl λK u=>?_;unfold Oper.wp;obtain⟨i,F,x,y,G,H,I,J,M,U⟩:=Kq p;have c:(execOp a.eval ⟨some d,.buildSlice T 0 #[],ty,pos,af,none⟩).run P w= .ok (.value (.slice (some ⟨w.heap.size,0,none⟩) 0 0)) (w.alloc (.cells #[] e)):=by
  simp [execOp,Instr.buildSlice,run_underlying x,sizeOf,typeInfo,y,Instr.fill,newRow];have A:Array.range 0= #[]:=by simp
  rw[A];simp
 rw[c];have j:=o.heap;obtain⟨C,D⟩:=s.add (h':=h.push (.cells #[] e)) (H':=OS r e (.slice (some ⟨h.size,0,none⟩) 0 0) []) (by simp) (λb l=>Gi _ _ _ l) ⟨λb=>b=h.size,.inr ⟨h.size,0,#[],rfl,λ_=>vZ,Ka _ _,tX _,by unfold maxLen;omega,by simp,by simp [LB]⟩,λb l=>by subst l;simp⟩;exact u _ _ (k _ _ (by rw[j];exact C) D _ _ (t.put hd _) (o.alloc _))
end
def Lm (ops:Array Oper):List Nat→Prop
 |s::t::r=>Region.waitsFor .any ops t s=true∧Lm ops (t::r)
 |_=>True
def Nh (ops:Array Oper):List Nat→Bool
 |s::t::r=>Region.waitsFor .any ops t s&&Nh ops (t::r)
 |_=>true
def Jm {ops:Array Oper}:∀{a:List Nat},Nh ops a=true→Lm ops a
 |[],_=>trivial
 |[_],_=>trivial
 |s::t::r,h=>by
  simp only[Nh,tO] at h;exact⟨h.1,Jm h.2⟩
def MV {ops:Array Oper}:∀{r:List Nat}{s:Nat},Lm ops (s::r)→∀j,j∈r→∃p,p∈s::r∧Region.waitsFor .any ops j p=true
 |[],_,_,j,a=>by cases a
 |t::r,s,⟨b,c⟩,j,a=>by
  rcases uA.1 a with rfl|a
  ·exact⟨s,by simp,b⟩
  ·obtain⟨p,d,g⟩:=MV c j a;exact⟨p,uR _ d,g⟩
def Qz (ops:Array Oper) (a F:List Nat):Bool:=
 (List.range ops.size).all λi=>a.contains i||(F.contains i||(List.range ops.size).any λj=>decide (i<j)&&((!a.contains j&& !F.contains j)||a.head? ==some j)&&Region.waitsFor .any ops j i)
def Ng (ops:Array Oper) (a:List Nat):Bool:=
 (List.range ops.size).all λi=>a.contains i||((ops[i]?).map λo=>o.after.all λe=> !Region.binds .any e|| !a.contains e.on).getD true
def U5 (ops:Array Oper) (a:List Nat) (n:FN) (m:List Nat):Bool:=
 (List.range ops.size).all λi=>a.contains i||match D6 ops i with
  |some d=>Nat.blt d n.1&& !(m.contains d)&&(List.range ops.size).all λj=>a.contains j||Nat.beq i j|| !((D6 ops j).any (Nat.beq d ·))
  |none=>false
structure Qv (ops:Array Oper) (ks:List Nat) (listed:Array Bool):Prop where
 size:listed.size=ops.size
 closed:∀j oj,ops[j]? =some oj→listed.getD j false=true→∀e∈oj.after,Region.binds .any e=true→listed.getD e.on false=true
 tail:∀t,t∈ks→listed.getD t true=false
def Qv.set {ops:Array Oper}{g:List Nat}{i:Nat}{a:Array Bool}(b:Qv ops g a) (u:i∈Region.ready .any ops a) (k:i∉g):Qv ops g (a.setIfInBounds i true):=by
 obtain⟨_,oi,l,c⟩:=mem_ready.1 u;refine⟨by simp [b.size],λj m n o e p q=>?_,λt s=>by rw[getD_set_ne true (λe:i=t=>k (by rw[e];exact s))];exact b.tail t s⟩;by_cases d:i=j
 ·subst d;have:m=oi:=tN (n.symm.trans l);subst this;exact getD_set_true (c e p q)
 ·rw[getD_set_ne false d] at o;exact getD_set_true (b.closed j m n o e p q)
def HC {P:Program}{ops:Array Oper}{Q Q':Exit→Act→World→Prop}(g:∀e a w,Q e a w→Q' e a w):∀(l:List Oper) (a:Act) (w:World),wpList P ops Q l a w→wpList P ops Q' l a w
 |[],a,w,h=>by unfold wpList at h ⊢;exact g _ _ _ h
 |o::l,a,w,h=>by
  unfold wpList at h ⊢;split
  ·rename_i i;rw[tT i] at h;rcases h with b|⟨b,j,k,h2⟩
   ·refine .inl ?_;unfold Oper.wp at b ⊢;generalize (execOp a.eval o).run P w=r at b
    cases r with
    |ok p w'=>
     cases p<;>simp only[Oper.upon] at b ⊢
     case value v=>exact HC g l _ _ b
     case skip=>exact HC g l _ _ b
     case defer d=>exact HC g l _ _ b
     case enter f args=>
      refine b.mono λe m n=>?_;cases e with
      |returned v=>exact HC g l _ _ n
      |panicked c=>exact g _ _ _ n
      |outgrown=>obtain⟨j,k,h0⟩:=n;exact⟨j,k,g _ _ _ h0⟩
     case row r args=>obtain b:=b;exact Rows.mono b λv m q=>HC g l _ _ q
    |halt x w'=>cases x<;>simp only[Oper.upon] at b ⊢ <;>first|exact g _ _ _ b|exact b
   ·exact .inr ⟨b,j,k,g _ _ _ h2⟩
  ·rename_i i;rw[tQ i] at h;exact HC g l _ _ h
def Xd {R:AR}{h:AW}{K K':SM→Prop}(b:∀fr,K fr→K' fr):∀(a:List (Nat×Nat)) (fr:SM),PA R h K a fr→PA R h K' a fr
 |[],fr,k=>b fr k
 |(_,d)::a,fr,k=>λu c=>Xd b a ((d,u)::fr) (k u c)
def PA.imp {R:AR}{h:AW}{K K':SM→Prop}(b:∀fr,K fr→K' fr) (a:List (Nat×Nat)) (fr:SM) (k:PA R h K a fr):PA R h K' a fr:=Xd b a fr k
def NK:Value→Option Nat
 | .pointer (some ⟨b,0,none⟩)=>some b
 | .slice (some ⟨b,0,none⟩) _ _=>some b
 |_=>none
def Tc (h:AW) (v:Value):Prop:=∃b,NK v=some b∧h.size≤b
def bV (a:List Nat) (f:Nat→Option Value):Prop:=∀s,s∈a→∀s',s'∈a→s≠s'→∀u c,f s=some u→f s'=some c→∀b d,NK u=some b→NK c=some d→b≠d
def T4 (ops:Array Oper) (As:List Nat):List Nat:=As.filterMap λi=>D6 ops i
structure ZB where
 zs:List (Nat×List Nat)
 f:Nat→List (Option Value)→Option Value
def ZB.none:ZB:=⟨[],λ_ _=>Option.none⟩
structure VU (B:World) (h0:AW) (n:FN) (m:SM) (ops:Array Oper) (ks As:List Nat) (Z:ZB) (R:AR) (listed:Array Bool) (a:Act) (w:World):Prop where
 ex:∃h,Wd B h w∧C5 h0 h∧Fr n a m∧∀i,i∉ks→listed.getD i false=true→∃d v,D6 ops i=some d∧a.tmps[d]? =some v∧R i v h
 dis:∀i,i∈As→∀j,j∈As→i≠j→listed.getD i false=true→listed.getD j false=true→∀d d' u u',D6 ops i=some d→D6 ops j=some d'→a.tmps[d]? =some u→a.tmps[d']? =some u'→∀b b',NK u=some b→NK u'=some b'→b≠b'
 pz:∀z,z∈Z.zs→listed.getD z.1 false=true→∃d v,D6 ops z.1=some d∧a.tmps[d]? =some v∧Z.f z.1 (z.2.map λs=>a.tmps[s]?)=some v
def nD (ops:Array Oper) (a:List Nat) (Z:ZB):Prop:=∀z,z∈Z.zs→z.1<ops.size∧z.1∉a∧∀s,s∈z.2→∃o j,ops[z.1]? =some o∧j∈Kb o∧D6 ops j=some s∧j∉a
def nD.none {ops:Array Oper}{a:List Nat}:nD ops a ZB.none:=λ_ h=>by cases h
def bX (ops:Array Oper) (a:List Nat) (b:List (Nat×List Nat)):Bool:=b.all λz=> !a.contains z.1&&match ops[z.1]? with
 |some o=>z.2.all λs=>(Kb o).any λj=> !a.contains j&&match D6 ops j with|some d=>Nat.beq d s|none=>false
 |none=>false
def Xk {ops:Array Oper}{k:List Nat}{Z:ZB}(h:bX ops k Z.zs=true):nD ops k Z:=λz m=>by
 have a:=tS.1 h z m;simp only[tO,uI] at a;have c:=a.2;split at c
 ·rename_i o l;refine⟨(uH.1 l).1,λg=>(by rw[tW.2 g] at a;cases a.1),λs n=>?_⟩;obtain⟨j,p,b⟩:=List.any_eq_true.1 (tS.1 c s n);simp only[tO,uI] at b;refine⟨o,j,l,p,?_,λg=>by rw[tW.2 g] at b;cases b.1⟩;have i:=b.2;split at i
  ·rename_i d hd;rw[hd,tV i]
  ·cases i
 ·cases c
def RF (R:AR) (As:List Nat) (Z:ZB) (i:Nat) (h:AW) (fr:SM) (v:Value) (h':AW):Prop:=R i v h'∧(As.contains i=true→Tc h v)∧∀sl,(i,sl)∈Z.zs→(∀s,s∈sl→(lk fr s).isSome=true)∧Z.f i (sl.map (lk fr))=some v
def WP (P:Program) (ops:Array Oper) (Q:Exit→Act→World→Prop) (B:World) (n:FN) (m:SM) (h0:AW) (R:AR) (As:List Nat) (Z:ZB) (i:Nat) (o:Oper) (d:Nat) (c:List (Nat×Nat)):Prop:=
 ∀mt h,C5 h0 h→PA R h (λfr=>match o.guard with
  |none=>LF P ops (Exit.then (KS B n d (RF R As Z i h fr) h (fr++(m++mt))) Q) [o] B h n (fr++(m++mt))
  |some (g,b)=>∃a,D6 ops g=some a∧((lk fr a=some (.bool b)∧LF P ops (Exit.then (KS B n d (RF R As Z i h fr) h (fr++(m++mt))) Q) [{ o with guard:=none}] B h n (fr++(m++mt)))∨∃v,lk fr a=some v∧yb v≠some b∧R i undef h)) c []
section
variable {P:Program}{ops:Array Oper}{Q:Exit→Act→World→Prop}{a:Act}{w:World}
def II (U:Lu ops=true):∀(n:List Nat) (c:Nat) (b:Array Bool) (a:Act) (w:World),Pw b=c→b.size=ops.size→(∀i,i<ops.size→i∉n→b.getD i true=true)→(∀t,t∈n→t<ops.size∧b.getD t true=false)→Lm ops n→n.Nodup→
  wpList P ops Q (n.filterMap λt=>ops[t]?) a w→wpAny P .any ops Q c b a w
 |[],c,b,a,w,Z,A,y,z,_,_,g=>by
  have hr:Region.ready .any ops b=[]:=Ow λi B=>y i B (by simp);exact wpAny_done hr g c
 |t::r,c,b,a,w,Z,A,y,z,V,C,g=>by
  obtain⟨k,m⟩:=z t (by simp);have aa:0<Pw b:=by have:=J8 m;omega
  obtain⟨c,rfl⟩:∃f,c=f+1:=⟨c-1,by omega⟩
  have only:∀j,j∈Region.ready .any ops b→j=t:=λj D=>by
   obtain⟨W,oj,d,o⟩:=mem_ready.1 D;have F:=(uH.1 d).1;by_cases q:j∈t::r
   ·rcases uA.1 q with rfl|hjr
    ·rfl
    ·obtain⟨p,hp,s⟩:=MV V j hjr;obtain⟨o',G,e',H,I,J⟩:=Region.waitsFor_spec s;have:o'=oj:=tN (G.symm.trans d);subst this;have X:=o e' H I;rw[J,getD_both (z p hp).2] at X;cases X
   ·rw[y j F q] at W;cases W
  obtain⟨i,_,q2,_⟩:=IJ U A k m;refine⟨λh0=>absurd (h0▸q2) (by simp),λj D=>?_⟩;have K:=only j D;subst K;have d:ops[j]? =some ops[j]:=by simp [k]
  rw[yN,d] at g;simp only at g;have l:=wU.1 C;have Y:=λa w=>II U r c (b.setIfInBounds j true) a w (by have:=J8 m;omega) (by simpa using A)
   (λi B M=>by
    by_cases e:i=j
    ·subst e;have:i<b.size:=by omega
     simp [vQ,vE,this]
    ·rw[getD_set_ne true (λx=>e x.symm)];exact y i B (by simp [e,M]))
   (λt' v=>by
    obtain⟨z1,z2⟩:=z t' (by simp [v]);exact⟨z1,by rw[getD_set_ne true (λx:j=t'=>l.1 (by rw[x];exact v))];exact z2⟩)
   (by cases r with
    |nil=>trivial
    |cons u r=>exact V.2) l.2
  unfold wpOp;simp only[d];unfold wpList at g;split
  ·rename_i s;rw[tT s] at g;exact g.imp (Oper.wp_mono Y) id
  ·rename_i s;rw[tQ s] at g;exact Y _ _ g
def OI {k F:List Nat}{a:Array Bool}(hs:Qz ops k F=true) (M:Lm ops k) (c:Qv ops k a):
  ∀(d i:Nat),ops.size-i=d→i<ops.size→i∉k→i∉F→a.getD i true=false→∀t,t∈k→t∉Region.ready .any ops a:=by
 intro d
 induction d using Nat.strongRecOn with
 |_ d ih=>
  intro i hd hi B C l t m Q;obtain⟨_,U,n,b⟩:=mem_ready.1 Q;have V:=tS.1 hs i (uG.2 hi);simp only[uD,tW,B,C,vF] at V;obtain⟨j,hj,o⟩:=List.any_eq_true.1 V;simp only[tO,uF,uD,uI] at o;obtain⟨⟨aa,D⟩,hw⟩:=o;obtain⟨W,q,e,X,Y,u⟩:=Region.waitsFor_spec hw;have G:j<ops.size:=uG.1 hj;rcases D with ⟨v,w⟩|hjh
  ·cases Z:a.getD j false with
   |true=>
    have x:=c.closed j W q Z e X Y;rw[u,getD_both l] at x;cases x
   |false=>
    have y:j<a.size:=by rw[c.size];omega
    exact ih (ops.size-j) (by omega) j rfl G (λh=>by rw[tW.2 h] at v;cases v) (λh=>by rw[tW.2 h] at w;cases w) (getD_in y Z) t m Q
  ·cases g:k with
   |nil=>rw[g] at m;cases m
   |cons s r=>
    rw[g] at hjh m M;have z:s=j:=by simpa using hjh
    subst z;rcases uA.1 m with rfl|htr
    ·have:W=U:=tN (q.symm.trans n);subst this;have x:=b e X Y;rw[u,getD_both l] at x;cases x
    ·obtain⟨p,hp,H⟩:=MV M t htr;obtain⟨o',I,e',J,K,A⟩:=Region.waitsFor_spec H;have:o'=U:=tN (I.symm.trans n);subst this;have g3:=b e' J K;rw[A,getD_both (c.tail p (by rw[g];exact hp))] at g3;cases g3
def SP {B:World}{h0:AW}{n:FN}{m:SM}{R:AR}(q D As:List Nat) (Z:ZB) (hZ:nD ops (q++D) Z) (cl:∀z,z∈Z.zs→((ops[z.1]?).bind (·.guard))=none) (b0:∀i,i∈As→∀v h,R i v h→∃b,NK v=some b∧b<h.size) (b3:∀t,t∈q→t<ops.size) (b4:q.Nodup) (hb:Lu ops=true)
  (F G:List Nat) (cm:F=[]∨D=[]) (b5:q=[]∨Qz ops q (F++G++D)=true) (aq:Lm ops q) (cn:Ng ops q=true) (b6:Region.noSelect ops=true) (hQ:∀c a w,¬Q (.panic c) a w)
  (b7:∀f,f∈F→f∉As∧∀sl,(f,sl)∉Z.zs) (hF:∀f,f∈F→(f<ops.size∧f∉q)∧Lt ops f=true∧∃o d ps,ops[f]? =some o∧o.dst=some d∧QP ops o ps=true∧Ny P ops n m h0 R f o ps)
  (bb:U5 ops (q++D) n (m.map (·.1))=true)
  (bi:∀i v h h',C5 h0 h→C5 h h'→R i v h→R i v h')
  (am:∀i,i∈As→i∉q++D) (step:∀i o d,i∉q++D→ops[i]? =some o→o.dst=some d→∃ps,QP ops o ps=true∧(∀p∈ps,p.1∉D)∧WP P ops Q B n m h0 R As Z i o d ps)
  (b8:∀a w h,Wd B h w→C5 h0 h→Fr n a m→(∀i,i<ops.size→i∉q++D→∃d v,D6 ops i=some d∧a.tmps[d]? =some v∧R i v h)→bV (T4 ops As) (λs=>a.tmps[s]?)→(∀z,z∈Z.zs→∃d v,D6 ops z.1=some d∧a.tmps[d]? =some v∧Z.f z.1 (z.2.map λs=>a.tmps[s]?)=some v)→wpList P ops Q (q.filterMap λt=>ops[t]?) a w)
  (bj:G=[]∨((∀f,f∈F→∀o,ops[f]? =some o→∀e,e∈o.after→Region.binds .any e=true→e.on<ops.size∧e.on∉q∧e.on∉F++G)∧∀k1 bk,q=k1::bk→∀(y:Nat) (k:Array Bool) (a:Act) (w:World),Pw k=y+1→Qv ops q k→VU B h0 n m ops (q++D) As Z R k a w→(∀i,i<ops.size→i∉q→i∉G→k.getD i false=true)→k1∈Region.ready .any ops k→wpOp P ops Q k1 (wpAny P .any ops Q y (k.setIfInBounds k1 true)) a w)):
  ∀(y:Nat) (k:Array Bool) (a:Act) (w:World),Pw k=y→Qv ops q k→(∀i,i∈D→k.getD i false=true)→VU B h0 n m ops (q++D) As Z R k a w→wpAny P .any ops Q y k a w:=by
 intro y;have bc:∀f,f∈F→∀x,x∈D→False:=λf hf x hx=>by
  rcases cm with h|h
  ·rw[h] at hf;cases hf
  ·rw[h] at hx;cases hx
 have b9:∀(k:Array Bool) (a:Act) (w:World),VU B h0 n m ops (q++D) As Z R k a w→(∀i,i<ops.size→i∉q→k.getD i false=true)→∀z,z∈Z.zs→∃d v,D6 ops z.1=some d∧a.tmps[d]? =some v∧Z.f z.1 (z.2.map λs=>a.tmps[s]?)=some v:=by
  intro k a w ai K z hz;exact ai.pz z hz (K z.1 (hZ z hz).1 λh=>(hZ z hz).2.1 (xV _ h))
 have ar:∀(k:Array Bool) (a:Act) (w:World),VU B h0 n m ops (q++D) As Z R k a w→(∀i,i<ops.size→i∉q→k.getD i false=true)→bV (T4 ops As) (λs=>a.tmps[s]?):=by
  intro k a w ai K s hs s' co U u u' e e';obtain⟨i,hi,hd⟩:=xW.1 hs;obtain⟨j,X,a5⟩:=xW.1 co;have lt:∀i d,D6 ops i=some d→i<ops.size:=λi d C=>by
   unfold D6 at C;cases ad:ops[i]? with
   |none=>rw[ad] at C;cases C
   |some oj=>exact(uH.1 ad).1
  exact ai.dis i hi j X (λe=>U (by subst e;rw[hd] at a5;exact tN a5)) (K i (lt _ _ hd) (λh=>am i hi (xV _ h))) (K j (lt _ _ a5) (λh=>am j X (xV _ h))) _ _ _ _ hd a5 e e'
 induction y with
 |zero=>
  intro k a w hu I hD ai;have aa:∀i,k.getD i true=true:=λi=>OH hu;obtain⟨h,g1,g2,g3,g4⟩:=ai.ex;have H:∀i,i<ops.size→i∉q→k.getD i false=true:=λi Y A=>by
   have h2:=aa i;have:i<k.size:=by rw[I.size];exact Y
   simpa [this] using h2
  have hf:=b8 a w h g1 g2 g3 (λi Y A=>g4 i A (H i Y λh=>A (xV _ h))) (ar _ _ _ ai H) (b9 _ _ _ ai H);exact II hb q 0 k a w hu I.size (λi _ _=>aa i) (λt ht=>⟨b3 t ht,I.tail t ht⟩) aq b4 hf
 |succ y ih=>
  intro k a w hu I hD ai;obtain⟨h,g1,g2,g3,g4⟩:=ai.ex;by_cases aa:∀i,i<ops.size→i∉q→k.getD i true=true
  ·have H:∀i,i<ops.size→i∉q→k.getD i false=true:=λi Y A=>by
    have h2:=aa i Y A;have:i<k.size:=by rw[I.size];exact Y
    simpa [this] using h2
   have hf:=b8 a w h g1 g2 g3 (λi Y A=>g4 i A (H i Y λh=>A (xV _ h))) (ar _ _ _ ai H) (b9 _ _ _ ai H);exact II hb q (y+1) k a w hu I.size aa (λt ht=>⟨b3 t ht,I.tail t ht⟩) aq b4 hf
  ·have ca:∀j,k.getD j false=true→j∉q:=λj X cp=>by
    have:=getD_both (I.tail j cp);rw[X] at this;cases this
   have ae:∀i o,i∈Region.ready .any ops k→ops[i]? =some o→∀ps,QP ops o ps=true→(∀p∈ps,p.1∉D)→∀p∈ps,∃v,a.tmps[p.2]? =some v∧R p.1 v h:=by
    intro i o hi ho ps au bl p hp;obtain⟨av,o',an,aw⟩:=mem_ready.1 hi;have:o'=o:=tN (an.symm.trans ho);subst this;have J:=tS.1 au p hp;simp only[tO] at J;have X:p.1∈Kb o':=by simpa using J.1
    obtain⟨e,he,bm⟩:=uX.1 X;obtain⟨bn,a6⟩:=vL.1 he;have a7:e∈o'.after:=by simpa using bn
    have h3:=aw e a7 a6;rw[bm] at h3;obtain⟨d',v,C,M,q3⟩:=g4 p.1 (λh=>(vC.1 h).elim (ca _ h3) (bl p hp)) h3;have h2:=J.2;rw[C] at h2;have:p.2=d':=tV (by simpa using h2);exact⟨v,by rw[this];exact M,q3⟩
   have ax:∀i o d,i∉q→i∉q++D→i∈Region.ready .any ops k→ops[i]? =some o→o.dst=some d→∀v w' h',Wd B h' w'→C5 h h'→R i v h'→(i∈As→Tc h v)→(∀sl,(i,sl)∈Z.zs→Z.f i (sl.map λs=>a.tmps[s]?)=some v)→wpAny P .any ops Q y (k.setIfInBounds i true) (a.put (some d) v) w':=by
    intro i o d A ab hi ho af v w' h' cq an hr ag cr;obtain⟨av,oo,cs,_⟩:=mem_ready.1 hi;have ay:i<ops.size:=(uH.1 cs).1;have hd:D6 ops i=some d:=by unfold D6;rw[ho];exact af
    have l:=tS.1 bb i (uG.2 ay);rw[hd] at l;simp only[tO,uI,tS,uG,uD,tW,ab,vF] at l;obtain⟨⟨a8,bo⟩,bp⟩:=l;have az:d+1≤n.1:=by simpa [Nat.blt] using a8
    have al:d<n.1:=az;have a0:(a.put (some d) v).tmps[d]? =some v:=by
     simp only[Act.put,vE];have:=g3.siz;simp [this,al]
    have ah:∀j dj,D6 ops j=some dj→j≠i→j∉q++D→(a.put (some d) v).tmps[dj]? =a.tmps[dj]? :=by
     intro j dj C e X;have bq:j<ops.size:=by
      unfold D6 at C;cases ad:ops[j]? with
      |none=>rw[ad] at C;cases C
      |some oj=>exact(uH.1 ad).1
     have J:=bp j bq;rw[C] at J;have U:d≠dj:=by
      rcases J with (J|J)|J
      ·exact absurd J X
      ·exact absurd (tV J).symm e
      ·intro e';subst e';simp at J
     simp only[Act.put,vE];rw[tQ U]
    have be:∀j,j∈As→j≠i→(k.setIfInBounds i true).getD j false=true→i∈As→∀dj u,D6 ops j=some dj→(a.put (some d) v).tmps[dj]? =some u→∀b b',NK v=some b→NK u=some b'→b≠b':=by
     intro j X e K ct dj u C M b1 b2 z1 z2;rw[getD_set_ne false (λx=>e x.symm)] at K;rw[ah j dj C e (am j X)] at M;obtain⟨c6,vj,p1,p2,p3⟩:=g4 j (am j X) K;rw[C] at p1;cases p1;rw[M] at p2;cases p2;obtain⟨b,e1,e2⟩:=b0 j X _ _ p3;obtain⟨b',e3,e4⟩:=ag ct;rw[z1] at e3;rw[z2] at e1;cases e3;cases e1;omega
    refine ih _ _ _ (by have:=J8 av;omega) (I.set hi A) (λj X=>getD_set_true (hD j X)) ⟨⟨h',cq,g2.trans an,?_,λj X K=>?_⟩,λi1 ao j1 a9 bf br bs d1 d2 u1 u2 C M q3 q4=>?_,λz hz K=>?_⟩
    rotate_left 3
    ·have bg:∀(lz:(k.getD z.1 false=true)∨z.1=i) (s:Nat),s∈z.2→(a.put (some d) v).tmps[s]? =a.tmps[s]? :=by
      intro lz s hs;obtain⟨oz,j,p1,p2,p3,p4⟩:=(hZ z hz).2.2 s hs;refine ah j s p3 (λe=>?_) p4;subst e;obtain⟨ed,he,bm⟩:=uX.1 p2;obtain⟨bn,a6⟩:=vL.1 he;have a7:ed∈oz.after:=by simpa using bn
      rcases lz with lz|lz
      ·have h3:=I.closed z.1 oz p1 lz ed a7 a6;rw[bm,getD_both av] at h3;cases h3
      ·have h4:=tS.1 hb z.1 (uG.2 (hZ z hz).1);rw[p1] at h4;simp only[wK,vK,wL] at h4;have h6:=h4 ed a7;simp only[a6,uP,wC,uF] at h6;omega
     by_cases e:z.1=i
     ·refine⟨d,v,by rw[e];exact hd,a0,?_⟩;rw[List.map_congr_left (bg (.inr e)),e];exact cr z.2 (by rw[←e];exact hz)
     ·rw[getD_set_ne false (λx=>e x.symm)] at K;obtain⟨dz,vz,p1,p2,p3⟩:=ai.pz z hz K;refine⟨dz,vz,p1,by rw[ah z.1 dz p1 e (hZ z hz).2.1];exact p2,?_⟩;rw[List.map_congr_left (bg (.inl K))];exact p3
    rotate_left 2
    ·by_cases e:i1=i
     ·subst e;rw[hd] at C;cases C;rw[a0] at q3;cases q3;exact be j1 a9 (λe=>bf e.symm) bs ao d2 u2 M q4
     ·by_cases e':j1=i
      ·subst e';rw[hd] at M;cases M;rw[a0] at q4;cases q4;exact λb b' z1 z2 e2=>be i1 ao e br a9 d1 u1 C q3 b' b z2 z1 e2.symm
      ·rw[ah i1 d1 C e (am i1 ao)] at q3;rw[ah j1 d2 M e' (am j1 a9)] at q4;rw[getD_set_ne false (λx=>e x.symm)] at br;rw[getD_set_ne false (λx=>e' x.symm)] at bs;exact ai.dis i1 ao j1 a9 bf br bs d1 d2 u1 u2 C M q3 q4
    ·have hp:=g3.put a8 v;refine⟨hp.dfr,hp.siz,λi' u cb=>hp.at_ i' u ?_⟩;have U:Nat.beq d i'=false:=by
      cases V:Nat.beq d i' with
      |false=>rfl
      |true=>
       have:=tV V;subst this;have J:=R7 cb;rw[←tW] at J;rw[J] at bo;cases bo
     simp only[lk,U,tM];exact cb
    ·by_cases e:i=j
     ·subst e;refine⟨d,v,hd,?_,hr⟩;simp only[Act.put,vE];have:=g3.siz;simp [this,al]
     ·rw[getD_set_ne false e] at K;obtain⟨dj,vj,C,M,q3⟩:=g4 j X K;refine⟨dj,vj,C,?_,bi _ _ _ _ g2 an q3⟩;have bq:j<ops.size:=by
       unfold D6 at C;cases ad:ops[j]? with
       |none=>rw[ad] at C;cases C
       |some oj=>exact(uH.1 ad).1
      have J:=bp j bq;rw[C] at J;have U:d≠dj:=by
       rcases J with (J|J)|J
       ·exact absurd J X
       ·exact absurd (tV J) e
       ·intro e';subst e';simp at J
      simp only[Act.put,vE];rw[tQ U];exact M
   by_cases bt:∃f,f∈F∧f∈Region.ready .any ops k
   ·obtain⟨f,a1,ba⟩:=bt;obtain⟨cc,bu,o,d,ps,ho,af,au,cu⟩:=hF f a1;obtain⟨fr,hK,ag⟩:=JA (a:=a) (n:=n) _ _ (cu (Gl a) h g2) (ae f o ba ho ps au λp _ h=>bc f a1 _ h) ⟨g3.dfr,g3.siz,λi v hi=>by simp [lk] at hi⟩;obtain⟨v,hy,hr⟩:=hK a (ag.append (g3.append g3.full));refine wpAny_first ho (Region.noSelect_spec b6) (λc a w hq=>absurd hq (hQ c _ w)) y k a w (λj oj X U cd bv=>?_) ba hy ?_
    ·have J:=tS.1 bu j (uG.2 (uH.1 X).1);simp only[ho,X,uD,beq_iff_eq,U,vF] at J;rcases J with J|J
     ·obtain⟨cv,ce,e,he,V,a2⟩:=Region.waitsFor_spec J;have:cv=oj:=tN (ce.symm.trans X);subst this;exact absurd a2 (bv e he V)
     ·rcases J with J|J
      ·obtain⟨cw,cf,e,he,V,a2⟩:=Region.waitsFor_spec J;obtain⟨_,cx,cg,H⟩:=mem_ready.1 ba;have:cw=cx:=tN (cf.symm.trans cg);subst this;have h5:=H e he V;rw[a2,getD_both cd] at h5;cases h5
      ·exact J
    ·rw[af];exact ax f o d cc.2 (λh=>(vC.1 h).elim cc.2 λh=>bc f a1 _ h) ba ho af v w h g1 (C5.refl h) hr (λhA=>absurd hA (b7 f a1).1) λsl a3=>absurd a3 ((b7 f a1).2 sl)
   have ch:∃k0,k0<ops.size∧k0∉q∧k.getD k0 true=false∧k0∉F:=by
    obtain⟨k1,c4,cy,cz⟩:∃k1,k1<ops.size∧k1∉q∧k.getD k1 true=false:=by
     apply wY;intro bv;refine aa λi Y A=>?_;cases K:k.getD i true with
     |true=>rfl
     |false=>exact absurd ⟨i,Y,A,K⟩ bv
    obtain⟨i0,C,M,q3⟩:=Kf (p:=λi=>k.getD i true||q.contains i) k1 (by simp [cz,cy]);simp only[uS] at M;have aj:i0<ops.size:=by omega
    have bh:i0∉q:=λh=>by rw[tW.2 h] at M;cases M.2
    refine⟨i0,aj,bh,M.1,λhf=>bt ⟨i0,hf,mem_ready.2 ⟨M.1,ops[i0],by simp [aj],λe he ci=>?_⟩⟩⟩;have h4:=tS.1 hb i0 (uG.2 aj);have h5:ops[i0]? =some ops[i0]:=by simp [aj]
    rw[h5] at h4;simp only[wK,vK,wL] at h4;have h6:=h4 e he;simp only[ci,uP,wC,uF] at h6;have h7:=q3 e.on h6;have h9:=tS.1 cn i0 (uG.2 aj);simp only[uD,tW,bh,vF,h5,wK,vK,wL] at h9;have ap:=h9 e he;simp only[ci,uP,wC,uI] at ap;rcases ap with ap|ap
    ·cases ap
    rw[ap,Bool.or_false] at h7;have h8:e.on<k.size:=by rw[I.size];omega
    simp only[vQ,xC h8,vK] at h7 ⊢;exact h7
   have ⟨c7,bw,c5,cj,_⟩:=ch;obtain⟨i0,_,c0,_⟩:=IJ hb I.size bw cj;refine⟨λh0=>absurd (h0▸c0) (by simp),λi hi=>?_⟩;obtain⟨av,o,ho,aw⟩:=mem_ready.1 hi;have ay:i<ops.size:=(uH.1 ho).1;by_cases W:i∈q∧∀k0,k0<ops.size→k0∉q→k0∉F++G→k.getD k0 false=true
   ·rcases bj with hG|⟨hF0,bj⟩
    ·obtain⟨k0,C,M,q3,q4⟩:=ch;have:=W.2 k0 C M (by rw[hG,uU];exact q4);rw[getD_both q3] at this;cases this
    ·cases ak:q with
     |nil=>rw[ak] at W;cases W.1
     |cons k1 bk=>
      have ao:i=k1:=by
       have hm:=W.1;rw[ak] at hm;rcases uA.1 hm with e|hjr
       ·exact e
       ·rw[ak] at aq;obtain⟨p,hp,hw⟩:=MV aq i hjr;obtain⟨o',an,e',c1,V,a2⟩:=Region.waitsFor_spec hw;have:o'=o:=tN (an.symm.trans ho);subst this;have g3:=aw e' c1 V;rw[a2,getD_both (I.tail p (by rw[ak];exact hp))] at g3;cases g3
      subst ao;refine bj i bk ak y k a w hu I ai (λj C M q3=>?_) hi;by_cases bx:j∈F
      ·cases K:k.getD j false with
       |true=>rfl
       |false=>
        refine absurd ⟨j,bx,mem_ready.2 ⟨getD_in (by rw[I.size];exact C) K,ops[j],by simp [C],λe he V=>?_⟩⟩ bt;obtain⟨z1,z2,z3⟩:=hF0 j bx _ (by simp [C]) e he V;exact W.2 e.on z1 z2 z3
      ·exact W.2 j C M (λh=>(vC.1 h).elim bx q3)
   have A:i∉q:=λA=>by
    rcases b5 with hc|hc
    ·rw[hc] at A;cases A
    ·refine W ⟨A,λk0 C M q3=>?_⟩;cases K:k.getD k0 false with
     |true=>rfl
     |false=>exact absurd hi (OI hc aq I _ k0 rfl C M (λh=>(vC.1 h).elim q3 λh=>by rw[hD k0 h] at K;cases K) (getD_in (by rw[I.size];exact C) K) i A)
   have ab:i∉q++D:=λh=>(vC.1 h).elim A λh=>by
    have:=hD i h;rw[getD_both av] at this;cases this
   have l:=tS.1 bb i (uG.2 ay);cases hd:D6 ops i with
   |none=>rw[hd] at l;simp only[tW,ab,uD,vF] at l;cases l
   |some d=>
   rw[hd] at l;simp only[tO,uI,tS,uG,uD,tW,ab,vF] at l;obtain⟨⟨a8,bo⟩,bp⟩:=l;have az:d+1≤n.1:=by simpa [Nat.blt] using a8
   have al:d<n.1:=az;have af:o.dst=some d:=by unfold D6 at hd;rw[ho] at hd;exact hd
   obtain⟨ps,au,bl,bz⟩:=step i o d ab ho af;have a4:=ae i o hi ho ps au bl;obtain⟨fr,hK,ag⟩:=JA (a:=a) (n:=n) _ _ (bz (Gl a) h g2) a4 ⟨g3.dfr,g3.siz,λi v hi=>by simp [lk] at hi⟩;have ac:Fr n a (fr++(m++Gl a)):=ag.append (g3.append g3.full);have c2:∀i u,a.tmps[i]? =some u→lk (fr++(m++Gl a)) i=some u:=by
    intro i u hu;have K:lk (Gl a) i=some u:=by
     have:i<a.tmps.size:=(uH.1 hu).1;rw[Oz this];simp [vQ,hu]
    have c3:∃u',lk (fr++(m++Gl a)) i=some u':=by
     rw[IC,IC,K];cases lk fr i with
     |some x=>exact⟨x,by simp⟩
     |none=>cases lk m i with
      |some x=>exact⟨x,by simp⟩
      |none=>exact⟨u,by simp⟩
    obtain⟨u',ck⟩:=c3;have:=ac.at_ i u' ck;rw[hu] at this;rw[ck,←tN this]
   have next:=ax i o d A ab hi ho af
   have conv:∀a' w',KS B n d (RF R As Z i h fr) h (fr++(m++Gl a)) a' w'→wpAny P .any ops Q y (k.setIfInBounds i true) a' w':=by
    rintro a' w' ⟨v,h',f1,f2,f3,f4⟩;have:=Fr.same al ac f1 λi u hi hu=>by
     have U:Nat.beq d i=false:=by
      cases V:Nat.beq d i with
      |false=>rfl
      |true=>exact absurd (tV V).symm hi
     simp only[lk,U,tM];exact c2 i u hu
    subst this;refine next v w' h' f2 f3 f4.1 (λhA=>f4.2.1 (tW.2 hA)) λsl a3=>?_
    obtain⟨r1,r2⟩:=f4.2.2 sl a3;rw[←r2];congr 1;refine List.map_congr_left λs hs=>?_;obtain⟨u,hu⟩:=Option.isSome_iff_exists.1 (r1 s hs);rw[hu,ag.at_ s u hu]
   unfold wpOp;simp only[ho];cases hg:o.guard with
   |none=>
    rw[hg] at hK;rw[tT (by simp [Region.wanted,hg])];exact(HQ hg (hK a w ac g1)).imp (Oper.wp_mono conv) id
   |some gb=>
    obtain⟨g,b⟩:=gb;rw[hg] at hK;obtain⟨dg,C,hK⟩:=hK;rcases hK with ⟨k1,k2⟩|⟨v,k1,k2,k3⟩
    ·have hy:yielded ops a.tmps g=some b:=Ju ag C k1;rw[tT (by simp [Region.wanted,hg,hy])];exact(L9 (HQ rfl (k2 a w ac g1))).imp (Oper.wp_mono conv) id
    ·have hy:yielded ops a.tmps g≠some b:=by rw[Ju ag C k1];exact k2
     rw[tQ (by simp [Region.wanted,hg,hy]),af];exact next undef w h g1 (C5.refl h) k3 (λhA=>by obtain⟨b,e,_⟩:=b0 i hA _ _ k3;cases e) λsl a3=>by
      have:=cl _ a3;rw[ho] at this;simp [hg] at this
end
def YI (ops:Array Oper) (a F:List Nat):Bool:=a.all (λt=>Nat.blt t ops.size)&&decide a.Nodup&&(a.isEmpty||Qz ops a F)&&Nh ops a&&Ng ops a&&Lu ops&&Region.noSelect ops
def PT (P:Program) (ops:Array Oper) (a:List Nat) (n:FN) (m:SM) (h0:AW) (R:AR):List Nat→Prop
 |[]=>True
 |f::F=>((f<ops.size∧f∉a)∧Lt ops f=true∧∃o d b,ops[f]? =some o∧o.dst=some d∧QP ops o b=true∧Ny P ops n m h0 R f o b)∧PT P ops a n m h0 R F
def PT.at_ {P:Program}{ops:Array Oper}{b:List Nat}{n:FN}{m:SM}{h0:AW}{R:AR}:∀{F:List Nat},PT P ops b n m h0 R F→∀f,f∈F→(f<ops.size∧f∉b)∧Lt ops f=true∧∃o d c,ops[f]? =some o∧o.dst=some d∧QP ops o c=true∧Ny P ops n m h0 R f o c
 |[],_,f,a=>by cases a
 |g::F,⟨i,j⟩,f,a=>by
  rcases uA.1 a with rfl|a
  ·exact i
  ·exact PT.at_ j f a
def PT.cons {P:Program}{ops:Array Oper}{b:List Nat}{n:FN}{m:SM}{h0:AW}{R:AR}{f d:Nat}{o:Oper}{F:List Nat}(c:List (Nat×Nat)) (a:(Nat.blt f ops.size&& !b.contains f&&Lt ops f)=true) (i:ops[f]? =some o) (hd:o.dst=some d) (g:QP ops o c=true) (j:Ny P ops n m h0 R f o c) (t:PT P ops b n m h0 R F):PT P ops b n m h0 R (f::F):=by
 simp only[tO,uI] at a;exact⟨⟨⟨(by simpa [Nat.blt] using a.1.1:f+1≤ops.size),λh=>by rw[tW.2 h] at a;cases a.1.2⟩,a.2,o,d,c,i,hd,g,j⟩,t⟩
def DT (P:Program) (ops:Array Oper) (Q:Exit→Act→World→Prop) (B:World) (n:FN) (m:SM) (h0:AW) (R:AR) (a As:List Nat) (Z:ZB):Nat→List Oper→List (List (Nat×Nat))→Prop
 |i,o::l,b::pss=>(i∈a∨match o.dst with|some d=>WP P ops Q B n m h0 R As Z i o d b|none=>False)∧DT P ops Q B n m h0 R a As Z (i+1) l pss
 |_,_,_=>True
def R4 (ops:Array Oper) (a:List Nat) (l:List Oper) (pss:List (List (Nat×Nat))):Bool:=Nat.beq l.length pss.length&&(l.zip pss).zipIdx.all λp=>a.contains p.2||QP ops p.1.1 p.1.2
def DT.at_ {P:Program}{ops:Array Oper}{Q:Exit→Act→World→Prop}{B:World}{n:FN}{m:SM}{h0:AW}{R:AR}{p As:List Nat}{Z:ZB}:∀{l:List Oper}{pss:List (List (Nat×Nat))}{k i:Nat}{o:Oper}{d:Nat},DT P ops Q B n m h0 R p As Z k l pss→l.length=pss.length→k+i∉p→l[i]? =some o→o.dst=some d→∃a,pss[i]? =some a∧WP P ops Q B n m h0 R As Z (k+i) o d a
 |[],_,_,_,_,_,_,_,_,h,_=>by simp at h
 |_::_,[],_,_,_,_,_,c,_,_,_=>by simp at c
 |s::l,a::pss,k,0,o,d,g,c,j,b,hd=>by
  simp only[wW,vB] at b;subst b;simp only[DT,hd] at g;exact⟨a,rfl,g.1.resolve_left j⟩
 |s::l,a::pss,k,i+1,o,d,g,c,j,b,hd=>by
  simp only[wP] at b;obtain⟨q,t,u⟩:=DT.at_ (l:=l) (pss:=pss) (k:=k+1) (i:=i) g.2 (by simpa using c) (by rw[show k+1+i=k+(i+1) by omega];exact j) b hd;rw[show k+(i+1)=k+1+i by omega];exact⟨q,by simpa using t,u⟩
def DT.cons {P:Program}{ops:Array Oper}{Q:Exit→Act→World→Prop}{B:World}{n:FN}{m:SM}{h0:AW}{R:AR}{p As:List Nat}{Z:ZB}{i:Nat}{o:Oper}{l:List Oper}{A:List (Nat×Nat)}{pss:List (List (Nat×Nat))}{d:Nat}(hd:o.dst=some d) (G:As.contains i=false) (C:(Z.zs.map (·.1)).contains i=false) (h:Td P ops Q B n m h0 R i o d A) (t:DT P ops Q B n m h0 R p As Z (i+1) l pss):DT P ops Q B n m h0 R p As Z i (o::l) (A::pss):=by
 simp only[DT,hd];refine⟨.inr λmt c H=>PA.imp (λfr k=>?_) _ _ (h mt c H),t⟩;have I:∀v j,R i v j→RF R As Z i c fr v j:=λv j r=>⟨r,λh=>(by rw[G] at h;cases h),λsl s=>by
  rw[tW.2 (uX.2 ⟨_,s,rfl⟩)] at C;cases C⟩
 have p:∀a w,KS B n d (R i) c (fr++(m++mt)) a w→KS B n d (RF R As Z i c fr) c (fr++(m++mt)) a w:=λa w ⟨v,j,u,y,J,K⟩=>⟨v,j,u,y,J,I v j K⟩
 have D:∀z,LF P ops (Exit.then (KS B n d (R i) c (fr++(m++mt))) Q) [z] B c n (fr++(m++mt))→LF P ops (Exit.then (KS B n d (RF R As Z i c fr) c (fr++(m++mt))) Q) [z] B c n (fr++(m++mt)):=λz k a w M U=>HC (λe a w q=>by cases e<;>first|exact p a w q|exact q) _ a w (k a w M U);cases F:o.guard with
 |none=>rw[F] at k;exact D _ k
 |some V=>
  obtain⟨g,b⟩:=V;rw[F] at k;obtain⟨W,u,y⟩:=k;refine⟨W,u,y.imp (λ⟨X,Y⟩=>⟨X,D _ Y⟩) λx=>x⟩
def DT.al {P:Program}{ops:Array Oper}{Q:Exit→Act→World→Prop}{B:World}{n:FN}{m:SM}{h0:AW}{R:AR}{g As:List Nat}{Z:ZB}{i:Nat}{l:List Oper}{pss:List (List (Nat×Nat))}{d T:Nat}{cs:List Value}{ty:TypeId}{pos:String}{af:Array Edge}(k:R i=Xj h0 T cs) (o:D9 P T=some cs) (hd:Nat.blt d n.1=true) (a:(Z.zs.map (·.1)).contains i=false) (t:DT P ops Q B n m h0 R g As Z (i+1) l pss):DT P ops Q B n m h0 R g As Z i (⟨some d,.alloc T,ty,pos,af,none⟩::l) ([]::pss):=by
 refine⟨.inr ?_,t⟩;intro mt h p;show LF P ops (Exit.then (KS B n d (RF R As Z i h []) h _) Q) _ B h n _
 refine bP (C5.refl h) o hd λv h' q r'=>A9 q ?_;obtain⟨b,e,j,s,u⟩:=r';have w:R i v h':=by rw[k];exact⟨b,e,vH p.siz j,s,u⟩
 exact⟨w,λ_=>⟨b,by rw[e];rfl,j⟩,λsl c=>by rw[tW.2 (uX.2 ⟨_,c,rfl⟩)] at a;cases a⟩
def DT.z {P:Program}{ops:Array Oper}{Q:Exit→Act→World→Prop}{B:World}{n:FN}{m:SM}{h0:AW}{R:AR}{g As:List Nat}{Z:ZB}{i:Nat}{o:Oper}{l:List Oper}{j:List (Nat×Nat)}{pss:List (List (Nat×Nat))}{d:Nat}(sl:List Nat) (hd:o.dst=some d) (p:As.contains i=false) (u:o.guard=none) (b:(Z.zs.all λz=> !(Nat.beq z.1 i)||decide (z.2=sl))=true)
  (h:∀mt h,C5 h0 h→PA R h (λfr=>LF P ops (Exit.then (KS B n d (λv h'=>R i v h'∧(sl.all λs=>(lk fr s).isSome)=true∧Z.f i (sl.map (lk fr))=some v) h (fr++(m++mt))) Q) [o] B h n (fr++(m++mt))) j []) (t:DT P ops Q B n m h0 R g As Z (i+1) l pss):DT P ops Q B n m h0 R g As Z i (o::l) (j::pss):=by
 simp only[DT,hd];refine⟨.inr λmt x y=>PA.imp (λfr k=>?_) _ _ (h mt x y),t⟩;rw[u];refine λa w A C=>HC (λe a w q=>?_) _ a w (k a w A C);cases e<;>first|exact q|skip
 obtain⟨v,D,F,G,H,I,J,K⟩:=q;refine⟨v,D,F,G,H,I,λh=>(by rw[p] at h;cases h),λM c=>?_⟩;have:=tS.1 b _ c;simp only[Nat.beq_refl,uP,wC,uF] at this;subst this;exact⟨λs U=>tS.1 J s U,K⟩
def DT.nw {P:Program}{ops:Array Oper}{Q:Exit→Act→World→Prop}{B:World}{n:FN}{m:SM}{h0:AW}{R:AR}{g As:List Nat}{Z:ZB}{i:Nat}{o:Oper}{l:List Oper}{j:List (Nat×Nat)}{pss:List (List (Nat×Nat))}{d:Nat}(hd:o.dst=some d) (p:o.guard=none) (b:(Z.zs.map (·.1)).contains i=false)
  (h:∀mt h,C5 h0 h→PA R h (λfr=>LF P ops (Exit.then (KS B n d (λv h'=>R i v h'∧Tc h v) h (fr++(m++mt))) Q) [o] B h n (fr++(m++mt))) j []) (t:DT P ops Q B n m h0 R g As Z (i+1) l pss):DT P ops Q B n m h0 R g As Z i (o::l) (j::pss):=by
 simp only[DT,hd];refine⟨.inr λmt s u=>PA.imp (λfr k=>?_) _ _ (h mt s u),t⟩;rw[p];refine λa w x y=>HC (λe a w q=>?_) _ a w (k a w x y);cases e<;>first|exact q|skip
 obtain⟨v,z,A,C,D,F,G⟩:=q;exact⟨v,z,A,C,D,F,λ_=>G,λsl c=>by rw[tW.2 (uX.2 ⟨_,c,rfl⟩)] at b;cases b⟩
def DT.skip {P:Program}{ops:Array Oper}{Q:Exit→Act→World→Prop}{B:World}{n:FN}{m:SM}{h0:AW}{R:AR}{a As:List Nat}{Z:ZB}{i:Nat}{o:Oper}{l:List Oper}{b:List (Nat×Nat)}{pss:List (List (Nat×Nat))}(h:a.contains i=true) (t:DT P ops Q B n m h0 R a As Z (i+1) l pss):DT P ops Q B n m h0 R a As Z i (o::l) (b::pss):=
 ⟨.inl (tW.1 h),t⟩
def VT (S:Nat→Prop) (h a:AW) (c:List Nat) (L:List HP):Prop:=(∀b,S b→b<h.size)∧C5 h a∧(∀b,b∈c→h.size≤b∧b<a.size)∧Sp S L a (λb=>(b<h.size∧¬S b)∨b∈c)
def VT.nil {S:Nat→Prop}{L:List HP}{h g:AW}(a:St S L h) (o:C5 h g):VT S h g [] L:=
 ⟨a.1,o,λb i=>(by cases i),Sp.ext a.2 (λ_ x=>x) (λc d=>o.same c (d.elim (a.1 c) (·.1))) λc d=> .inl d⟩
def VT.cons {S:Nat→Prop}{L:List HP}{h d:AW}{g:List Nat}{b T:Nat}{cs:List Value}(k:VT S h d g L) (i:h.size≤b) (j:b<d.size) (l:d[b]? =some (.cells cs.toArray T (0,0))) (m:b∉g):VT S h d (b::g) (Bx b T cs::L):=by
 obtain⟨n,o,p,q⟩:=k;refine⟨n,o,λc a=>?_,λc=>c=b,⟨λ_=>vZ,l⟩,λc a=>by subst a;exact .inr (uN ..),q.mono λc a=>⟨a.imp_right (uR _),λe=>?_⟩⟩
 ·rcases uA.1 a with rfl|a
  ·exact⟨i,j⟩
  ·exact p c a
 ·subst e;rcases a with a|a
  ·have:=a.1;omega
  ·exact m a
def VT.st {S:Nat→Prop}{L:List HP}{h d:AW}{l:List Nat}(k:VT S h d l L):St S L d:=by
 obtain⟨g,i,j,m⟩:=k;refine⟨λb n=>tZ (g b n) i.siz,m.mono λc a=>?_⟩;rcases a with a|a
 ·exact⟨tZ a.1 i.siz,a.2⟩
 ·exact⟨(j c a).2,λo=>by have:=g c o;have:=(j c a).1;omega⟩
def Vx {b c:Nat}{l:List Nat}(h:b≠c) (t:b∉l):b∉c::l:=λe=>(uA.1 e).elim h t
def bV.at_ {a:List Nat}{f:Nat→Option Value}{s s' b c:Nat}(k:bV a f) (h:(a.contains s&&a.contains s'&& !(Nat.beq s s'))=true) (e:f s=some (.pointer (some ⟨b,0,none⟩))) (d:f s'=some (.pointer (some ⟨c,0,none⟩))):b≠c:=by
 simp only[tO,uI,tW] at h;exact k s h.1.1 s' h.1.2 (λq=>by rw[q,Nat.beq_refl] at h;cases h.2) _ _ e d _ _ rfl rfl
def bV.of_ {a:List Nat}{f:Nat→Option Value}{s s' b c:Nat}{u d:Value}(k:bV a f) (h:(a.contains s&&a.contains s'&& !(Nat.beq s s'))=true) (e:f s=some u) (g:f s'=some d) (z:NK u=some b) (i:NK d=some c):b≠c:=by
 simp only[tO,uI,tW] at h;exact k s h.1.1 s' h.1.2 (λq=>by rw[q,Nat.beq_refl] at h;cases h.2) _ _ e g _ _ z i
def Sv (r:Value→AW→Prop):Prop:=∀v h,r v h→∃b,NK v=some b∧b<h.size
def mF {R:AR}:∀i,i∈([]:List Nat)→Sv (R i):=λi a=>by cases a
def VQ {R:AR}{a:Nat}{l:List Nat}(e:Sv (R a)) (t:∀i,i∈l→Sv (R i)):∀i,i∈a::l→Sv (R i):=λi b=>by
 rcases uA.1 b with rfl|b
 ·exact e
 ·exact t i b
def dM {R:AR}{h:AW}{a T:Nat}{cs:List Value}{l:List Nat}(e:R a=Xj h T cs) (t:∀i,i∈l→Sv (R i)):∀i,i∈a::l→Sv (R i):=
 VQ (λv h' c=>by rw[e] at c;obtain⟨b,d,_,g,_⟩:=c;exact⟨b,by rw[d];rfl,g⟩) t
section
variable {P:Program}{ex:List (Nat×AP)}{RR N:AP}{cs:List Code}{B:World}{h:AW}{n:FN}{m m0:SM}{S:Nat→Prop}{L:List HP}
def dP {l:List Oper}{id:Nat}(b F As:List Nat) (Z:ZB) (hZ:bX l.toArray b Z.zs=true) (aa:(Z.zs.all λz=> !F.contains z.1&&((l.toArray[z.1]?).bind (·.guard)).isNone)=true) (R:AR) (pss:List (List (Nat×Nat))) (fs:List (Nat×Nat)) {ls:List Oper}(hm:P.follows .mixedOrders=true) (hc:YI l.toArray b F=true) (ms:List Nat) (ab:m.map (·.1)=ms) (M:U5 l.toArray b n ms=true)
  (C:R4 l.toArray b l pss=true) (ac:(fs.all λp=>Nat.blt p.1 l.length&& !b.contains p.1&&(D6 l.toArray p.1).any (Nat.beq p.2 ·))=true) (ad:(b.filterMap λt=>l[t]?)=ls) (Q:Su m0 m)
  (D:∀i v I h2,C5 h I→C5 I h2→R i v I→R i v h2)
  (ae:(As.all λi=> !b.contains i&& !F.contains i)=true) (af:∀i,i∈As→Sv (R i))
  (hF:PT P l.toArray b n m h R F)
  (step:DT P l.toArray (Qx ex RR (W P ex RR cs N)) B n m h R b As Z 0 l pss)
  (ag:∀h',C5 h h'→PA R h' (λfr=>bV (T4 l.toArray As) (lk fr)→(∀z,z∈Z.zs→∀d v,D6 l.toArray z.1=some d→lk fr d=some v→(z.2.all λs=>(lk fr s).isSome)=true→Z.f z.1 (z.2.map (lk fr))=some v)→LF P l.toArray (Qx ex RR (W P ex RR cs N)) ls B h' n (fr++m)) fs []):WF P ex RR (.region id l.toArray true::cs) N B h n m0:=by
 intro a w J hw;subst ab;simp only[YI,tO,uD,uF] at hc;obtain⟨⟨⟨⟨⟨⟨I,h2⟩,h3⟩,h4⟩,h5⟩,h6⟩,h7⟩:=hc;simp only[R4,tO] at C;have U:l.length=pss.length:=tV C.1;have y:∀i,i∈As→i∉b∧i∉F:=λi g=>by
  have:=tS.1 ae i g;simp only[tO,uI] at this;exact⟨λh=>(by rw[tW.2 h] at this;cases this.1),λh=>(by rw[tW.2 h] at this;cases this.2)⟩
 have A:∀z,z∈Z.zs→z.1∉F∧((l.toArray[z.1]?).bind (·.guard))=none:=λz G=>by
  have:=tS.1 aa z G;simp only[tO,uI,Option.isNone_iff_eq_none] at this;exact⟨λh=>(by rw[tW.2 h] at this;cases this.1),this.2⟩
 refine λrd ah=>NY ah MG hm (SP (R:=R) (B:=B) (h0:=h) (n:=n) (m:=m) b [] As Z (by rw[uU];exact Xk hZ) (λz G=>A z G |>.2) af (λt ht=>by have:=tS.1 I t ht;simp [Nat.blt] at this ⊢;omega) h2 h6 F [] (.inr rfl) (by rw[uU,uU];exact h3.imp (λe=>by cases b with|nil=>rfl|cons _ _=>simp at e) λx=>x) (Jm h4) h5 h7 (λc a w hq=>hq) (λf J=>⟨λhA=>(y f hA).2 J,λsl ai=>(A _ ai).1 J⟩) (λf J=>hF.at_ f J) (by rw[uU];exact M) D (λi g=>by rw[uU];exact(y i g).1) (λi o d g ho hd=>?_) (λa w h' g1 g2 g3 g4 g5 g6=>?_) (.inl rfl) _ _ _ _ ?_ ⟨by simp,λj oj _ q=>(by rw[getD_replicate_false] at q;cases q),λt ht=>getD_in (by have:=tS.1 I t ht;simp [Nat.blt] at this ⊢;omega) (getD_replicate_false _ _)⟩ (λi g=>by cases g) ⟨⟨h,hw.drew,C5.refl h,J.sub Q,λi _ q=>(by rw[getD_replicate_false] at q;cases q)⟩,λi _ j _ _ q=>(by rw[getD_replicate_false] at q;cases q),λz _ q=>(by rw[getD_replicate_false] at q;cases q)⟩)
 ·rw[uU] at g;have H:l[i]? =some o:=by simpa using ho
  obtain⟨ps,V,K⟩:=DT.at_ (k:=0) step U (by rw[uT];exact g) H hd;rw[uT] at K;refine⟨ps,?_,λ_ _=>uL,K⟩;have al:i<l.length:=(uB.1 H).1;have G:((o,ps),i)∈(l.zip pss).zipIdx:=by
   rw[wN];exact⟨i,by rw[yO,(yP (z:=(o,ps))).2 ⟨H,V⟩];simp⟩
  have:=tS.1 C.2 _ G;simp only[uD,tW,g,vF] at this;exact this
 ·obtain⟨fr,k1,X⟩:=JA (a:=a) (n:=n) _ _ (ag h' g2) (λp hp=>by
   have e:=tS.1 ac p hp;simp only[tO,uI] at e;have e1:p.1<l.toArray.size:=by have:=e.1.1;simp [Nat.blt] at this ⊢;omega
   obtain⟨d,v,V,K,q3⟩:=g4 p.1 e1 (λh=>by rw[uU] at h;rw[tW.2 h] at e;cases e.1.2);have e2:=e.2;rw[V] at e2;have:p.2=d:=tV (by simpa using e2);exact⟨v,by rw[this];exact K,q3⟩) ⟨g3.dfr,g3.siz,λi v g=>by simp [lk] at g⟩
  have Y:(b.filterMap λt=>l.toArray[t]?)=ls:=by rw[←ad];congr 1;funext t;simp
  rw[Y];exact k1 (λs hs s' aj ak u u' e e'=>g5 s hs s' aj ak u u' (X.at_ _ _ e) (X.at_ _ _ e')) (λz G d v V K q3=>by
   obtain⟨d',v',p1,p2,p3⟩:=g6 z G;rw[V] at p1;cases p1;rw[X.at_ d v K] at p2;cases p2;rw[←p3];congr 1;refine List.map_congr_left λs hs=>?_;obtain⟨u,hu⟩:=Option.isSome_iff_exists.1 (tS.1 q3 s hs);rw[hu,X.at_ s u hu]) a w (X.append g3) g1
 ·unfold Pw;rw[yB];simp
end
def Oj (b o j:Nat):(⟨b,o,none⟩:Addr).add j=⟨b,o+j,none⟩:=by unfold Addr.add;split<;>simp_all
section
variable {S:Nat→Prop}{L:List HP}{h:AW}
def aP {α}{r:A7 α}{b e cap:Nat}{cs:List Value}{l:List α}(c:St S (Bx b e cs::L) h) (d:l.length≤cap) (g:cap≤maxLen) (i:cs.length=cap*r.sz) (j:LB S h r (cs.take (l.length*r.sz)) l):
  St S (OS r e (.slice (some ⟨b,0,none⟩) l.length cap) l::L) h:=
 (c.upd (H':=OS r e (.slice (some ⟨b,0,none⟩) l.length cap) l) .head (tX _) λF a _=>⟨F,.inr ⟨b,cap,cs.toArray,rfl,a.1,a.2,d,g,by simpa using i,by simpa using j⟩,λ_ k=> .inl k,λ_ _ _=>rfl⟩).1
def St.bxcell {b T:Nat}{cs:List Value}(a:St S L h) (c:Bx b T cs∈L):h[b]? =some (.cells cs.toArray T (0,0)):=by
 obtain⟨F,k,_⟩:=a.get c;exact k.2
end
section
variable {P:Program}{ops:Array Oper}{C:World→Prop}{Q:Act→Prop}{n:FN}{m m':SM}{rest:List Oper}
variable {d:Nat}{ty:TypeId}{pos:String}{af:Array Edge}{X Y Z:Operand}{t:TypeId}{kd:IntKind}{v p:Value}
def LX {e sz:Nat}(b:N1 P t e sz=true):P.underlying t=some (.slice (P.elem t))∧∀w,(sizeOf (P.elem t)).run P w= .ok sz w:=by
 obtain⟨i,a,c,d,j⟩:=MF b;have g:P.elem t=e:=by simp [Program.elem,a]
 rw[g];exact⟨a,λw=>by simp [sizeOf,typeInfo,c,d]⟩
def mK {b o len cap e sz j:Nat}{y:Int}(i:BT m X=some (.slice (some ⟨b,o,none⟩) len cap)) (l:BT m Y=some (.int kd y)) (p:y=(j:Int)) (q:N1 P t e sz=true) (v:j≤len) (x:j<cap) (hd:Nat.blt d n.1=true)
  (k:QF P ops C Q rest n ((d,.slice (some ⟨b,o+j*sz,none⟩) (len-j) (cap-j))::m)):QF P ops C Q (⟨some d,.slice t X (some Y) none none,ty,pos,af,none⟩::rest) n m:=λa c=>by
 obtain⟨g,s⟩:=LX q;subst p;refine Dn c hd (λw _=>?_) k;have u:¬cap=j:=by omega
 simp [execOp,c.eval i,c.eval l,run_sliceAt_slice _ _ _ _ _ _ g,run_slice_l w t _ len cap g kd (j:Int) (by omega) (by omega),s,sliced,u,Oj]
def aU {b o len cap e sz j:Nat}{y:Int}(i:BT m X=some (.slice (some ⟨b,o,none⟩) len cap)) (l:BT m Y=some (.int kd y)) (p:y=(j:Int)) (q:N1 P t e sz=true) (v:j≤cap) (hd:Nat.blt d n.1=true)
  (k:QF P ops C Q rest n ((d,.slice (some ⟨b,o,none⟩) j cap)::m)):QF P ops C Q (⟨some d,.slice t X none (some Y) none,ty,pos,af,none⟩::rest) n m:=λa c=>by
 obtain⟨g,s⟩:=LX q;subst p;refine Dn c hd (λw _=>?_) k;have u:(⟨b,o,none⟩:Addr).add 0=⟨b,o,none⟩:=by rw[Oj];rfl
 simp [execOp,c.eval i,c.eval l,run_sliceAt_slice _ _ _ _ _ _ g,run_slice_h w t _ len cap g kd (j:Int) (by omega) (by omega),s,sliced,u]
def XZ {c:Option Addr}{len cap e sz:Nat}{b:TypeId}(i:BT m X=some (.slice c len cap)) (j:N1 P t e sz=true) (hd:Nat.blt d n.1=true) (k:QF P ops C Q rest n ((d,.int .i64 cap)::m)):
  QF P ops C Q (⟨some d,.call ⟨.builtin .cap,#[X],#[t]⟩,b,pos,af,none⟩::rest) n m:=λa g=>by
 obtain⟨l,o⟩:=LX j;exact Dn g hd (λw _=>by simp [execOp,resolve,invoke,builtin,g.eval i,run_cap_slice w t _ c len cap l,goInt]) k
end
section
variable {P:Program}{ops:Array Oper}{Q:Exit→Act→World→Prop}{n:FN}{m:SM}{rest:List Oper}
variable {d:Nat}{ty:TypeId}{pos:String}{af:Array Edge}{X Y:Operand}{B w:World}{h:AW}{S:Nat→Prop}{L L2:List HP}{v:Value}
def cM {T l t2 e sz b o dl dc sl sc:Nat}{g:Addr}{cs a:List Value}(m:N1 P l e sz=true) (n:a.length=Nat.min sl dl*sz) (p:w.heap[b]? =some (.cells cs.toArray T (0,0)))
  (q:∀j u,a[j]? =some u→w.cell? (g.add j)=some u) (c:o+a.length≤cs.length) (s:∀u∈a,u.oneCell'=true):
  (Builtin.copy_ #[l,t2] ty #[.slice (some ⟨b,o,none⟩) dl dc,.slice (some g) sl sc]).run P w= .ok (goInt (Nat.min sl dl)) (w.setRow b (IY cs o a).toArray):=by
 obtain⟨i,t,v,x,z⟩:=MF m;have y:=run_firstCells_some (P:=P) w sz (Nat.min sl dl) g sl sc a n q;have d:=run_storeCells_at P b o T a 0 cs.toArray w p (by simpa using c) s;have k:(List.take (o+0) cs.toArray.toList++a++List.drop (o+0+a.length) cs.toArray.toList)=IY cs o a:=by simp [IY]
 rw[k] at d;simp [Builtin.copy_,run_underlying t,Builtin.lenOf,sizeOf,typeInfo,v,x,y,d]
end
def LB.take {α S h}{r:A7 α}:∀{l:List α}{cs},LB S h r cs l→∀i,LB S h r (cs.take (i*r.sz)) (l.take i)
 |[],_,k,i=>by have k:_=[]:=k;subst k;simp [LB]
 |x::l,_,⟨b,c,e,a,d⟩,0=>by simp [LB]
 |x::l,_,⟨b,c,e,a,d⟩,i+1=>by
  subst e;have g:=r.len a;refine⟨b,c.take (i*r.sz),?_,a,d.take i⟩;rw[wF,Nat.add_comm (i*r.sz),←g,List.take_append];rw[List.take_of_length_le (by omega),Nat.add_sub_cancel_left]
def LB.drop {α S h}{r:A7 α}:∀{l:List α}{cs},LB S h r cs l→∀i,LB S h r (cs.drop (i*r.sz)) (l.drop i)
 |[],_,k,i=>by have k:_=[]:=k;subst k;simp [LB]
 |x::l,_,⟨b,a,e,c,d⟩,0=>by subst e;rw[Nat.zero_mul];exact⟨b,a,rfl,c,d⟩
 |x::l,_,⟨b,a,e,c,d⟩,i+1=>by
  subst e;have g:=r.len c;have:(b++a).drop ((i+1)*r.sz)=a.drop (i*r.sz):=by
   rw[wF,Nat.add_comm (i*r.sz),←g,List.drop_append];rw[List.drop_of_length_le (by omega),Nat.add_sub_cancel_left,uK]
  rw[this,List.drop_succ_cons];exact d.drop i
def O2 {α}(l xs:List α):List α:=xs.take l.length++l.drop xs.length
section
variable {P:Program}{ops:Array Oper}{Q:Exit→Act→World→Prop}{n:FN}{m:SM}{rest:List Oper}
variable {d:Nat}{ty:TypeId}{pos:String}{af:Array Edge}{X Y:Operand}{B w:World}{h:AW}{S:Nat→Prop}{L L2:List HP}{v:Value}
def cN {a t2 e sz dl dc sl sc:Nat}{db sb:Option Addr}(b:N1 P a e sz=true) (h0:Nat.min sl dl=0) (w:World):
  (Builtin.copy_ #[a,t2] ty #[.slice db dl dc,.slice sb sl sc]).run P w= .ok (goInt 0) w:=by
 obtain⟨i,c,d,j,k⟩:=MF b;have g:∀(x:Addr),(loadCells x 0).run P w= .ok #[] w:=λx=>by simpa using run_loadCells_list (P:=P) w x [] (by simp)
 cases db<;>cases sb<;>simp [Builtin.copy_,run_underlying c,Builtin.lenOf,Builtin.firstCells,sizeOf,typeInfo,d,h0,storeCells,g]
def UQ {α}{r:A7 α}{T Z t2 e:Nat}{s:Value}{l xs:List α}(hx:BT m X=some v) (hy:BT m Y=some s) (ht:N1 P Z e r.sz=true) (y:nF S h r s xs) (hd:Nat.blt d n.1=true) (hs:St S L h) (rp:MX L (OS r T v l) (OS r T v (O2 l xs)) L2)
  (k:∀h',St S L2 h'→CB S h S h'→LF P ops Q rest B h' n ((d,.int .i64 (Nat.min xs.length l.length:Nat))::m)):LF P ops Q (⟨some d,.call ⟨.builtin .copy,#[X,Y],#[Z,t2]⟩,ty,pos,af,none⟩::rest) B h n m:=by
 intro a w G A;refine wpList_plain rfl λK hK=>?_;unfold Oper.wp;obtain⟨M,p,_⟩:=rp.pick;obtain⟨F,g1,g2,_⟩:=Sp.pick p hs.2;obtain⟨ad,cap,hv,ae⟩:=OS.len g1;have aa:∃sb sc,s= .slice sb xs.length sc:=by
  rcases y with ⟨h1,I⟩|⟨sd,sc,_,h1,_⟩
  ·exact⟨none,0,by rw[h1,I];rfl⟩
  ·exact⟨_,sc,h1⟩
 by_cases h0:Nat.min xs.length l.length=0
 ·obtain⟨sb,sc,ab⟩:=aa;have c:=cN (P:=P) (ty:=ty) (t2:=t2) (dl:=l.length) (dc:=cap) (sl:=xs.length) (sc:=sc) (db:=ad) (sb:=sb) ht h0 w;have C:(execOp a.eval ⟨some d,.call ⟨.builtin .copy,#[X,Y],#[Z,t2]⟩,ty,pos,af,none⟩).run P w= .ok (.value (goInt 0)) w:=by
   simp [execOp,resolve,invoke,builtin,G.eval hx,G.eval hy,hv,ab,c]
  rw[C];have e:O2 l xs=l:=by
   unfold O2;have:xs.length=0∨l.length=0:=by simp only[Nat.min_def] at h0;split at h0<;>omega
   rcases this with h|h
   ·rw[xZ h];simp
   ·rw[xZ h];simp
  rw[e] at rp;have i:=hs.upd rp (tX _) λF J _=>⟨F,J,λ_ D=> .inl D,λ_ _ _=>rfl⟩
  have:=k h i.1 i.2 _ _ (G.put hd _) A;rw[h0] at this;exact hK _ _ this
 ·rcases g1 with ⟨_,I,_⟩|⟨g,cap',cur,J,k2,k3,k4,k5,k6,k7⟩
  ·exact absurd (by rw[I];simp) h0
  ·rcases y with ⟨_,I⟩|⟨sd,sc,news,j1,_,j3,j4⟩
   ·exact absurd (by rw[I];simp) h0
   ·have hg:w.heap[g]? =some (.cells cur.toList.toArray T (0,0)):=by rw[A.heap];simpa using k3
    have ag:=j3.len;have z:(xs.take l.length).length=Nat.min xs.length l.length:=by rw[vT];exact Nat.min_comm _ _
    have hN:=j3.take l.length;have t:=hN.len;rw[z] at t;have ah:Nat.min xs.length l.length*r.sz≤l.length*r.sz:=wB _ (Nat.min_le_right _ _);have ai:l.length*r.sz≤cap'*r.sz:=wB _ k4;have c:=cM (P:=P) (ty:=ty) (t2:=t2) (b:=g) (o:=0) (dl:=l.length) (dc:=cap') (sl:=xs.length) (sc:=sc) (cs:=cur.toList) (T:=T) ht t hg (λj u hj=>by
     rw[I1,A.heap];exact j4 j u (by rw[yC] at hj;split at hj;exact hj;cases hj)) (by simp;omega) (λu hu=>hN.one u hu)
    have C:(execOp a.eval ⟨some d,.call ⟨.builtin .copy,#[X,Y],#[Z,t2]⟩,ty,pos,af,none⟩).run P w= .ok (.value (goInt (Nat.min xs.length l.length))) (w.setRow g (IY cur.toList 0 (news.take (l.length*r.sz))).toArray):=by
     simp [execOp,resolve,invoke,builtin,G.eval hx,G.eval hy,J,j1,c]
    rw[C];obtain⟨h',e1,e2,e3,e4⟩:=P0 w g cur (IY cur.toList 0 (news.take (l.length*r.sz))).toArray T (by simpa using hg);rw[A.heap] at e2 e4;have U:(O2 l xs).length=l.length:=by unfold O2;rw[uJ,z,vY];simp only[Nat.min_def];split<;>omega
    have i:=hs.upd rp (h':=h') (by omega) λF1 H m2=>by
     rcases H with ⟨H,m3,m4⟩|⟨g',c',cur',H,q2,q3,_⟩
     ·refine⟨F1,.inl ⟨H,by rw[m3];simp [O2],m4⟩,λ_ D=> .inl D,λV _ W=>?_⟩;by_cases e:V=g
      ·subst e;rw[e3,k3,m3];simp [IY]
      ·exact e4 V e
     ·rw[J] at H;injection H with q _ _
      injection q with q
      injection q with q _ _
      subst q;refine⟨F1,.inr ⟨g,cap',_,by rw[U];exact J,q2,e3,by omega,k5,?_,?_⟩,λ_ D=> .inl D,λV _ W=>e4 V λe=>W ((q2 V).2 e)⟩
      ·simp only[IY,wD,uK,xS,uJ,vY,yK,t];omega
      ·rw[U];have ac:(IY cur.toList 0 (news.take (l.length*r.sz))).take (l.length*r.sz)=news.take (l.length*r.sz)++(cur.toList.take (l.length*r.sz)).drop (xs.length*r.sz):=by
        simp only[IY,wD,uK,uT];rw[List.take_append];rw[List.take_of_length_le (by omega)];congr 1;rw[t];by_cases hc:xs.length≤l.length
        ·have:Nat.min xs.length l.length=xs.length:=xT hc;rw[this,List.drop_take]
        ·have:Nat.min xs.length l.length=l.length:=Nat.min_eq_right (by omega);have hm:l.length*r.sz≤xs.length*r.sz:=wB _ (by omega);rw[this,Nat.sub_self,wD,List.drop_of_length_le (by simp;omega)]
       show LB S h' r (List.take (l.length*r.sz) (IY cur.toList 0 (news.take (l.length*r.sz)))) (O2 l xs)
       rw[ac];exact(hN.append (k7.drop xs.length)).mono (λ_ x=>x) λb D=>e4 b λe=>(m2 g ((q2 g).2 rfl)).2 (e▸D)
    exact hK _ _ (k h' i.1 i.2 _ _ (G.put hd _) ⟨e1,A.os,A.tape,A.out⟩)
end
def Qv.head {b:Array Oper}{d:Nat}{k:List Nat}{a:Array Bool}(c:Qv b (d::k) a) (v:d∈Region.ready .any b a) (l:d∉k):Qv b k (a.setIfInBounds d true):=by
 obtain⟨_,oi,m,g⟩:=mem_ready.1 v;refine⟨by simp [c.size],λj n o p e q s=>?_,λt u=>by rw[getD_set_ne true (λe:d=t=>l (by rw[e];exact u))];exact c.tail t (uR _ u)⟩;by_cases i:d=j
 ·subst i;have:n=oi:=tN (o.symm.trans m);subst this;exact getD_set_true (g e q s)
 ·rw[getD_set_ne false i] at p;exact getD_set_true (c.closed j n o p e q s)
def OM (n:Nat) (a G:List Nat):List Nat:=(List.range n).filter λi=> !a.contains i&& !G.contains i
def fT (a:Array Oper) (c:Nat) (b F G:List Nat):Bool:=
 (c::b).all (λt=>Nat.blt t a.size)&&decide (c::b).Nodup&&Qz a (c::b) (F++G)&&Nh a (c::b)&&Ng a (c::b)&&Lu a&&Region.noSelect a&&(b.isEmpty||Qz a b (OM a.size b G))&&Ng a b&&(G.all λi=> !(c::b).contains i)&&
 F.all λf=> !G.contains f&&match a[f]? with|some o=>o.after.all λe=> !Region.binds .any e||(Nat.blt e.on a.size&& !(c::b).contains e.on&& !(F++G).contains e.on)|none=>false
def qX (P:Program) (l:List Oper) (Q:Exit→Act→World→Prop) (B:World) (n:FN) (d:SM) (s c:AW) (R:AR) (a G:List Nat):Prop:=
 ∃(b:AR) (pss:List (List (Nat×Nat))) (j:List (Nat×Nat)) (k:List Oper) (m:List Nat),d.map (·.1)=m∧
  U5 l.toArray (a++OM l.length a G) n m=true∧R4 l.toArray (a++OM l.length a G) l pss=true∧
  ((l.zip pss).zipIdx.all λp=>(a++OM l.length a G).contains p.2||p.1.2.all λq=> !(OM l.length a G).contains q.1)=true∧
  (j.all λp=>Nat.blt p.1 l.length&& !(a++OM l.length a G).contains p.1&&(D6 l.toArray p.1).any (Nat.beq p.2 ·))=true∧(a.filterMap λt=>l[t]?)=k∧
  (∀i,i∈G→∀v,R i v s→b i v c)∧(∀i v g o,C5 c g→C5 g o→b i v g→b i v o)∧
  DT P l.toArray Q B n d c b (a++OM l.length a G) [] ZB.none 0 l pss∧
  ∀h',C5 c h'→PA b h' (λfr=>LF P l.toArray Q k B h' n (fr++d)) j []
def qX.run {P:Program}{l:List Oper}{Q:Exit→Act→World→Prop}{B:World}{n:FN}{m2:SM}{h1 s:AW}{R:AR}{g:Nat}{q F G:List Nat}(k:qX P l Q B n m2 h1 s R q G) (hc:fT l.toArray g q F G=true) (hQ:∀c a w,¬Q (.panic c) a w)
  {y:Nat} {b:Array Bool} {a a2:Act} {w2:World} (hu:Pw b=y+1) (J:Qv l.toArray (g::q) b) (hr:g∈Region.ready .any l.toArray b) (hl:∀i,i<l.toArray.size→i∉g::q→i∉G→b.getD i false=true)
  (g4:∀i,i∉g::q→b.getD i false=true→∃d v,D6 l.toArray i=some d∧a.tmps[d]? =some v∧R i v h1) (hw:Wd B s w2) (K:Fr n a2 m2) (M:∀(i:Nat) (u:Value),a.tmps[i]? =some u→a2.tmps[i]? =some u):
  wpAny P .any l.toArray Q y (b.setIfInBounds g true) a2 w2:=by
 obtain⟨R2,pss,fs,ls,ms,rfl,q1,H,q3,q4,q5,q6,q7,q8,q9⟩:=k;simp only[fT,tO,uF] at hc;obtain⟨⟨⟨⟨⟨⟨⟨⟨⟨⟨c1,c2⟩,c3⟩,c4⟩,c5⟩,c6⟩,c7⟩,c8⟩,c9⟩,aa⟩,af⟩:=hc;have C:=wU.1 c2;have U:l.length=pss.length:=by
  simp only[R4,tO] at H;exact tV H.1
 have ab:g<l.toArray.size:=by have:=tS.1 c1 g (uN ..);simp [Nat.blt] at this ⊢;omega
 have ac:=J.size;have V:(b.setIfInBounds g true).getD g false=true:=by
  have:g<b.size:=by omega
  simp [this]
 have ad:∀i,i∈OM l.length q G→(b.setIfInBounds g true).getD i false=true:=λi j=>by
  unfold OM at j;obtain⟨h1,s⟩:=vL.1 j;simp only[tO,uI] at s;by_cases e:g=i
  ·subst e;exact V
  ·refine getD_set_true (hl i (by simpa using uG.1 h1) (λh=>?_) λh=>by rw[tW.2 h] at s;cases s.2);rcases uA.1 h with h|h
   ·exact e h.symm
   ·rw[tW.2 h] at s;cases s.1
 refine SP (R:=R2) (B:=B) (h0:=s) (n:=n) (m:=m2) q (OM l.length q G) [] ZB.none nD.none (λz I=>by cases I) (λi j=>by cases j) (λt ht=>?_) C.2 c6 [] [] (.inl rfl) ?_ ?_ c9 c7 hQ (λf K=>by cases K) (λf K=>by cases K) q1 q7 (λi j=>by cases j) (λi o d j ho hd=>?_) (λa w h' g1 g2 g3 g4 _ _=>?_) (.inl rfl) y _ _ _ ?_ (J.head hr C.1) ad ⟨⟨s,hw,C5.refl s,K,λi j A=>?_⟩,λi j=>(by cases j),λz I=>(by cases I)⟩
 ·have:=tS.1 c1 t (uR _ ht);simp [Nat.blt] at this ⊢;omega
 ·rw[uD] at c8;refine c8.imp (λe=>by cases q with|nil=>rfl|cons _ _=>simp at e) λx=>?_;rw[uK,uK];simpa using x
 ·have:=Jm c4;cases q with
  |nil=>trivial
  |cons t r=>exact this.2
 ·have W:l[i]? =some o:=by simpa using ho
  obtain⟨ps,p1,p2⟩:=DT.at_ (k:=0) q8 U (by rw[uT];exact j) W hd;rw[uT] at p2;have I:((o,ps),i)∈(l.zip pss).zipIdx:=by
   rw[wN];exact⟨i,by rw[yO,(yP (z:=(o,ps))).2 ⟨W,p1⟩];simp⟩
  refine⟨ps,?_,λp hp h=>?_,p2⟩
  ·simp only[R4,tO] at H;have:=tS.1 H.2 _ I;rw[uD] at this;exact this.resolve_left λh=>j (tW.1 h)
  ·have:=tS.1 q3 _ I;rw[uD] at this;have:=tS.1 (this.resolve_left λh=>j (tW.1 h)) p hp;rw[tW.2 h] at this;cases this
 ·obtain⟨fr,g,k2⟩:=JA (a:=a) (n:=n) _ _ (q9 h' g2) (λp hp=>by
   have e:=tS.1 q4 p hp;simp only[tO,uI] at e;have e1:p.1<l.toArray.size:=by have:=e.1.1;simp [Nat.blt] at this ⊢;omega
   obtain⟨d,v,q1,H,q3⟩:=g4 p.1 e1 (λh=>by rw[tW.2 h] at e;cases e.1.2);have e2:=e.2;rw[q1] at e2;have:p.2=d:=tV (by simpa using e2);exact⟨v,by rw[this];exact H,q3⟩) ⟨g3.dfr,g3.siz,λi v j=>by simp [lk] at j⟩
  have X:(q.filterMap λt=>l.toArray[t]?)=ls:=by rw[←q5];congr 1;funext t;simp
  rw[X];exact g a w (k2.append g3) g1
 ·have:=J8 (mem_ready.1 hr).1;omega
 ·have Y:g≠i:=λe=>by
   subst e;refine j (List.mem_append_right _ (vL.2 ⟨uG.2 (by simpa using ab),?_⟩));simp only[tO,uI];refine⟨?_,?_⟩
   ·cases D:q.contains g with
    |true=>exact absurd (tW.1 D) C.1
    |false=>rfl
   ·cases D:G.contains g with
    |true=>
     have:=tS.1 aa g (tW.1 D);simp at this
    |false=>rfl
  rw[getD_set_ne false Y] at A;have Z:i∉q:=λh=>j (xV _ h);have ae:i<l.length:=by
   rcases uM i b.size with h|h
   ·rw[ac] at h;simpa using h
   ·rw[vQ,Array.getElem?_eq_none h] at A;cases A
  have hG:i∈G:=by
   apply wY;intro hG;refine j (List.mem_append_right _ (vL.2 ⟨uG.2 ae,?_⟩));simp only[tO,uI];exact⟨by cases D:q.contains i with|true=>exact absurd (tW.1 D) Z|false=>rfl,by cases D:G.contains i with|true=>exact absurd (tW.1 D) hG|false=>rfl⟩
  obtain⟨d,v,p1,p2,p3⟩:=g4 i (λh=>(uA.1 h).elim (λe=>Y e.symm) Z) A;exact⟨d,v,p1,M _ _ p2,q6 i hG v p3⟩
def qW {P:Program}{l:List Oper}{Q:Exit→Act→World→Prop}{B:World}{n:FN}{A:SM}{C m:AW}{R:AR}{q:Nat}{b G:List Nat}(k:qX P l Q B n A C m R b G) (M:q<l.length) (s:q∉G)
  {a c:Act} {w:World} (U:∀i,i<l.length→i∉q::b→∃d v,D6 l.toArray i=some d∧a.tmps[d]? =some v∧R i v C) (V:Wd B m w) (x:Fr n c A) (g:∀(i:Nat) (u:Value),a.tmps[i]? =some u→c.tmps[i]? =some u):
  wpList P l.toArray Q (b.filterMap λt=>l[t]?) c w:=by
 obtain⟨R2,pss,fs,ls,ms,rfl,D,F,H,W,X,Y,q7,q8,Z⟩:=k;obtain⟨fr,y,k2⟩:=JA (a:=c) (n:=n) _ _ (Z m (C5.refl m)) (λp hp=>by
  have e:=tS.1 W p hp;simp only[tO,uI] at e;have I:p.1<l.length:=by have:=e.1.1;simp [Nat.blt] at this ⊢;omega
  have J:p.1∉b++OM l.length b G:=λh=>by rw[tW.2 h] at e;cases e.1.2
  have j:p.1∉b:=λh=>J (xV _ h);have o:p.1∈G:=by
   apply wY;intro o;refine J (List.mem_append_right _ (vL.2 ⟨uG.2 I,?_⟩));simp only[tO,uI];exact⟨by cases z:b.contains p.1 with|true=>exact absurd (tW.1 z) j|false=>rfl,by cases z:G.contains p.1 with|true=>exact absurd (tW.1 z) o|false=>rfl⟩
  obtain⟨d,v,D,F,H⟩:=U p.1 I (λh=>(uA.1 h).elim (λe=>s (e▸o)) j);have K:=e.2;rw[D] at K;have:p.2=d:=tV (by simpa using K);exact⟨v,by rw[this];exact g _ _ F,Y _ o v H⟩) ⟨x.dfr,x.siz,λi v hi=>by simp [lk] at hi⟩
 rw[X];exact y c w (k2.append x) V
section
variable {P:Program}{ex:List (Nat×AP)}{RR N:AP}{cs:List Code}{B:World}{h:AW}{n:FN}{m m0:SM}{S:Nat→Prop}{L:List HP}
end
def RW (L:List HP):HP where
 holds:=λS F h=>Sp S L h F
 loc:=λk s e=>Sp.ext k s e λ_ x=>x
def mX (l:Nat) (r:Loop):HP where
 holds:=λ_ F h=>(∀b,F b↔b=l)∧h[l]? =some (.loop r)
 loc:=λ⟨a,c⟩ _ e=>⟨a,(e l (.inr ((a l).2 rfl))).trans c⟩
def Sp.app {S:Nat→Prop}{h:AW}:∀{L1 L:List HP}{A:Nat→Prop},Sp S (L1++L) h A→∃F,Sp S L1 h F∧(∀b,F b→A b)∧Sp S L h (λb=>A b∧¬F b)
 |[],L,A,k=>⟨λ_=>False,trivial,λ_ x=>x.elim,k.mono λb a=>⟨a,λx=>x⟩⟩
 |H::L1,L,A,⟨F,d,g,i⟩=>by
  obtain⟨G,j,c,l⟩:=Sp.app i;refine⟨λb=>F b∨G b,⟨F,d,λb a=> .inl a,j.mono λb a=>⟨.inr a,(c b a).2⟩⟩,λb a=>a.elim (g b) λx=>(c b x).1,l.mono λb a=>⟨a.1.1,λx=>x.elim a.1.2 a.2⟩⟩
def Sp.app2 {S:Nat→Prop}{h:AW}:∀{L1 L:List HP}{A F:Nat→Prop},Sp S L1 h F→(∀b,F b→A b)→Sp S L h (λb=>A b∧¬F b)→Sp S (L1++L) h A
 |[],L,A,F,_,_,k=>k.mono λb a=>a.1
 |H::L1,L,A,F,⟨G,d,c,g⟩,i,k=>⟨G,d,λb a=>i b (c b a),Sp.app2 g (λb a=>⟨i b a.1,a.2⟩) (k.mono λb a=>⟨⟨a.1,λx=>a.2 (c b x)⟩,λx=>a.2 x.1⟩)⟩
section
variable {S:Nat→Prop}{L L1 M:List HP}{h:AW}{H:HP}
def U4:∀{M:List HP},PI (M++H::L) H (M++L)
 |[]=> .head
 |K::M=> .tail U4
def St.mid (a:St S (H::(M++L)) h):St S (M++H::L) h:=⟨a.1,L7 U4 a.2⟩
def St.rec {l:Nat}{r r':Loop}(d:St S (mX l r::L) h):h[l]? =some (.loop r)∧St S (mX l r'::L) (h.setIfInBounds l (.loop r'))∧CB S h S (h.setIfInBounds l (.loop r')):=by
 obtain⟨F,k,_⟩:=d.get (uN ..);have a:l<h.size:=(uH.1 k.2).1;refine⟨k.2,d.upd (H':=mX l r') .head (by simp) λF g _=>⟨F,⟨g.1,by simp [a]⟩,λ_ c=> .inl c,λb _ c=>?_⟩⟩;have:b≠l:=λe=>c ((g.1 b).2 e);simp [yW (Ne.symm this)]
end
def Wd.putObj {B w:World}{h:AW}(k:Wd B h w) (l:Nat) (o:Obj):Wd B (h.setIfInBounds l o) (w.putObj l o):=⟨by show w.heap.setIfInBounds l o=_;rw[k.heap],k.os,k.tape,k.out⟩
abbrev UU (a:Type):=(Nat→Prop)→AW→List Value→a→Prop
def YC {j σ:Type}(P:Program) (g:Value) (Y:Bool→σ→HP) (AR:UU j) (d:j→σ→Option (Bool×σ)) (i:Nat→Prop) (h0:AW):Prop:=
 ∃l,g= .func (.yield l) #[] #[]∧∀(x:j) (s:σ) (out:Bool×σ),d x s=some out→∀(S:Nat→Prop) (L:List HP) (h:AW) (vs:List Value) (B w:World),CB i h0 S h→St S (Y true s::L) h→AR S h vs x→Wd B h w→
  ∃fn b a c,(Instr.yield l vs.toArray).run P w= .ok (.round l fn b a c) w∧
   RoundIn Fence.wide 0 P l fn b a c w (λe w'=>∃S' h',e= .returned (.bool out.1)∧Wd B h' w'∧CB S h S' h'∧St S' (Y out.1 out.2::L) h')
def YC.mono {n σ:Type}{P:Program}{b:Value}{Y:Bool→σ→HP}{AR:UU n}{a:n→σ→Option (Bool×σ)}{c d:Nat→Prop}{h0 g:AW}(k:YC P b Y AR a c h0) (e:CB c h0 d g):YC P b Y AR a d g:=by
 obtain⟨l,i,k⟩:=k;exact⟨l,i,λx s out j S L h vs B w m=>k x s out j S L h vs B w (e.trans m)⟩
def YL (P:Program) (ops:Array Oper) (Q:Exit→Act→World→Prop) (l:List Oper) (B:World) (h:AW) (n:FN) (m:SM):Prop:=∀a w,Fr n a m→Wd B h w→wpListIn (FF none) 0 P ops Q l a w
def cO {P:Program}{l:Nat}{f:FuncId}{b:Array Value}{a d:Code}{w:World}{R:Ending→World→Prop}{g:Option Nat}{n i:Nat}(h:RoundIn Fence.wide n P l f b a d w R):RoundIn (FF g) i P l f b a d w R:=
 ⟨RE g f,λc cs _=>by rw[Qw];exact h.2 c cs (room_wide _)⟩
section
variable {P:Program}{ex:List (Nat×AP)}{R N:AP}{cs:List Code}{B:World}{h:AW}{n:FN}{m m':SM}{S:Nat→Prop}{L:List HP}
end
section
variable {P:Program}{ops:Array Oper}{Q:Exit→Act→World→Prop}{n:FN}{m m':SM}{rest l:List Oper}{B:World}{h:AW}{S:Nat→Prop}{L:List HP}
def Po (g:∀a w,¬Q .outgrown a w):∀(k:Nat) (l:List Oper) (a:Act) (w:World),wpList P ops (Exit.then (wpListIn (FF none) 0 P ops Q (l.drop k)) Q) (l.take k) a w→wpListIn (FF none) 0 P ops Q l a w
 |0,l,a,w,h=>by simpa [wpList,Exit.then] using h
 |k+1,[],a,w,h=>by simpa [wpList,Exit.then] using h
 |k+1,o::l,a,w,h=>by
  simp only[List.take_succ_cons,List.drop_succ_cons] at h;unfold wpList at h;unfold wpListIn;split
  ·rename_i i;rw[tT i] at h;have b:=h.imp (Oper.wp_mono λa w p=>Po g k l a w p) id;refine iU (.inl rfl) g ?_;rcases b with b|⟨_,j,m,h2⟩
   ·refine .inl ?_;unfold Oper.wp at b ⊢;generalize (execOp a.eval o).run P w=r at b
    cases r with
    |ok q w'=>
     cases q<;>simp only[Oper.upon] at b ⊢
     case value v=>exact b
     case skip=>exact b
     case defer d=>exact b
     case enter f args=>
      refine b.mono λe s n=>?_;cases e with
      |returned v=>exact n
      |panicked c=>exact n
      |outgrown=>obtain⟨j,m,h0⟩:=n;exact⟨j,m,h0⟩
     case row r args=>exact b
    |halt x w'=>cases x<;>simp only[Oper.upon] at b ⊢;exact b
   ·exact absurd h2 (g j m)
  ·rename_i i;rw[tQ i] at h;exact⟨λf _=>RE none f,Po g k l _ w h⟩
def tA {C:World→Prop}(k:YL P ops Q l B h n m):QF P ops C (λa=>∀w,Wd B h w→wpListIn (FF none) 0 P ops Q l a w) [] n m:=λa b w c=>k a w b c
def sY (j:Nat) (b:∀a w,¬Q .outgrown a w) (k:LF P ops (Exit.then (wpListIn (FF none) 0 P ops Q (l.drop j)) Q) (l.take j) B h n m):YL P ops Q l B h n m:=λa w c d=>Po b j l a w (k a w c d)
def tE (k:YL P ops Q l B h n m):LF P ops (Exit.then (wpListIn (FF none) 0 P ops Q l) Q) [] B h n m:=λa w b c=>k a w b c
def YL.nil {ex:List (Nat×AP)}{R N:AP}{cs:List Code}(b:Su m m') (k:WF P ex R cs N B h n m'):YL P ops (Qx ex R (W P ex R cs N)) [] B h n m:=λa w c d=>k a w (c.sub b) d
def YL.gy {o:Oper}{j e:Nat}{b:Bool}(g:o.guard=some (j,b)) (i:(ops[j]?).bind (·.dst)=some e) (l:lk m e=some (.bool b)) (k:YL P ops Q ({ o with guard:=none}::rest) B h n m):YL P ops Q (o::rest) B h n m:=by
 intro a w d p;have q:Region.wanted o (yielded ops a.tmps)=true:=by
  have:=d.at_ e _ l;simp [Region.wanted,g,yielded,i,this]
 have c:=k a w d p;unfold wpListIn at c ⊢;rw[tT (by simp [Region.wanted])] at c;rw[tT q];exact c
def YL.gn {o:Oper}{j e d:Nat}{b:Bool}(g:o.guard=some (j,!b)) (i:(ops[j]?).bind (·.dst)=some e) (l:lk m e=some (.bool b)) (p:o.dst=some d) (hd:Nat.blt d n.1=true) (k:YL P ops Q rest B h n ((d,undef)::m)):YL P ops Q (o::rest) B h n m:=by
 intro a w c q;have s:Region.wanted o (yielded ops a.tmps)=false:=by
  have:=c.at_ e _ l;cases b<;>simp [Region.wanted,g,yielded,i,this]
 unfold wpListIn;rw[tQ (by rw[s];exact Bool.false_ne_true),p];exact⟨λf _=>RE none f,k _ w (c.put hd _) q⟩
def sC {α σ:Type}{A:Value}{Y:Bool→σ→HP}{AR:UU α}{i:α→σ→Option (Bool×σ)}{C:Nat→Prop}{h0:AW}{X:Operand}{xs:Array Operand}{b:Array TypeId}{vs:List Value}{d:Nat}{ty:TypeId}{c:String}{q:Array Edge}{x:α}{s:σ}{out:Bool×σ}
  (t:YC P A Y AR i C h0) (D:BT m X=some A) (u:xs.toList.mapM (BT m)=some vs) (F:i x s=some out) (G:CB C h0 S h) (H:St S (Y true s::L) h) (I:AR S h vs x) (hd:Nat.blt d n.1=true)
  (k:∀S' h',CB S h S' h'→St S' (Y out.1 out.2::L) h'→YL P ops Q rest B h' n ((d,.bool out.1)::m)):YL P ops Q (⟨some d,.call ⟨.value X,xs,b⟩,ty,c,q,none⟩::rest) B h n m:=by
 intro a w v J;obtain⟨l,rfl,t⟩:=t;obtain⟨fn,j,g,o,K,M⟩:=t x s out F S L h vs B w G H I J;unfold wpListIn;rw[tT (by simp [Region.wanted])];refine⟨λf _=>RE none f,?_⟩;have p:(execOp a.eval ⟨some d,.call ⟨.value X,xs,b⟩,ty,c,q,none⟩).run P w= .ok (.round l fn j g o) w:=by
  have U:=v.eval D;have V:=VH v u;simp [execOp,resolve,Deferred.ofValue,invoke,U,V,K]
 have z:(⟨some d,.call ⟨.value X,xs,b⟩,ty,c,q,none⟩:Oper).semAt (FF none).round a.eval=execOp a.eval ⟨some d,.call ⟨.value X,xs,b⟩,ty,c,q,none⟩:=rfl;rw[z,p];refine⟨λhd=>(by rw[Se] at hd;cases hd),cO (RoundIn.mono M λe w' W=>?_)⟩;obtain⟨S',h',rfl,Z,r2,r3⟩:=W;exact k S' h' r2 r3 _ w' (v.put hd _) Z
end
section
variable {P:Program}{ex:List (Nat×AP)}{R N:AP}{cs:List Code}{B:World}{h:AW}{k:Nat}{Ds:List Nat}{m:SM}{S:Nat→Prop}{L:List HP}
end
section
variable {S:Nat→Prop}{L:List HP}{h:AW}
end
section
variable {P:Program}{ops:Array Oper}{Q:Exit→Act→World→Prop}{n:FN}{m m':SM}{rest l:List Oper}{B:World}{h:AW}{S:Nat→Prop}{L:List HP}
def sX {A σ:Type}{k:Value}{Y:Bool→σ→HP}{AR:UU A}{b:A→σ→Option (Bool×σ)}{l:Nat→Prop}{h0:AW}{X:Operand}{xs:Array Operand}{g:Array TypeId}{vs:List Value}{d:Nat}{ty:TypeId}{i:String}{o:Array Edge}{x:A}{s:σ}{out:Bool×σ}
  (p:YC P k Y AR b l h0) (q:BT m X=some k) (j:xs.toList.mapM (BT m)=some vs) (t:b x s=some out) (u:CB l h0 S h) (a:St S (Y true s::L) h) (v:AR S h vs x) (hd:Nat.blt d n.1=true)
  (w:out.1=true→∀S' h',CB S h S' h'→St S' (Y true out.2::L) h'→YL P ops Q rest B h' n ((d,.bool true)::m))
  (z:out.1=false→∀S' h',CB S h S' h'→St S' (Y false out.2::L) h'→YL P ops Q rest B h' n ((d,.bool false)::m)):YL P ops Q (⟨some d,.call ⟨.value X,xs,g⟩,ty,i,o,none⟩::rest) B h n m:=
 sC p q j t u a v hd λS' h' e a=>by
  cases c:out.1 with
  |true=>rw[c] at a;exact w c S' h' e a
  |false=>rw[c] at a;exact z c S' h' e a
end
section
variable {P:Program}{fn:Func}{B:World}{S S':Nat→Prop}{h h':AW}{post:Value→(Nat→Prop)→AW→Prop}{a:Act}{m:SM}{w:World}{L:List HP}
end
end Go.Proofs.YtedgiljmffngoaaGreat
