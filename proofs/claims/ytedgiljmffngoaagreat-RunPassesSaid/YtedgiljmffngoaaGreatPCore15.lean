import Derived.Test.YtedgiljmffngoaaGreatPCore14
import Derived.Lib.SliceRun
namespace Go.Proofs.YtedgiljmffngoaaGreat
set_option linter.all false
open Go.RowKit
section
variable {P:Program}{ops:Array Oper}{C:World→Prop}{Q:Act→Prop}{n:FN}{m m':SM}{rest:List Oper}
variable {d:Nat}{ty:TypeId}{pos:String}{af:Array Edge}{X Y Z:Operand}{t t1 t2:TypeId}{v:Value}{S:Nat→Prop}{L:List HP}{h:AS}
def Kh {b:Addr}(g:BV m X=some (.pointer (some b))) (hd:Nat.blt d n.1=true) (k:QF P ops C Q rest n ((d,.pointer (some b))::m)):QF P ops C Q (⟨some d,.nilCheck X,ty,pos,af,none⟩::rest) n m:=λa c=>
 Dx c hd (λw _=>by simp [execOp,c.eval g]) k
def zG (P:Program) (t j off a:Nat) (sz:Nat) (ag:Bool):Bool:=
 match P.underlying t with
 |some (.struct b)=>(match b[j]? with|some f=>Nat.beq f.offset off&&Nat.beq f.type a&&Jj P a sz ag|none=>false)
 |_=>false
def Zb {a sz:Nat}{ag:Bool}(h:Jj P a sz ag=true) (w:World):(isAgg a).run P w= .ok ag w∧(sizeOf a).run P w= .ok sz w:=by
 obtain⟨i,b,c,d,g,j⟩:=Qd h;refine⟨?_,by simp [sizeOf,typeInfo,c,g]⟩;subst j;simp only[isAgg,Sem.run_bind,run_underlying d,Result.andThen_ok];cases b<;>rfl
def yU {xs:Array Value}{j off v sz:Nat}{ag:Bool}{u:Value}(p:BV m X=some (.agg xs)) (b:zG P t j off v sz ag=true) (g:(if ag then some (.agg (xs.extract off (off+sz))) else xs[off]?)=some u) (hd:Nat.blt d n.1=true) (k:QF P ops C Q rest n ((d,u)::m)):QF P ops C Q (⟨some d,.field t X j,ty,pos,af,none⟩::rest) n m:=λa i=>by
 unfold zG at b;split at b
 ·rename_i z c;split at b
  ·rename_i f q;simp only[Aaa] at b;obtain⟨⟨l,o⟩,x⟩:=b;have l:=Aah l;have o:=Aah o;subst l;subst o;refine Dx i hd (λw _=>?_) k;obtain⟨s,y⟩:=Zb x w;cases ag
   ·simp only[Ab4,Ab5] at g;simp [execOp,i.eval p,Instr.field,run_underlying c,q,asAgg,part,s,g]
   ·simp only[if_true,Abd] at g;simp [execOp,i.eval p,Instr.field,run_underlying c,q,asAgg,part,s,y,g]
  ·cases b
 ·cases b
def fS {b:Addr}{l c:Nat}(j:BV m X=some (.slice (some b) l c)) (o:BV m Y=some (.slice none 0 0)) (hd:Nat.blt d n.1=true) (g:∃e,P.underlying t1=some (.slice e)) (k:QF P ops C Q rest n ((d,.bool false)::m)):QF P ops C Q (⟨some d,.binOp .eql t1 X Y t2,ty,pos,af,none⟩::rest) n m:=λa i=>by
 obtain⟨e,g⟩:=g;refine Dx i hd (λw _=>?_) k;have p:(eqGuard .eql t1 X Y (.slice (some b) l c) (.slice none 0 0)).run P w= .ok () w:=by unfold eqGuard;simp
 have q:=Lib.run_eql_slice_nil (P:=P) w t1 e (some b) l c 0 0 g;simp [execOp,i.eval j,i.eval o,p,q]
def Yq (g:BV m X=some (.slice none 0 0)) (i:BV m Y=some (.slice none 0 0)) (hd:Nat.blt d n.1=true) (b:∃e,P.underlying t1=some (.slice e)) (k:QF P ops C Q rest n ((d,.bool true)::m)):QF P ops C Q (⟨some d,.binOp .eql t1 X Y t2,ty,pos,af,none⟩::rest) n m:=λa c=>by
 obtain⟨e,b⟩:=b;refine Dx c hd (λw _=>?_) k;have j:(eqGuard .eql t1 X Y (.slice none 0 0) (.slice none 0 0)).run P w= .ok () w:=by unfold eqGuard;simp
 have l:=Lib.run_eql_slice_nil (P:=P) w t1 e none 0 0 0 0 b;simp [execOp,c.eval g,c.eval i,j,l]
end
def Y3 {P:Program}{ops:Array Oper}{n:FN}{m:SM}{d:Nat}{ty:TypeId}{pos:String}{af:Array Edge}{X:Operand}{b o j off t:Nat}{a:Act}(g:Fr n a m) (i:BV m X=some (.pointer (some ⟨b,o,none⟩))) (k:Zq P t j off=true):Yields P ops ⟨some d,.fieldAddr t X j,ty,pos,af,none⟩ (.pointer (some ⟨b,o+off,none⟩)) a:=by
 have c:(⟨b,o,none⟩:Addr).add off=⟨b,o+off,none⟩:=by unfold Addr.add;split<;>simp_all
 exact .inl ⟨by simp [Region.wanted],λw=>by simp [execOp,g.eval i,Lj k,c]⟩
def St.bxAll {α}{r:A6 α}{x:α}{b T:Nat}{cs:List Value}{S:Nat→Prop}{L:List HP}{h:AS}(a:St S L h) (c:Bx b T cs∈L) (d:r.rd S h cs x):Pt (λb=>b<h.size) h r (.pointer (some ⟨b,0,none⟩)) x:=by
 obtain⟨F,k,g⟩:=a.get c;refine⟨cs,⟨⟨b,0,none⟩,rfl,rfl,(g b ((k.1 b).2 rfl)).1,λj l=>?_⟩,r.mono d (λb i=>a.1 b i) λ_ _=>rfl⟩;rw[Aa7];exact Bx.cell k j
def Sl.cases {α}{S:Nat→Prop}{h:AS}{r:A6 α}{v:Value}{l:List α}(k:Sl S h r v l):(v= .slice none 0 0∧l=[])∨∃(a:Addr) (cap:Nat),v= .slice (some a) l.length cap∧Sl S h r (.slice (some a) l.length cap) l:=by
 rcases k with k|⟨a,cap,h1,h2⟩
 ·exact .inl k
 ·exact .inr ⟨a,cap,h1,.inr ⟨a,cap,rfl,h2⟩⟩
section
variable {P:Program}{ops:Array Oper}{Q:Exit→Act→World→Prop}{n:FN}{m:SM}{rest:List Oper}
variable {d:Nat}{ty:TypeId}{pos:String}{af:Array Edge}{X Y:Operand}{B w:World}{h:AS}{S:Nat→Prop}{L L2:List HP}{v:Value}
def fY {α}{r:A6 α}{T e sz g:Nat}{z:List Value}(p:OR P T=some (e,sz,g,z)) (q:r.sz=sz) (hd:Nat.blt d n.1=true) (s:St S L h)
  (k:∀v h',St S (OS r e v []::L) h'→CG S h S h'→LF P ops Q rest B h' n ((d,v)::m)):LF P ops Q (⟨some d,.buildSlice T 0 #[],ty,pos,af,none⟩::rest) B h n m:=by
 intro a w t o;refine wpList_plain rfl λK u=>?_;unfold Oper.wp;obtain⟨i,F,x,y,G,H,I,J,M,U⟩:=Kz p;have c:(execOp a.eval ⟨some d,.buildSlice T 0 #[],ty,pos,af,none⟩).run P w= .ok (.value (.slice (some ⟨w.heap.size,0,none⟩) 0 0)) (w.alloc (.cells #[] e)):=by
  simp [execOp,Instr.buildSlice,run_underlying x,sizeOf,typeInfo,y,Instr.fill,newRow];have A:Array.range 0= #[]:=by simp
  rw[A];simp
 rw[c];have j:=o.heap;obtain⟨C,D⟩:=s.add (h':=h.push (.cells #[] e)) (H':=OS r e (.slice (some ⟨h.size,0,none⟩) 0 0) []) (by simp) (λb l=>Gp _ _ _ l) ⟨λb=>b=h.size,.inr ⟨h.size,0,#[],rfl,λ_=>Abx,Kn _ _,Aal _,by unfold maxLen;omega,by simp,by simp [LQ]⟩,λb l=>by subst l;simp⟩;exact u _ _ (k _ _ (by rw[j];exact C) D _ _ (t.put hd _) (o.alloc _))
end
def L3 (ops:Array Oper):List Nat→Prop
 |s::t::r=>Region.waitsFor .any ops t s=true∧L3 ops (t::r)
 |_=>True
def N5 (ops:Array Oper):List Nat→Bool
 |s::t::r=>Region.waitsFor .any ops t s&&N5 ops (t::r)
 |_=>true
def JO {ops:Array Oper}:∀{a:List Nat},N5 ops a=true→L3 ops a
 |[],_=>trivial
 |[_],_=>trivial
 |s::t::r,h=>by
  simp only[N5,Aaa] at h;exact⟨h.1,JO h.2⟩
def Ml {ops:Array Oper}:∀{r:List Nat}{s:Nat},L3 ops (s::r)→∀j,j∈r→∃p,p∈s::r∧Region.waitsFor .any ops j p=true
 |[],_,_,j,a=>by cases a
 |t::r,s,⟨b,c⟩,j,a=>by
  rcases Aae.1 a with rfl|a
  ·exact⟨s,by simp,b⟩
  ·obtain⟨p,d,g⟩:=Ml c j a;exact⟨p,Aa1 _ d,g⟩
def Rx (ops:Array Oper) (a F:List Nat):Bool:=
 (List.range ops.size).all λi=>a.contains i||(F.contains i||(List.range ops.size).any λj=>decide (i<j)&&((!a.contains j&& !F.contains j)||a.head? ==some j)&&Region.waitsFor .any ops j i)
def N4 (ops:Array Oper) (a:List Nat):Bool:=
 (List.range ops.size).all λi=>a.contains i||((ops[i]?).map λo=>o.after.all λe=> !Region.binds .any e|| !a.contains e.on).getD true
def Ts (ops:Array Oper) (a:List Nat) (n:FN) (m:List Nat):Bool:=
 (List.range ops.size).all λi=>a.contains i||match HA ops i with
  |some d=>Nat.blt d n.1&& !(m.contains d)&&(List.range ops.size).all λj=>a.contains j||Nat.beq i j|| !((HA ops j).any (Nat.beq d ·))
  |none=>false
structure Rs (ops:Array Oper) (ks:List Nat) (listed:Array Bool):Prop where
 size:listed.size=ops.size
 closed:∀j oj,ops[j]? =some oj→listed.getD j false=true→∀e∈oj.after,Region.binds .any e=true→listed.getD e.on false=true
 tail:∀t,t∈ks→listed.getD t true=false
def Rs.set {ops:Array Oper}{g:List Nat}{i:Nat}{a:Array Bool}(b:Rs ops g a) (u:i∈Region.ready .any ops a) (k:i∉g):Rs ops g (a.setIfInBounds i true):=by
 obtain⟨_,oi,l,c⟩:=mem_ready.1 u;refine⟨by simp [b.size],λj m n o e p q=>?_,λt s=>by rw[getD_set_ne true (λe:i=t=>k (by rw[e];exact s))];exact b.tail t s⟩;by_cases d:i=j
 ·subst d;have:m=oi:=zZ (n.symm.trans l);subst this;exact getD_set_true (c e p q)
 ·rw[getD_set_ne false d] at o;exact getD_set_true (b.closed j m n o e p q)
def HJ {P:Program}{ops:Array Oper}{Q Q':Exit→Act→World→Prop}(g:∀e a w,Q e a w→Q' e a w):∀(l:List Oper) (a:Act) (w:World),wpList P ops Q l a w→wpList P ops Q' l a w
 |[],a,w,h=>by unfold wpList at h ⊢;exact g _ _ _ h
 |o::l,a,w,h=>by
  unfold wpList at h ⊢;split
  ·rename_i i;rw[Aab i] at h;rcases h with b|⟨b,j,k,h2⟩
   ·refine .inl ?_;unfold Oper.wp at b ⊢;generalize (execOp a.eval o).run P w=r at b
    cases r with
    |ok p w'=>
     cases p<;>simp only[Oper.upon] at b ⊢
     case value v=>exact HJ g l _ _ b
     case skip=>exact HJ g l _ _ b
     case defer d=>exact HJ g l _ _ b
     case enter f args=>
      refine b.mono λe m n=>?_;cases e with
      |returned v=>exact HJ g l _ _ n
      |panicked c=>exact g _ _ _ n
      |outgrown=>obtain⟨j,k,h0⟩:=n;exact⟨j,k,g _ _ _ h0⟩
     case row r args=>obtain b:=b;exact Rows.mono b λv m q=>HJ g l _ _ q
    |halt x w'=>cases x<;>simp only[Oper.upon] at b ⊢ <;>first|exact g _ _ _ b|exact b
   ·exact .inr ⟨b,j,k,g _ _ _ h2⟩
  ·rename_i i;rw[zY i] at h;exact HJ g l _ _ h
def Yw {R:AR}{h:AS}{K K':SM→Prop}(b:∀fr,K fr→K' fr):∀(a:List (Nat×Nat)) (fr:SM),PA R h K a fr→PA R h K' a fr
 |[],fr,k=>b fr k
 |(_,d)::a,fr,k=>λu c=>Yw b a ((d,u)::fr) (k u c)
def PA.imp {R:AR}{h:AS}{K K':SM→Prop}(b:∀fr,K fr→K' fr) (a:List (Nat×Nat)) (fr:SM) (k:PA R h K a fr):PA R h K' a fr:=Yw b a fr k
def OX:Value→Option Nat
 | .pointer (some ⟨b,0,none⟩)=>some b
 | .slice (some ⟨b,0,none⟩) _ _=>some b
 |_=>none
def Wh (h:AS) (v:Value):Prop:=∃b,OX v=some b∧h.size≤b
def lE (a:List Nat) (f:Nat→Option Value):Prop:=∀s,s∈a→∀s',s'∈a→s≠s'→∀u c,f s=some u→f s'=some c→∀b d,OX u=some b→OX c=some d→b≠d
def WU (ops:Array Oper) (As:List Nat):List Nat:=As.filterMap λi=>HA ops i
structure ZB where
 zs:List (Nat×List Nat)
 f:Nat→List (Option Value)→Option Value
def ZB.none:ZB:=⟨[],λ_ _=>Option.none⟩
structure Wj (B:World) (h0:AS) (n:FN) (m:SM) (ops:Array Oper) (ks As:List Nat) (Z:ZB) (R:AR) (listed:Array Bool) (a:Act) (w:World):Prop where
 ex:∃h,Wd B h w∧DT h0 h∧Fr n a m∧∀i,i∉ks→listed.getD i false=true→∃d v,HA ops i=some d∧a.tmps[d]? =some v∧R i v h
 dis:∀i,i∈As→∀j,j∈As→i≠j→listed.getD i false=true→listed.getD j false=true→∀d d' u u',HA ops i=some d→HA ops j=some d'→a.tmps[d]? =some u→a.tmps[d']? =some u'→∀b b',OX u=some b→OX u'=some b'→b≠b'
 pz:∀z,z∈Z.zs→listed.getD z.1 false=true→∃d v,HA ops z.1=some d∧a.tmps[d]? =some v∧Z.f z.1 (z.2.map λs=>a.tmps[s]?)=some v
def tC (ops:Array Oper) (a:List Nat) (Z:ZB):Prop:=∀z,z∈Z.zs→z.1<ops.size∧z.1∉a∧∀s,s∈z.2→∃o j,ops[z.1]? =some o∧j∈Ma o∧HA ops j=some s∧j∉a
def tC.none {ops:Array Oper}{a:List Nat}:tC ops a ZB.none:=λ_ h=>by cases h
def gN (ops:Array Oper) (a:List Nat) (b:List (Nat×List Nat)):Bool:=b.all λz=> !a.contains z.1&&match ops[z.1]? with
 |some o=>z.2.all λs=>(Ma o).any λj=> !a.contains j&&match HA ops j with|some d=>Nat.beq d s|none=>false
 |none=>false
def Y2 {ops:Array Oper}{k:List Nat}{Z:ZB}(h:gN ops k Z.zs=true):tC ops k Z:=λz m=>by
 have a:=Aaf.1 h z m;simp only[Aaa,Aau] at a;have c:=a.2;split at c
 ·rename_i o l;refine⟨(Abb.1 l).1,λg=>(by rw[Aag.2 g] at a;cases a.1),λs n=>?_⟩;obtain⟨j,p,b⟩:=List.any_eq_true.1 (Aaf.1 c s n);simp only[Aaa,Aau] at b;refine⟨o,j,l,p,?_,λg=>by rw[Aag.2 g] at b;cases b.1⟩;have i:=b.2;split at i
  ·rename_i d hd;rw[hd,Aah i]
  ·cases i
 ·cases c
def RF (R:AR) (As:List Nat) (Z:ZB) (i:Nat) (h:AS) (fr:SM) (v:Value) (h':AS):Prop:=R i v h'∧(As.contains i=true→Wh h v)∧∀sl,(i,sl)∈Z.zs→(∀s,s∈sl→(lk fr s).isSome=true)∧Z.f i (sl.map (lk fr))=some v
def Xe (P:Program) (ops:Array Oper) (Q:Exit→Act→World→Prop) (B:World) (n:FN) (m:SM) (h0:AS) (R:AR) (As:List Nat) (Z:ZB) (i:Nat) (o:Oper) (d:Nat) (ps:List (Nat×Nat)):Prop:=
 ∀mt h,DT h0 h→PA R h (λfr=>match o.guard with
  |none=>LF P ops (Exit.then (KS B n d (RF R As Z i h fr) h (fr++(m++mt))) Q) [o] B h n (fr++(m++mt))
  |some (g,b)=>∃a,HA ops g=some a∧((lk fr a=some (.bool b)∧LF P ops (Exit.then (KS B n d (RF R As Z i h fr) h (fr++(m++mt))) Q) [{ o with guard:=none}] B h n (fr++(m++mt)))∨∃v,lk fr a=some v∧yb v≠some b∧R i undef h)) ps []
section
variable {P:Program}{ops:Array Oper}{Q:Exit→Act→World→Prop}{a:Act}{w:World}
def JW (U:PI ops=true):∀(n:List Nat) (c:Nat) (b:Array Bool) (a:Act) (w:World),T5 b=c→b.size=ops.size→(∀i,i<ops.size→i∉n→b.getD i true=true)→(∀t,t∈n→t<ops.size∧b.getD t true=false)→L3 ops n→n.Nodup→
  wpList P ops Q (n.filterMap λt=>ops[t]?) a w→wpAny P .any ops Q c b a w
 |[],c,b,a,w,Z,A,y,z,_,_,g=>by
  have hr:Region.ready .any ops b=[]:=ZK λi B=>y i B (by simp);exact wpAny_done hr g c
 |t::r,c,b,a,w,Z,A,y,z,V,C,g=>by
  obtain⟨k,m⟩:=z t (by simp);have aa:0<T5 b:=by have:=MB m;omega
  obtain⟨c,rfl⟩:∃f,c=f+1:=⟨c-1,by omega⟩
  have only:∀j,j∈Region.ready .any ops b→j=t:=λj D=>by
   obtain⟨W,oj,d,o⟩:=mem_ready.1 D;have F:=(Abb.1 d).1;by_cases q:j∈t::r
   ·rcases Aae.1 q with rfl|hjr
    ·rfl
    ·obtain⟨p,hp,s⟩:=Ml V j hjr;obtain⟨o',G,e',H,I,J⟩:=Region.waitsFor_spec s;have:o'=oj:=zZ (G.symm.trans d);subst this;have X:=o e' H I;rw[J,getD_both (z p hp).2] at X;cases X
   ·rw[y j F q] at W;cases W
  obtain⟨i,_,q2,_⟩:=M7 U A k m;refine⟨λh0=>absurd (h0▸q2) (by simp),λj D=>?_⟩;have K:=only j D;subst K;have d:ops[j]? =some ops[j]:=by simp [k]
  rw[Adn,d] at g;simp only at g;have l:=Ace.1 C;have Y:=λa w=>JW U r c (b.setIfInBounds j true) a w (by have:=MB m;omega) (by simpa using A)
   (λi B M=>by
    by_cases e:i=j
    ·subst e;have:i<b.size:=by omega
     simp [Ab1,Abw,this]
    ·rw[getD_set_ne true (λx=>e x.symm)];exact y i B (by simp [e,M]))
   (λt' v=>by
    obtain⟨z1,z2⟩:=z t' (by simp [v]);exact⟨z1,by rw[getD_set_ne true (λx:j=t'=>l.1 (by rw[x];exact v))];exact z2⟩)
   (by cases r with
    |nil=>trivial
    |cons u r=>exact V.2) l.2
  unfold wpOp;simp only[d];unfold wpList at g;split
  ·rename_i s;rw[Aab s] at g;exact g.imp (Oper.wp_mono Y) id
  ·rename_i s;rw[zY s] at g;exact Y _ _ g
def Rw {k F:List Nat}{a:Array Bool}(hs:Rx ops k F=true) (M:L3 ops k) (c:Rs ops k a):
  ∀(d i:Nat),ops.size-i=d→i<ops.size→i∉k→i∉F→a.getD i true=false→∀t,t∈k→t∉Region.ready .any ops a:=by
 intro d
 induction d using Nat.strongRecOn with
 |_ d ih=>
  intro i hd hi B C l t m Q;obtain⟨_,U,n,b⟩:=mem_ready.1 Q;have V:=Aaf.1 hs i (Abe.2 hi);simp only[Aay,Aag,B,C,Ab0] at V;obtain⟨j,hj,o⟩:=List.any_eq_true.1 V;simp only[Aaa,Aam,Aay,Aau] at o;obtain⟨⟨aa,D⟩,hw⟩:=o;obtain⟨W,q,e,X,Y,u⟩:=Region.waitsFor_spec hw;have G:j<ops.size:=Abe.1 hj;rcases D with ⟨v,w⟩|hjh
  ·cases Z:a.getD j false with
   |true=>
    have x:=c.closed j W q Z e X Y;rw[u,getD_both l] at x;cases x
   |false=>
    have y:j<a.size:=by rw[c.size];omega
    exact ih (ops.size-j) (by omega) j rfl G (λh=>by rw[Aag.2 h] at v;cases v) (λh=>by rw[Aag.2 h] at w;cases w) (getD_in y Z) t m Q
  ·cases g:k with
   |nil=>rw[g] at m;cases m
   |cons s r=>
    rw[g] at hjh m M;have z:s=j:=by simpa using hjh
    subst z;rcases Aae.1 m with rfl|htr
    ·have:W=U:=zZ (q.symm.trans n);subst this;have x:=b e X Y;rw[u,getD_both l] at x;cases x
    ·obtain⟨p,hp,H⟩:=Ml M t htr;obtain⟨o',I,e',J,K,A⟩:=Region.waitsFor_spec H;have:o'=U:=zZ (I.symm.trans n);subst this;have g3:=b e' J K;rw[A,getD_both (c.tail p (by rw[g];exact hp))] at g3;cases g3
def TX {B:World}{h0:AS}{n:FN}{m:SM}{R:AR}(q D As:List Nat) (Z:ZB) (hZ:tC ops (q++D) Z) (cl:∀z,z∈Z.zs→((ops[z.1]?).bind (·.guard))=none) (b0:∀i,i∈As→∀v h,R i v h→∃b,OX v=some b∧b<h.size) (b3:∀t,t∈q→t<ops.size) (b4:q.Nodup) (hb:PI ops=true)
  (F G:List Nat) (cm:F=[]∨D=[]) (b5:q=[]∨Rx ops q (F++G++D)=true) (aq:L3 ops q) (cn:N4 ops q=true) (b6:Region.noSelect ops=true) (hQ:∀c a w,¬Q (.panic c) a w)
  (b7:∀f,f∈F→f∉As∧∀sl,(f,sl)∉Z.zs) (hF:∀f,f∈F→(f<ops.size∧f∉q)∧Me ops f=true∧∃o d ps,ops[f]? =some o∧o.dst=some d∧TE ops o ps=true∧PU P ops n m h0 R f o ps)
  (bb:Ts ops (q++D) n (m.map (·.1))=true)
  (bi:∀i v h h',DT h0 h→DT h h'→R i v h→R i v h')
  (am:∀i,i∈As→i∉q++D) (step:∀i o d,i∉q++D→ops[i]? =some o→o.dst=some d→∃ps,TE ops o ps=true∧(∀p∈ps,p.1∉D)∧Xe P ops Q B n m h0 R As Z i o d ps)
  (b8:∀a w h,Wd B h w→DT h0 h→Fr n a m→(∀i,i<ops.size→i∉q++D→∃d v,HA ops i=some d∧a.tmps[d]? =some v∧R i v h)→lE (WU ops As) (λs=>a.tmps[s]?)→(∀z,z∈Z.zs→∃d v,HA ops z.1=some d∧a.tmps[d]? =some v∧Z.f z.1 (z.2.map λs=>a.tmps[s]?)=some v)→wpList P ops Q (q.filterMap λt=>ops[t]?) a w)
  (bj:G=[]∨((∀f,f∈F→∀o,ops[f]? =some o→∀e,e∈o.after→Region.binds .any e=true→e.on<ops.size∧e.on∉q∧e.on∉F++G)∧∀k1 bk,q=k1::bk→∀(y:Nat) (k:Array Bool) (a:Act) (w:World),T5 k=y+1→Rs ops q k→Wj B h0 n m ops (q++D) As Z R k a w→(∀i,i<ops.size→i∉q→i∉G→k.getD i false=true)→k1∈Region.ready .any ops k→wpOp P ops Q k1 (wpAny P .any ops Q y (k.setIfInBounds k1 true)) a w)):
  ∀(y:Nat) (k:Array Bool) (a:Act) (w:World),T5 k=y→Rs ops q k→(∀i,i∈D→k.getD i false=true)→Wj B h0 n m ops (q++D) As Z R k a w→wpAny P .any ops Q y k a w:=by
 intro y;have bc:∀f,f∈F→∀x,x∈D→False:=λf hf x hx=>by
  rcases cm with h|h
  ·rw[h] at hf;cases hf
  ·rw[h] at hx;cases hx
 have b9:∀(k:Array Bool) (a:Act) (w:World),Wj B h0 n m ops (q++D) As Z R k a w→(∀i,i<ops.size→i∉q→k.getD i false=true)→∀z,z∈Z.zs→∃d v,HA ops z.1=some d∧a.tmps[d]? =some v∧Z.f z.1 (z.2.map λs=>a.tmps[s]?)=some v:=by
  intro k a w ai K z hz;exact ai.pz z hz (K z.1 (hZ z hz).1 λh=>(hZ z hz).2.1 (Ac7 _ h))
 have ar:∀(k:Array Bool) (a:Act) (w:World),Wj B h0 n m ops (q++D) As Z R k a w→(∀i,i<ops.size→i∉q→k.getD i false=true)→lE (WU ops As) (λs=>a.tmps[s]?):=by
  intro k a w ai K s hs s' co U u u' e e';obtain⟨i,hi,hd⟩:=Ado.1 hs;obtain⟨j,X,a5⟩:=Ado.1 co;have lt:∀i d,HA ops i=some d→i<ops.size:=λi d C=>by
   unfold HA at C;cases ad:ops[i]? with
   |none=>rw[ad] at C;cases C
   |some oj=>exact(Abb.1 ad).1
  exact ai.dis i hi j X (λe=>U (by subst e;rw[hd] at a5;exact zZ a5)) (K i (lt _ _ hd) (λh=>am i hi (Ac7 _ h))) (K j (lt _ _ a5) (λh=>am j X (Ac7 _ h))) _ _ _ _ hd a5 e e'
 induction y with
 |zero=>
  intro k a w hu I hD ai;have aa:∀i,k.getD i true=true:=λi=>Vj hu;obtain⟨h,g1,g2,g3,g4⟩:=ai.ex;have H:∀i,i<ops.size→i∉q→k.getD i false=true:=λi Y A=>by
   have h2:=aa i;have:i<k.size:=by rw[I.size];exact Y
   simpa [this] using h2
  have hf:=b8 a w h g1 g2 g3 (λi Y A=>g4 i A (H i Y λh=>A (Ac7 _ h))) (ar _ _ _ ai H) (b9 _ _ _ ai H);exact JW hb q 0 k a w hu I.size (λi _ _=>aa i) (λt ht=>⟨b3 t ht,I.tail t ht⟩) aq b4 hf
 |succ y ih=>
  intro k a w hu I hD ai;obtain⟨h,g1,g2,g3,g4⟩:=ai.ex;by_cases aa:∀i,i<ops.size→i∉q→k.getD i true=true
  ·have H:∀i,i<ops.size→i∉q→k.getD i false=true:=λi Y A=>by
    have h2:=aa i Y A;have:i<k.size:=by rw[I.size];exact Y
    simpa [this] using h2
   have hf:=b8 a w h g1 g2 g3 (λi Y A=>g4 i A (H i Y λh=>A (Ac7 _ h))) (ar _ _ _ ai H) (b9 _ _ _ ai H);exact JW hb q (y+1) k a w hu I.size aa (λt ht=>⟨b3 t ht,I.tail t ht⟩) aq b4 hf
  ·have ca:∀j,k.getD j false=true→j∉q:=λj X cp=>by
    have:=getD_both (I.tail j cp);rw[X] at this;cases this
   have ae:∀i o,i∈Region.ready .any ops k→ops[i]? =some o→∀ps,TE ops o ps=true→(∀p∈ps,p.1∉D)→∀p∈ps,∃v,a.tmps[p.2]? =some v∧R p.1 v h:=by
    intro i o hi ho ps au bl p hp;obtain⟨av,o',an,aw⟩:=mem_ready.1 hi;have:o'=o:=zZ (an.symm.trans ho);subst this;have J:=Aaf.1 au p hp;simp only[Aaa] at J;have X:p.1∈Ma o':=by simpa using J.1
    obtain⟨e,he,bm⟩:=Abg.1 X;obtain⟨bn,a6⟩:=Abp.1 he;have a7:e∈o'.after:=by simpa using bn
    have h3:=aw e a7 a6;rw[bm] at h3;obtain⟨d',v,C,M,q3⟩:=g4 p.1 (λh=>(Aa0.1 h).elim (ca _ h3) (bl p hp)) h3;have h2:=J.2;rw[C] at h2;have:p.2=d':=Aah (by simpa using h2);exact⟨v,by rw[this];exact M,q3⟩
   have ax:∀i o d,i∉q→i∉q++D→i∈Region.ready .any ops k→ops[i]? =some o→o.dst=some d→∀v w' h',Wd B h' w'→DT h h'→R i v h'→(i∈As→Wh h v)→(∀sl,(i,sl)∈Z.zs→Z.f i (sl.map λs=>a.tmps[s]?)=some v)→wpAny P .any ops Q y (k.setIfInBounds i true) (a.put (some d) v) w':=by
    intro i o d A ab hi ho af v w' h' cq an hr ag cr;obtain⟨av,oo,cs,_⟩:=mem_ready.1 hi;have ay:i<ops.size:=(Abb.1 cs).1;have hd:HA ops i=some d:=by unfold HA;rw[ho];exact af
    have l:=Aaf.1 bb i (Abe.2 ay);rw[hd] at l;simp only[Aaa,Aau,Aaf,Abe,Aay,Aag,ab,Ab0] at l;obtain⟨⟨a8,bo⟩,bp⟩:=l;have az:d+1≤n.1:=by simpa [Nat.blt] using a8
    have al:d<n.1:=az;have a0:(a.put (some d) v).tmps[d]? =some v:=by
     simp only[Act.put,Abw];have:=g3.siz;simp [this,al]
    have ah:∀j dj,HA ops j=some dj→j≠i→j∉q++D→(a.put (some d) v).tmps[dj]? =a.tmps[dj]? :=by
     intro j dj C e X;have bq:j<ops.size:=by
      unfold HA at C;cases ad:ops[j]? with
      |none=>rw[ad] at C;cases C
      |some oj=>exact(Abb.1 ad).1
     have J:=bp j bq;rw[C] at J;have U:d≠dj:=by
      rcases J with (J|J)|J
      ·exact absurd J X
      ·exact absurd (Aah J).symm e
      ·intro e';subst e';simp at J
     simp only[Act.put,Abw];rw[zY U]
    have be:∀j,j∈As→j≠i→(k.setIfInBounds i true).getD j false=true→i∈As→∀dj u,HA ops j=some dj→(a.put (some d) v).tmps[dj]? =some u→∀b b',OX v=some b→OX u=some b'→b≠b':=by
     intro j X e K ct dj u C M b1 b2 z1 z2;rw[getD_set_ne false (λx=>e x.symm)] at K;rw[ah j dj C e (am j X)] at M;obtain⟨c6,vj,p1,p2,p3⟩:=g4 j (am j X) K;rw[C] at p1;cases p1;rw[M] at p2;cases p2;obtain⟨b,e1,e2⟩:=b0 j X _ _ p3;obtain⟨b',e3,e4⟩:=ag ct;rw[z1] at e3;rw[z2] at e1;cases e3;cases e1;omega
    refine ih _ _ _ (by have:=MB av;omega) (I.set hi A) (λj X=>getD_set_true (hD j X)) ⟨⟨h',cq,g2.trans an,?_,λj X K=>?_⟩,λi1 ao j1 a9 bf br bs d1 d2 u1 u2 C M q3 q4=>?_,λz hz K=>?_⟩
    rotate_left 3
    ·have bg:∀(lz:(k.getD z.1 false=true)∨z.1=i) (s:Nat),s∈z.2→(a.put (some d) v).tmps[s]? =a.tmps[s]? :=by
      intro lz s hs;obtain⟨oz,j,p1,p2,p3,p4⟩:=(hZ z hz).2.2 s hs;refine ah j s p3 (λe=>?_) p4;subst e;obtain⟨ed,he,bm⟩:=Abg.1 p2;obtain⟨bn,a6⟩:=Abp.1 he;have a7:ed∈oz.after:=by simpa using bn
      rcases lz with lz|lz
      ·have h3:=I.closed z.1 oz p1 lz ed a7 a6;rw[bm,getD_both av] at h3;cases h3
      ·have h4:=Aaf.1 hb z.1 (Abe.2 (hZ z hz).1);rw[p1] at h4;simp only[Acx,Abu,Acy] at h4;have h6:=h4 ed a7;simp only[a6,Abo,Aci,Aam] at h6;omega
     by_cases e:z.1=i
     ·refine⟨d,v,by rw[e];exact hd,a0,?_⟩;rw[Adp (bg (.inr e)),e];exact cr z.2 (by rw[←e];exact hz)
     ·rw[getD_set_ne false (λx=>e x.symm)] at K;obtain⟨dz,vz,p1,p2,p3⟩:=ai.pz z hz K;refine⟨dz,vz,p1,by rw[ah z.1 dz p1 e (hZ z hz).2.1];exact p2,?_⟩;rw[Adp (bg (.inl K))];exact p3
    rotate_left 2
    ·by_cases e:i1=i
     ·subst e;rw[hd] at C;cases C;rw[a0] at q3;cases q3;exact be j1 a9 (λe=>bf e.symm) bs ao d2 u2 M q4
     ·by_cases e':j1=i
      ·subst e';rw[hd] at M;cases M;rw[a0] at q4;cases q4;exact λb b' z1 z2 e2=>be i1 ao e br a9 d1 u1 C q3 b' b z2 z1 e2.symm
      ·rw[ah i1 d1 C e (am i1 ao)] at q3;rw[ah j1 d2 M e' (am j1 a9)] at q4;rw[getD_set_ne false (λx=>e x.symm)] at br;rw[getD_set_ne false (λx=>e' x.symm)] at bs;exact ai.dis i1 ao j1 a9 bf br bs d1 d2 u1 u2 C M q3 q4
    ·have hp:=g3.put a8 v;refine⟨hp.dfr,hp.siz,λi' u cb=>hp.at_ i' u ?_⟩;have U:Nat.beq d i'=false:=by
      cases V:Nat.beq d i' with
      |false=>rfl
      |true=>
       have:=Aah V;subst this;have J:=cO cb;rw[←Aag] at J;rw[J] at bo;cases bo
     simp only[lk,U,zX];exact cb
    ·by_cases e:i=j
     ·subst e;refine⟨d,v,hd,?_,hr⟩;simp only[Act.put,Abw];have:=g3.siz;simp [this,al]
     ·rw[getD_set_ne false e] at K;obtain⟨dj,vj,C,M,q3⟩:=g4 j X K;refine⟨dj,vj,C,?_,bi _ _ _ _ g2 an q3⟩;have bq:j<ops.size:=by
       unfold HA at C;cases ad:ops[j]? with
       |none=>rw[ad] at C;cases C
       |some oj=>exact(Abb.1 ad).1
      have J:=bp j bq;rw[C] at J;have U:d≠dj:=by
       rcases J with (J|J)|J
       ·exact absurd J X
       ·exact absurd (Aah J) e
       ·intro e';subst e';simp at J
      simp only[Act.put,Abw];rw[zY U];exact M
   by_cases bt:∃f,f∈F∧f∈Region.ready .any ops k
   ·obtain⟨f,a1,ba⟩:=bt;obtain⟨cc,bu,o,d,ps,ho,af,au,cu⟩:=hF f a1;obtain⟨fr,hK,ag⟩:=LR (a:=a) (n:=n) _ _ (cu (LB a) h g2) (ae f o ba ho ps au λp _ h=>bc f a1 _ h) ⟨g3.dfr,g3.siz,λi v hi=>by simp [lk] at hi⟩;obtain⟨v,hy,hr⟩:=hK a (ag.append (g3.append g3.full));refine wpAny_first ho (Region.noSelect_spec b6) (λc a w hq=>absurd hq (hQ c _ w)) y k a w (λj oj X U cd bv=>?_) ba hy ?_
    ·have J:=Aaf.1 bu j (Abe.2 (Abb.1 X).1);simp only[ho,X,Aay,beq_iff_eq,U,Ab0] at J;rcases J with J|J
     ·obtain⟨cv,ce,e,he,V,a2⟩:=Region.waitsFor_spec J;have:cv=oj:=zZ (ce.symm.trans X);subst this;exact absurd a2 (bv e he V)
     ·rcases J with J|J
      ·obtain⟨cw,cf,e,he,V,a2⟩:=Region.waitsFor_spec J;obtain⟨_,cx,cg,H⟩:=mem_ready.1 ba;have:cw=cx:=zZ (cf.symm.trans cg);subst this;have h5:=H e he V;rw[a2,getD_both cd] at h5;cases h5
      ·exact J
    ·rw[af];exact ax f o d cc.2 (λh=>(Aa0.1 h).elim cc.2 λh=>bc f a1 _ h) ba ho af v w h g1 (DT.refl h) hr (λhA=>absurd hA (b7 f a1).1) λsl a3=>absurd a3 ((b7 f a1).2 sl)
   have ch:∃k0,k0<ops.size∧k0∉q∧k.getD k0 true=false∧k0∉F:=by
    obtain⟨k1,c4,cy,cz⟩:∃k1,k1<ops.size∧k1∉q∧k.getD k1 true=false:=by
     apply Ac8;intro bv;refine aa λi Y A=>?_;cases K:k.getD i true with
     |true=>rfl
     |false=>exact absurd ⟨i,Y,A,K⟩ bv
    obtain⟨i0,C,M,q3⟩:=MF (p:=λi=>k.getD i true||q.contains i) k1 (by simp [cz,cy]);simp only[Aa2] at M;have aj:i0<ops.size:=by omega
    have bh:i0∉q:=λh=>by rw[Aag.2 h] at M;cases M.2
    refine⟨i0,aj,bh,M.1,λhf=>bt ⟨i0,hf,mem_ready.2 ⟨M.1,ops[i0],by simp [aj],λe he ci=>?_⟩⟩⟩;have h4:=Aaf.1 hb i0 (Abe.2 aj);have h5:ops[i0]? =some ops[i0]:=by simp [aj]
    rw[h5] at h4;simp only[Acx,Abu,Acy] at h4;have h6:=h4 e he;simp only[ci,Abo,Aci,Aam] at h6;have h7:=q3 e.on h6;have h9:=Aaf.1 cn i0 (Abe.2 aj);simp only[Aay,Aag,bh,Ab0,h5,Acx,Abu,Acy] at h9;have ap:=h9 e he;simp only[ci,Abo,Aci,Aau] at ap;rcases ap with ap|ap
    ·cases ap
    rw[ap,Bool.or_false] at h7;have h8:e.on<k.size:=by rw[I.size];omega
    simp only[Ab1,Acq h8,Abu] at h7 ⊢;exact h7
   have ⟨c7,bw,c5,cj,_⟩:=ch;obtain⟨i0,_,c0,_⟩:=M7 hb I.size bw cj;refine⟨λh0=>absurd (h0▸c0) (by simp),λi hi=>?_⟩;obtain⟨av,o,ho,aw⟩:=mem_ready.1 hi;have ay:i<ops.size:=(Abb.1 ho).1;by_cases W:i∈q∧∀k0,k0<ops.size→k0∉q→k0∉F++G→k.getD k0 false=true
   ·rcases bj with hG|⟨hF0,bj⟩
    ·obtain⟨k0,C,M,q3,q4⟩:=ch;have:=W.2 k0 C M (by rw[hG,Aa3];exact q4);rw[getD_both q3] at this;cases this
    ·cases ak:q with
     |nil=>rw[ak] at W;cases W.1
     |cons k1 bk=>
      have ao:i=k1:=by
       have hm:=W.1;rw[ak] at hm;rcases Aae.1 hm with e|hjr
       ·exact e
       ·rw[ak] at aq;obtain⟨p,hp,hw⟩:=Ml aq i hjr;obtain⟨o',an,e',c1,V,a2⟩:=Region.waitsFor_spec hw;have:o'=o:=zZ (an.symm.trans ho);subst this;have g3:=aw e' c1 V;rw[a2,getD_both (I.tail p (by rw[ak];exact hp))] at g3;cases g3
      subst ao;refine bj i bk ak y k a w hu I ai (λj C M q3=>?_) hi;by_cases bx:j∈F
      ·cases K:k.getD j false with
       |true=>rfl
       |false=>
        refine absurd ⟨j,bx,mem_ready.2 ⟨getD_in (by rw[I.size];exact C) K,ops[j],by simp [C],λe he V=>?_⟩⟩ bt;obtain⟨z1,z2,z3⟩:=hF0 j bx _ (by simp [C]) e he V;exact W.2 e.on z1 z2 z3
      ·exact W.2 j C M (λh=>(Aa0.1 h).elim bx q3)
   have A:i∉q:=λA=>by
    rcases b5 with hc|hc
    ·rw[hc] at A;cases A
    ·refine W ⟨A,λk0 C M q3=>?_⟩;cases K:k.getD k0 false with
     |true=>rfl
     |false=>exact absurd hi (Rw hc aq I _ k0 rfl C M (λh=>(Aa0.1 h).elim q3 λh=>by rw[hD k0 h] at K;cases K) (getD_in (by rw[I.size];exact C) K) i A)
   have ab:i∉q++D:=λh=>(Aa0.1 h).elim A λh=>by
    have:=hD i h;rw[getD_both av] at this;cases this
   have l:=Aaf.1 bb i (Abe.2 ay);cases hd:HA ops i with
   |none=>rw[hd] at l;simp only[Aag,ab,Aay,Ab0] at l;cases l
   |some d=>
   rw[hd] at l;simp only[Aaa,Aau,Aaf,Abe,Aay,Aag,ab,Ab0] at l;obtain⟨⟨a8,bo⟩,bp⟩:=l;have az:d+1≤n.1:=by simpa [Nat.blt] using a8
   have al:d<n.1:=az;have af:o.dst=some d:=by unfold HA at hd;rw[ho] at hd;exact hd
   obtain⟨ps,au,bl,bz⟩:=step i o d ab ho af;have a4:=ae i o hi ho ps au bl;obtain⟨fr,hK,ag⟩:=LR (a:=a) (n:=n) _ _ (bz (LB a) h g2) a4 ⟨g3.dfr,g3.siz,λi v hi=>by simp [lk] at hi⟩;have ac:Fr n a (fr++(m++LB a)):=ag.append (g3.append g3.full);have c2:∀i u,a.tmps[i]? =some u→lk (fr++(m++LB a)) i=some u:=by
    intro i u hu;have K:lk (LB a) i=some u:=by
     have:i<a.tmps.size:=(Abb.1 hu).1;rw[U1 this];simp [Ab1,hu]
    have c3:∃u',lk (fr++(m++LB a)) i=some u':=by
     rw[MN,MN,K];cases lk fr i with
     |some x=>exact⟨x,by simp⟩
     |none=>cases lk m i with
      |some x=>exact⟨x,by simp⟩
      |none=>exact⟨u,by simp⟩
    obtain⟨u',ck⟩:=c3;have:=ac.at_ i u' ck;rw[hu] at this;rw[ck,←zZ this]
   have next:=ax i o d A ab hi ho af
   have conv:∀a' w',KS B n d (RF R As Z i h fr) h (fr++(m++LB a)) a' w'→wpAny P .any ops Q y (k.setIfInBounds i true) a' w':=by
    rintro a' w' ⟨v,h',f1,f2,f3,f4⟩;have:=Fr.same al ac f1 λi u hi hu=>by
     have U:Nat.beq d i=false:=by
      cases V:Nat.beq d i with
      |false=>rfl
      |true=>exact absurd (Aah V).symm hi
     simp only[lk,U,zX];exact c2 i u hu
    subst this;refine next v w' h' f2 f3 f4.1 (λhA=>f4.2.1 (Aag.2 hA)) λsl a3=>?_
    obtain⟨r1,r2⟩:=f4.2.2 sl a3;rw[←r2];congr 1;refine Adp λs hs=>?_;obtain⟨u,hu⟩:=Option.isSome_iff_exists.1 (r1 s hs);rw[hu,ag.at_ s u hu]
   unfold wpOp;simp only[ho];cases hg:o.guard with
   |none=>
    rw[hg] at hK;rw[Aab (by simp [Region.wanted,hg])];exact(LG hg (hK a w ac g1)).imp (Oper.wp_mono conv) id
   |some gb=>
    obtain⟨g,b⟩:=gb;rw[hg] at hK;obtain⟨dg,C,hK⟩:=hK;rcases hK with ⟨k1,k2⟩|⟨v,k1,k2,k3⟩
    ·have hy:yielded ops a.tmps g=some b:=QZ ag C k1;rw[Aab (by simp [Region.wanted,hg,hy])];exact(Se (LG rfl (k2 a w ac g1))).imp (Oper.wp_mono conv) id
    ·have hy:yielded ops a.tmps g≠some b:=by rw[QZ ag C k1];exact k2
     rw[zY (by simp [Region.wanted,hg,hy]),af];exact next undef w h g1 (DT.refl h) k3 (λhA=>by obtain⟨b,e,_⟩:=b0 i hA _ _ k3;cases e) λsl a3=>by
      have:=cl _ a3;rw[ho] at this;simp [hg] at this
end
def WX (ops:Array Oper) (a F:List Nat):Bool:=a.all (λt=>Nat.blt t ops.size)&&decide a.Nodup&&(a.isEmpty||Rx ops a F)&&N5 ops a&&N4 ops a&&PI ops&&Region.noSelect ops
def P6 (P:Program) (ops:Array Oper) (a:List Nat) (n:FN) (m:SM) (h0:AS) (R:AR):List Nat→Prop
 |[]=>True
 |f::F=>((f<ops.size∧f∉a)∧Me ops f=true∧∃o d ps,ops[f]? =some o∧o.dst=some d∧TE ops o ps=true∧PU P ops n m h0 R f o ps)∧P6 P ops a n m h0 R F
def P6.at_ {P:Program}{ops:Array Oper}{b:List Nat}{n:FN}{m:SM}{h0:AS}{R:AR}:∀{F:List Nat},P6 P ops b n m h0 R F→∀f,f∈F→(f<ops.size∧f∉b)∧Me ops f=true∧∃o d ps,ops[f]? =some o∧o.dst=some d∧TE ops o ps=true∧PU P ops n m h0 R f o ps
 |[],_,f,a=>by cases a
 |g::F,⟨c,i⟩,f,a=>by
  rcases Aae.1 a with rfl|a
  ·exact c
  ·exact P6.at_ i f a
def P6.cons {P:Program}{ops:Array Oper}{b:List Nat}{n:FN}{m:SM}{h0:AS}{R:AR}{f d:Nat}{o:Oper}{F:List Nat}(ps:List (Nat×Nat)) (a:(Nat.blt f ops.size&& !b.contains f&&Me ops f)=true) (g:ops[f]? =some o) (hd:o.dst=some d) (c:TE ops o ps=true) (i:PU P ops n m h0 R f o ps) (t:P6 P ops b n m h0 R F):P6 P ops b n m h0 R (f::F):=by
 simp only[Aaa,Aau] at a;exact⟨⟨⟨(by simpa [Nat.blt] using a.1.1:f+1≤ops.size),λh=>by rw[Aag.2 h] at a;cases a.1.2⟩,a.2,o,d,ps,g,hd,c,i⟩,t⟩
def DQ (P:Program) (ops:Array Oper) (Q:Exit→Act→World→Prop) (B:World) (n:FN) (m:SM) (h0:AS) (R:AR) (a As:List Nat) (Z:ZB):Nat→List Oper→List (List (Nat×Nat))→Prop
 |i,o::l,ps::pss=>(i∈a∨match o.dst with|some d=>Xe P ops Q B n m h0 R As Z i o d ps|none=>False)∧DQ P ops Q B n m h0 R a As Z (i+1) l pss
 |_,_,_=>True
def TD (ops:Array Oper) (a:List Nat) (l:List Oper) (pss:List (List (Nat×Nat))):Bool:=Nat.beq l.length pss.length&&(l.zip pss).zipIdx.all λp=>a.contains p.2||TE ops p.1.1 p.1.2
def DQ.at_ {P:Program}{ops:Array Oper}{Q:Exit→Act→World→Prop}{B:World}{n:FN}{m:SM}{h0:AS}{R:AR}{j As:List Nat}{Z:ZB}:∀{l:List Oper}{pss:List (List (Nat×Nat))}{k i:Nat}{o:Oper}{d:Nat},DQ P ops Q B n m h0 R j As Z k l pss→l.length=pss.length→k+i∉j→l[i]? =some o→o.dst=some d→∃ps,pss[i]? =some ps∧Xe P ops Q B n m h0 R As Z (k+i) o d ps
 |[],_,_,_,_,_,_,_,_,h,_=>by simp at h
 |_::_,[],_,_,_,_,_,b,_,_,_=>by simp at b
 |p::l,ps::pss,k,0,o,d,c,b,g,a,hd=>by
  simp only[Acg,Abd] at a;subst a;simp only[DQ,hd] at c;exact⟨ps,rfl,c.1.resolve_left g⟩
 |p::l,ps::pss,k,i+1,o,d,c,b,g,a,hd=>by
  simp only[Acc] at a;obtain⟨q,s,t⟩:=DQ.at_ (l:=l) (pss:=pss) (k:=k+1) (i:=i) c.2 (by simpa using b) (by rw[show k+1+i=k+(i+1) by omega];exact g) a hd;rw[show k+(i+1)=k+1+i by omega];exact⟨q,by simpa using s,t⟩
def DQ.cons {P:Program}{ops:Array Oper}{Q:Exit→Act→World→Prop}{B:World}{n:FN}{m:SM}{h0:AS}{R:AR}{p As:List Nat}{Z:ZB}{i:Nat}{o:Oper}{l:List Oper}{ps:List (Nat×Nat)}{pss:List (List (Nat×Nat))}{d:Nat}(hd:o.dst=some d) (F:As.contains i=false) (A:(Z.zs.map (·.1)).contains i=false) (h:Ud P ops Q B n m h0 R i o d ps) (t:DQ P ops Q B n m h0 R p As Z (i+1) l pss):DQ P ops Q B n m h0 R p As Z i (o::l) (ps::pss):=by
 simp only[DQ,hd];refine⟨.inr λmt c G=>PA.imp (λfr k=>?_) _ _ (h mt c G),t⟩;have H:∀v j,R i v j→RF R As Z i c fr v j:=λv j r=>⟨r,λh=>(by rw[F] at h;cases h),λsl s=>by
  rw[Aag.2 (Abg.2 ⟨_,s,rfl⟩)] at A;cases A⟩
 have p:∀a w,KS B n d (R i) c (fr++(m++mt)) a w→KS B n d (RF R As Z i c fr) c (fr++(m++mt)) a w:=λa w ⟨v,j,u,y,I,J⟩=>⟨v,j,u,y,I,H v j J⟩
 have C:∀z,LF P ops (Exit.then (KS B n d (R i) c (fr++(m++mt))) Q) [z] B c n (fr++(m++mt))→LF P ops (Exit.then (KS B n d (RF R As Z i c fr) c (fr++(m++mt))) Q) [z] B c n (fr++(m++mt)):=λz k a w K M=>HJ (λe a w q=>by cases e<;>first|exact p a w q|exact q) _ a w (k a w K M);cases D:o.guard with
 |none=>rw[D] at k;exact C _ k
 |some U=>
  obtain⟨g,b⟩:=U;rw[D] at k;obtain⟨V,u,y⟩:=k;refine⟨V,u,y.imp (λ⟨W,X⟩=>⟨W,C _ X⟩) λx=>x⟩
def DQ.al {P:Program}{ops:Array Oper}{Q:Exit→Act→World→Prop}{B:World}{n:FN}{m:SM}{h0:AS}{R:AR}{g As:List Nat}{Z:ZB}{i:Nat}{l:List Oper}{pss:List (List (Nat×Nat))}{d T:Nat}{cs:List Value}{ty:TypeId}{pos:String}{af:Array Edge}(k:R i=Zs h0 T cs) (o:D1 P T=some cs) (hd:Nat.blt d n.1=true) (a:(Z.zs.map (·.1)).contains i=false) (t:DQ P ops Q B n m h0 R g As Z (i+1) l pss):DQ P ops Q B n m h0 R g As Z i (⟨some d,.alloc T,ty,pos,af,none⟩::l) ([]::pss):=by
 refine⟨.inr ?_,t⟩;intro mt h p;show LF P ops (Exit.then (KS B n d (RF R As Z i h []) h _) Q) _ B h n _
 refine gB (DT.refl h) o hd λv h' q r'=>BB q ?_;obtain⟨b,e,j,s,u⟩:=r';have w:R i v h':=by rw[k];exact⟨b,e,Abk p.siz j,s,u⟩
 exact⟨w,λ_=>⟨b,by rw[e];rfl,j⟩,λsl c=>by rw[Aag.2 (Abg.2 ⟨_,c,rfl⟩)] at a;cases a⟩
def DQ.z {P:Program}{ops:Array Oper}{Q:Exit→Act→World→Prop}{B:World}{n:FN}{m:SM}{h0:AS}{R:AR}{g As:List Nat}{Z:ZB}{i:Nat}{o:Oper}{l:List Oper}{ps:List (Nat×Nat)}{pss:List (List (Nat×Nat))}{d:Nat}(sl:List Nat) (hd:o.dst=some d) (j:As.contains i=false) (p:o.guard=none) (b:(Z.zs.all λz=> !(Nat.beq z.1 i)||decide (z.2=sl))=true)
  (h:∀mt h,DT h0 h→PA R h (λfr=>LF P ops (Exit.then (KS B n d (λv h'=>R i v h'∧(sl.all λs=>(lk fr s).isSome)=true∧Z.f i (sl.map (lk fr))=some v) h (fr++(m++mt))) Q) [o] B h n (fr++(m++mt))) ps []) (t:DQ P ops Q B n m h0 R g As Z (i+1) l pss):DQ P ops Q B n m h0 R g As Z i (o::l) (ps::pss):=by
 simp only[DQ,hd];refine⟨.inr λmt u x=>PA.imp (λfr k=>?_) _ _ (h mt u x),t⟩;rw[p];refine λa w y A=>HJ (λe a w q=>?_) _ a w (k a w y A);cases e<;>first|exact q|skip
 obtain⟨v,C,D,F,G,H,I,J⟩:=q;refine⟨v,C,D,F,G,H,λh=>(by rw[j] at h;cases h),λK c=>?_⟩;have:=Aaf.1 b _ c;simp only[Nat.beq_refl,Abo,Aci,Aam] at this;subst this;exact⟨λs M=>Aaf.1 I s M,J⟩
def DQ.nw {P:Program}{ops:Array Oper}{Q:Exit→Act→World→Prop}{B:World}{n:FN}{m:SM}{h0:AS}{R:AR}{g As:List Nat}{Z:ZB}{i:Nat}{o:Oper}{l:List Oper}{ps:List (Nat×Nat)}{pss:List (List (Nat×Nat))}{d:Nat}(hd:o.dst=some d) (j:o.guard=none) (b:(Z.zs.map (·.1)).contains i=false)
  (h:∀mt h,DT h0 h→PA R h (λfr=>LF P ops (Exit.then (KS B n d (λv h'=>R i v h'∧Wh h v) h (fr++(m++mt))) Q) [o] B h n (fr++(m++mt))) ps []) (t:DQ P ops Q B n m h0 R g As Z (i+1) l pss):DQ P ops Q B n m h0 R g As Z i (o::l) (ps::pss):=by
 simp only[DQ,hd];refine⟨.inr λmt p s=>PA.imp (λfr k=>?_) _ _ (h mt p s),t⟩;rw[j];refine λa w u x=>HJ (λe a w q=>?_) _ a w (k a w u x);cases e<;>first|exact q|skip
 obtain⟨v,y,z,A,C,D,F⟩:=q;exact⟨v,y,z,A,C,D,λ_=>F,λsl c=>by rw[Aag.2 (Abg.2 ⟨_,c,rfl⟩)] at b;cases b⟩
def DQ.skip {P:Program}{ops:Array Oper}{Q:Exit→Act→World→Prop}{B:World}{n:FN}{m:SM}{h0:AS}{R:AR}{a As:List Nat}{Z:ZB}{i:Nat}{o:Oper}{l:List Oper}{ps:List (Nat×Nat)}{pss:List (List (Nat×Nat))}(h:a.contains i=true) (t:DQ P ops Q B n m h0 R a As Z (i+1) l pss):DQ P ops Q B n m h0 R a As Z i (o::l) (ps::pss):=
 ⟨.inl (Aag.1 h),t⟩
def Wi (S:Nat→Prop) (h a:AS) (c:List Nat) (L:List HP):Prop:=(∀b,S b→b<h.size)∧DT h a∧(∀b,b∈c→h.size≤b∧b<a.size)∧Sp S L a (λb=>(b<h.size∧¬S b)∨b∈c)
def Wi.nil {S:Nat→Prop}{L:List HP}{h g:AS}(a:St S L h) (o:DT h g):Wi S h g [] L:=
 ⟨a.1,o,λb i=>(by cases i),Sp.ext a.2 (λ_ x=>x) (λc d=>o.same c (d.elim (a.1 c) (·.1))) λc d=> .inl d⟩
def Wi.cons {S:Nat→Prop}{L:List HP}{h d:AS}{g:List Nat}{b T:Nat}{cs:List Value}(k:Wi S h d g L) (i:h.size≤b) (j:b<d.size) (l:d[b]? =some (.cells cs.toArray T (0,0))) (m:b∉g):Wi S h d (b::g) (Bx b T cs::L):=by
 obtain⟨n,o,p,q⟩:=k;refine⟨n,o,λc a=>?_,λc=>c=b,⟨λ_=>Abx,l⟩,λc a=>by subst a;exact .inr (Aax ..),q.mono λc a=>⟨a.imp_right (Aa1 _),λe=>?_⟩⟩
 ·rcases Aae.1 a with rfl|a
  ·exact⟨i,j⟩
  ·exact p c a
 ·subst e;rcases a with a|a
  ·have:=a.1;omega
  ·exact m a
def Wi.st {S:Nat→Prop}{L:List HP}{h d:AS}{l:List Nat}(k:Wi S h d l L):St S L d:=by
 obtain⟨g,i,j,m⟩:=k;refine⟨λb n=>Aak (g b n) i.siz,m.mono λc a=>?_⟩;rcases a with a|a
 ·exact⟨Aak a.1 i.siz,a.2⟩
 ·exact⟨(j c a).2,λo=>by have:=g c o;have:=(j c a).1;omega⟩
def XC {b c:Nat}{l:List Nat}(h:b≠c) (t:b∉l):b∉c::l:=λe=>(Aae.1 e).elim h t
def lE.at_ {a:List Nat}{f:Nat→Option Value}{s s' b c:Nat}(k:lE a f) (h:(a.contains s&&a.contains s'&& !(Nat.beq s s'))=true) (e:f s=some (.pointer (some ⟨b,0,none⟩))) (d:f s'=some (.pointer (some ⟨c,0,none⟩))):b≠c:=by
 simp only[Aaa,Aau,Aag] at h;exact k s h.1.1 s' h.1.2 (λq=>by rw[q,Nat.beq_refl] at h;cases h.2) _ _ e d _ _ rfl rfl
def lE.of_ {a:List Nat}{f:Nat→Option Value}{s s' b c:Nat}{u d:Value}(k:lE a f) (h:(a.contains s&&a.contains s'&& !(Nat.beq s s'))=true) (e:f s=some u) (g:f s'=some d) (z:OX u=some b) (i:OX d=some c):b≠c:=by
 simp only[Aaa,Aau,Aag] at h;exact k s h.1.1 s' h.1.2 (λq=>by rw[q,Nat.beq_refl] at h;cases h.2) _ _ e g _ _ z i
def Tz (r:Value→AS→Prop):Prop:=∀v h,r v h→∃b,OX v=some b∧b<h.size
def sD {R:AR}:∀i,i∈([]:List Nat)→Tz (R i):=λi a=>by cases a
def We {R:AR}{a:Nat}{l:List Nat}(e:Tz (R a)) (t:∀i,i∈l→Tz (R i)):∀i,i∈a::l→Tz (R i):=λi b=>by
 rcases Aae.1 b with rfl|b
 ·exact e
 ·exact t i b
def jR {R:AR}{h:AS}{a T:Nat}{cs:List Value}{l:List Nat}(e:R a=Zs h T cs) (t:∀i,i∈l→Tz (R i)):∀i,i∈a::l→Tz (R i):=
 We (λv h' c=>by rw[e] at c;obtain⟨b,d,_,g,_⟩:=c;exact⟨b,by rw[d];rfl,g⟩) t
section
variable {P:Program}{ex:List (Nat×AP)}{RR N:AP}{cs:List Code}{B:World}{h:AS}{n:FN}{m m0:SM}{S:Nat→Prop}{L:List HP}
def jU {l:List Oper}{id:Nat}(b F As:List Nat) (Z:ZB) (hZ:gN l.toArray b Z.zs=true) (aa:(Z.zs.all λz=> !F.contains z.1&&((l.toArray[z.1]?).bind (·.guard)).isNone)=true) (R:AR) (pss:List (List (Nat×Nat))) (fs:List (Nat×Nat)) {ls:List Oper}(hm:P.follows .mixedOrders=true) (hc:WX l.toArray b F=true) (ms:List Nat) (ab:m.map (·.1)=ms) (M:Ts l.toArray b n ms=true)
  (C:TD l.toArray b l pss=true) (ac:(fs.all λp=>Nat.blt p.1 l.length&& !b.contains p.1&&(HA l.toArray p.1).any (Nat.beq p.2 ·))=true) (ad:(b.filterMap λt=>l[t]?)=ls) (Q:Ty m0 m)
  (D:∀i v I h2,DT h I→DT I h2→R i v I→R i v h2)
  (ae:(As.all λi=> !b.contains i&& !F.contains i)=true) (af:∀i,i∈As→Tz (R i))
  (hF:P6 P l.toArray b n m h R F)
  (step:DQ P l.toArray (Qx ex RR (W P ex RR cs N)) B n m h R b As Z 0 l pss)
  (ag:∀h',DT h h'→PA R h' (λfr=>lE (WU l.toArray As) (lk fr)→(∀z,z∈Z.zs→∀d v,HA l.toArray z.1=some d→lk fr d=some v→(z.2.all λs=>(lk fr s).isSome)=true→Z.f z.1 (z.2.map (lk fr))=some v)→LF P l.toArray (Qx ex RR (W P ex RR cs N)) ls B h' n (fr++m)) fs []):WF P ex RR (.region id l.toArray true::cs) N B h n m0:=by
 intro a w J hw;subst ab;simp only[WX,Aaa,Aay,Aam] at hc;obtain⟨⟨⟨⟨⟨⟨I,h2⟩,h3⟩,h4⟩,h5⟩,h6⟩,h7⟩:=hc;simp only[TD,Aaa] at C;have U:l.length=pss.length:=Aah C.1;have y:∀i,i∈As→i∉b∧i∉F:=λi g=>by
  have:=Aaf.1 ae i g;simp only[Aaa,Aau] at this;exact⟨λh=>(by rw[Aag.2 h] at this;cases this.1),λh=>(by rw[Aag.2 h] at this;cases this.2)⟩
 have A:∀z,z∈Z.zs→z.1∉F∧((l.toArray[z.1]?).bind (·.guard))=none:=λz G=>by
  have:=Aaf.1 aa z G;simp only[Aaa,Aau,Option.isNone_iff_eq_none] at this;exact⟨λh=>(by rw[Aag.2 h] at this;cases this.1),this.2⟩
 refine λrd ah=>Ov ah NI hm (TX (R:=R) (B:=B) (h0:=h) (n:=n) (m:=m) b [] As Z (by rw[Aa3];exact Y2 hZ) (λz G=>A z G |>.2) af (λt ht=>by have:=Aaf.1 I t ht;simp [Nat.blt] at this ⊢;omega) h2 h6 F [] (.inr rfl) (by rw[Aa3,Aa3];exact h3.imp (λe=>by cases b with|nil=>rfl|cons _ _=>simp at e) λx=>x) (JO h4) h5 h7 (λc a w hq=>hq) (λf J=>⟨λhA=>(y f hA).2 J,λsl ai=>(A _ ai).1 J⟩) (λf J=>hF.at_ f J) (by rw[Aa3];exact M) D (λi g=>by rw[Aa3];exact(y i g).1) (λi o d g ho hd=>?_) (λa w h' g1 g2 g3 g4 g5 g6=>?_) (.inl rfl) _ _ _ _ ?_ ⟨by simp,λj oj _ q=>(by rw[getD_replicate_false] at q;cases q),λt ht=>getD_in (by have:=Aaf.1 I t ht;simp [Nat.blt] at this ⊢;omega) (getD_replicate_false _ _)⟩ (λi g=>by cases g) ⟨⟨h,hw.drew,DT.refl h,J.sub Q,λi _ q=>(by rw[getD_replicate_false] at q;cases q)⟩,λi _ j _ _ q=>(by rw[getD_replicate_false] at q;cases q),λz _ q=>(by rw[getD_replicate_false] at q;cases q)⟩)
 ·rw[Aa3] at g;have H:l[i]? =some o:=by simpa using ho
  obtain⟨ps,V,K⟩:=DQ.at_ (k:=0) step U (by rw[Aa7];exact g) H hd;rw[Aa7] at K;refine⟨ps,?_,λ_ _=>Aaw,K⟩;have al:i<l.length:=(Aai.1 H).1;have G:((o,ps),i)∈(l.zip pss).zipIdx:=by
   rw[Ab3];exact⟨i,by rw[Adq,(Adr (z:=(o,ps))).2 ⟨H,V⟩];simp⟩
  have:=Aaf.1 C.2 _ G;simp only[Aay,Aag,g,Ab0] at this;exact this
 ·obtain⟨fr,k1,X⟩:=LR (a:=a) (n:=n) _ _ (ag h' g2) (λp hp=>by
   have e:=Aaf.1 ac p hp;simp only[Aaa,Aau] at e;have e1:p.1<l.toArray.size:=by have:=e.1.1;simp [Nat.blt] at this ⊢;omega
   obtain⟨d,v,V,K,q3⟩:=g4 p.1 e1 (λh=>by rw[Aa3] at h;rw[Aag.2 h] at e;cases e.1.2);have e2:=e.2;rw[V] at e2;have:p.2=d:=Aah (by simpa using e2);exact⟨v,by rw[this];exact K,q3⟩) ⟨g3.dfr,g3.siz,λi v g=>by simp [lk] at g⟩
  have Y:(b.filterMap λt=>l.toArray[t]?)=ls:=by rw[←ad];congr 1;funext t;simp
  rw[Y];exact k1 (λs hs s' aj ak u u' e e'=>g5 s hs s' aj ak u u' (X.at_ _ _ e) (X.at_ _ _ e')) (λz G d v V K q3=>by
   obtain⟨d',v',p1,p2,p3⟩:=g6 z G;rw[V] at p1;cases p1;rw[X.at_ d v K] at p2;cases p2;rw[←p3];congr 1;refine Adp λs hs=>?_;obtain⟨u,hu⟩:=Option.isSome_iff_exists.1 (Aaf.1 q3 s hs);rw[hu,X.at_ s u hu]) a w (X.append g3) g1
 ·unfold T5;rw[Ads];simp
end
end Go.Proofs.YtedgiljmffngoaaGreat
