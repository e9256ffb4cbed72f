import Derived.Test.YtabonambpbofgaaGreatQCore14
import Derived.Lib.SliceRun
namespace Go.Proofs.YtabonambpbofgaaGreat
set_option linter.all false
open Go.RowKit
variable {T b c d e j k0 off s s':Nat}{ag:Bool}{u:Value}{xs:Array Value}{h h0:AV}{S:Nat->Prop}{As F ks:List Nat}{ops:Array Oper}{K K':SM->Prop}{R:AR}{m:SM}{n:FN}{B:World}{af:Array Edge}{pss:List (List (Nat×Nat))}{l ls:List Oper}{P:Program}{g:List (Nat×Nat)}{o:Oper}{L:List HP}{f:Nat->Option Value}
section
variable{P:Program}{ops:Array Oper}{C:World->Prop}{Q:Act->Prop}{n:FN}{m m':SM}{rest:List Oper}
variable{d:Nat}{ty:TypeId}{pos:String}{af:Array Edge}{X Y Z:Operand}{t t1 t2:TypeId}{v:Value}{S:Nat->Prop}{L:List HP}{h:AV}
def J0{b:Addr}(g:B5 m X=some (.pointer (some b)))(hd:Nat.blt d n.1=true)(k:QF P ops C Q rest n ((d,.pointer (some b))::m)):QF P ops C Q (⟨some d,.nilCheck X,ty,pos,af,none⟩::rest) n m:=λa c=>
 GH c hd (λw _=>by simp[execOp,c.eval g]) k
def Nc{q:Value}(a:B5 m X=some q)(b:EP v k0 q)(hd:Nat.blt d n.1=true)(k:QF P ops C Q rest n ((d,q)::m)):QF P ops C Q (⟨some d,.nilCheck X,ty,pos,af,none⟩::rest) n m:=by
 obtain⟨g,i,c,j,rfl⟩:=b;exact J0 a hd k
def Agc(P:Program)(t j off a:Nat)(sz:Nat)(ag:Bool):Bool:=
 match P.underlying t with
 |some (.struct b)=>(match b[j]? with|some f=>Nat.beq f.offset off&&Nat.beq f.type a&&LD P a sz ag|none=>false)
 |_=>false
def dO{a sz:Nat}(h:LD P a sz ag=true)(w:World):(isAgg a).run P w= .ok ag w/\(sizeOf a).run P w= .ok sz w:=by
 obtain⟨i,b,c,d,g,j⟩:=R0 h;refine⟨?_,by simp[sizeOf,typeInfo,c,g]⟩;subst j;simp only[isAgg,Sem.run_bind,run_underlying d,Result.andThen_ok];cases b<;>rfl
def Afw{v sz:Nat}(p:B5 m X=some (.agg xs))(b:Agc P t j off v sz ag=true)(g:(if ag then some (.agg (xs.extract off (off+sz))) else xs[off]?)=some u)(hd:Nat.blt d n.1=true)(k:QF P ops C Q rest n ((d,u)::m)):QF P ops C Q (⟨some d,.field t X j,ty,pos,af,none⟩::rest) n m:=λa i=>by
 unfold Agc at b;split at b
 ·rename_i z c;split at b
  ·rename_i f q;simp only[Agu]at b;obtain⟨⟨l,o⟩,x⟩:=b;have l:=Ag1 l;have o:=Ag1 o;subst l;subst o;refine GH i hd (λw _=>?_) k;obtain⟨s,y⟩:=dO x w;cases ag
   ·simp only[Ail,Aim]at g;simp[execOp,i.eval p,Instr.field,run_underlying c,q,asAgg,part,s,g]
   ·simp only[if_true,Ahv]at g;simp[execOp,i.eval p,Instr.field,run_underlying c,q,asAgg,part,s,y,g]
  ·cases b
 ·cases b
def K9{b:Addr}{l:Nat}(j:B5 m X=some (.slice (some b) l c))(o:B5 m Y=some (.slice none 0 0))(hd:Nat.blt d n.1=true)(g:∃e,P.underlying t1=some (.slice e))(k:QF P ops C Q rest n ((d,.bool false)::m)):QF P ops C Q (⟨some d,.binOp .eql t1 X Y t2,ty,pos,af,none⟩::rest) n m:=λa i=>by
 obtain⟨e,g⟩:=g;refine GH i hd (λw _=>?_) k;have p:(eqGuard .eql t1 X Y (.slice (some b) l c) (.slice none 0 0)).run P w= .ok () w:=by unfold eqGuard;simp
 have q:=Lib.run_eql_slice_nil (P:=P) w t1 e (some b) l c 0 0 g;simp[execOp,i.eval j,i.eval o,p,q]
def J2(g:B5 m X=some (.slice none 0 0))(i:B5 m Y=some (.slice none 0 0))(hd:Nat.blt d n.1=true)(b:∃e,P.underlying t1=some (.slice e))(k:QF P ops C Q rest n ((d,.bool true)::m)):QF P ops C Q (⟨some d,.binOp .eql t1 X Y t2,ty,pos,af,none⟩::rest) n m:=λa c=>by
 obtain⟨e,b⟩:=b;refine GH c hd (λw _=>?_) k;have j:(eqGuard .eql t1 X Y (.slice none 0 0) (.slice none 0 0)).run P w= .ok () w:=by unfold eqGuard;simp
 have l:=Lib.run_eql_slice_nil (P:=P) w t1 e none 0 0 0 0 b;simp[execOp,c.eval g,c.eval i,j,l]
end
def Sl.cases{α}{r:A9 α}{v:Value}{l:List α}(k:Sl S h r v l):(v= .slice none 0 0/\l=[])\/∃(a:Addr)(cap:Nat),v= .slice (some a) l.length cap/\Sl S h r (.slice (some a) l.length cap) l:=by
 rcases k with k|⟨a,cap,h1,h2⟩
 ·exact .inl k
 ·exact .inr ⟨a,cap,h1,.inr ⟨a,cap,rfl,h2⟩⟩
section
variable{P:Program}{ops:Array Oper}{Q:Exit->Act->World->Prop}{n:FN}{m:SM}{rest:List Oper}
variable{d:Nat}{ty:TypeId}{pos:String}{af:Array Edge}{X Y:Operand}{B w:World}{h:AV}{S:Nat->Prop}{L L2:List HP}{v:Value}
def Jl{α}{r:A9 α}{sz g:Nat}{z:List Value}(p:OI P T=some (e,sz,g,z))(q:r.sz=sz)(hd:Nat.blt d n.1=true)(s:St S L h)
  (k:∀v h',St S (OS r e v []::L) h'->CO S h S h'->LF P ops Q rest B h' n ((d,v)::m)):LF P ops Q (⟨some d,.buildSlice T 0 #[],ty,pos,af,none⟩::rest) B h n m:=by
 intro a w t o;refine wpList_plain rfl λK u=>?_;unfold Oper.wp;obtain⟨i,F,x,y,G,H,I,J,M,U⟩:=NP p;have c:(execOp a.eval ⟨some d,.buildSlice T 0 #[],ty,pos,af,none⟩).run P w= .ok (.value (.slice (some ⟨w.heap.size,0,none⟩) 0 0)) (w.alloc (.cells #[] e)):=by
  simp[execOp,Instr.buildSlice,run_underlying x,sizeOf,typeInfo,y,Instr.fill,newRow];have A:Array.range 0= #[]:=by simp
  rw[A];simp
 rw[c];have j:=o.heap;obtain⟨C,D⟩:=s.add (h':=h.push (.cells #[] e)) (H':=OS r e (.slice (some ⟨h.size,0,none⟩) 0 0) []) (by simp) (λb l=>I5 _ _ _ l) ⟨λb=>b=h.size,.inr ⟨h.size,0,#[],rfl,λ_=>Iff.rfl,NH _ _,Ag5 _,by unfold maxLen;omega,by simp,by simp[M6]⟩,λb l=>by subst l;simp⟩;exact u _ _ (k _ _ (by rw[j];exact C) D _ _ (t.put hd _) (o.alloc _))
end
def QC(ops:Array Oper):List Nat->Prop
 |s::t::r=>Region.waitsFor .any ops t s=true/\QC ops (t::r)
 |_=>True
def SV(ops:Array Oper):List Nat->Bool
 |s::t::r=>Region.waitsFor .any ops t s&&SV ops (t::r)
 |_=>true
def Nr{ops:Array Oper}:∀{ks:List Nat},SV ops ks=true->QC ops ks
 |[],_=>trivial
 |[_],_=>trivial
 |s::t::r,h=>by
  simp only[SV,Agu]at h;exact⟨h.1,Nr h.2⟩
def PI{ops:Array Oper}:∀{r:List Nat}{s:Nat},QC ops (s::r)->∀j,j∈r->∃p,p∈s::r/\Region.waitsFor .any ops j p=true
 |[],_,_,j,a=>by cases a
 |t::r,s,⟨b,c⟩,j,a=>by
  rcases Agv.1 a with rfl|a
  ·exact⟨s,by simp,b⟩
  ·obtain⟨p,d,g⟩:=PI c j a;exact⟨p,Aht _ d,g⟩
def UT(ops:Array Oper)(ks F:List Nat):Bool:=
 (List.range ops.size).all λi=>ks.contains i||(F.contains i||(List.range ops.size).any λj=>decide (i<j)&&((!ks.contains j&& !F.contains j)||ks.head? ==some j)&&Region.waitsFor .any ops j i)
def Qq(ops:Array Oper)(ks:List Nat):Bool:=
 (List.range ops.size).all λi=>ks.contains i||((ops[i]?).map λo=>o.after.all λe=> !Region.binds .any e|| !ks.contains e.on).getD true
def Wj(ops:Array Oper)(ks:List Nat)(n:FN)(m:List Nat):Bool:=
 (List.range ops.size).all λi=>ks.contains i||match Io ops i with
  |some d=>Nat.blt d n.1&& !(m.contains d)&&(List.range ops.size).all λj=>ks.contains j||Nat.beq i j|| !((Io ops j).any (Nat.beq d ·))
  |none=>false
structure Ty(ops:Array Oper)(ks:List Nat)(listed:Array Bool):Prop where
 size:listed.size=ops.size
 closed:∀j oj,ops[j]? =some oj->listed.getD j false=true->∀e∈oj.after,Region.binds .any e=true->listed.getD e.on false=true
 tail:∀t,t∈ks->listed.getD t true=false
def Ty.set{i:Nat}{a:Array Bool}(b:Ty ops ks a)(s:i∈Region.ready .any ops a)(g:i∉ks):Ty ops ks (a.setIfInBounds i true):=by
 obtain⟨_,oi,k,c⟩:=mem_ready.1 s;refine⟨by simp[b.size],λj l m n e o p=>?_,λt q=>by rw[getD_set_ne true (λe:i=t=>g (by rw[e];exact q))];exact b.tail t q⟩;by_cases d:i=j
 ·subst d;have:l=oi:=Ags (m.symm.trans k);subst this;exact getD_set_true (c e o p)
 ·rw[getD_set_ne false d]at n;exact getD_set_true (b.closed j l m n e o p)
def IM{P:Program}{ops:Array Oper}{Q Q':Exit->Act->World->Prop}(g:∀e a w,Q e a w->Q' e a w):∀(l:List Oper)(a:Act)(w:World),wpList P ops Q l a w->wpList P ops Q' l a w
 |[],a,w,h=>by unfold wpList at h ⊢;exact g _ _ _ h
 |o::l,a,w,h=>by
  unfold wpList at h ⊢;split
  ·rename_i i;rw[Agp i]at h;rcases h with b|⟨b,j,k,h2⟩
   ·refine .inl ?_;unfold Oper.wp at b ⊢;generalize (execOp a.eval o).run P w=r at b
    cases r with
    |ok p w'=>
     cases p<;>simp only[Oper.upon]at b ⊢
     case value v=>exact IM g l _ _ b
     case skip=>exact IM g l _ _ b
     case defer d=>exact IM g l _ _ b
     case enter f args=>
      refine b.mono λe m n=>?_;cases e with
      |returned v=>exact IM g l _ _ n
      |panicked c=>exact g _ _ _ n
      |outgrown=>obtain⟨j,k,h0⟩:=n;exact⟨j,k,g _ _ _ h0⟩
     case row r args=>obtain b:=b;exact Rows.mono b λv m q=>IM g l _ _ q
    |halt x w'=>cases x<;>simp only[Oper.upon]at b ⊢ <;>first|exact g _ _ _ b|exact b
   ·exact .inr ⟨b,j,k,g _ _ _ h2⟩
  ·rename_i i;rw[Agn i]at h;exact IM g l _ _ h
def cF{R:AR}{h:AV}{K K':SM->Prop}(b:∀fr,K fr->K' fr):∀(a:List (Nat×Nat))(fr:SM),PA R h K a fr->PA R h K' a fr
 |[],fr,k=>b fr k
 |(_,d)::a,fr,k=>λu c=>cF b a ((d,u)::fr) (k u c)
def PA.imp(b:∀fr,K fr->K' fr)(a:List (Nat×Nat))(fr:SM)(k:PA R h K a fr):PA R h K' a fr:=cF b a fr k
def Pf:Value->Option Nat
 | .pointer (some ⟨b,0,none⟩)=>some b
 | .slice (some ⟨b,0,none⟩) _ _=>some b
 |_=>none
def Yn(h:AV)(v:Value):Prop:=∃b,Pf v=some b/\h.size<=b
def sE(a:List Nat)(f:Nat->Option Value):Prop:=∀s,s∈a->∀s',s'∈a->s≠s'->∀u c,f s=some u->f s'=some c->∀b d,Pf u=some b->Pf c=some d->b≠d
def YT(ops:Array Oper)(As:List Nat):List Nat:=As.filterMap λi=>Io ops i
structure ZB where
 zs:List (Nat×List Nat)
 f:Nat->List (Option Value)->Option Value
def ZB.none:ZB:=⟨[],λ_ _=>Option.none⟩
structure cI(B:World)(h0:AV)(n:FN)(m:SM)(ops:Array Oper)(ks As:List Nat)(Z:ZB)(R:AR)(listed:Array Bool)(a:Act)(w:World):Prop where
 ex:∃h,Wd B h w/\Ef h0 h/\Fr n a m/\∀i,i∉ks->listed.getD i false=true->∃d v,Io ops i=some d/\a.tmps[d]? =some v/\R i v h
 dis:∀i,i∈As->∀j,j∈As->i≠j->listed.getD i false=true->listed.getD j false=true->∀d d' u u',Io ops i=some d->Io ops j=some d'->a.tmps[d]? =some u->a.tmps[d']? =some u'->∀b b',Pf u=some b->Pf u'=some b'->b≠b'
 pz:∀z,z∈Z.zs->listed.getD z.1 false=true->∃d v,Io ops z.1=some d/\a.tmps[d]? =some v/\Z.f z.1 (z.2.map λs=>a.tmps[s]?)=some v
def Abh(ops:Array Oper)(ks:List Nat)(Z:ZB):Prop:=∀z,z∈Z.zs->z.1<ops.size/\z.1∉ks/\∀s,s∈z.2->∃o j,ops[z.1]? =some o/\j∈N1 o/\Io ops j=some s/\j∉ks
def Abh.none:Abh ops ks ZB.none:=λ_ h=>by cases h
def nV(ops:Array Oper)(ks:List Nat)(a:List (Nat×List Nat)):Bool:=a.all λz=> !ks.contains z.1&&match ops[z.1]? with
 |some o=>z.2.all λs=>(N1 o).any λj=> !ks.contains j&&match Io ops j with|some d=>Nat.beq d s|none=>false
 |none=>false
def cJ{Z:ZB}(h:nV ops ks Z.zs=true):Abh ops ks Z:=λz l=>by
 have a:=Agz.1 h z l;simp only[Agu,Ahn]at a;have c:=a.2;split at c
 ·rename_i o k;refine⟨(Ahu.1 k).1,λg=>(by rw[Ag2.2 g]at a;cases a.1),λs m=>?_⟩;obtain⟨j,n,b⟩:=List.any_eq_true.1 (Agz.1 c s m);simp only[Agu,Ahn]at b;refine⟨o,j,k,n,?_,λg=>by rw[Ag2.2 g]at b;cases b.1⟩;have i:=b.2;split at i
  ·rename_i d hd;rw[hd,Ag1 i]
  ·cases i
 ·cases c
def RF(R:AR)(As:List Nat)(Z:ZB)(i:Nat)(h:AV)(fr:SM)(v:Value)(h':AV):Prop:=R i v h'/\(As.contains i=true->Yn h v)/\∀sl,(i,sl)∈Z.zs->(∀s,s∈sl->(lk fr s).isSome=true)/\Z.f i (sl.map (lk fr))=some v
def Zh(P:Program)(ops:Array Oper)(Q:Exit->Act->World->Prop)(B:World)(n:FN)(m:SM)(h0:AV)(R:AR)(As:List Nat)(Z:ZB)(i:Nat)(o:Oper)(d:Nat)(c:List (Nat×Nat)):Prop:=
 ∀mt h,Ef h0 h->PA R h (λfr=>match o.guard with
  |none=>LF P ops (Exit.then (KS B n d (RF R As Z i h fr) h (fr++(m++mt))) Q) [o] B h n (fr++(m++mt))
  |some (g,b)=>∃a,Io ops g=some a/\((lk fr a=some (.bool b)/\LF P ops (Exit.then (KS B n d (RF R As Z i h fr) h (fr++(m++mt))) Q) [{ o with guard:=none}] B h n (fr++(m++mt)))\/∃v,lk fr a=some v/\yb v≠some b/\R i undef h)) c []
section
variable{P:Program}{ops:Array Oper}{Q:Exit->Act->World->Prop}{a:Act}{w:World}
def NE(M:SY ops=true):∀(ks:List Nat)(c:Nat)(b:Array Bool)(a:Act)(w:World),Yu b=c->b.size=ops.size->(∀i,i<ops.size->i∉ks->b.getD i true=true)->(∀t,t∈ks->t<ops.size/\b.getD t true=false)->QC ops ks->ks.Nodup->
  wpList P ops Q (ks.filterMap λt=>ops[t]?) a w->wpAny P .any ops Q c b a w
 |[],c,b,a,w,Y,z,v,y,_,_,g=>by
  have Z:Region.ready .any ops b=[]:=cX λi A=>v i A (by simp);exact wpAny_done Z g c
 |t::r,c,b,a,w,Y,z,v,y,U,B,g=>by
  obtain⟨k,m⟩:=y t (by simp);have aa:0<Yu b:=by have:=Qi m;omega
  obtain⟨c,rfl⟩:∃f,c=f+1:=⟨c-1,Ω⟩
  have only:∀j,j∈Region.ready .any ops b->j=t:=λj C=>by
   obtain⟨V,oj,d,n⟩:=mem_ready.1 C;have D:=(Ahu.1 d).1;by_cases o:j∈t::r
   ·rcases Agv.1 o with rfl|hjr
    ·rfl
    ·obtain⟨p,hp,q⟩:=PI U j hjr;obtain⟨o',F,e',G,H,I⟩:=Region.waitsFor_spec q;have:o'=oj:=Ags (F.symm.trans d);subst this;have W:=n e' G H;rw[I,getD_both (y p hp).2]at W;cases W
   ·rw[v j D o]at V;cases V
  obtain⟨i,_,q2,_⟩:=P3 M z k m;refine⟨λh0=>absurd (h0▸q2) (by simp),λj C=>?_⟩;have J:=only j C;subst J;have d:ops[j]? =some ops[j]:=by simp[k]
  rw[List.filterMap_cons,d]at g;simp only at g;have l:=Ajh.1 B;have X:=λa w=>NE M r c (b.setIfInBounds j true) a w (by have:=Qi m;omega) (by simpa using z)
   (λi A K=>by
    by_cases e:i=j
    ·subst e;have:i<b.size:=Ω
     simp[Aik,Aii,this]
    ·rw[getD_set_ne true (λx=>e x.symm)];exact v i A (by simp[e,K]))
   (λt' s=>by
    obtain⟨z1,z2⟩:=y t' (by simp[s]);exact⟨z1,by rw[getD_set_ne true (λx:j=t'=>l.1 (by rw[x];exact s))];exact z2⟩)
   (by cases r with
    |nil=>trivial
    |cons u r=>exact U.2) l.2
  unfold wpOp;simp only[d];unfold wpList at g;split
  ·rename_i q;rw[Agp q]at g;exact g.imp (Oper.wp_mono X) id
  ·rename_i q;rw[Agn q]at g;exact X _ _ g
def TS{a:Array Bool}(hs:UT ops ks F=true)(K:QC ops ks)(c:Ty ops ks a):
  ∀(d i:Nat),ops.size-i=d->i<ops.size->i∉ks->i∉F->a.getD i true=false->∀t,t∈ks->t∉Region.ready .any ops a:=by
 intro d
 induction d using Nat.strongRecOn with
 |_ d ih=>
  intro i hd hi A B k t l M;obtain⟨_,Q,m,b⟩:=mem_ready.1 M;have U:=Agz.1 hs i (Ahy.2 hi);simp only[Ahg,Ag2,A,B,Aid]at U;obtain⟨j,hj,n⟩:=List.any_eq_true.1 U;simp only[Agu,Ahb,Ahg,Ahn]at n;obtain⟨⟨aa,C⟩,hw⟩:=n;obtain⟨V,o,e,W,X,q⟩:=Region.waitsFor_spec hw;have D:j<ops.size:=Ahy.1 hj;rcases C with⟨u,v⟩|hjh
  ·cases Y:a.getD j false with
   |true=>
    have w:=c.closed j V o Y e W X;rw[q,getD_both k]at w;cases w
   |false=>
    have x:j<a.size:=by rw[c.size];omega
    exact ih (ops.size-j) Ω j rfl D (λh=>by rw[Ag2.2 h]at u;cases u) (λh=>by rw[Ag2.2 h]at v;cases v) (getD_in x Y) t l M
  ·cases g:ks with
   |nil=>rw[g]at l;cases l
   |cons s r=>
    rw[g]at hjh l K;have y:s=j:=by simpa using hjh
    subst y;rcases Agv.1 l with rfl|htr
    ·have:V=Q:=Ags (o.symm.trans m);subst this;have w:=b e W X;rw[q,getD_both k]at w;cases w
    ·obtain⟨p,hp,G⟩:=PI K t htr;obtain⟨o',H,e',I,J,z⟩:=Region.waitsFor_spec G;have:o'=Q:=Ags (H.symm.trans m);subst this;have Z:=b e' I J;rw[z,getD_both (c.tail p (by rw[g];exact hp))]at Z;cases Z
def Ye(ks D As:List Nat)(Z:ZB)(hZ:Abh ops (ks++D) Z)(ck:∀z,z∈Z.zs->((ops[z.1]?).bind (·.guard))=none)(bz:∀i,i∈As->∀v h,R i v h->∃b,Pf v=some b/\b<h.size)(b0:∀t,t∈ks->t<ops.size)(b3:ks.Nodup)(hb:SY ops=true)
  (F G:List Nat) (cl:F=[]\/D=[]) (b4:ks=[]\/UT ops ks (F++G++D)=true) (ap:QC ops ks) (cm:Qq ops ks=true) (b5:Region.noSelect ops=true) (hQ:∀c a w,¬Q (.panic c) a w)
  (b6:∀f,f∈F->f∉As/\∀sl,(f,sl)∉Z.zs) (hF:∀f,f∈F->(f<ops.size/\f∉ks)/\N5 ops f=true/\∃o d ps,ops[f]? =some o/\o.dst=some d/\Uf ops o ps=true/\Qe P ops n m h0 R f o ps)
  (ba:Wj ops (ks++D) n (m.map (·.1))=true)
  (bh:∀i v h h',Ef h0 h->Ef h h'->R i v h->R i v h')
  (al:∀i,i∈As->i∉ks++D) (step:∀i o d,i∉ks++D->ops[i]? =some o->o.dst=some d->∃ps,Uf ops o ps=true/\(∀p∈ps,p.1∉D)/\Zh P ops Q B n m h0 R As Z i o d ps)
  (b7:∀a w h,Wd B h w->Ef h0 h->Fr n a m->(∀i,i<ops.size->i∉ks++D->∃d v,Io ops i=some d/\a.tmps[d]? =some v/\R i v h)->sE (YT ops As) (λs=>a.tmps[s]?)->(∀z,z∈Z.zs->∃d v,Io ops z.1=some d/\a.tmps[d]? =some v/\Z.f z.1 (z.2.map λs=>a.tmps[s]?)=some v)->wpList P ops Q (ks.filterMap λt=>ops[t]?) a w)
  (bi:G=[]\/((∀f,f∈F->∀o,ops[f]? =some o->∀e,e∈o.after->Region.binds .any e=true->e.on<ops.size/\e.on∉ks/\e.on∉F++G)/\∀k1 bj,ks=k1::bj->∀(q:Nat)(k:Array Bool)(a:Act)(w:World),Yu k=q+1->Ty ops ks k->cI B h0 n m ops (ks++D) As Z R k a w->(∀i,i<ops.size->i∉ks->i∉G->k.getD i false=true)->k1∈Region.ready .any ops k->wpOp P ops Q k1 (wpAny P .any ops Q q (k.setIfInBounds k1 true)) a w)):
  ∀(q:Nat)(k:Array Bool)(a:Act)(w:World),Yu k=q->Ty ops ks k->(∀i,i∈D->k.getD i false=true)->cI B h0 n m ops (ks++D) As Z R k a w->wpAny P .any ops Q q k a w:=by
 intro q;have bb:∀f,f∈F->∀x,x∈D->False:=λf hf x hx=>by
  rcases cl with h|h
  ·rw[h]at hf;cases hf
  ·rw[h]at hx;cases hx
 have b8:∀(k:Array Bool)(a:Act)(w:World),cI B h0 n m ops (ks++D) As Z R k a w->(∀i,i<ops.size->i∉ks->k.getD i false=true)->∀z,z∈Z.zs->∃d v,Io ops z.1=some d/\a.tmps[d]? =some v/\Z.f z.1 (z.2.map λs=>a.tmps[s]?)=some v:=by
  intro k a w ai J z hz;exact ai.pz z hz (J z.1 (hZ z hz).1 λh=>(hZ z hz).2.1 (Ait _ h))
 have aq:∀(k:Array Bool)(a:Act)(w:World),cI B h0 n m ops (ks++D) As Z R k a w->(∀i,i<ops.size->i∉ks->k.getD i false=true)->sE (YT ops As) (λs=>a.tmps[s]?):=by
  intro k a w ai J s hs s' cn M u u' e e';obtain⟨i,hi,hd⟩:=Ajx.1 hs;obtain⟨j,W,a4⟩:=Ajx.1 cn;have lt:∀i d,Io ops i=some d->i<ops.size:=λi d A=>by
   unfold Io at A;cases ac:ops[i]? with
   |none=>rw[ac]at A;cases A
   |some oj=>exact(Ahu.1 ac).1
  exact ai.dis i hi j W (λe=>M (by subst e;rw[hd]at a4;exact Ags a4)) (J i (lt _ _ hd) (λh=>al i hi (Ait _ h))) (J j (lt _ _ a4) (λh=>al j W (Ait _ h))) _ _ _ _ hd a4 e e'
 induction q with
 |zero=>
  intro k a w hu H hD ai;have Y:∀i,k.getD i true=true:=λi=>Xg hu;obtain⟨h,g1,g2,g3,g4⟩:=ai.ex;have C:∀i,i<ops.size->i∉ks->k.getD i false=true:=λi X y=>by
   have h2:=Y i;have:i<k.size:=by rw[H.size];exact X
   simpa[this]using h2
  have hf:=b7 a w h g1 g2 g3 (λi X y=>g4 i y (C i X λh=>y (Ait _ h))) (aq _ _ _ ai C) (b8 _ _ _ ai C);exact NE hb ks 0 k a w hu H.size (λi _ _=>Y i) (λt ht=>⟨b0 t ht,H.tail t ht⟩) ap b3 hf
 |succ q ih=>
  intro k a w hu H hD ai;obtain⟨h,g1,g2,g3,g4⟩:=ai.ex;by_cases Y:∀i,i<ops.size->i∉ks->k.getD i true=true
  ·have C:∀i,i<ops.size->i∉ks->k.getD i false=true:=λi X y=>by
    have h2:=Y i X y;have:i<k.size:=by rw[H.size];exact X
    simpa[this]using h2
   have hf:=b7 a w h g1 g2 g3 (λi X y=>g4 i y (C i X λh=>y (Ait _ h))) (aq _ _ _ ai C) (b8 _ _ _ ai C);exact NE hb ks (q+1) k a w hu H.size Y (λt ht=>⟨b0 t ht,H.tail t ht⟩) ap b3 hf
  ·have b9:∀j,k.getD j false=true->j∉ks:=λj W co=>by
    have:=getD_both (H.tail j co);rw[W]at this;cases this
   have ad:∀i o,i∈Region.ready .any ops k->ops[i]? =some o->∀ps,Uf ops o ps=true->(∀p∈ps,p.1∉D)->∀p∈ps,∃v,a.tmps[p.2]? =some v/\R p.1 v h:=by
    intro i o hi ho ps ar bk p hp;obtain⟨au,o',am,av⟩:=mem_ready.1 hi;have:o'=o:=Ags (am.symm.trans ho);subst this;have I:=Agz.1 ar p hp;simp only[Agu]at I;have W:p.1∈N1 o':=by simpa using I.1
    obtain⟨e,he,bl⟩:=Ahr.1 W;obtain⟨bm,a5⟩:=Ah7.1 he;have a6:e∈o'.after:=by simpa using bm
    have h3:=av e a6 a5;rw[bl]at h3;obtain⟨d',v,A,K,q3⟩:=g4 p.1 (λh=>(Ahi.1 h).elim (b9 _ h3) (bk p hp)) h3;have h2:=I.2;rw[A]at h2;have:p.2=d':=Ag1 (by simpa using h2);exact⟨v,by rw[this];exact K,q3⟩
   have aw:∀i o d,i∉ks->i∉ks++D->i∈Region.ready .any ops k->ops[i]? =some o->o.dst=some d->∀v w' h',Wd B h' w'->Ef h h'->R i v h'->(i∈As->Yn h v)->(∀sl,(i,sl)∈Z.zs->Z.f i (sl.map λs=>a.tmps[s]?)=some v)->wpAny P .any ops Q q (k.setIfInBounds i true) (a.put (some d) v) w':=by
    intro i o d y aa hi ho ae v w' h' cp am hr af cq;obtain⟨au,oo,cr,_⟩:=mem_ready.1 hi;have ax:i<ops.size:=(Ahu.1 cr).1;have hd:Io ops i=some d:=by unfold Io;rw[ho];exact ae
    have l:=Agz.1 ba i (Ahy.2 ax);rw[hd]at l;simp only[Agu,Ahn,Agz,Ahy,Ahg,Ag2,aa,Aid]at l;obtain⟨⟨a7,bn⟩,bo⟩:=l;have ay:d+1<=n.1:=by simpa[Nat.blt]using a7
    have ak:d<n.1:=ay;have az:(a.put (some d) v).tmps[d]? =some v:=by
     simp only[Act.put,Aii];have:=g3.siz;simp[this,ak]
    have ag:∀j dj,Io ops j=some dj->j≠i->j∉ks++D->(a.put (some d) v).tmps[dj]? =a.tmps[dj]? :=by
     intro j dj A e W;have bp:j<ops.size:=by
      unfold Io at A;cases ac:ops[j]? with
      |none=>rw[ac]at A;cases A
      |some oj=>exact(Ahu.1 ac).1
     have I:=bo j bp;rw[A]at I;have M:d≠dj:=by
      rcases I with(I|I)|I
      ·exact absurd I W
      ·exact absurd (Ag1 I).symm e
      ·intro e';subst e';simp at I
     simp only[Act.put,Aii];rw[Agn M]
    have bc:∀j,j∈As->j≠i->(k.setIfInBounds i true).getD j false=true->i∈As->∀dj u,Io ops j=some dj->(a.put (some d) v).tmps[dj]? =some u->∀b b',Pf v=some b->Pf u=some b'->b≠b':=by
     intro j W e J cs dj u A K b1 b2 z1 z2;rw[getD_set_ne false (λx=>e x.symm)]at J;rw[ag j dj A e (al j W)]at K;obtain⟨c5,vj,p1,p2,p3⟩:=g4 j (al j W) J;rw[A]at p1;cases p1;rw[K]at p2;cases p2;obtain⟨b,e1,e2⟩:=bz j W _ _ p3;obtain⟨b',e3,e4⟩:=af cs;rw[z1]at e3;rw[z2]at e1;cases e3;cases e1;omega
    refine ih _ _ _ (by have:=Qi au;omega) (H.set hi y) (λj W=>getD_set_true (hD j W)) ⟨⟨h',cp,g2.trans am,?_,λj W J=>?_⟩,λi1 an j1 a8 be bq br d1 d2 u1 u2 A K q3 q4=>?_,λz hz J=>?_⟩
    rotate_left 3
    ·have bf:∀(lz:(k.getD z.1 false=true)\/z.1=i)(s:Nat),s∈z.2->(a.put (some d) v).tmps[s]? =a.tmps[s]? :=by
      intro lz s hs;obtain⟨oz,j,p1,p2,p3,p4⟩:=(hZ z hz).2.2 s hs;refine ag j s p3 (λe=>?_) p4;subst e;obtain⟨ed,he,bl⟩:=Ahr.1 p2;obtain⟨bm,a5⟩:=Ah7.1 he;have a6:ed∈oz.after:=by simpa using bm
      rcases lz with lz|lz
      ·have h3:=H.closed z.1 oz p1 lz ed a6 a5;rw[bl,getD_both au]at h3;cases h3
      ·have h4:=Agz.1 hb z.1 (Ahy.2 (hZ z hz).1);rw[p1]at h4;simp only[Aix,Aic,Ajj]at h4;have h6:=h4 ed a6;simp only[a5,Ahm,Ajc,Ahb]at h6;omega
     by_cases e:z.1=i
     ·refine⟨d,v,by rw[e];exact hd,az,?_⟩;rw[Ai3 (bf (.inr e)),e];exact cq z.2 (by rw[<-e];exact hz)
     ·rw[getD_set_ne false (λx=>e x.symm)]at J;obtain⟨dz,vz,p1,p2,p3⟩:=ai.pz z hz J;refine⟨dz,vz,p1,by rw[ag z.1 dz p1 e (hZ z hz).2.1];exact p2,?_⟩;rw[Ai3 (bf (.inl J))];exact p3
    rotate_left 2
    ·by_cases e:i1=i
     ·subst e;rw[hd]at A;cases A;rw[az]at q3;cases q3;exact bc j1 a8 (λe=>be e.symm) br an d2 u2 K q4
     ·by_cases e':j1=i
      ·subst e';rw[hd]at K;cases K;rw[az]at q4;cases q4;exact λb b' z1 z2 e2=>bc i1 an e bq a8 d1 u1 A q3 b' b z2 z1 e2.symm
      ·rw[ag i1 d1 A e (al i1 an)]at q3;rw[ag j1 d2 K e' (al j1 a8)]at q4;rw[getD_set_ne false (λx=>e x.symm)]at bq;rw[getD_set_ne false (λx=>e' x.symm)]at br;exact ai.dis i1 an j1 a8 be bq br d1 d2 u1 u2 A K q3 q4
    ·have hp:=g3.put a7 v;refine⟨hp.dfr,hp.siz,λi' u ca=>hp.at_ i' u ?_⟩;have M:Nat.beq d i'=false:=by
      cases U:Nat.beq d i' with
      |false=>rfl
      |true=>
       have:=Ag1 U;subst this;have I:=jV ca;rw[<-Ag2]at I;rw[I]at bn;cases bn
     simp only[lk,M,Agq];exact ca
    ·by_cases e:i=j
     ·subst e;refine⟨d,v,hd,?_,hr⟩;simp only[Act.put,Aii];have:=g3.siz;simp[this,ak]
     ·rw[getD_set_ne false e]at J;obtain⟨dj,vj,A,K,q3⟩:=g4 j W J;refine⟨dj,vj,A,?_,bh _ _ _ _ g2 am q3⟩;have bp:j<ops.size:=by
       unfold Io at A;cases ac:ops[j]? with
       |none=>rw[ac]at A;cases A
       |some oj=>exact(Ahu.1 ac).1
      have I:=bo j bp;rw[A]at I;have M:d≠dj:=by
       rcases I with(I|I)|I
       ·exact absurd I W
       ·exact absurd (Ag1 I) e
       ·intro e';subst e';simp at I
      simp only[Act.put,Aii];rw[Agn M];exact K
   by_cases bs:∃f,f∈F/\f∈Region.ready .any ops k
   ·obtain⟨f,a0,a9⟩:=bs;obtain⟨cb,bt,o,d,ps,ho,ae,ar,ct⟩:=hF f a0;obtain⟨fr,hK,af⟩:=OB (a:=a) (n:=n) _ _ (ct (Mp a) h g2) (ad f o a9 ho ps ar λp _ h=>bb f a0 _ h) ⟨g3.dfr,g3.siz,λi v hi=>by simp[lk]at hi⟩;obtain⟨v,hy,hr⟩:=hK a (af.append (g3.append g3.full));refine wpAny_first ho (Region.noSelect_spec b5) (λc a w hq=>absurd hq (hQ c _ w)) q k a w (λj oj W M cc bu=>?_) a9 hy ?_
    ·have I:=Agz.1 bt j (Ahy.2 (Ahu.1 W).1);simp only[ho,W,Ahg,beq_iff_eq,M,Aid]at I;rcases I with I|I
     ·obtain⟨cu,cd,e,he,U,a1⟩:=Region.waitsFor_spec I;have:cu=oj:=Ags (cd.symm.trans W);subst this;exact absurd a1 (bu e he U)
     ·rcases I with I|I
      ·obtain⟨cv,ce,e,he,U,a1⟩:=Region.waitsFor_spec I;obtain⟨_,cw,cf,C⟩:=mem_ready.1 a9;have:cv=cw:=Ags (ce.symm.trans cf);subst this;have h5:=C e he U;rw[a1,getD_both cc]at h5;cases h5
      ·exact I
    ·rw[ae];exact aw f o d cb.2 (λh=>(Ahi.1 h).elim cb.2 λh=>bb f a0 _ h) a9 ho ae v w h g1 (Ef.refl h) hr (λhA=>absurd hA (b6 f a0).1) λsl a2=>absurd a2 ((b6 f a0).2 sl)
   have cg:∃k0,k0<ops.size/\k0∉ks/\k.getD k0 true=false/\k0∉F:=by
    obtain⟨k1,c3,cx,cy⟩:∃k1,k1<ops.size/\k1∉ks/\k.getD k1 true=false:=by
     apply Ajl;intro bu;refine Y λi X y=>?_;cases J:k.getD i true with
     |true=>rfl
     |false=>exact absurd ⟨i,X,y,J⟩ bu
    obtain⟨i0,A,K,q3⟩:=Nl (p:=λi=>k.getD i true||ks.contains i) k1 (by simp[cy,cx]);simp only[Ahk]at K;have ah:i0<ops.size:=Ω
    have bg:i0∉ks:=λh=>by rw[Ag2.2 h]at K;cases K.2
    refine⟨i0,ah,bg,K.1,λhf=>bs ⟨i0,hf,mem_ready.2 ⟨K.1,ops[i0],by simp[ah],λe he ch=>?_⟩⟩⟩;have h4:=Agz.1 hb i0 (Ahy.2 ah);have h5:ops[i0]? =some ops[i0]:=by simp[ah]
    rw[h5]at h4;simp only[Aix,Aic,Ajj]at h4;have h6:=h4 e he;simp only[ch,Ahm,Ajc,Ahb]at h6;have h7:=q3 e.on h6;have h9:=Agz.1 cm i0 (Ahy.2 ah);simp only[Ahg,Ag2,bg,Aid,h5,Aix,Aic,Ajj]at h9;have ao:=h9 e he;simp only[ch,Ahm,Ajc,Ahn]at ao;rcases ao with ao|ao
    ·cases ao
    rw[ao,Bool.or_false]at h7;have h8:e.on<k.size:=by rw[H.size];omega
    simp only[Aik,Ai8 h8,Aic]at h7 ⊢;exact h7
   have ⟨c6,bv,c4,ci,_⟩:=cg;obtain⟨i0,_,cz,_⟩:=P3 hb H.size bv ci;refine⟨λh0=>absurd (h0▸cz) (by simp),λi hi=>?_⟩;obtain⟨au,o,ho,av⟩:=mem_ready.1 hi;have ax:i<ops.size:=(Ahu.1 ho).1;by_cases V:i∈ks/\∀k0,k0<ops.size->k0∉ks->k0∉F++G->k.getD k0 false=true
   ·rcases bi with hG|⟨hF0,bi⟩
    ·obtain⟨k0,A,K,q3,q4⟩:=cg;have:=V.2 k0 A K (by rw[hG,Ahz];exact q4);rw[getD_both q3]at this;cases this
    ·cases aj:ks with
     |nil=>rw[aj]at V;cases V.1
     |cons k1 bj=>
      have an:i=k1:=by
       have hm:=V.1;rw[aj]at hm;rcases Agv.1 hm with e|hjr
       ·exact e
       ·rw[aj]at ap;obtain⟨p,hp,hw⟩:=PI ap i hjr;obtain⟨o',am,e',c0,U,a1⟩:=Region.waitsFor_spec hw;have:o'=o:=Ags (am.symm.trans ho);subst this;have g3:=av e' c0 U;rw[a1,getD_both (H.tail p (by rw[aj];exact hp))]at g3;cases g3
      subst an;refine bi i bj aj q k a w hu H ai (λj A K q3=>?_) hi;by_cases bw:j∈F
      ·cases J:k.getD j false with
       |true=>rfl
       |false=>
        refine absurd ⟨j,bw,mem_ready.2 ⟨getD_in (by rw[H.size];exact A) J,ops[j],by simp[A],λe he U=>?_⟩⟩ bs;obtain⟨z1,z2,z3⟩:=hF0 j bw _ (by simp[A]) e he U;exact V.2 e.on z1 z2 z3
      ·exact V.2 j A K (λh=>(Ahi.1 h).elim bw q3)
   have y:i∉ks:=λy=>by
    rcases b4 with hc|hc
    ·rw[hc]at y;cases y
    ·refine V ⟨y,λk0 A K q3=>?_⟩;cases J:k.getD k0 false with
     |true=>rfl
     |false=>exact absurd hi (TS hc ap H _ k0 rfl A K (λh=>(Ahi.1 h).elim q3 λh=>by rw[hD k0 h]at J;cases J) (getD_in (by rw[H.size];exact A) J) i y)
   have aa:i∉ks++D:=λh=>(Ahi.1 h).elim y λh=>by
    have:=hD i h;rw[getD_both au]at this;cases this
   have l:=Agz.1 ba i (Ahy.2 ax);cases hd:Io ops i with
   |none=>rw[hd]at l;simp only[Ag2,aa,Ahg,Aid]at l;cases l
   |some d=>
   rw[hd]at l;simp only[Agu,Ahn,Agz,Ahy,Ahg,Ag2,aa,Aid]at l;obtain⟨⟨a7,bn⟩,bo⟩:=l;have ay:d+1<=n.1:=by simpa[Nat.blt]using a7
   have ak:d<n.1:=ay;have ae:o.dst=some d:=by unfold Io at hd;rw[ho]at hd;exact hd
   obtain⟨ps,ar,bk,bx⟩:=step i o d aa ho ae;have a3:=ad i o hi ho ps ar bk;obtain⟨fr,hK,af⟩:=OB (a:=a) (n:=n) _ _ (bx (Mp a) h g2) a3 ⟨g3.dfr,g3.siz,λi v hi=>by simp[lk]at hi⟩;have ab:Fr n a (fr++(m++Mp a)):=af.append (g3.append g3.full);have c1:∀i u,a.tmps[i]? =some u->lk (fr++(m++Mp a)) i=some u:=by
    intro i u hu;have J:lk (Mp a) i=some u:=by
     have:i<a.tmps.size:=(Ahu.1 hu).1;rw[Wo this];simp[Aik,hu]
    have c2:∃u',lk (fr++(m++Mp a)) i=some u':=by
     rw[Np,Np,J];cases lk fr i with
     |some x=>exact⟨x,by simp⟩
     |none=>cases lk m i with
      |some x=>exact⟨x,by simp⟩
      |none=>exact⟨u,by simp⟩
    obtain⟨u',cj⟩:=c2;have:=ab.at_ i u' cj;rw[hu]at this;rw[cj,<-Ags this]
   have next:=aw i o d y aa hi ho ae
   have conv:∀a' w',KS B n d (RF R As Z i h fr) h (fr++(m++Mp a)) a' w'->wpAny P .any ops Q q (k.setIfInBounds i true) a' w':=by
    rintro a' w' ⟨v,h',f1,f2,f3,f4⟩;have:=Fr.same ak ab f1 λi u hi hu=>by
     have M:Nat.beq d i=false:=by
      cases U:Nat.beq d i with
      |false=>rfl
      |true=>exact absurd (Ag1 U).symm hi
     simp only[lk,M,Agq];exact c1 i u hu
    subst this;refine next v w' h' f2 f3 f4.1 (λhA=>f4.2.1 (Ag2.2 hA)) λsl a2=>?_
    obtain⟨r1,r2⟩:=f4.2.2 sl a2;rw[<-r2];congr 1;refine Ai3 λs hs=>?_;obtain⟨u,hu⟩:=Ajf.1 (r1 s hs);rw[hu,af.at_ s u hu]
   unfold wpOp;simp only[ho];cases hg:o.guard with
   |none=>
    rw[hg]at hK;rw[Agp (by simp[Region.wanted,hg])];exact(KV hg (hK a w ab g1)).imp (Oper.wp_mono conv) id
   |some gb=>
    obtain⟨g,b⟩:=gb;rw[hg]at hK;obtain⟨dg,A,hK⟩:=hK;rcases hK with⟨k1,k2⟩|⟨v,k1,k2,k3⟩
    ·have hy:yielded ops a.tmps g=some b:=Rv af A k1;rw[Agp (by simp[Region.wanted,hg,hy])];exact(RQ (KV rfl (k2 a w ab g1))).imp (Oper.wp_mono conv) id
    ·have hy:yielded ops a.tmps g≠some b:=by rw[Rv af A k1];exact k2
     rw[Agn (by simp[Region.wanted,hg,hy]),ae];exact next undef w h g1 (Ef.refl h) k3 (λhA=>by obtain⟨b,e,_⟩:=bz i hA _ _ k3;cases e) λsl a2=>by
      have:=ck _ a2;rw[ho]at this;simp[hg]at this
end
def YW(ops:Array Oper)(ks F:List Nat):Bool:=ks.all (λt=>Nat.blt t ops.size)&&decide ks.Nodup&&(ks.isEmpty||UT ops ks F)&&SV ops ks&&Qq ops ks&&SY ops&&Region.noSelect ops
def Tk(P:Program)(ops:Array Oper)(ks:List Nat)(n:FN)(m:SM)(h0:AV)(R:AR):List Nat->Prop
 |[]=>True
 |f::F=>((f<ops.size/\f∉ks)/\N5 ops f=true/\∃o d a,ops[f]? =some o/\o.dst=some d/\Uf ops o a=true/\Qe P ops n m h0 R f o a)/\Tk P ops ks n m h0 R F
def Tk.at_{P:Program}{ops:Array Oper}{ks:List Nat}{n:FN}{m:SM}{h0:AV}{R:AR}:∀{F:List Nat},Tk P ops ks n m h0 R F->∀f,f∈F->(f<ops.size/\f∉ks)/\N5 ops f=true/\∃o d b,ops[f]? =some o/\o.dst=some d/\Uf ops o b=true/\Qe P ops n m h0 R f o b
 |[],_,f,a=>by cases a
 |g::F,⟨c,i⟩,f,a=>by
  rcases Agv.1 a with rfl|a
  ·exact c
  ·exact Tk.at_ i f a
def Tk.cons{P:Program}{ops:Array Oper}{ks:List Nat}{n:FN}{m:SM}{h0:AV}{R:AR}{f d:Nat}{o:Oper}{F:List Nat}(b:List (Nat×Nat))(a:(Nat.blt f ops.size&& !ks.contains f&&N5 ops f)=true)(g:ops[f]? =some o)(hd:o.dst=some d)(c:Uf ops o b=true)(i:Qe P ops n m h0 R f o b)(t:Tk P ops ks n m h0 R F):Tk P ops ks n m h0 R (f::F):=by
 simp only[Agu,Ahn]at a;exact⟨⟨⟨(by simpa[Nat.blt]using a.1.1:f+1<=ops.size),λh=>by rw[Ag2.2 h]at a;cases a.1.2⟩,a.2,o,d,b,g,hd,c,i⟩,t⟩
def Fi(P:Program)(ops:Array Oper)(Q:Exit->Act->World->Prop)(B:World)(n:FN)(m:SM)(h0:AV)(R:AR)(ks As:List Nat)(Z:ZB):Nat->List Oper->List (List (Nat×Nat))->Prop
 |i,o::l,a::pss=>(i∈ks\/match o.dst with|some d=>Zh P ops Q B n m h0 R As Z i o d a|none=>False)/\Fi P ops Q B n m h0 R ks As Z (i+1) l pss
 |_,_,_=>True
def Wg(ops:Array Oper)(ks:List Nat)(l:List Oper)(pss:List (List (Nat×Nat))):Bool:=Nat.beq l.length pss.length&&(l.zip pss).zipIdx.all λp=>ks.contains p.2||Uf ops p.1.1 p.1.2
def Fi.at_{P:Program}{ops:Array Oper}{Q:Exit->Act->World->Prop}{B:World}{n:FN}{m:SM}{h0:AV}{R:AR}{ks As:List Nat}{Z:ZB}:∀{l:List Oper}{pss:List (List (Nat×Nat))}{k i:Nat}{o:Oper}{d:Nat},Fi P ops Q B n m h0 R ks As Z k l pss->l.length=pss.length->k+i∉ks->l[i]? =some o->o.dst=some d->∃a,pss[i]? =some a/\Zh P ops Q B n m h0 R As Z (k+i) o d a
 |[],_,_,_,_,_,_,_,_,h,_=>by simp at h
 |_::_,[],_,_,_,_,_,c,_,_,_=>by simp at c
 |p::l,a::pss,k,0,o,d,g,c,j,b,hd=>by
  simp only[Aiw,Ahv]at b;subst b;simp only[Fi,hd]at g;exact⟨a,rfl,g.1.resolve_left j⟩
 |p::l,a::pss,k,i+1,o,d,g,c,j,b,hd=>by
  simp only[Air]at b;obtain⟨q,s,t⟩:=Fi.at_ (l:=l) (pss:=pss) (k:=k+1) (i:=i) g.2 (by simpa using c) (by rw[show k+1+i=k+(i+1)from Ω];exact j) b hd;rw[show k+(i+1)=k+1+i from Ω];exact⟨q,by simpa using s,t⟩
def Fi.cons{P:Program}{ops:Array Oper}{Q:Exit->Act->World->Prop}{B:World}{n:FN}{m:SM}{h0:AV}{R:AR}{ks As:List Nat}{Z:ZB}{i:Nat}{o:Oper}{l:List Oper}{z:List (Nat×Nat)}{pss:List (List (Nat×Nat))}{d:Nat}(hd:o.dst=some d)(F:As.contains i=false)(A:(Z.zs.map (·.1)).contains i=false)(h:WO P ops Q B n m h0 R i o d z)(t:Fi P ops Q B n m h0 R ks As Z (i+1) l pss):Fi P ops Q B n m h0 R ks As Z i (o::l) (z::pss):=by
 simp only[Fi,hd];refine⟨.inr λmt c G=>PA.imp (λfr k=>?_) _ _ (h mt c G),t⟩;have H:∀v j,R i v j->RF R As Z i c fr v j:=λv j r=>⟨r,λh=>(by rw[F]at h;cases h),λsl p=>by
  rw[Ag2.2 (Ahr.2 ⟨_,p,rfl⟩)]at A;cases A⟩
 have ks:∀a w,KS B n d (R i) c (fr++(m++mt)) a w->KS B n d (RF R As Z i c fr) c (fr++(m++mt)) a w:=λa w ⟨v,j,s,u,I,J⟩=>⟨v,j,s,u,I,H v j J⟩
 have C:∀y,LF P ops (Exit.then (KS B n d (R i) c (fr++(m++mt))) Q) [y] B c n (fr++(m++mt))->LF P ops (Exit.then (KS B n d (RF R As Z i c fr) c (fr++(m++mt))) Q) [y] B c n (fr++(m++mt)):=λy k a w K M=>IM (λe a w q=>by cases e<;>first|exact ks a w q|exact q) _ a w (k a w K M);cases D:o.guard with
 |none=>rw[D]at k;exact C _ k
 |some U=>
  obtain⟨g,b⟩:=U;rw[D]at k;obtain⟨V,s,u⟩:=k;refine⟨V,s,u.imp (λ⟨W,X⟩=>⟨W,C _ X⟩) λx=>x⟩
def Fi.al{Q:Exit->Act->World->Prop}{Z:ZB}{i:Nat}{cs:List Value}{ty:TypeId}{pos:String}(j:R i=eQ h0 T cs)(k:E8 P T=some cs)(hd:Nat.blt d n.1=true)(a:(Z.zs.map (·.1)).contains i=false)(t:Fi P ops Q B n m h0 R ks As Z (i+1) l pss):Fi P ops Q B n m h0 R ks As Z i (⟨some d,.alloc T,ty,pos,af,none⟩::l) ([]::pss):=by
 refine⟨.inr ?_,t⟩;intro mt h o;show LF P ops (Exit.then (KS B n d (RF R As Z i h []) h _) Q) _ B h n _
 refine nN (Ef.refl h) k hd λv h' p r'=>BB p ?_;obtain⟨b,e,g,q,s⟩:=r';have u:R i v h':=by rw[j];exact⟨b,e,Ah2 o.siz g,q,s⟩
 exact⟨u,λ_=>⟨b,by rw[e];rfl,g⟩,λsl c=>by rw[Ag2.2 (Ahr.2 ⟨_,c,rfl⟩)]at a;cases a⟩
def Fi.z{Q:Exit->Act->World->Prop}{Z:ZB}{i:Nat}(sl:List Nat)(hd:o.dst=some d)(j:As.contains i=false)(p:o.guard=none)(b:(Z.zs.all λz=> !(Nat.beq z.1 i)||decide (z.2=sl))=true)
  (h:∀mt h,Ef h0 h->PA R h (λfr=>LF P ops (Exit.then (KS B n d (λv h'=>R i v h'/\(sl.all λs=>(lk fr s).isSome)=true/\Z.f i (sl.map (lk fr))=some v) h (fr++(m++mt))) Q) [o] B h n (fr++(m++mt))) g []) (t:Fi P ops Q B n m h0 R ks As Z (i+1) l pss):Fi P ops Q B n m h0 R ks As Z i (o::l) (g::pss):=by
 simp only[Fi,hd];refine⟨.inr λmt u x=>PA.imp (λfr k=>?_) _ _ (h mt u x),t⟩;rw[p];refine λa w y A=>IM (λe a w q=>?_) _ a w (k a w y A);cases e<;>first|exact q|skip
 obtain⟨v,C,D,F,G,H,I,J⟩:=q;refine⟨v,C,D,F,G,H,λh=>(by rw[j]at h;cases h),λK c=>?_⟩;have:=Agz.1 b _ c;simp only[Nat.beq_refl,Ahm,Ajc,Ahb]at this;subst this;exact⟨λs M=>Agz.1 I s M,J⟩
def Fi.nw{Q:Exit->Act->World->Prop}{Z:ZB}{i:Nat}(hd:o.dst=some d)(j:o.guard=none)(b:(Z.zs.map (·.1)).contains i=false)
  (h:∀mt h,Ef h0 h->PA R h (λfr=>LF P ops (Exit.then (KS B n d (λv h'=>R i v h'/\Yn h v) h (fr++(m++mt))) Q) [o] B h n (fr++(m++mt))) g []) (t:Fi P ops Q B n m h0 R ks As Z (i+1) l pss):Fi P ops Q B n m h0 R ks As Z i (o::l) (g::pss):=by
 simp only[Fi,hd];refine⟨.inr λmt p s=>PA.imp (λfr k=>?_) _ _ (h mt p s),t⟩;rw[j];refine λa w u x=>IM (λe a w q=>?_) _ a w (k a w u x);cases e<;>first|exact q|skip
 obtain⟨v,y,z,A,C,D,F⟩:=q;exact⟨v,y,z,A,C,D,λ_=>F,λsl c=>by rw[Ag2.2 (Ahr.2 ⟨_,c,rfl⟩)]at b;cases b⟩
def Fi.skip{Q:Exit->Act->World->Prop}{Z:ZB}{i:Nat}{a:List (Nat×Nat)}(h:ks.contains i=true)(t:Fi P ops Q B n m h0 R ks As Z (i+1) l pss):Fi P ops Q B n m h0 R ks As Z i (o::l) (a::pss):=
 ⟨.inl (Ag2.1 h),t⟩
def Yo(S:Nat->Prop)(h a:AV)(c:List Nat)(L:List HP):Prop:=(∀b,S b->b<h.size)/\Ef h a/\(∀b,b∈c->h.size<=b/\b<a.size)/\Sp S L a (λb=>(b<h.size/\¬S b)\/b∈c)
def Yo.nil{g:AV}(a:St S L h)(o:Ef h g):Yo S h g [] L:=
 ⟨a.1,o,λb i=>(by cases i),Sp.ext a.2 (λ_ x=>x) (λc d=>o.same c (d.elim (a.1 c) (·.1))) λc d=> .inl d⟩
def Yo.cons{S:Nat->Prop}{L:List HP}{h d:AV}{g:List Nat}{b T:Nat}{cs:List Value}(k:Yo S h d g L)(i:h.size<=b)(j:b<d.size)(l:d[b]? =some (.cells cs.toArray T (0,0)))(m:b∉g):Yo S h d (b::g) (Bx b T cs::L):=by
 obtain⟨n,o,p,q⟩:=k;refine⟨n,o,λc a=>?_,λc=>c=b,⟨λ_=>Iff.rfl,l⟩,λc a=>by subst a;exact .inr (Ahf ..),q.mono λc a=>⟨a.imp_right (Aht _),λe=>?_⟩⟩
 ·rcases Agv.1 a with rfl|a
  ·exact⟨i,j⟩
  ·exact p c a
 ·subst e;rcases a with a|a
  ·have:=a.1;omega
  ·exact m a
def Yo.st{d:AV}{l:List Nat}(k:Yo S h d l L):St S L d:=by
 obtain⟨g,i,j,m⟩:=k;refine⟨λb n=>Ag6 (g b n) i.siz,m.mono λc a=>?_⟩;rcases a with a|a
 ·exact⟨Ag6 a.1 i.siz,a.2⟩
 ·exact⟨(j c a).2,λo=>by have:=g c o;have:=(j c a).1;omega⟩
def ZG{l:List Nat}(h:b≠c)(t:b∉l):b∉c::l:=λe=>(Agv.1 e).elim h t
def sE.at_{a:List Nat}(k:sE a f)(h:(a.contains s&&a.contains s'&& !(Nat.beq s s'))=true)(e:f s=some (.pointer (some ⟨b,0,none⟩)))(d:f s'=some (.pointer (some ⟨c,0,none⟩))):b≠c:=by
 simp only[Agu,Ahn,Ag2]at h;exact k s h.1.1 s' h.1.2 (λq=>by rw[q,Nat.beq_refl]at h;cases h.2) _ _ e d _ _ rfl rfl
def sE.of_{a:List Nat}{d:Value}(k:sE a f)(h:(a.contains s&&a.contains s'&& !(Nat.beq s s'))=true)(e:f s=some u)(g:f s'=some d)(z:Pf u=some b)(i:Pf d=some c):b≠c:=by
 simp only[Agu,Ahn,Ag2]at h;exact k s h.1.1 s' h.1.2 (λq=>by rw[q,Nat.beq_refl]at h;cases h.2) _ _ e g _ _ z i
def Va(r:Value->AV->Prop):Prop:=∀v h,r v h->∃b,Pf v=some b/\b<h.size
def Aab:∀i,i∈([]:List Nat)->Va (R i):=λi a=>by cases a
def Yf{a:Nat}{l:List Nat}(e:Va (R a))(t:∀i,i∈l->Va (R i)):∀i,i∈a::l->Va (R i):=λi b=>by
 rcases Agv.1 b with rfl|b
 ·exact e
 ·exact t i b
def qT{a:Nat}{cs:List Value}{l:List Nat}(e:R a=eQ h T cs)(t:∀i,i∈l->Va (R i)):∀i,i∈a::l->Va (R i):=
 Yf (λv h' c=>by rw[e]at c;obtain⟨b,d,_,g,_⟩:=c;exact⟨b,by rw[d];rfl,g⟩) t
section
variable{P:Program}{ex:List (Nat×AP)}{RR N:AP}{cs:List Code}{B:World}{h:AV}{n:FN}{m m0:SM}{S:Nat->Prop}{L:List HP}
def qW{id:Nat}(ks F As:List Nat)(Z:ZB)(hZ:nV l.toArray ks Z.zs=true)(aa:(Z.zs.all λz=> !F.contains z.1&&((l.toArray[z.1]?).bind (·.guard)).isNone)=true)(R:AR)(pss:List (List (Nat×Nat)))(fs:List (Nat×Nat))(hm:P.follows .mixedOrders=true)(hc:YW l.toArray ks F=true)(ms:List Nat)(ab:m.map (·.1)=ms)(K:Wj l.toArray ks n ms=true)
  (A:Wg l.toArray ks l pss=true) (ac:(fs.all λp=>Nat.blt p.1 l.length&& !ks.contains p.1&&(Io l.toArray p.1).any (Nat.beq p.2 ·))=true) (ad:(ks.filterMap λt=>l[t]?)=ls) (M:VZ m0 m)
  (C:∀i v H Y,Ef h H->Ef H Y->R i v H->R i v Y)
  (ae:(As.all λi=> !ks.contains i&& !F.contains i)=true) (af:∀i,i∈As->Va (R i))
  (hF:Tk P l.toArray ks n m h R F)
  (step:Fi P l.toArray (Qx ex RR (W P ex RR cs N)) B n m h R ks As Z 0 l pss)
  (ag:∀h',Ef h h'->PA R h' (λfr=>sE (YT l.toArray As) (lk fr)->(∀z,z∈Z.zs->∀d v,Io l.toArray z.1=some d->lk fr d=some v->(z.2.all λs=>(lk fr s).isSome)=true->Z.f z.1 (z.2.map (lk fr))=some v)->LF P l.toArray (Qx ex RR (W P ex RR cs N)) ls B h' n (fr++m)) fs []):WF P ex RR (.region id l.toArray true::cs) N B h n m0:=by
 intro a w I hw;subst ab;simp only[YW,Agu,Ahg,Ahb]at hc;obtain⟨⟨⟨⟨⟨⟨H,Y⟩,h3⟩,h4⟩,h5⟩,h6⟩,h7⟩:=hc;simp only[Wg,Agu]at A;have Q:l.length=pss.length:=Ag1 A.1;have q:∀i,i∈As->i∉ks/\i∉F:=λi b=>by
  have:=Agz.1 ae i b;simp only[Agu,Ahn]at this;exact⟨λh=>(by rw[Ag2.2 h]at this;cases this.1),λh=>(by rw[Ag2.2 h]at this;cases this.2)⟩
 have y:∀z,z∈Z.zs->z.1∉F/\((l.toArray[z.1]?).bind (·.guard))=none:=λz D=>by
  have:=Agz.1 aa z D;simp only[Agu,Ahn,Option.isNone_iff_eq_none]at this;exact⟨λh=>(by rw[Ag2.2 h]at this;cases this.1),this.2⟩
 refine λrd ah=>RZ ah OY hm (Ye (R:=R) (B:=B) (h0:=h) (n:=n) (m:=m) ks [] As Z (by rw[Ahz];exact cJ hZ) (λz D=>y z D |>.2) af (λt ht=>by have:=Agz.1 H t ht;simp[Nat.blt]at this ⊢;omega) Y h6 F [] (.inr rfl) (by rw[Ahz,Ahz];exact h3.imp (λe=>by cases ks with|nil=>rfl|cons _ _=>simp at e) λx=>x) (Nr h4) h5 h7 (λc a w hq=>hq) (λf I=>⟨λhA=>(q f hA).2 I,λsl ai=>(y _ ai).1 I⟩) (λf I=>hF.at_ f I) (by rw[Ahz];exact K) C (λi b=>by rw[Ahz];exact(q i b).1) (λi o d b ho hd=>?_) (λa w h' g1 g2 g3 g4 g5 g6=>?_) (.inl rfl) _ _ _ _ ?_ ⟨by simp,λj oj _ g=>(by rw[getD_replicate_false]at g;cases g),λt ht=>getD_in (by have:=Agz.1 H t ht;simp[Nat.blt]at this ⊢;omega) (getD_replicate_false _ _)⟩ (λi b=>by cases b) ⟨⟨h,hw.drew,Ef.refl h,I.sub M,λi _ g=>(by rw[getD_replicate_false]at g;cases g)⟩,λi _ j _ _ g=>(by rw[getD_replicate_false]at g;cases g),λz _ g=>(by rw[getD_replicate_false]at g;cases g)⟩)
 ·rw[Ahz]at b;have G:l[i]? =some o:=by simpa using ho
  obtain⟨ps,U,J⟩:=Fi.at_ (k:=0) step Q (by rw[Ahw];exact b) G hd;rw[Ahw]at J;refine⟨ps,?_,λ_ _=>Aha,J⟩;have al:i<l.length:=(Ag0.1 G).1;have D:((o,ps),i)∈(l.zip pss).zipIdx:=by
   rw[Aio];exact⟨i,by rw[List.getElem?_zipIdx,(Aki (z:=(o,ps))).2 ⟨G,U⟩];simp⟩
  have:=Agz.1 A.2 _ D;simp only[Ahg,Ag2,b,Aid]at this;exact this
 ·obtain⟨fr,k1,V⟩:=OB (a:=a) (n:=n) _ _ (ag h' g2) (λp hp=>by
   have e:=Agz.1 ac p hp;simp only[Agu,Ahn]at e;have e1:p.1<l.toArray.size:=by have:=e.1.1;simp[Nat.blt]at this ⊢;omega
   obtain⟨d,v,U,J,q3⟩:=g4 p.1 e1 (λh=>by rw[Ahz]at h;rw[Ag2.2 h]at e;cases e.1.2);have e2:=e.2;rw[U]at e2;have:p.2=d:=Ag1 (by simpa using e2);exact⟨v,by rw[this];exact J,q3⟩) ⟨g3.dfr,g3.siz,λi v b=>by simp[lk]at b⟩
  have X:(ks.filterMap λt=>l.toArray[t]?)=ls:=by rw[<-ad];congr 1;funext t;simp
  rw[X];exact k1 (λs hs s' aj ak u u' e e'=>g5 s hs s' aj ak u u' (V.at_ _ _ e) (V.at_ _ _ e')) (λz D d v U J q3=>by
   obtain⟨d',v',p1,p2,p3⟩:=g6 z D;rw[U]at p1;cases p1;rw[V.at_ d v J]at p2;cases p2;rw[<-p3];congr 1;refine Ai3 λs hs=>?_;obtain⟨u,hu⟩:=Ajf.1 (Agz.1 q3 s hs);rw[hu,V.at_ s u hu]) a w (V.append g3) g1
 ·unfold Yu;rw[Array.toList_replicate];simp
end
end Go.Proofs.YtabonambpbofgaaGreat
