import Derived.Test.YtabonambpbofgaaGreatQCore4
import Derived.Deep.DeepAppendWide
import Derived.StillTail
namespace Go.Proofs.YtabonambpbofgaaGreat
set_option linter.all false
open Go.RowKit
variable {U V X Y:Operand}{H bytes d e f j k k0 off sc:Nat}{F S:Nat->Prop}{J sd:Addr}{s u:Value}{c vs:List Value}{pv:List (Nat×Value)}{K:AP}{ag b:Bool}{ops:Array Oper}{o:Oper}{cap first:Array Value}{xs:Array Operand}{a:Act}{B w:World}{P:Program}{g post:Value->(Nat->Prop)->AV->Prop}{Ψ:Prop}{af:Array Edge}{rest:List Oper}{h:AV}{Q':Exit->Act->World->Prop}{D:Option Nat}{y:Int}
def M6{α}(S:Nat->Prop)(h:AV)(r:A9 α):List Value->List α->Prop
 |cs,[]=>cs=[]
 |cs,x::l=>∃a b,cs=a++b/\r.rd S h a x/\M6 S h r b l
def M6.mono{α S S' h h'}{r:A9 α}:∀{l:List α}{cs},M6 S h r cs l->(∀b,S b->S' b)->(∀b,S b->h'[b]? =h[b]?)->M6 S' h' r cs l
 |[],_,k,_,_=>k
 |_::_,_,⟨a,c,e,d,g⟩,s,q=>⟨a,c,e,r.mono d s q,g.mono s q⟩
def M6.len{α S h}{r:A9 α}:∀{l:List α}{cs},M6 S h r cs l->cs.length=l.length*r.sz
 |[],_,k=>by have k:_=[]:=k;subst k;simp
 |_::l,_,⟨c,d,e,a,b⟩=>by subst e;rw[Ahh,r.len a,b.len,Ain,Aij];omega
def M6.one{α S h}{r:A9 α}:∀{l:List α}{cs},M6 S h r cs l->∀v∈cs,v.oneCell'=true
 |[],_,k,v,a=>by have k:_=[]:=k;subst k;cases a
 |_::_,_,⟨d,g,e,b,c⟩,v,a=>by subst e;exact(Ahi.1 a).elim (r.one b v) (c.one v)
def M6.append{α S h}{r:A9 α}:∀{l c:List α}{cs a},M6 S h r cs l->M6 S h r a c->M6 S h r (cs++a) (l++c)
 |[],_,_,_,k,b=>by have k:_=[]:=k;subst k;exact b
 |_::_,_,_,_,⟨d,g,e,i,b⟩,j=>by subst e;exact⟨d,g++_,by simp,i,b.append j⟩
def M6.at_{α S h}{r:A9 α}:∀{l:List α}{cs}{i:Nat}{x},M6 S h r cs l->l[i]? =some x->r.rd S h ((cs.drop (i*r.sz)).take r.sz) x
 |[],_,_,_,_,a=>by simp at a
 |y::l,_,0,x,⟨b,c,e,d,g⟩,a=>by
  subst e;simp only[Aiw,Ahv]at a;subst a;have:=r.len d;simp only[Nat.zero_mul,List.drop_zero,<-this,List.take_left];exact d
 |y::l,_,i+1,x,⟨b,c,e,d,g⟩,a=>by
  subst e;simp only[Air]at a;have j:=r.len d;have m:(i+1)*r.sz=b.length+i*r.sz:=by rw[j,Aij];omega
  rw[m,List.drop_append_of_le_length_add];exact g.at_ a
 where
 List.drop_append_of_le_length_add:∀{b c:List Value}{k:Nat},(b++c).drop (b.length+k)=c.drop k:=by
  intro b c k;rw[<-List.drop_drop,List.drop_left]
def X4(cs:List Value)(o:Nat)(vs:List Value)(h:o+vs.length<=cs.length):(IY cs o vs).length=cs.length:=by
 simp[IY];omega
def M6.set{α S h}{r:A9 α}:∀{l:List α}{cs}{i o:Nat}{x y}{vs:List Value},M6 S h r cs l->l[i]? =some x->o+vs.length<=r.sz->(∀c,r.rd S h c x->r.rd S h (IY c o vs) y)->M6 S h r (IY cs (i*r.sz+o) vs) (l.set i y)
 |[],_,_,_,_,_,_,_,a,_,_=>by simp at a
 |z::l,_,0,o,x,y,vs,⟨b,g,e,d,j⟩,a,m,k=>by
  subst e;simp only[Aiw,Ahv]at a;subst a;have n:=r.len d;refine⟨IY b o vs,g,?_,k _ d,j⟩;simp only[IY,Nat.zero_mul,Ahw];rw[List.take_append_of_le_length Ω,List.drop_append_of_le_length Ω];simp
 |z::l,_,i+1,o,x,y,vs,⟨b,g,e,d,j⟩,a,m,k=>by
  subst e;simp only[Air]at a;have n:=r.len d;refine⟨b,IY g (i*r.sz+o) vs,?_,d,j.set a m k⟩;have p:(i+1)*r.sz+o=b.length+(i*r.sz+o):=by rw[n,Aij];omega
  simp only[IY];rw[p,Nat.add_assoc b.length,<-List.drop_drop,List.drop_left,List.take_length_add_append];simp
def OS{α}(r:A9 α)(T:TypeId)(v:Value)(l:List α):HP where
 holds:=λS F h=>((∃a,v= .slice a 0 0)/\l=[]/\∀b,¬F b)\/
  ∃g cap cur,v= .slice (some ⟨g,0,none⟩) l.length cap/\(∀b,F b↔b=g)/\h[g]? =some (.cells cur T (0,0))/\l.length<=cap/\cap<=maxLen/\cur.size=cap*r.sz/\M6 S h r (cur.toList.take (l.length*r.sz)) l
 loc:=λk s e=>by
  rcases k with k|⟨g,cap,cur,k1,k2,k3,k4,k5,k6,k7⟩
  ·exact .inl k
  ·exact .inr ⟨g,cap,cur,k1,k2,(e g (.inr ((k2 g).2 rfl))).trans k3,k4,k5,k6,k7.mono s λb c=>e b (.inl c)⟩
section
variable{α:Type}{r:A9 α}{T:TypeId}{v:Value}{l:List α}{S F:Nat->Prop}{h:AV}{L L2:List HP}
def OS.len(k:(OS r T v l).holds S F h):∃a cap,v= .slice a l.length cap/\l.length<=maxLen:=by
 rcases k with⟨⟨a,b⟩,h2,_⟩|⟨g,cap,cur,b,h2,h3,h4,h5,_⟩
 ·subst h2;exact⟨a,0,b,Agr _⟩
 ·exact⟨_,cap,b,Ah2 h4 h5⟩
def St.oslen(a:St S L h)(b:OS r T v l∈L):∃c cap,v= .slice c l.length cap/\l.length<=maxLen:=by
 obtain⟨F,k,_⟩:=a.get b;exact OS.len k
def St.nil(a:St S L h)(r:A9 α)(T:TypeId):St S (OS r T (.slice none 0 0) ([]:List α)::L) h:=
 (a.add (Ag5 _) (λ_ _=>rfl) ⟨λ_=>False,Or.inl ⟨⟨none,rfl⟩,rfl,λ_ x=>x⟩,λ_ x=>x.elim⟩).1
def OS.sl(k:(OS r T v l).holds S F h)(s:∀b,F b->S b):Sl S h r v l:=by
 rcases k with⟨⟨d,a⟩,h2,_⟩|⟨g,cap,cur,a,h2,h3,h4,h5,h6,h7⟩
 ·subst h2;cases d with
  |none=>exact .inl ⟨a,rfl⟩
  |some d=>exact .inr ⟨d,0,a,Ag5 _,Agr _,λi x c=>by simp at c⟩
 ·refine .inr ⟨⟨g,0,none⟩,cap,a,h4,h5,λi x c=>⟨rfl,?_⟩⟩;have m:=h7.at_ c;have n:i<l.length:=(Ag0.1 c).1;have p:i*r.sz+r.sz<=l.length*r.sz:=by rw[<-Aij];exact Aia _ n
  refine⟨_,⟨⟨g,0+i*r.sz,none⟩,rfl,rfl,s g ((h2 g).2 rfl),λj q=>?_⟩,m⟩;have o:j<r.sz:=by simp only[Ah3,Ai7]at q;omega
  simp only[KE,h3,Ahw,Ajs,Ail,Aim];rw[Aif o,Ai0,Aif Ω,Array.getElem?_toList]
def St.pubs(c:St S L h)(p:RA L (OS r T v l) L2):∃S',St S' L2 h/\CO S h S' h/\Sl S' h r v l:=by
 obtain⟨F,d,j,g,a⟩:=c.pub p;exact⟨_,g,a,OS.sl (HP.loc _ d a.sub λ_ _=>rfl) λb i=> .inr i⟩
def St.oslAll(c:St S L h)(d:OS r T v l∈L):Sl (λb=>b<h.size) h r v l:=by
 obtain⟨F,g,i⟩:=c.get d;exact OS.sl (HP.loc _ g (λb a=>c.1 b a) λ_ _=>rfl) λb a=>(i b a).1
def St.osAt(p:St S L h)(q:OS r T v l∈L){i:Nat}{x:α}(a:l[i]? =some x):
  ∃(g cap:Nat),v= .slice (some ⟨g,0,none⟩) l.length cap/\OJ (λb=>b<h.size) S h r (.pointer (some ⟨g,i*r.sz,none⟩)) x:=by
 obtain⟨F,k,s⟩:=p.get q;rcases k with⟨o,c,_⟩|⟨g,cap,cur,o,c,k3,k4,k5,k6,k7⟩
 ·subst c;simp at a
 ·have d:=k7.at_ a;have m:i<l.length:=(Ag0.1 a).1;have t:i*r.sz+r.sz<=l.length*r.sz:=by rw[<-Aij];exact Aia _ m
  refine⟨g,cap,o,_,⟨⟨g,i*r.sz,none⟩,rfl,rfl,(s g ((c g).2 rfl)).1,λj u=>?_⟩,d⟩;have n:j<r.sz:=by simp only[Ah3,Ai7]at u;omega
  simp only[KE,k3,Ajs,Ail,Aim];rw[Aif n,Ai0,Aif Ω,Array.getElem?_toList]
end
def EP(v:Value)(k:Nat)(q:Value):Prop:=∃g n c,v= .slice (some ⟨g,0,none⟩) n c/\q= .pointer (some ⟨g,k,none⟩)
def OI(P:Program)(t:TypeId):Option (TypeId×Nat×Nat×List Value):=
 match P.underlying t with
 |some (.slice e)=>match P.info? e with
  |some i=>match i.zero with
   |some z=>if i.size=0|| !(z.cells.size==i.size) then none else some (e,i.size,i.bytes,z.cells.toList)
   |none=>none
  |none=>none
 |_=>none
def NP{P t e sz by_ z}(h:OI P t=some (e,sz,by_,z)):∃i a,P.underlying t=some (.slice e)/\P.info? e=some i/\i.zero=some a/\i.size=sz/\i.bytes=by_/\a.cells=z.toArray/\z.length=sz/\0<sz:=by
 unfold OI at h;split at h
 ·rename_i j c;split at h
  ·rename_i i d;split at h
   ·rename_i a g;split at h
    ·cases h
    ·rename_i b;simp only[Ahv,Aja]at h;obtain⟨rfl,rfl,rfl,rfl⟩:=h;simp only[Ahg,Ahb,not_or,Bool.not_eq_true,Ai1,beq_iff_eq]at b;exact⟨i,a,c,d,g,rfl,rfl,by simp,by simpa using b.2,Ω⟩
   ·cases h
  ·cases h
 ·cases h
section
variable{P:Program}{ops:Array Oper}{Q:Exit->Act->World->Prop}{n:FN}{a:Act}{m:List (Nat×Value)}{rest:List Oper}
variable{d:Nat}{ty:TypeId}{pos:String}{af:Array Edge}{X Y:Operand}{B w:World}{h:AV}{S:Nat->Prop}{L L2:List HP}
def Td{α}{r:A9 α}{S h}{z:List Value}{x:α}(a:r.rd S h z x)(c:Nat):M6 S h r (List.replicate c z).flatten (List.replicate c x):=by
 induction c with
 |zero=>rfl
 |succ c b=>exact⟨z,_,by simp[List.replicate_succ],a,b⟩
def N2(z:List Value)(c:Nat)(l:0<z.length):(madeCells z.toArray (c*z.length)).toList=(List.replicate c z).flatten:=by
 induction c with
 |zero=>simp[madeCells]
 |succ c j=>
  have k:List.replicate (c+1) z=List.replicate c z++[z]:=by rw[List.replicate_succ']
  rw[k,List.flatten_append,<-j];apply Ah1;intro i;have g:(madeCells z.toArray (c*z.length)).toList.length=c*z.length:=by simp[size_madeCells]
  rw[List.getElem?_append];simp only[madeCells,Array.toList_map,Array.toList_range,Ajt,List.length_range];have m:(c+1)*z.length=c*z.length+z.length:=Aij _ _;by_cases a:i<c*z.length
  ·rw[Agp a];simp[List.getElem?_range a,List.getElem?_range (show i<(c+1)*z.length from Ω)]
  ·rw[Agn a];by_cases b:i<(c+1)*z.length
   ·have e:i%z.length=i-c*z.length:=by
     have:i=(i-c*z.length)+z.length*c:=by rw[Ajb z.length c];omega
     rw[this,Nat.add_mul_mod_self_left,Aji Ω,Ajb];omega
    have d:i-c*z.length<z.length:=Ω
    simp[List.getElem?_range b,e,d]
   ·rw[Ahj (by simp;omega),Ahj (by simp;omega)]
def Aff{α}{r:A9 α}{T sz g:Nat}{z:List Value}{zx:α}{len cap:Nat}{C D:IntKind}(u:Fr n a m)(I:OI P T=some (e,sz,g,z))(l:r.sz=sz)(J:r.rd S h z zx)
  (M:B5 m U=some (.int C (len:Nat))) (W:B5 m V=some (.int D (cap:Nat))) (o:len<=cap) (X:g*cap<=281474976710656) (p:cap<=maxLen) (hd:Nat.blt d n.1=true) (F:Wd B h w) (G:St S L h)
  (k:∀v a w h',Fr n a ((d,v)::m)->Wd B h' w->St S (OS r e v (List.replicate len zx)::L) h'->CO S h S h'->wpList P ops Q rest a w):
  wpList P ops Q (⟨some d,.makeSlice T U V,ty,pos,af,none⟩::rest) a w:=by
 refine wpList_plain rfl λK Y=>?_;unfold Oper.wp;obtain⟨i,Z,h1,h2,h3,h4,h5,h6,H,h8⟩:=NP I;have q:=run_make (P:=P) w T e i Z h1 h2 h3 C D (len:Int) (cap:Int) Ω Ω (by rw[h5];omega) (by unfold maxLen at p;omega);simp only[Ahl,h6,h4]at q;have s:(execOp a.eval ⟨some d,.makeSlice T U V,ty,pos,af,none⟩).run P w= .ok (.value (.slice (some ⟨w.heap.size,0,none⟩) len cap)) (w.alloc (.cells (madeCells z.toArray (cap*sz)) e)):=by
  simp[execOp,u.eval M,u.eval W,q]
 rw[s];have c:(madeCells z.toArray (cap*sz)).toList=(List.replicate cap z).flatten:=by rw[<-H];exact N2 z cap Ω
 have y:(OS r e (.slice (some ⟨h.size,0,none⟩) len cap) (List.replicate len zx)).holds S (λb=>b=h.size) (h.push (.cells (madeCells z.toArray (cap*sz)) e)):=by
  refine .inr ⟨h.size,cap,madeCells z.toArray (cap*sz),by simp,λ_=>Iff.rfl,NH _ _,by simpa using o,p,by rw[size_madeCells,l],?_⟩;rw[c];have:((List.replicate cap z).flatten).take ((List.replicate len zx).length*r.sz)=(List.replicate len z).flatten:=by
   obtain⟨j,rfl⟩:=Nat.exists_eq_add_of_le o;rw[<-List.replicate_append_replicate,List.flatten_append,Aju,l,<-H];have:(List.replicate len z).flatten.length=len*z.length:=by simp
   rw[<-this,List.take_left]
  rw[this];exact(Td J len).mono (λ_ x=>x) λb t=>I5 _ _ _ (G.1 b t)
 obtain⟨g1,g2⟩:=G.add (h':=h.push (.cells (madeCells z.toArray (cap*sz)) e)) (by simp) (λb t=>I5 _ _ _ t) ⟨_,y,λb t=>by subst t;simp⟩;have A:=F.heap;exact Y _ _ (k _ _ _ _ (u.put hd _) (F.alloc _) (by rw[A];exact g1) g2)
def NR(n b:Nat):Prop:=n*b<=140737488355328\/(n*b<=175921860444160/\b<=274877906944)
def NR.le{n b:Nat}(h:NR n b):n*b<=281474976710656:=by unfold NR at h;omega
def U8{a b:Nat}(h:b<a)(c:NR a bytes):Builtin.nextslicecap a b*bytes<=281474976710656:=by
 rcases c with c|⟨h1,h2⟩
 ·exact growslice_fits h c
 ·refine growslice_fits_wide h ?_;have d:=Aia bytes (Nat.div_mul_le_self a 4);rw[Nat.mul_right_comm]at d;rw[Aib,Aib];omega
def WZ{α}{r:A9 α}{T ty sz Q:Nat}{z:List Value}{v:Value}{l xs:List α}{a:List Value}(he:OI P T=some (e,sz,Q,z))(c:r.sz=sz)
  (af:s= .slice (some J) xs.length sc) (V:M6 S h r a xs) (hc:∀j u,a[j]? =some u->KE h (J.add j)=some u)
  (W:l.length+xs.length<=maxLen) (X:NR (l.length+xs.length) Q) (d:Wd B h w) (k:(OS r e v l).holds S F h) (hS:∀b,S b->b<h.size/\¬F b):
  ∃v' w' h' F',(Builtin.append_ #[T,T] ty #[v,s]).run P w= .ok v' w'/\Wd B h' w'/\h.size<=h'.size/\(OS r e v' (l++xs)).holds S F' h'/\(∀b,F' b->F b\/(h.size<=b/\b<h'.size))/\∀b,b<h.size->¬F b->h'[b]? =h[b]? :=by
 obtain⟨i,K,Y,Z,h3,G,h5,h6,h7,h8⟩:=NP he;subst af;have m:=V.len;rw[c,<-G]at m;have aa:l.length+xs.length<=9223372036854775807:=by unfold maxLen at W;omega
 have H:∀j u,a[j]? =some u->w.cell? (J.add j)=some u:=λj u I=>by rw[NI,d.heap];exact hc j u I
 have ag:K.cells.size=sz:=by rw[h6];simpa using h7
 have t:∀(p:List Value)(q:Nat),M6 S h r p l->q<l.length+xs.length->
   (OS r e (.slice (some ⟨h.size,0,none⟩) (l.length+xs.length) (grownCap w (l.length+xs.length) q e)) (l++xs)).holds S (λb=>b=h.size)
    (h.push (.cells (p.toArray++a.toArray++Builtin.zeroCells K.cells (grownCap w (l.length+xs.length) q e-(l.length+xs.length))) e)):=by
  intro p q ho aj;have ah:=grownCap_ge w (l.length+xs.length) q e;refine .inr ⟨h.size,_,_,by rw[Ahh],λ_=>Iff.rfl,NH _ _,by rw[Ahh];exact ah,grownCap_le_maxLen w _ q e W,?_,?_⟩
  ·have:=ho.len;simp only[Array.size_append,Ajv,size_zeroCells,ag,this,m,G,c,<-Aib];congr 1;omega
  ·have y:(l++xs).length*r.sz=(p++a).length:=by rw[Ahh,Ahh,ho.len,V.len,Aib]
   rw[y];simp only[Array.toList_append];rw[List.take_left];exact(ho.append V).mono (λ_ x=>x) λb n=>I5 _ _ _ (hS b n).1
 rcases k with⟨⟨U,rfl⟩,rfl,hF⟩|⟨g,cap,cur,rfl,hF,hg,hlc,hcm,hcs,hrd⟩
 ·by_cases hx:xs.length=0
  ·have ai:xs=[]:=Akh hx;subst ai;refine⟨.slice U 0 0,w,h,F,?_,d,Ag5 _,.inl ⟨⟨U,rfl⟩,rfl,hF⟩,λb n=> .inl n,λ_ _ _=>rfl⟩;cases U<;>simp[Builtin.append_,run_underlying Y,sizeOf,typeInfo,Z,Builtin.lenOf,Builtin.firstCells,loadCells,loadCellsFrom,storeCells]
  ·have M:NR xs.length Q:=by simpa using X
   have ak:=M.le;have hr:(Builtin.append_ #[T,T] ty #[.slice U 0 0,.slice (some J) xs.length sc]).run P w= .ok (.slice (some ⟨w.heap.size,0,none⟩) xs.length (grownCap w xs.length 0 e)) (w.drew.alloc (.cells (a.toArray++Builtin.zeroCells K.cells (grownCap w xs.length 0 e-xs.length)) e)):=by
    cases U with
    |none=>exact run_append_nil (P:=P) w T ty e i K Y Z h3 J xs.length sc a m H Ω (by simp at aa;omega) (by rw[h5];omega)
    |some U=>
     have hq:=run_append_grow (P:=P) w T ty e i K Y Z h3 U 0 0 [] (by simp) (λj u I=>by simp at I) J xs.length sc a m H Ω Ω (U8 Ω (by rw[h5];simpa using M));simpa using hq
   have A:=t [] 0 rfl (by simp;omega);simp only[List.length_nil,Ahw,Ag3,Array.empty_append]at A;refine⟨_,_,h.push (.cells (a.toArray++Builtin.zeroCells K.cells (grownCap w xs.length 0 e-xs.length)) e),λb=>b=h.size,hr,⟨?_,d.os,d.tape,d.out⟩,by simp,?_,λb n=> .inr (by subst n;simp),λb n _=>I5 _ _ _ n⟩
   ·show(w.heap.push _)=_;rw[d.heap]
   ·rw[d.heap];exact A
 ·have ab:w.heap[g]? =some (.cells cur e (0,0)):=by rw[d.heap];exact hg
  by_cases o:l.length+xs.length<=cap
  ·have ac:l.length*i.size+a.length<=cur.size:=by rw[m,hcs,G,c,<-Aib];exact Aia _ o
   have hr:=run_append_room (P:=P) w T ty e i Y Z g l.length cap cur ab J xs.length sc a m H (λu I=>V.one u I) o ac;obtain⟨h',e1,e2,e3,e4⟩:=R7 w g cur (c':=(cur.toList.take (l.length*i.size)++a++cur.toList.drop (l.length*i.size+a.length)).toArray) e ab;rw[d.heap]at e2 e4;refine⟨_,_,h',F,hr,⟨e1,d.os,d.tape,d.out⟩,Ω,.inr ⟨g,cap,_,by rw[Ahh],hF,e3,by rw[Ahh];exact o,hcm,?_,?_⟩,λb n=> .inl n,λb _ n=>e4 b λe=>n ((hF b).2 e)⟩
   ·simp only[Ajv,Ahh,Ah3,Ai7,Array.length_toList];omega
   ·have C:=hrd.len;rw[c,<-G]at C;have y:(l++xs).length*r.sz=(cur.toList.take (l.length*i.size)++a).length:=by
     rw[Ahh,Ahh,C,m,Aib,c,G]
    rw[y,List.take_left,G,<-c];exact(hrd.append V).mono (λ_ x=>x) λb n=>e4 b λe=>(hS b n).2 ((hF b).2 e)
  ·have D:∀j u,(cur.toList.take (l.length*r.sz))[j]? =some u->w.cell? ((⟨g,0,none⟩:Addr).add j)=some u:=λj u I=>by
    have ae:(⟨g,0,none⟩:Addr).add j=⟨g,j,none⟩:=by unfold Addr.add;split<;>simp_all
    rw[ae,NI,d.heap];have hj:j<l.length*r.sz:=by
     have:=(Ag0.1 I).1;simp at this;omega
    rw[Aif hj]at I;simp only[KE,hg,Ajs,Ail,Aim];simpa using I
   have C:=hrd.len;rw[c,<-G]at C;rw[c,<-G]at D;have hr:=run_append_grow (P:=P) w T ty e i K Y Z h3 ⟨g,0,none⟩ l.length cap _ C D J xs.length sc a m H Ω Ω (U8 Ω (by rw[h5];exact X));have A:=t _ cap hrd Ω;rw[c,<-G]at A;refine⟨_,_,h.push (.cells ((cur.toList.take (l.length*i.size)).toArray++a.toArray++Builtin.zeroCells K.cells (grownCap w (l.length+xs.length) cap e-(l.length+xs.length))) e),λb=>b=h.size,hr,⟨?_,d.os,d.tape,d.out⟩,by simp,?_,λb n=> .inr (by subst n;simp),λb n _=>I5 _ _ _ n⟩
   ·show(w.heap.push _)=_;rw[d.heap]
   ·rw[d.heap];exact A
def Aci{α}{r:A9 α}{T sz C:Nat}{z:List Value}{v:Value}{l xs:List α}{y:List Value}{LL:Value->List HP}(g:Fr n a m)(hx:B5 m X=some v)(hy:B5 m Y=some s)(he:OI P T=some (e,sz,C,z))(D:r.sz=sz)
  (H:s= .slice (some sd) xs.length sc) (hn:M6 S h r y xs) (hc:∀j u,y[j]? =some u->KE h (sd.add j)=some u)
  (I:l.length+xs.length<=maxLen) (J:NR (l.length+xs.length) C) (hd:Nat.blt d n.1=true) (hw:Wd B h w) (A:St S L h) (rp:∀i,Nm L (OS r e v l) (OS r e i (l++xs)) (LL i))
  (k:∀i a w h',Fr n a ((d,i)::m)->Wd B h' w->St S (LL i) h'->CO S h S h'->wpList P ops Q rest a w):
  wpList P ops Q (⟨some d,.call ⟨.builtin .append,#[X,Y],#[T,T]⟩,ty,pos,af,none⟩::rest) a w:=by
 refine wpList_plain rfl λK hK=>?_;unfold Oper.wp;obtain⟨M,p,_⟩:=(rp v).pick;obtain⟨F,g1,g2,_⟩:=Sp.pick p A.2;obtain⟨i,w',h',F',e1,e2,e3,e4,e5,e6⟩:=WZ (ty:=ty) he D H hn hc I J hw g1 λb c=>⟨A.1 b c,λg=>(g2 b g).2 c⟩
 have U:(execOp a.eval ⟨some d,.call ⟨.builtin .append,#[X,Y],#[T,T]⟩,ty,pos,af,none⟩).run P w= .ok (.value i) w':=by
  simp[execOp,resolve,invoke,builtin,g.eval hx,g.eval hy,e1]
 rw[U];obtain⟨M,p,q⟩:=(rp i).pick;have V:St S (LL i) h'/\CO S h S h':=by
  obtain⟨G,ad,o,ae⟩:=Sp.pick p A.2;obtain⟨al,am,W,ag,Z,ah,t,ai,aa,ab⟩:=WZ (ty:=ty) he D H hn hc I J hw ad λb c=>⟨A.1 b c,λg=>(o b g).2 c⟩
  rw[e1]at Z;injection Z with ev ew
  subst ev;subst ew;have hh:W=h':=by rw[<-ah.heap,e2.heap]
  subst hh;have ac:∀b,S b->W[b]? =h[b]? :=λb c=>ab b (A.1 b c) λg=>(o b g).2 c;refine⟨⟨λb c=>Ag6 (A.1 b c) t,O1 q ⟨ag,ai,λb c=>?_,?_⟩⟩,λ_ x=>x,ac,t⟩
  ·rcases aa b c with g|⟨hl,hu⟩
   ·exact⟨Ag6 (o b g).1 t,(o b g).2⟩
   ·exact⟨hu,λaj=>absurd (A.1 b aj) Ω⟩
  ·refine Sp.ext ae (λ_ x=>x) (λb c=>?_) λb c=>⟨⟨Ag6 c.1.1 t,c.1.2⟩,λak=>?_⟩
   ·rcases c with c|c
    ·exact ac b c
    ·exact ab b c.1.1 c.2
   ·rcases aa b ak with g|⟨hl,_⟩
    ·exact c.2 g
    ·exact absurd c.1.1 Ω
 exact hK _ _ (k i _ w' h' (g.put hd _) e2 V.1 V.2)
def xF{α}{r:A9 α}{T sz g:Nat}{z:List Value}{v:Value}{l xs:List α}{p A b:Nat}{LL:Value->List HP}(C:Fr n a m)(D:B5 m X=some v)(G:B5 m Y=some (.slice (some ⟨p,0,none⟩) b sc))(H:OI P T=some (e,sz,g,z))(q:r.sz=sz)
  (I:Bx p A c∈L) (J:M6 S h r c xs) (s:b=xs.length)
  (t:l.length+xs.length<=maxLen) (x:NR (l.length+xs.length) g) (hd:Nat.blt d n.1=true) (K:Wd B h w) (y:St S L h) (M:∀i,Nm L (OS r e v l) (OS r e i (l++xs)) (LL i))
  (k:∀i a w h',Fr n a ((d,i)::m)->Wd B h' w->St S (LL i) h'->CO S h S h'->wpList P ops Q rest a w):
  wpList P ops Q (⟨some d,.call ⟨.builtin .append,#[X,Y],#[T,T]⟩,ty,pos,af,none⟩::rest) a w:=by
 obtain⟨F,U,_⟩:=y.get I;refine Aci C D G H q (by rw[s]) J (λj u V=>?_) t x hd K y M k;have o:(⟨p,0,none⟩:Addr).add j=⟨p,j,none⟩:=by unfold Addr.add;split<;>simp_all
 rw[o,Bx.cell U];exact V
def Wh(e:Nat)(len:Nat):List (Nat×Nat):=(List.range len).map λi=>(i*e,e)
def Afg{T sz len:Nat}{z cs:List Value}{g:Array (Nat×Operand)}(W:Fr n a m)(he:OI P T=some (e,sz,H,z))(q:g.toList.mapM (cZ m)=some pv)
  (X:Nh (Wh sz len) (List.replicate len z).flatten pv=some cs) (I:Nat.blt 0 len=true) (J:Nat.ble (len*sz) 16777216=true) (hd:Nat.blt d n.1=true) (Y:Wd B h w) (hs:St S L h)
  (o:∀p∈pv,p.1<len)
  (k:∀b a w h',Fr n a ((d,.slice (some ⟨b,0,none⟩) len len)::m)->Wd B h' w->St S (Bx b e cs::L) h'->CO S h S h'->wpList P ops Q rest a w):
  wpList P ops Q (⟨some d,.buildSlice T len g,ty,pos,af,none⟩::rest) a w:=by
 refine wpList_plain rfl λK hK=>?_;unfold Oper.wp;obtain⟨i,u,h1,h2,h3,G,h5,h6,h7,h8⟩:=NP he;have M:(g.map λ(p:Nat×Operand)=>(p.1,a.eval p.2)).toList=pv:=by
  obtain⟨l⟩:=g;simp only at q;simp only[List.map_toArray];clear X o k
  induction l generalizing pv with
  |nil=>simp at q;subst q;rfl
  |cons x l U=>
   simp only[Ai9,Ajp,Aiq,cZ,Ah6]at q;obtain⟨y,⟨v,hv,rfl⟩,ys,V,A⟩:=q;simp only[Ajq,Ahv]at A;subst A;simp only[Ag9,W.eval hv,U V]
 have C:0<len:=(by simpa[Nat.blt]using I:1<=len)
 have Z:len*sz<=16777216:=Ajr J;have s:((Array.range (len*i.size)).map (u.cells[· %u.cells.size]!))=((List.replicate len z).flatten).toArray:=by
  have:=N2 z len Ω;rw[h7]at this;rw[<-this];simp only[madeCells,G,h6,Ajv]
 have t:Instr.fill (λj=>some (j*i.size,i.size)) ((Array.range (len*i.size)).map (u.cells[· %u.cells.size]!)) pv=some cs.toArray:=by
  rw[s];have h0:=PG (Wh sz len) pv _ _ X;have D:∀(pv:List (Nat×Value))(c:Array Value),(∀p∈pv,p.1<len)->Instr.fill (λj=>some (j*i.size,i.size)) c pv=Instr.fill ((Wh sz len).toArray[·]?) c pv:=by
   intro pv
   induction pv with
   |nil=>intro c _;rfl
   |cons p pv U=>
    intro c o;obtain⟨j,v⟩:=p;have hj:j<len:=o (j,v) (by simp);have e1:(Wh sz len).toArray[j]? =some (j*i.size,i.size):=by simp[Wh,hj,G]
    simp only[Instr.fill,e1];split
    ·rfl
    ·exact U _ λp q=>o p (by simp[q])
  rw[D pv _ o];exact h0
 have hb:=run_buildSlice (P:=P) w T e len (g.map λ(p:Nat×Operand)=>(p.1,a.eval p.2)) cs.toArray i u h1 h2 h3 (by rw[G];omega) (by rw[G];exact Nat.ne_of_gt (Nat.mul_pos C h8)) (by rw[M];exact t);have F:(execOp a.eval ⟨some d,.buildSlice T len g,ty,pos,af,none⟩).run P w= .ok (.value (.slice (some ⟨w.heap.size,0,none⟩) len len)) (w.alloc (.cells cs.toArray e)):=by
  simp only[execOp,Sem.run_bind,hb];rfl
 rw[F];obtain⟨k1,k2⟩:=hs.push e cs;exact hK _ _ (k _ _ _ _ (W.put hd _) (Y.alloc _) (by rw[Y.heap];exact k1) k2)
def St.bxos{α}{r:A9 α}{b:Nat}{cs:List Value}{l:List α}{M:List HP}(g:St S L h)(i:Nm L (Bx b e cs) (OS r e (.slice (some ⟨b,0,none⟩) l.length l.length) l) M)(a:M6 S h r cs l)(c:l.length<=maxLen):St S M h:=
 (g.upd i (Ag5 _) λF d _=>⟨F,.inr ⟨b,l.length,cs.toArray,rfl,d.1,d.2,Ag5 _,c,by simpa using a.len,by
  have:=a.len;simp only[<-this,Ahe];exact a⟩,λ_ j=> .inl j,λ_ _ _=>rfl⟩).1
end
abbrev SM:=List (Nat×Value)
def QF(P:Program)(ops:Array Oper)(C:World->Prop)(Q:Act->Prop)(l:List Oper)(n:FN)(m:SM):Prop:=∀a,Fr n a m->wpQuiet P ops C Q l a
def LF(P:Program)(ops:Array Oper)(Q:Exit->Act->World->Prop)(l:List Oper)(B:World)(h:AV)(n:FN)(m:SM):Prop:=∀a w,Fr n a m->Wd B h w->wpList P ops Q l a w
def WF(P:Program)(ex:List (Nat×AP))(R:AP)(cs:List Code)(N:AP)(B:World)(h:AV)(n:FN)(m:SM):Prop:=∀a w,Fr n a m->Wd B h w->W P ex R cs N a w
section
variable{P:Program}{ex:List (Nat×AP)}{R N:AP}{cs:List Code}{B:World}{h:AV}{n:FN}{m m':SM}{S:Nat->Prop}{L:List HP}
def Rq(b:VZ m m')(k:WF P ex R cs N B h n m'):WF P ex R cs N B h n m:=λa w c d=>k a w (c.sub b) d
def CU{x y:Code}(k:WF P ex R (x::y::cs) N B h n m):WF P ex R (.seq x y::cs) N B h n m:=λa w b c=>Abk (k a w b c)
def D7(k:WF P ex R cs N B h n m):WF P ex R (.skip::cs) N B h n m:=λa w b c=>uW (k a w b c)
def CM(k:∀a w,Fr n a m->Wd B h w->R a w):WF P ex R (.ret::cs) N B h n m:=λa w b c=>Abl (k a w b c)
def BL{i:Nat}(b:xB ex i=some K)(k:∀a w,Fr n a m->Wd B h w->K a w):WF P ex R (.exit i::cs) N B h n m:=λa w c d=>fH b (k a w c d)
def WF.nil(k:∀a w,Fr n a m->Wd B h w->N a w):WF P ex R [] N B h n m:=λa w b c=>k a w b c
def Is{X b}{x y:Code}(g:B5 m X=some (.bool b))(i:b=true->WF P ex R (x::cs) N B h n m)(j:b=false->WF P ex R (y::cs) N B h n m):WF P ex R (.cond X x y::cs) N B h n m:=
 λa w c d=>Ae1 c g (λe=>i e a w c d) λe=>j e a w c d
def Kr{X}{x y:Code}(c:B5 m X=some (.bool true))(k:WF P ex R (x::cs) N B h n m):WF P ex R (.cond X x y::cs) N B h n m:=λa w b d=>Abm b c (k a w b d)
def Ks{X}{x y:Code}(c:B5 m X=some (.bool false))(k:WF P ex R (y::cs) N B h n m):WF P ex R (.cond X x y::cs) N B h n m:=λa w b d=>Abn b c (k a w b d)
def AW{i:Nat}{c:Code}(k:WF P ((i,W P ex R cs N)::ex) R [c] (W P ex R cs N) B h n m):WF P ex R (.block i c::cs) N B h n m:=λa w b d=>nW (k a w b d)
def It{c:Code}(I:AP)(b:WF P ex R [c] I B h n m)(d:∀a w,I a w->W P ex R cs N a w):WF P ex R (c::cs) N B h n m:=λa w g i=>Abo I (b a w g i) d
def qX{c:Code}(I:Nat->AP)(T d:Nat)(h0:∀a w,Fr n a m->Wd B h w->I d a w)(g:∀i a w,I i a w->i<=T)
  (b:∀i a w,I i a w->W P ex R [c] (I (i+1)) a w):WF P ex R (.loop c::cs) N B h n m:=λa w j k=>uY I T d (h0 a w j k) g b
def Ip{l:List Oper}(c:jB P l b)(k:QF P l.toArray (Wd B h) (λa=>∀w,Wd B h w->W P ex R cs N a w) l n m):WF P ex R (.region bytes l.toArray b::cs) N B h n m:=
 λa _ d g=>Aey c g (k a d)
def CP{l:List Oper}(c:jB P l b)(d:St S L h)(k:QF P l.toArray (Cl B h) (λa=>∀w h',Wd B h' w->St S L h'->CO S h S h'->W P ex R cs N a w) l n m):WF P ex R (.region bytes l.toArray b::cs) N B h n m:=
 λa _ g i=>Ae0 c i d (k a g)
def Cj{l:List Oper}(k:LF P l.toArray (Qx ex R (W P ex R cs N)) l B h n m):WF P ex R (.region bytes l.toArray false::cs) N B h n m:=
 λa w b c=>Aez (k a w b c)
def E9{C}(b:VZ m m')(k:WF P ex R cs N B h n m'):QF P ops C (λa=>∀w,Wd B h w->W P ex R cs N a w) [] n m:=λa c w d=>k a w (c.sub b) d
def BW{C}(b:VZ m m')(k:∀h',St S L h'->CO S h S h'->WF P ex R cs N B h' n m'):QF P ops C (λa=>∀w h',Wd B h' w->St S L h'->CO S h S h'->W P ex R cs N a w) [] n m:=
 λa c w h' d s e=>k h' s e a w (c.sub b) d
def LF.nil(b:VZ m m')(k:WF P ex R cs N B h n m'):LF P ops (Qx ex R (W P ex R cs N)) [] B h n m:=λa w c d=>tC (k a w (c.sub b) d)
def AN{Q:Exit->Act->World->Prop}{l:List Oper}(j:Nat)(k:QF P ops (Wd B h) (λa=>∀w,Wd B h w->wpList P ops Q (l.drop j) a w) (l.take j) n m):LF P ops Q l B h n m:=λa _ b c=>l_q j c (k a b)
def AG{C}{Q:Exit->Act->World->Prop}{l:List Oper}(k:LF P ops Q l B h n m):QF P ops C (λa=>∀w,Wd B h w->wpList P ops Q l a w) [] n m:=λa b w c=>k a w b c
def CG.go{f fn c l S h post}(n:Nat)(b:P.funcs[f]? =some fn)(d:fn.body=some c)(g:fn.ntmps=n)(i:Nat.ble l.length n=true)
  (k:∀B,WF P [] (Rt P fn B S h post) [c] (Rt P fn B S h post) B h (n,[]) (ZW 0 l)):CG P f l.toArray S h post:=
 CG.intro n b d g (Ajr i) λB w a j b=>k B a w b j
end
section
variable{P:Program}{ops:Array Oper}{C:World->Prop}{Q:Act->Prop}{n:FN}{m m':SM}{rest:List Oper}
variable{d:Nat}{ty:TypeId}{pos:String}{af:Array Edge}{X Y:Operand}{t t1 t2:TypeId}{x y:Int}{kd:IntKind}{v p:Value}
def QF.nil(k:∀a,Fr n a m->Q a):QF P ops C Q [] n m:=λa b=>k a b
def Afu{l:List Oper}(b:VZ m m')(k:QF P ops C Q l n m'):QF P ops C Q l n m:=λa c=>k a (c.sub b)
def bY(d:o.guard=some (j,b))(g:(ops[j]?).bind (·.dst)=some e)(i:lk m e=some (.bool b))(k:QF P ops C Q ({ o with guard:=none}::rest) n m):QF P ops C Q (o::rest) n m:=
 λa c=>Ae9 c d g i (k a c)
def QF.gn(a:o.guard=some (j,!b))(c:(ops[j]?).bind (·.dst)=some e)(g:lk m e=some (.bool b))(i:o.dst=some d)(hd:Nat.blt d n.1=true)(k:QF P ops C Q rest n ((d,undef)::m)):QF P ops C Q (o::rest) n m:=
 λ_ l=>Afa l a c g i hd k
def Aaz(j:Nat)(m':SM){l:List Oper}(c:QF P ops C (λa=>Fr n a m') (l.take j) n m)(d:QF P ops C Q (l.drop j) n m'):QF P ops C Q l n m:=
 λa g=>Vm j (λa=>Fr n a m') (c a g) λi b=>d i b
def rN(b:VZ m m'):QF P ops C (λa=>Fr n a m') [] n m:=λ_ c=>c.sub b
def uH(a:B5 m X=some v)(hd:Nat.blt d n.1=true)(k:QF P ops C Q rest n ((d,v)::m)):QF P ops C Q (⟨some d,.move X,ty,pos,af,none⟩::rest) n m:=λ_ b=>Ae7 b a hd k
def nK(a:B5 m X=some v)(hd:Nat.blt d n.1=true)(k:QF P ops C Q rest n ((d,v)::m)):QF P ops C Q (⟨some d,.assign X,ty,pos,af,none⟩::rest) n m:=λ_ b=>Afc b a hd k
def Sd{c:Operand}(a:B5 m c=some (.bool b))(g:B5 m (if b then X else Y)=some v)(hd:Nat.blt d n.1=true)(k:QF P ops C Q rest n ((d,v)::m)):QF P ops C Q (⟨some d,.pick c X Y,ty,pos,af,none⟩::rest) n m:=λ_ i=>wO i a g hd k
def Afy(a:B5 m X=some (.int .i64 x))(b:B5 m Y=some (.int .i64 y))(hd:Nat.blt d n.1=true)(c:AB (x+y))(k:QF P ops C Q rest n ((d,.int .i64 (x+y))::m)):QF P ops C Q (⟨some d,.binOp .add t1 X Y t2,ty,pos,af,none⟩::rest) n m:=λ_ g=>Acf g a b hd c k
def Afv(a:B5 m X=some (.int .i64 x))(b:B5 m Y=some (.int .i64 y))(hd:Nat.blt d n.1=true)(c:AB (x*y))(k:QF P ops C Q rest n ((d,.int .i64 (x*y))::m)):QF P ops C Q (⟨some d,.binOp .mul t1 X Y t2,ty,pos,af,none⟩::rest) n m:=λ_ g=>Abz g a b hd c k
def cE(a:B5 m X=some (.int .i64 x))(b:B5 m Y=some (.int .i64 y))(hd:Nat.blt d n.1=true)(k:QF P ops C Q rest n ((d,.int .i64 (BO (x+y)))::m)):QF P ops C Q (⟨some d,.binOp .add t1 X Y t2,ty,pos,af,none⟩::rest) n m:=λ_ c=>wR c a b hd k
def bV(a:B5 m X=some (.int .i64 x))(b:B5 m Y=some (.int .i64 y))(hd:Nat.blt d n.1=true)(k:QF P ops C Q rest n ((d,.int .i64 (BO (x-y)))::m)):QF P ops C Q (⟨some d,.binOp .sub t1 X Y t2,ty,pos,af,none⟩::rest) n m:=λ_ c=>wN c a b hd k
def nD(a:B5 m X=some (.int kd x))(b:B5 m Y=some (.int kd y))(hd:Nat.blt d n.1=true)(k:QF P ops C Q rest n ((d,.bool (decide (x<y)))::m)):QF P ops C Q (⟨some d,.binOp .lss t1 X Y t2,ty,pos,af,none⟩::rest) n m:=λ_ c=>Ab2 c a b hd k
def Aas(a:B5 m X=some (.int kd x))(b:B5 m Y=some (.int kd y))(hd:Nat.blt d n.1=true)(k:QF P ops C Q rest n ((d,.bool (decide (x<=y)))::m)):QF P ops C Q (⟨some d,.binOp .leq t1 X Y t2,ty,pos,af,none⟩::rest) n m:=λ_ c=>Ab3 c a b hd k
def nG(a:B5 m X=some (.int kd x))(b:B5 m Y=some (.int kd y))(hd:Nat.blt d n.1=true)(k:QF P ops C Q rest n ((d,.bool (decide (y<x)))::m)):QF P ops C Q (⟨some d,.binOp .gtr t1 X Y t2,ty,pos,af,none⟩::rest) n m:=λ_ c=>Aca c a b hd k
def nH(a:B5 m X=some (.int kd x))(b:B5 m Y=some (.int kd y))(hd:Nat.blt d n.1=true)(k:QF P ops C Q rest n ((d,.bool (decide (y<=x)))::m)):QF P ops C Q (⟨some d,.binOp .geq t1 X Y t2,ty,pos,af,none⟩::rest) n m:=λ_ c=>Acb c a b hd k
def nJ(a:B5 m X=some (.int kd x))(b:B5 m Y=some (.int kd y))(hd:Nat.blt d n.1=true)(k:QF P ops C Q rest n ((d,.bool (decide (x=y)))::m)):QF P ops C Q (⟨some d,.binOp .eql t1 X Y t2,ty,pos,af,none⟩::rest) n m:=λ_ c=>Acd c a b hd k
def nC(a:B5 m X=some (.int kd x))(b:B5 m Y=some (.int kd y))(hd:Nat.blt d n.1=true)(k:QF P ops C Q rest n ((d,.bool (decide (x≠y)))::m)):QF P ops C Q (⟨some d,.binOp .neq t1 X Y t2,ty,pos,af,none⟩::rest) n m:=λ_ c=>Aby c a b hd k
def nB{b}(a:B5 m X=some (.bool b))(hd:Nat.blt d n.1=true)(k:QF P ops C Q rest n ((d,.bool (!b))::m)):QF P ops C Q (⟨some d,.unOp .not t1 X,ty,pos,af,none⟩::rest) n m:=λ_ c=>Abw c a hd k
def TK{aty}(a:B5 m X=some (.int kd x))(b:B5 m Y=some (.int kd y))(hd:Nat.blt d n.1=true)(k:QF P ops C Q rest n ((d,.int kd (Max.max x y))::m)):QF P ops C Q (⟨some d,.call ⟨.builtin .max,#[X,Y],#[t1,t2]⟩,aty,pos,af,none⟩::rest) n m:=λ_ c=>Ab1 c a b hd k
def XE{aty}(a:B5 m X=some (.int kd x))(b:B5 m Y=some (.int kd y))(hd:Nat.blt d n.1=true)(k:QF P ops C Q rest n ((d,.int kd (Min.min x y))::m)):QF P ops C Q (⟨some d,.call ⟨.builtin .min,#[X,Y],#[t1,t2]⟩,aty,pos,af,none⟩::rest) n m:=λ_ c=>Ab0 c a b hd k
def GP{T:TypeId}{a:Array (Nat×Operand)}{pl z pv cs}(b:To P T=some (pl,z))(c:a.toList.mapM (cZ m)=some pv)(g:Nh pl z pv=some cs)(hd:Nat.blt d n.1=true)(k:QF P ops C Q rest n ((d,.agg cs.toArray)::m)):QF P ops C Q (⟨some d,.build T a,ty,pos,af,none⟩::rest) n m:=λ_ i=>Ace i b c g hd k
def U9{T:TypeId}{ks xs ys}(a:B5 m X=some (.agg xs))(b:B5 m Y=some (.agg ys))(c:eI P T=some ks)(g:xs.toList.map N3=ks)(i:ys.toList.map N3=ks)(j:R9 xs.toList ys.toList=true)(hd:Nat.blt d n.1=true)(k:QF P ops C Q rest n ((d,.bool (!Rf xs.toList ys.toList))::m)):QF P ops C Q (⟨some d,.binOp .neq T X Y t2,ty,pos,af,none⟩::rest) n m:=λ_ l=>Abx l a b c g i j hd k
def Gg{b o j off}(a:B5 m X=some (.pointer (some ⟨b,o,none⟩)))(c:eJ P t j off=true)(hd:Nat.blt d n.1=true)(k:QF P ops C Q rest n ((d,.pointer (some ⟨b,o+off,none⟩))::m)):QF P ops C Q (⟨some d,.fieldAddr t X j,ty,pos,af,none⟩::rest) n m:=λ_ g=>Acc g a c hd k
def Qs{ad len cap aty e sz}(a:B5 m X=some (.slice ad len cap))(b:Q4 P t e sz=true)(hd:Nat.blt d n.1=true)(k:QF P ops C Q rest n ((d,.int .i64 len)::m)):QF P ops C Q (⟨some d,.call ⟨.builtin .len,#[X],#[t]⟩,aty,pos,af,none⟩::rest) n m:=λ_ c=>wP c a b hd k
section
variable{A S:Nat->Prop}{L:List HP}{h:AV}
def Lh{α}{r:A9 α}{x}(g:CK C h)(i:∀b,A b->b<h.size)(j:B5 m X=some p)(k0:OJ A S h r p x)(l:LD P t r.sz r.ag=true)(o:r.ag=false->r.sz=1)(hd:Nat.blt d n.1=true)
  (k:∀v,Rd S h r v x->QF P ops C Q rest n ((d,v)::m)):QF P ops C Q (⟨some d,.load t X,ty,pos,af,none⟩::rest) n m:=λ_ c=>cY g i c j k0 l o hd λv a c q=>k v q a c
def FA{x}(g:CK C h)(i:∀b,A b->b<h.size)(j:B5 m X=some p)(k0:OJ A S h AC p x)(l:LD P t 1 false=true)(hd:Nat.blt d n.1=true)
  (k:AB x->QF P ops C Q rest n ((d,.int .i64 x)::m)):QF P ops C Q (⟨some d,.load t X,ty,pos,af,none⟩::rest) n m:=λ_ c=>Ab8 g i c j k0 l hd λa c o=>k o a c
def Aat{x}(a:CK C h)(c:∀b,A b->b<h.size)(g:B5 m X=some p)(k0:OJ A S h A9.bool p x)(i:LD P t 1 false=true)(hd:Nat.blt d n.1=true)
  (k:QF P ops C Q rest n ((d,.bool x)::m)):QF P ops C Q (⟨some d,.load t X,ty,pos,af,none⟩::rest) n m:=λ_ j=>Ab9 a c j g k0 i hd k
def XG{x}(g:CK C h)(i:∀b,A b->b<h.size)(j:B5 m X=some p)(k0:OJ A S h A9.str p x)(l:LD P t 1 false=true)(hd:Nat.blt d n.1=true)
  (k:x.size<=maxLen->QF P ops C Q rest n ((d,.string x)::m)):QF P ops C Q (⟨some d,.load t X,ty,pos,af,none⟩::rest) n m:=λ_ c=>Ab5 g i c j k0 l hd λa c o=>k o a c
def GB{α}{r:A9 α}{x}(g:CK C h)(i:∀b,A b->b<h.size)(j:B5 m X=some p)(k0:OJ A S h r.sl p x)(l:LD P t 1 false=true)(hd:Nat.blt d n.1=true)
  (k:∀v,Sl S h r v x->QF P ops C Q rest n ((d,v)::m)):QF P ops C Q (⟨some d,.load t X,ty,pos,af,none⟩::rest) n m:=λ_ c=>Ab7 g i c j k0 l hd λv a c o=>k v o a c
def Mq{α β}{r:A9 α}{r':A9 β}{f:α->β}{j off x}(c:B5 m X=some p)(k0:OJ A S h r p x)(g:FB r off r' f)(i:eJ P t j off=true)(hd:Nat.blt d n.1=true)
  (k:∀q,OJ A S h r' q (f x)->QF P ops C Q rest n ((d,q)::m)):QF P ops C Q (⟨some d,.fieldAddr t X j,ty,pos,af,none⟩::rest) n m:=λ_ b=>Afb b c k0 g i hd λq a b l=>k q l a b
def Ad8{α}{r:A9 α}{l:List α}{e i x}(c:B5 m X=some v)(g:B5 m Y=some (.int .i64 i))(k0:Sl S h r v l)(j:Q4 P t e r.sz=true)(h0:0<=i)(o:l[i.toNat]? =some x)(hd:Nat.blt d n.1=true)
  (k:∀q,Pt S h r q x->QF P ops C Q rest n ((d,q)::m)):QF P ops C Q (⟨some d,.indexAddr t X Y,ty,pos,af,none⟩::rest) n m:=λ_ b=>Ae8 b c g k0 j h0 o hd λq a b p=>k q p a b
def Aau{α}{r:A9 α}{l:List α}{T e i x}(p:St S L h)(s:OS r T v l∈L)(u:B5 m X=some v)(y:B5 m Y=some (.int .i64 i))(z:Q4 P t e r.sz=true)(h0:0<=i)(o:l[i.toNat]? =some x)(hd:Nat.blt d n.1=true)
  (k:∀q,OJ (λb=>b<h.size) S h r q x->EP v (i.toNat*r.sz) q->QF P ops C Q rest n ((d,q)::m)):QF P ops C Q (⟨some d,.indexAddr t X Y,ty,pos,af,none⟩::rest) n m:=by
 obtain⟨g,cap,rfl,A⟩:=p.osAt s o;have B:i.toNat<l.length:=(Ag0.1 o).1;have c:(⟨g,0,none⟩:Addr).add (i.toNat*r.sz)=⟨g,i.toNat*r.sz,none⟩:=by unfold Addr.add;split<;>simp_all
 intro a j;refine GH j hd (λw _=>by simp[execOp,j.eval u,j.eval y,NF (P:=P) (w:=w) (cap:=cap) (a:=⟨g,0,none⟩) z h0 B,c]) (k _ A ⟨g,_,_,rfl,rfl⟩)
def LX{α}{r:A9 α}{l:List α}{aty e}(c:B5 m X=some v)(k0:Sl S h r v l)(g:Q4 P t e r.sz=true)(hd:Nat.blt d n.1=true)
  (k:l.length<=maxLen->QF P ops C Q rest n ((d,.int .i64 l.length)::m)):QF P ops C Q (⟨some d,.call ⟨.builtin .len,#[X],#[t]⟩,aty,pos,af,none⟩::rest) n m:=λ_ b=>Ab4 b c k0 g hd λa b i=>k i a b
def Qt{α}{r:A9 α}{l:List α}{T aty e sz}(b:St S L h)(c:OS r T v l∈L)(g:B5 m X=some v)(i:Q4 P t e sz=true)(hd:Nat.blt d n.1=true)
  (k:l.length<=maxLen->QF P ops C Q rest n ((d,.int .i64 l.length)::m)):QF P ops C Q (⟨some d,.call ⟨.builtin .len,#[X],#[t]⟩,aty,pos,af,none⟩::rest) n m:=by
 obtain⟨j,cap,rfl,a⟩:=b.oslen c;exact Qs g i hd (k a)
def Fk{T b o sz:Nat}{cs:List Value}(a:CK C h)(c:St S L h)(g:B5 m X=some (.pointer (some ⟨b,o,none⟩)))(i:Bx b T cs∈L)(j:(cs.drop o).take sz=vs)(l:Nat.beq vs.length sz=true)(p:LD P t sz ag=true)(q:(ag||Nat.beq sz 1)=true)(hd:Nat.blt d n.1=true)
  (k:QF P ops C Q rest n ((d,if ag then .agg vs.toArray else vs.headD undef)::m)):QF P ops C Q (⟨some d,.load t X,ty,pos,af,none⟩::rest) n m:=λ_ s=>Ab6 a c s g i j l p q hd k
end
def rO{c:Array TypeId}{a:List Value}{h B}
  (l:B5 m X=some (.func (.func f) first cap)) (g:xs.toList.mapM (B5 m)=some a) (i:first.toList++a++cap.toList=vs) (j:BI P f=true) (hd:Nat.blt d n.1=true)
  (o:∀h',Ef h h'->CG P f vs.toArray (λb=>b<h'.size) h' (λu _ _=>u=v))
  (k:QF P ops (Cl B h) Q rest n ((d,v)::m)):QF P ops (Cl B h) Q (⟨some d,.call ⟨.value X,xs,c⟩,ty,pos,af,none⟩::rest) n m:=λ_ p=>wQ p l g i j hd o k
end
section
variable{P:Program}{ops:Array Oper}{Q:Exit->Act->World->Prop}{n:FN}{m:SM}{rest:List Oper}
variable{d:Nat}{ty:TypeId}{pos:String}{af:Array Edge}{X Y:Operand}{B:World}{h:AV}{S:Nat->Prop}{L L2:List HP}{v:Value}
def OD{T:TypeId}{cs:List Value}(j:B5 m X=some v)(l:v.cells=cs.toArray)(hd:Nat.blt d n.1=true)(c:St S L h)
  (k:∀b h',St S (Bx b T cs::L) h'->CO S h S h'->LF P ops Q rest B h' n ((d,.pointer (some ⟨b,0,none⟩))::m)):LF P ops Q (⟨some d,.box T X,ty,pos,af,none⟩::rest) B h n m:=
 λ_ _ g i=>tD g j l hd i c λb a w h' g i c e=>k b h' c e a w g i
def CC{T:TypeId}{α}{r:A9 α}{x:α}(i:B5 m X=some v)(j:Rd S h r v x)(l:r.ag=false->r.sz=1)(hd:Nat.blt d n.1=true)(b:St S L h)
  (k:∀p S' h',St S' L h'->CO S h S' h'->Pt S' h' r p x->LF P ops Q rest B h' n ((d,p)::m)):LF P ops Q (⟨some d,.box T X,ty,pos,af,none⟩::rest) B h n m:=
 λ_ _ c g=>xD c i j l hd g b λp a w S' h' c g b e kp=>k p S' h' b e kp a w c g
def DT{T:TypeId}{cs:List Value}(j:E8 P T=some cs)(hd:Nat.blt d n.1=true)(c:St S L h)
  (k:∀b h',St S (Bx b T cs::L) h'->CO S h S h'->LF P ops Q rest B h' n ((d,.pointer (some ⟨b,0,none⟩))::m)):LF P ops Q (⟨some d,.alloc T,ty,pos,af,none⟩::rest) B h n m:=
 λ_ _ g i=>Afh g j hd i c λb a w h' g i c e=>k b h' c e a w g i
def NT{T l:TypeId}{b o:Nat}{cs cs':List Value}{sz:Nat}(p:B5 m X=some (.pointer (some ⟨b,o,none⟩)))(q:B5 m Y=some v)(s:v.cells=vs.toArray)(t:∀u∈vs,u.oneCell'=true)
  (x:LD P T sz ag=true) (d:vs.length=sz) (g:St S L h) (r:Nm L (Bx b l cs) (Bx b l cs') L2) (c:Nat.ble (o+sz) cs.length=true) (y:IY cs o vs=cs')
  (k:∀h',St S L2 h'->CO S h S h'->LF P ops Q rest B h' n m):LF P ops Q (⟨none,.store T X Y,ty,pos,af,none⟩::rest) B h n m:=
 λ_ _ i j=>Afe i p q s t x d c y j g r λa w h' i j g e=>k h' g e a w i j
def Aec{α}{r:A9 α}{T sz b:Nat}{z:List Value}{zx:α}{len cap:Nat}{q s:IntKind}(t:OI P T=some (e,sz,b,z))(c:r.sz=sz)(u:r.rd S h z zx)
  (x:B5 m U=some (.int q (len:Nat))) (y:B5 m V=some (.int s (cap:Nat))) (g:len<=cap) (i:b*cap<=281474976710656) (j:cap<=maxLen) (hd:Nat.blt d n.1=true) (l:St S L h)
  (k:∀v h',St S (OS r e v (List.replicate len zx)::L) h'->CO S h S h'->LF P ops Q rest B h' n ((d,v)::m)):LF P ops Q (⟨some d,.makeSlice T U V,ty,pos,af,none⟩::rest) B h n m:=
 λ_ _ o p=>Aff o t c u x y g i j hd p l λv a w h' o p l e=>k v h' l e a w o p
def sB{α}{r:A9 α}{T sz i:Nat}{z:List Value}{l xs:List α}{x y b:Nat}{LL:Value->List HP}(A:B5 m X=some v)(C:B5 m Y=some (.slice (some ⟨x,0,none⟩) b sc))(D:OI P T=some (e,sz,i,z))(j:r.sz=sz)
  (F:Bx x y c∈L) (G:M6 S h r c xs) (o:b=xs.length) (p:l.length+xs.length<=maxLen) (q:NR (l.length+xs.length) i) (hd:Nat.blt d n.1=true) (s:St S L h) (H:∀g,Nm L (OS r e v l) (OS r e g (l++xs)) (LL g))
  (k:∀g h',St S (LL g) h'->CO S h S h'->LF P ops Q rest B h' n ((d,g)::m)):LF P ops Q (⟨some d,.call ⟨.builtin .append,#[X,Y],#[T,T]⟩,ty,pos,af,none⟩::rest) B h n m:=
 λ_ _ t u=>xF t A C D j F G o p q hd u s H λg a w h' t u s e=>k g h' s e a w t u
def nM{T sz g len:Nat}{z cs:List Value}{c:Array (Nat×Operand)}(t:OI P T=some (e,sz,g,z))(u:c.toList.mapM (cZ m)=some pv)
  (v:Nh (Wh sz len) (List.replicate len z).flatten pv=some cs) (i:Nat.blt 0 len=true) (j:Nat.ble (len*sz) 16777216=true) (l:∀p∈pv,p.1<len) (hd:Nat.blt d n.1=true) (o:St S L h)
  (k:∀b h',St S (Bx b e cs::L) h'->CO S h S h'->LF P ops Q rest B h' n ((d,.slice (some ⟨b,0,none⟩) len len)::m)):LF P ops Q (⟨some d,.buildSlice T len c,ty,pos,af,none⟩::rest) B h n m:=
 λ_ _ q s=>Afg q t u v i j hd s o l λb a w h' q s o e=>k b h' o e a w q s
def Ch{g:Array TypeId}{b:List Value}{c:Value->(Nat->Prop)->AV->Prop}
  (s:B5 m X=some (.func (.func f) first cap)) (i:xs.toList.mapM (B5 m)=some b) (j:first.toList++b++cap.toList=vs) (l:BI P f=true) (hd:Nat.blt d n.1=true) (t:CG P f vs.toArray S h c)
  (k:∀v S' h',CO S h S' h'->c v S' h'->LF P ops Q rest B h' n ((d,v)::m)):LF P ops Q (⟨some d,.call ⟨.value X,xs,g⟩,ty,pos,af,none⟩::rest) B h n m:=
 λ_ _ o q=>kD o s i j l hd q t λv a w S' h' o q e p=>k v S' h' e p a w o q
end
def gt{α}[Inhabited α](l:List α)(i:Int):α:=l.getD i.toNat default
def gd{α}[Inhabited α]{l:List α}{i:Int}(h0:0<=i)(h:i<(l.length:Int)):l[i.toNat]? =some (gt l i):=by
 have:i.toNat<l.length:=Ω
 simp[gt,List.getD,Agw this]
instance:Inhabited ByteArray:=⟨.empty⟩
def Sl.one{α S h}{r:A9 α}{v l}(k:Sl S h r v l):v.oneCell'=true:=by
 rcases k with⟨rfl,_⟩|⟨a,c,rfl,_⟩<;>rfl
section
variable{P:Program}{ex ex':List (Nat×AP)}{R N N':AP}{cs cs':List Code}{B:World}{h:AV}{n:FN}{m m':SM}{S:Nat->Prop}{L:List HP}
def IA{i:Nat}(b:xB ex i=some (W P ex' R cs' N'))(k:WF P ex' R cs' N' B h n m):WF P ex R (.exit i::cs) N B h n m:=λa w c d=>fH b (k a w c d)
def BF(k:WF P ex' R cs' N' B h n m):WF P ex R [] (W P ex' R cs' N') B h n m:=λa w b c=>k a w b c
def AL{a w}(k:WF P ex R cs N B h n m)(b:Fr n a m)(c:Wd B h w):W P ex R cs N a w:=k a w b c
end
section
variable{P:Program}{ops:Array Oper}{C:World->Prop}{Q:Act->Prop}{n:FN}{m m':SM}{rest:List Oper}
variable{d:Nat}{ty:TypeId}{pos:String}{af:Array Edge}{X Y:Operand}{t t1 t2:TypeId}{x y:Int}{kd:IntKind}{v p:Value}{A S:Nat->Prop}{L:List HP}{h:AV}
def A3(j d:Nat)(v:Value){l:List Oper}(b:QF P ops C (λa=>Fr n a ((d,v)::m)) (l.take j) n m)(c:QF P ops C Q (l.drop j) n ((d,v)::m)):QF P ops C Q l n m:=Aaz j _ b c
end
def RV(P:Program)(w:World)(a:Act):ResultVar->Value->Prop
 | .tmp t,v=>a.tmps.getD t undef=v
 | .cell t T,v=>∀b:World,b.heap=w.heap->(do loadVar T (<-asAddr (a.tmps.getD t undef)):Sem Value).run P b= .ok v b
def eL(P:Program)(w:World)(a:Act):List ResultVar->List Value->Prop
 |[],[]=>True
 |r::b,v::vs=>RV P w a r v/\eL P w a b vs
 |_,_=>False
def Abr:List Value->Value
 |[v]=>v
 |vs=> .tuple vs.toArray
def Xv{fn:Func}{b:List ResultVar}(l:fn.results.toList=b)(k:eL P w a b vs):(results fn a.tmps).run P w= .ok (Abr vs) w:=by
 have g:∀(b:List ResultVar)(vs:List Value),eL P w a b vs->(b.mapM λr:ResultVar=>(match r with
   | .tmp t=>pure (a.tmps.getD t undef)
   | .cell c t=>do loadVar t (<-asAddr (a.tmps.getD c undef)):Sem Value)).run P w= .ok vs w:=by
  intro b
  induction b with
  |nil=>intro vs k;cases vs with
   |nil=>simp
   |cons _ _=>exact k.elim
  |cons r b m=>intro vs k;cases vs with
   |nil=>exact k.elim
   |cons v vs=>
    obtain⟨d,n⟩:=k;have i:=m vs n;cases r with
    |tmp t=>
     have d:a.tmps.getD t undef=v:=d;simp only[Ai9,Sem.run_bind,Sem.run_pure,Result.andThen_ok,i,d]
    |cell c t=>
     have d:(do loadVar t (<-asAddr (a.tmps.getD c undef)):Sem Value).run P w= .ok v w:=d w rfl;simp only[Ai9];rw[Sem.run_bind,d];simp only[Result.andThen_ok,Sem.run_bind,i,Sem.run_pure]
 have j:=g b vs k;unfold results;simp only[Array.mapM_eq_mapM_toList,l,Sem.run_bind,Sem.run_map];refine(Agt (λx=>(Result.andThen x λa w'=>Result.ok a.toArray w').andThen λa w'=>Sem.run P (pure (if h:a.size=1 then a[0] else Value.tuple a)) w') j).trans ?_;clear j g k
 match vs with
 |[]=>rfl
 |[v]=>rfl
 |_::_::_=>rfl
section
variable{P:Program}{fn:Func}{B:World}{S S':Nat->Prop}{h h':AV}{post:Value->(Nat->Prop)->AV->Prop}{n:FN}{a:Act}{m:SM}{w:World}{L:List HP}
def KR{t v}(b:Fr n a m)(c:lk m t=some v):RV P w a (.tmp t) v:=by
 have:=b.eval (X:= .tmp t) c;simpa[RV,Act.eval]using this
def Xu{t T b T' sz}{cs:List Value}(d:Fr n a m)(g:Wd B h w)(i:St S L h)(k:lk m t=some (.pointer (some ⟨b,0,none⟩)))(l:Bx b T' cs∈L)(o:LD P T sz true=true)(q:cs.length=sz):RV P w a (.cell t T) (.agg cs.toArray):=by
 obtain⟨F,s,_⟩:=i.get l;have c:=d.eval (X:= .tmp t) k;simp only[Act.eval]at c;intro u v;have:=Nx (P:=P) (w:=u) (S:=λ_=>True) (p:= .pointer (some ⟨b,0,none⟩)) (cs:=cs) ⟨⟨b,0,none⟩,rfl,rfl,trivial,λj _=>by rw[v,g.heap,Ahw,Bx.cell s]⟩ q o (λe=>by cases e);simp only[Instr.loadAt,Instr.sureAddr,Sem.run_bind,Sem.run_pure,Result.andThen_ok,if_true]at this;simp only[c,asAddr,Sem.run_bind,Sem.run_pure,Result.andThen_ok,this]
def WK{d:World}(g:d.heap=w.heap):∀{b:List ResultVar}{vs:List Value},eL P w a b vs->eL P d a b vs
 |[],[],_=>trivial
 |[],_::_,h=>h.elim
 |_::_,[],h=>h.elim
 |r::b,v::vs,⟨h,t⟩=>⟨by
   cases r with
   |tmp t=>exact h
   |cell c t=>exact λi j=>h i (j.trans g),WK g t⟩
def Kz:eL P w a [] []:=trivial
def Iv{r v rs vs}(k:RV P w a r v)(ks:eL P w a rs vs):eL P w a (r::rs) (v::vs):=⟨k,ks⟩
def K0{d:List ResultVar}{v:Value}(i:Fr (k,[]) a m)(j:fn.results.toList=d)(b:Wd B h' w)(l:eL P w a d vs)(n:Abr vs=v)(e:CO S h S' h')(kp:post v S' h'):Rt P fn B S h post a w:=by
 refine⟨[],i.dfr,List.nodup_nil,λD o=>(by cases o),λp q s t u x=>?_⟩;have g:=V1 u x;have c:Wd B h' p:=⟨g.trans b.heap,q.trans b.os,s.trans b.tape,t.trans b.out⟩
 exact⟨v,by rw[<-n];exact Xv j (WK g l),S',h',c,e,kp⟩
end
def sb{m:SM}(k:Nat){v:Value}{r:SM}(h:lk m k=some v)(s:VZ m r):VZ m ((k,v)::r):=⟨h,s⟩
def Ts{m:SM}:VZ m []:=trivial
section
variable{P:Program}{ex:List (Nat×AP)}{R N:AP}{cs:List Code}{B:World}{h:AV}{n:FN}{m m':SM}{S:Nat->Prop}{L:List HP}
end
def CG.pure{P f args S h}(k:CG P f args S h post):∃v S' h',post v S' h':=by
 let w:World:={ (default:World)with heap:=h}
 obtain⟨e,w',fr,⟨v,S',h',_,_,_,a⟩,_⟩:=k w w ⟨rfl,rfl,rfl,rfl⟩ [];exact⟨v,S',h',a⟩
def Kj{Q:Act->Prop}{n:FN}{m:SM}{ty:TypeId}{pos:String}{v:Value}{c:Array TypeId}{a:List Value}{h B}
  (q:B5 m X=some (.func (.func f) first cap)) (g:xs.toList.mapM (B5 m)=some a) (i:first.toList++a++cap.toList=vs) (j:BI P f=true) (hd:Nat.blt d n.1=true)
  (l:∀h',Ef h h'->CG P f vs.toArray (λb=>b<h'.size) h' (λu _ _=>u=v/\Ψ))
  (k:Ψ->QF P ops (Cl B h) Q rest n ((d,v)::m)):QF P ops (Cl B h) Q (⟨some d,.call ⟨.value X,xs,c⟩,ty,pos,af,none⟩::rest) n m:=by
 obtain⟨_,_,_,_,s⟩:=(l h (Ef.refl h)).pure;exact rO q g i j hd (λh' o=>(l h' o).mono λ_ _ _ _ p=>p.1) (k s)
section
variable{P:Program}{ops:Array Oper}{C:World->Prop}{Q:Act->Prop}{n:FN}{m m':SM}{rest:List Oper}{d:Nat}
def Aax(a:o.guard=some (j,true))(c:(ops[j]?).bind (·.dst)=some e)(g:lk m e=some (.bool false))(i:o.dst=some d)(hd:Nat.blt d n.1=true)(k:QF P ops C Q rest n ((d,undef)::m)):QF P ops C Q (o::rest) n m:=QF.gn (b:=false) a c g i hd k
end
def mh{α}{a:α}{l:List α}:a∈a::l:=List.Mem.head _
def mt{α}{a b:α}{l:List α}(h:a∈l):a∈b::l:=List.Mem.tail _ h
def XN{Q:Exit->Act->World->Prop}{n:FN}{m:SM}{ty:TypeId}{pos:String}{L:List HP}{v:Value}
  {α} {r:A9 α} {T e sz a:Nat} {z:List Value} {l xs:List α} {q s b sc:Nat} {c:List Value} {LL:Value->List HP} (t:B5 m X=some v) (u:B5 m Y=some (.slice (some ⟨q,0,none⟩) b sc)) (w:OI P T=some (e,sz,a,z)) (o:r.sz=sz)
  (x:Bx q s c∈L) (y:M6 S h r c xs) (p:b=xs.length) (g:Nat.blt 0 a=true) (i:NR (l.length+xs.length) a) (hd:Nat.blt d n.1=true) (A:St S L h) (C:∀j,Nm L (OS r e v l) (OS r e j (l++xs)) (LL j))
  (k:∀j h',St S (LL j) h'->CO S h S h'->LF P ops Q rest B h' n ((d,j)::m)):LF P ops Q (⟨some d,.call ⟨.builtin .append,#[X,Y],#[T,T]⟩,ty,pos,af,none⟩::rest) B h n m:=by
 have D:1<=a:=by simpa[Nat.blt]using g
 have F:l.length+xs.length<=(l.length+xs.length)*a:=Nat.le_mul_of_pos_right _ D;have G:=i.le;exact sB t u w o x y p (by unfold maxLen;omega) i hd A C k
section
variable{P:Program}{ops:Array Oper}{C:World->Prop}{Q:Act->Prop}{n:FN}{m m':SM}{rest:List Oper}{d:Nat}{ty:TypeId}{pos:String}{af:Array Edge}{X Y Z:Operand}{t1 t2 t3 aty:TypeId}{x y z:Int}{kd:IntKind}
def rK(c:B5 m X=some (.int kd x))(g:B5 m Y=some (.int kd y))(i:B5 m Z=some (.int kd z))(hd:Nat.blt d n.1=true)(k:QF P ops C Q rest n ((d,.int kd (Min.min (Min.min x y) z))::m)):QF P ops C Q (⟨some d,.call ⟨.builtin .min,#[X,Y,Z],#[t1,t2,t3]⟩,aty,pos,af,none⟩::rest) n m:=
 λa b=>GH b hd (λw _=>by
  have j:(if y<x then y else x)=Min.min x y:=by rw[Int.min_def];split<;>split<;>omega
  have l:(if z<Min.min x y then z else Min.min x y)=Min.min (Min.min x y) z:=by rw[Int.min_def (Min.min x y)];split<;>split<;>omega
  simp[execOp,resolve,invoke,builtin,Builtin.min_,Builtin.min2,b.eval c,b.eval g,b.eval i,j,l]) k
def Afx{t1 t2:TypeId}{a:Bool}(g:B5 m X=some (.bool a))(i:B5 m Y=some (.bool b))(j:P.underlying t1=some .bool)(hd:Nat.blt d n.1=true)(k:QF P ops C Q rest n ((d,.bool (a==b))::m)):QF P ops C Q (⟨some d,.binOp .eql t1 X Y t2,ty,pos,af,none⟩::rest) n m:=
 λ_ c=>GH c hd (λw _=>by
  have l:(eqGuard .eql t1 X Y (.bool a) (.bool b)).run P w= .ok () w:=by unfold eqGuard;simp
  have o:(Op.equal t1 (.bool a) (.bool b)).run P w= .ok (a==b) w:=run_equalIn_bool' w 9999 t1 a b j;simp[execOp,c.eval g,c.eval i,l,binOp,o]) k
def Yk{t1 t2:TypeId}{a b:ByteArray}(g:B5 m X=some (.string a))(i:B5 m Y=some (.string b))(hd:Nat.blt d n.1=true)(k:QF P ops C Q rest n ((d,.bool (a==b))::m)):QF P ops C Q (⟨some d,.binOp .eql t1 X Y t2,ty,pos,af,none⟩::rest) n m:=
 λ_ c=>GH c hd (λw _=>by
  have j:(eqGuard .eql t1 X Y (.string a) (.string b)).run P w= .ok () w:=by unfold eqGuard;simp
  simp[execOp,c.eval g,c.eval i,j,binOp,Op.stringOp,beq_toListBytes]) k
def Qr{t1:TypeId}{s:ByteArray}(b:B5 m X=some (.string s))(c:P.underlying t1=some .string)(hd:Nat.blt d n.1=true)(k:QF P ops C Q rest n ((d,.int .i64 s.size)::m)):QF P ops C Q (⟨some d,.call ⟨.builtin .len,#[X],#[t1]⟩,aty,pos,af,none⟩::rest) n m:=
 λ_ a=>GH a hd (λw _=>by simp[execOp,resolve,invoke,builtin,Builtin.len_,a.eval b,run_underlying c,goInt]) k
end
def qz(o:Oper):Oper:={ o with dst:=none,op:= .move (.const undef),guard:=none}
def SY(ops:Array Oper):Bool:=(List.range ops.size).all λi=>((ops[i]?).map λo=>o.after.all λe=> !Region.binds .any e||decide (e.on<i)).getD true
def kR(ops:Array Oper)(n:Nat):Bool:=(List.range ops.size).all λi=>((ops[i]?).map λo=>match o.guard with|some (j,_)=> !Nat.beq j n|none=>true).getD true
def Zw(ops:Array Oper)(n:Nat):Bool:=
 match ops[n]? with
 |some on=>Nat.beq (n+1) ops.size&&Region.sinkB .any ops n&&Region.chainB .any ops n&&SY ops&&kR ops n&&Region.lexB .any (ops.setIfInBounds n (qz on))
 |none=>false
section
variable{P:Program}{ops:Array Oper}{C:World->Prop}{n:Nat}{on:Oper}
def Wf(b:ops[n]? =some on)(i:Nat):(ops.setIfInBounds n (qz on))[i]? =if i=n then some (qz on) else ops[i]? :=by
 have a:n<ops.size:=(Ahu.1 b).1;rw[Aii];by_cases h:n=i
 ·subst h;simp[a]
 ·rw[Agn h,Agn (λe=>h e.symm)]
def Ue(b:ops[n]? =some on)(a:Array Bool):Region.ready .any (ops.setIfInBounds n (qz on)) a=Region.ready .any ops a:=by
 unfold Region.ready;simp only[Array.size_setIfInBounds];congr 1;funext i;rw[Wf b];by_cases h:i=n
 ·subst h;simp[b,qz]
 ·rw[Agn h]
def Ud(b:ops[n]? =some on)(h:j≠n)(a:Array Value):yielded (ops.setIfInBounds n (qz on)) a j=yielded ops a j:=by
 unfold yielded;rw[Wf b,Agn h]
def Nl{p:Nat->Bool}:∀k,p k=false->∃i,i<=k/\p i=false/\∀j,j<i->p j=true:=by
 intro k
 induction k using Nat.strongRecOn with
 |_ k c=>
  intro d;by_cases h:∃j,j<k/\p j=false
  ·obtain⟨j,a,b⟩:=h;obtain⟨i,m,g,l⟩:=c j a b;exact⟨i,Ω,g,l⟩
  ·refine⟨k,Ag5 _,d,λj a=>?_⟩;cases b:p j with
   |true=>rfl
   |false=>exact absurd ⟨j,a,b⟩ h
def Xl(y:ops[n]? =some on)(ab:n+1=ops.size)(hs:Region.sinkB .any ops n=true)(hc:Region.chainB .any ops n=true)(hb:SY ops=true)(hg:kR ops n=true):
  ∀(d:Nat)(c:Array Bool)(a:Act)(w:World),HeadInv .any ops n c->C w->
   wpAnyQ P .any (ops.setIfInBounds n (qz on)) C (λa=>∀w,C w->wpList P ops Q' [on] a w) d c a->wpAny P .any ops Q' d c a w:=by
 have z:n<ops.size:=Ω
 have o:∀c,HeadInv .any ops n c->Region.ready .any ops c≠[]:=by
  intro c k h0;have H:c.getD n true=false:=k.tail n (Ag5 _) z;obtain⟨i,t,Q,B⟩:=Nl (p:=λi=>c.getD i true) n H;have m:i<ops.size:=Ω
  have D:i∈Region.ready .any ops c:=by
   refine mem_ready.2 ⟨Q,ops[i],by simp[m],λe he U=>?_⟩;have u:=Agz.1 hb i (Ahy.2 m);have F:ops[i]? =some ops[i]:=by simp[m]
   rw[F]at u;simp only[Aix,Aic,Ajj]at u;have h6:=u e he;simp only[U,Ahm,Ajc,Ahb]at h6;have h7:=B e.on h6;have h8:e.on<c.size:=by rw[k.size];omega
   simp only[Aik,Ai8 h8,Aic]at h7 ⊢;exact h7
  rw[h0]at D;cases D
 intro d
 induction d with
 |zero=>
  intro c a w k _ h;have t:=h.1;rw[Ue y]at t;exact absurd t (o c k)
 |succ d ih=>
  intro c a w k hw h;refine⟨λh0=>absurd h0 (o c k),λi D=>?_⟩;have V:i∈Region.ready .any (ops.setIfInBounds n (qz on)) c:=by rw[Ue y];exact D
  have t:=h.2 i V;obtain⟨H,oi,x,_⟩:=mem_ready.1 D;have m:i<ops.size:=(Ahu.1 x).1;by_cases I:i=n
  ·subst I;have W:oi=on:=Ags (x.symm.trans y);subst W;have J:∀j,j<i->c.getD j true=true:=by
    intro j A;cases hl:c.getD j true with
    |true=>rfl
    |false=>exact absurd D (tail_waits hs hc z k _ j rfl A hl i (Ag5 _))
   have l:Region.ready .any ops (c.setIfInBounds i true)=[]:=by
    apply List.eq_nil_iff_forall_not_mem.2;intro j A;obtain⟨q,oj,X,_⟩:=mem_ready.1 A;have aa:j<ops.size:=(Ahu.1 X).1;have Y:i<c.size:=by rw[k.size];omega
    have ac:j<c.size:=by rw[k.size];omega
    simp only[Aik,Aii]at q;by_cases e:i=j
    ·subst e;simp[Y]at q
    ·rw[Agn e]at q;have:=J j Ω;simp only[Aik]at this;rw[this]at q;cases q
   unfold qOp at t;rw[Wf y,Agp rfl]at t;simp only at t;rw[Agp (by simp[Region.wanted,qz])]at t;obtain⟨v,_,Q⟩:=t;have hk:∀w,C w->wpList P ops Q' [oi] a w:=by
    cases d with
    |zero=>exact Q.2
    |succ f=>exact Q.1 (by rw[Ue y];exact l)
   have B:=hk w hw;unfold wpOp;simp only[y];unfold wpList at B;have hQ:∀K w',wpList P ops Q' [] K w'->wpAny P .any ops Q' d (c.setIfInBounds i true) K w':=by
    intro K w' hq;cases d with
    |zero=>exact⟨l,hq⟩
    |succ f=>exact⟨λ_=>hq,λj A=>by rw[l]at A;cases A⟩
   split
   ·rename_i s;rw[Agp s]at B;exact B.imp (Oper.wp_mono hQ) id
   ·rename_i s;rw[Agn s]at B;exact hQ _ _ B
  ·have M:i<n:=Ω
   have u:=wpOp_of_qOp (Q':=Q') hw (K':=wpAny P .any ops Q' d (c.setIfInBounds i true)) (λK w' s h'=>ih _ K w' (k.set D M) s h') t;unfold wpOp at u ⊢;rw[Wf y,Agn I]at u;simp only[x]at u ⊢;have G:Region.wanted oi (yielded (ops.setIfInBounds n (qz on)) a.tmps)=Region.wanted oi (yielded ops a.tmps):=by
    have F:=Agz.1 hg i (Ahy.2 m);rw[x]at F;simp only[Aix,Aic]at F;unfold Region.wanted;cases Z:oi.guard with
    |none=>rfl
    |some g=>
     obtain⟨j,b⟩:=g;rw[Z]at F;simp only[Ahn]at F;have A:j≠n:=λe=>by subst e;simp at F
     simp only[Ud y A]
   rw[G]at u;exact u
def Pq{c:Array Oper}{Q:Act->Prop}(i:∀(j:Nat)(d:Array Value),j<n->yielded c d j=yielded ops d j):
  ∀(l:List Oper)(a:Act),(∀o∈l,∀j b,o.guard=some (j,b)->j<n)->wpQuiet P ops C Q l a->wpQuiet P c C Q l a
 |[],_,_,h=>h
 |o::l,a,k,h=>by
  have s:Region.wanted o (yielded c a.tmps)=Region.wanted o (yielded ops a.tmps):=by
   unfold Region.wanted;cases m:o.guard with
   |none=>rfl
   |some g=>obtain⟨j,b⟩:=g;simp only;rw[i j _ (k o (by simp) j b m)]
  unfold wpQuiet at h ⊢;rw[s];split
  ·rename_i p;rw[Agp p]at h;obtain⟨v,t,u⟩:=h;exact⟨v,t,Pq i l _ (λo q=>k o (by simp[q])) u⟩
  ·rename_i p;rw[Agn p]at h;exact Pq i l _ (λo q=>k o (by simp[q])) h
def kT(l:List Oper)(n:Nat):Bool:=l.all λo=>match o.guard with|some (j,_)=>Nat.blt j n|none=>true
def Pp{l:List Oper}(v:RD D (.region bytes l.toArray true))(H:∀a w,¬Q' .outgrown a w)(n:Nat)(I:P.follows .mixedOrders=true)(m:Zw l.toArray n=true)(x:kT (l.take n) n=true)(J:C { w with drawn:=w.drawn+1})
  (h:wpQuiet P l.toArray C (λa=>∀w,C w->wpList P l.toArray Q' (l.drop n) a w) (l.take n) a):(Code.region bytes l.toArray true).wpIn (FF D) 0 P Q' a w:=by
 unfold Zw at m;split at m
 ·rename_i on y;simp only[Agu]at m;obtain⟨⟨⟨⟨⟨K,M⟩,Q⟩,U⟩,V⟩,z⟩:=m;have p:=Ag1 K;have F:n+1=l.length:=by simpa using p
  have k:l.drop n=[on]:=by
   have A:l[n]? =some on:=by simpa using y
   have d:n<l.length:=Ω
   rw[Ai2 d,Ais Ω];have:=Agw d;rw[A]at this;rw[<-Ags this]
  rw[k]at h;have q:(l.toArray.setIfInBounds n (qz on)).toList=l.take n++[qz on]:=by
   have d:n<l.length:=Ω
   rw[List.setIfInBounds_toArray,List.set_eq_take_append_cons_drop,Agp d,Ais Ω]
  have W:wpQuiet P (l.toArray.setIfInBounds n (qz on)) C (λa=>∀w,C w->wpList P l.toArray Q' [on] a w) (l.take n++[qz on]) a:=by
   refine Vm n (λa=>∀w,C w->wpList P l.toArray Q' [on] a w) ?_ λa' X=>?_
   ·have e:(l.take n++[qz on]).take n=l.take n:=by
     have:(l.take n).length=n:=by simp;omega
     rw[List.take_append_of_le_length Ω,Ajk,Nat.min_self]
    rw[e];refine Pq (n:=n) (λj s hj=>Ud y Ω s) _ _ (λo Y j b B=>?_) h;have:=Agz.1 x o Y;rw[B]at this;have h8:j+1<=n:=by simpa[Nat.blt]using this
    omega
   ·have e:(l.take n++[qz on]).drop n=[qz on]:=by
     have:(l.take n).length=n:=by simp;omega
     rw[List.drop_append_of_le_length Ω,Ais Ω,Ag3]
    rw[e];unfold wpQuiet;rw[Agp (by simp[Region.wanted,qz])];exact⟨undef,λw _=>by unfold Oper.quietAt;simp[execOp,qz,Act.eval,Oper.quietUpon],X⟩
  simp only[Region.lexB,Agu]at z;refine RZ v H I ?_;have g:(l.toArray.setIfInBounds n (qz on)).size=l.toArray.size:=by simp
  have c:(l.take n++[qz on]).length=l.toArray.size:=by rw[<-q,Array.length_toList,g]
  have u:HeadInv .any l.toArray n (Array.replicate l.toArray.size false):=
   ⟨by simp,λj oj _ G=>(by rw[getD_replicate_false]at G;cases G),λt _ Z=>getD_in (by simpa using Z) (getD_replicate_false _ _)⟩
  have i:=wpAnyQ_lex (P:=P) (C:=C) (md:= .any) z.1 (l.take n++[qz on]) 0 (Array.replicate l.toArray.size false) a (λj=>by rw[<-q];simp) (by rw[c,<-g];exact z.2) W;rw[c]at i;exact Xl y p M Q U V _ _ _ _ u J i
 ·cases m
end
section
variable{P:Program}{ex:List (Nat×AP)}{R N:AP}{cs:List Code}{B:World}{h:AV}{n:FN}{m:SM}{S:Nat->Prop}{L:List HP}
def Aae{l:List Oper}(j:Nat)(c:P.follows .mixedOrders=true)(d:Zw l.toArray j=true)(b:kT (l.take j) j=true)
  (k:QF P l.toArray (Wd B h) (λa=>∀w,Wd B h w->wpList P l.toArray (Qx ex R (W P ex R cs N)) (l.drop j) a w) (l.take j) n m):WF P ex R (.region bytes l.toArray true::cs) N B h n m:=
 λa _ g i _ hd=>Pp hd OY j c d b i.drew (k a g)
def Na{l:List Oper}(j:Nat)(g:P.follows .mixedOrders=true)(i:Zw l.toArray j=true)(b:kT (l.take j) j=true)(c:St S L h)
  (k:QF P l.toArray (Cl B h) (λa=>∀w h',Wd B h' w->St S L h'->CO S h S h'->wpList P l.toArray (Qx ex R (W P ex R cs N)) (l.drop j) a w) (l.take j) n m):WF P ex R (.region bytes l.toArray true::cs) N B h n m:=by
 intro a w o p t hd;refine Pp hd OY (C:=Cl B h) j g i b ⟨h,p.drew,Ef.refl h⟩ ?_;refine Vm j (λa=>∀w h',Wd B h' w->St S L h'->CO S h S h'->wpList P l.toArray (Qx ex R (W P ex R cs N)) (l.drop j) a w) (by rw[Ajk,Nat.min_self];exact k a o) λu q=>?_;have e:(l.take j).drop j=[]:=by rw[Ais];simp;omega
 rw[e];exact λw' ⟨h',s,d⟩=>q w' h' s (d.st c) (d.ext c.1)
def Lo{C}{Q:Exit->Act->World->Prop}{l:List Oper}(k:∀h',St S L h'->CO S h S h'->LF P ops Q l B h' n m):QF P ops C (λa=>∀w h',Wd B h' w->St S L h'->CO S h S h'->wpList P ops Q l a w) [] n m:=
 λa b w h' c s e=>k h' s e a w b c
end
def ix{α}(l:List α)(i:Int):Option α:=if i<0 then none else l[i.toNat]?
def upd{α}(l:List α)(i:Int)(x:α):List α:=l.set i.toNat x
def chk{α}(b:Bool)(x:Option α):Option α:=cond b x none
def HN(n a:Nat):Bool:=decide (n*a<=140737488355328)||(decide (n*a<=175921860444160)&&decide (a<=274877906944))
def ME(len cap:Int)(a:Nat):Bool:=decide (0<=len)&&decide (len<=cap)&&decide (a*cap<=140737488355328)
def bd{α β}{a:Option α}{f:α->Option β}{r}(e:a.bind f=some r):∃x,a=some x/\f x=some r:=Aiq.1 e
def Hk{α}{x y r:α}(h:b=true)(e:cond b x y=r):x=r:=by subst h;exact e
def Hl{α}{x y r:α}(h:b=false)(e:cond b x y=r):y=r:=by subst h;exact e
def MF{α}{x:Option α}{r}(e:chk b x=some r):b=true/\x=some r:=by
 cases b with
 |false=>cases e
 |true=>exact⟨rfl,e⟩
def FQ{α}{l:List α}{i:Int}{x:α}(h:ix l i=some x):0<=i/\l[i.toNat]? =some x:=by
 unfold ix at h;split at h
 ·cases h
 ·exact⟨Ω,h⟩
def Acm{α}{l:List α}{i:Int}{x:α}(h:ix l i=some x):0<=i/\i<(l.length:Int):=by
 obtain⟨a,b⟩:=FQ h;have:=(Ag0.1 b).1;exact⟨a,Ω⟩
def Oq{n a:Nat}(h:HN n a=true):NR n a:=by simpa[HN,NR]using h
def TA{x:Int}(a:AB x)(b:AB y):AB (max x y):=by unfold AB at *;omega
def Ox{x:Int}(a:AB x)(b:AB y):AB (min x y):=by unfold AB at *;omega
def St.pick{S L h H L2}(a:St S L h)(p:RA L H L2):St S (H::L2) h:=⟨a.1,Sp.pick p a.2⟩
def HP.Flat(H:HP):Prop:=∀{S S' F h},H.holds S F h->H.holds S' F h
variable {LL:Value->List HP}
def A9.Flat{α}(r:A9 α):Prop:=∀{S h S' h' cs x},r.rd S h cs x->r.rd S' h' cs x
def M6.flat{α}{r:A9 α}(f:r.Flat){S h S' h'}:∀{l:List α}{cs},M6 S h r cs l->M6 S' h' r cs l
 |[],_,k=>k
 |_::_,_,⟨a,b,e,c,d⟩=>⟨a,b,e,f c,d.flat f⟩
def OS.flat{α}{r:A9 α}{T v l}(f:r.Flat):(OS r T v l).Flat:=λ{_ _ _ _} k=>by
 rcases k with k|⟨g,cap,cur,k1,k2,k3,k4,k5,k6,k7⟩
 ·exact .inl k
 ·exact .inr ⟨g,cap,cur,k1,k2,k3,k4,k5,k6,k7.flat f⟩
def XU:List HP->Prop
 |[]=>True
 |H::M=>H.Flat/\XU M
def Sp.join{S S':Nat->Prop}{h}{L:List HP}:∀{M:List HP}{c d A:Nat->Prop},XU M->Sp S' M h c->Sp S L h d->(∀b,c b->A b)->(∀b,d b->A b)->(∀b,c b->¬d b)->Sp S (M++L) h A
 |[],c,d,A,_,_,g,_,i,_=>g.mono i
 |H::M,c,d,A,⟨f,m⟩,⟨F,n,j,o⟩,g,k,i,l=>
  ⟨F,f n,λb a=>k b (j b a),Sp.join m o g (λb a=>⟨k b a.1,a.2⟩) (λb a=>⟨i b a,λp=>l b (j b p) a⟩) λb a=>l b a.1⟩
def St.join{S S' L M h h'}(d:St S L h)(e:CO (λb=>b<h.size) h S' h')(g:St S' M h')(f:XU M):St S (M++L) h':=by
 refine⟨λb a=>Ag6 (d.1 b a) e.siz,?_⟩;have i:Sp S L h' (λb=>b<h.size/\¬S b):=Sp.ext d.2 (λ_ x=>x) (λb a=>e.same b (a.elim (d.1 b) (·.1))) λ_ x=>x;exact Sp.join f g.2 i (λb a=>⟨a.1,λc=>a.2 (e.sub b (d.1 b c))⟩) (λb a=>⟨Ag6 a.1 e.siz,a.2⟩) λb a c=>a.2 (e.sub b c.1)
def NQ{α β}(r:A9 α)(off:Nat)(r':A9 β)(g:α->β->α):Prop:=
 off+r'.sz<=r.sz/\∀{S h c x vs y},r.rd S h c x->r'.rd S h vs y->r.rd S h (IY c off vs) (g x y)
def FB.id{α}{r:A9 α}:FB r 0 r (λx=>x):=λ{S h cs x} k=>by
 have:=r.len k;simp only[List.drop_zero,<-this,Ahe];exact k
def FB.trans{α β γ}{r:A9 α}{c:A9 β}{d:A9 γ}{o1 o2 f g}(a:FB r o1 c f)(b:FB c o2 d g)(i:o2+d.sz<=c.sz):FB r (o1+o2) d (λx=>g (f x)):=λ{S h cs x} k=>by
 have:=b (a k);rw[List.drop_take,List.drop_drop,Ajk]at this;rw[Ajd Ω]at this;exact this
def NQ.id{α}{r:A9 α}:NQ r 0 r (λ_ y=>y):=⟨Ω,λ{S h c x vs y} b a=>by
 have d:=r.len b;have g:=r.len a;simp only[IY,Ah4,Ag3,Ahw];rw[List.drop_of_length_le Ω,Ahz];exact a⟩
def NQ.trans{α β γ}{r:A9 α}{d:A9 β}{g:A9 γ}{o1 o2 f g1 g2}(a:NQ r o1 d g1)(k:FB r o1 d f)(b:NQ d o2 g g2):NQ r (o1+o2) g (λx y=>g1 x (g2 (f x) y)):=by
 refine⟨by have:=a.1;have:=b.1;omega,λ{S h c x vs y} i j=>?_⟩;have l:=k i;have m:=b.2 l j;have n:=a.2 i m;have t:=r.len i;have u:=g.len j;have v:=a.1;have w:=b.1;have:IY c (o1+o2) vs=IY c o1 (IY ((c.drop o1).take d.sz) o2 vs):=by
  unfold IY;have l1:((c.drop o1).take d.sz).length=d.sz:=by simp;omega
  simp only[Ahh,Ah3,Ai7];rw[Ajk,Ajd Ω,List.drop_take,List.drop_drop];have o:c.take (o1+o2)=c.take o1++(c.drop o1).take o2:=List.take_add ..;rw[o];simp only[Ah0,List.append_cancel_left_eq];have p:o1+(min o2 (min d.sz (c.length-o1))+vs.length+(min d.sz (c.length-o1)-(o2+vs.length)))=o1+d.sz:=Ω
  rw[p];have q:c.drop (o1+(o2+vs.length))=(c.drop (o1+(o2+vs.length))).take (d.sz-(o2+vs.length))++(c.drop (o1+(o2+vs.length))).drop (d.sz-(o2+vs.length)):=(List.take_append_drop _ _).symm;have s:(c.drop (o1+(o2+vs.length))).drop (d.sz-(o2+vs.length))=c.drop (o1+d.sz):=by rw[List.drop_drop];congr 1;omega
  rw[<-s,Nat.add_assoc];exact q
 rw[this];exact n
def xT{g:Nat}:(⟨g,k,none⟩:Addr).add off=⟨g,k+off,none⟩:=by unfold Addr.add;split<;>simp_all
def St.epAt{α β}{r:A9 α}{r':A9 β}{S L h T v l i x off f q}(o:St S L h)(p:OS r T v l∈L)(s:ix l i=some x)(t:FB r off r' f)(u:EP v (i.toNat*r.sz+off) q):OJ (λb=>b<h.size) S h r' q (f x):=by
 obtain⟨g,cap,rfl,k⟩:=o.osAt p (FQ s).2;obtain⟨w,n,c,d,rfl⟩:=u;injection d with d
 injection d with d
 injection d with d
 subst d;obtain⟨a,j,m⟩:=k.fld t;injection j with j
 injection j with j
 subst j;rw[xT]at m;exact m
def A9.fn{t u:Type}(P:Program)(k:t->List Value)(l:t->Prop)(m:u->Value)(d:u->Prop):A9 (t->Option u) where
 sz:=1
 ag:=false
 rd:=λS h cs w=>∃(f:FuncId)(a:Array Value),cs=[.func (.func f) #[] a]/\BI P f=true/\∀(S':Nat->Prop)(h':AV),(∀b,S b->S' b)->(∀b,S b->h'[b]? =h[b]?)->∀L,St S' L h'->∀x y,l x->w x=some y->
  CG P f (k x++a.toList).toArray S' h' (λv g i=>v=m y/\d y/\St g L i)
 len:=λ⟨_,_,h,_⟩=>by rw[h];rfl
 one:=λ⟨_,_,h,_⟩ v j=>by rw[h]at j;simp at j;rw[j];rfl
 mono:=λ⟨f,a,n,o,p⟩ s e=>⟨f,a,n,o,λS' h' s' q=>p S' h' (λb c=>s' b (s b c)) λb c=>(q b (s b c)).trans (e b c)⟩
def Rd.fn{m n:Type}{i:m->List Value}{j:m->Prop}{l:n->Value}{c:n->Prop}{S h v}{o:m->Option n}(k:Rd S h (A9.fn P i j l c) v o):
  ∃(f:FuncId)(a:Array Value),v= .func (.func f) #[] a/\BI P f=true/\∀(S':Nat->Prop)(h':AV),(∀b,S b->S' b)->(∀b,S b->h'[b]? =h[b]?)->∀L,St S' L h'->∀x y,j x->o x=some y->
  CG P f (i x++a.toList).toArray S' h' (λv d g=>v=l y/\c y/\St d L g):=by
 obtain⟨_,rfl,f,a,rfl,h⟩:=k;exact⟨f,a,rfl,h⟩
def Rd.ofFn{n o:Type}{i:n->List Value}{j:n->Prop}{k:o->Value}{c:o->Prop}{S h}{p:n->Option o}(f:FuncId)(a:Array Value)(l:BI P f=true)
  (m:∀(S':Nat->Prop)(h':AV),(∀b,S b->S' b)->(∀b,S b->h'[b]? =h[b]?)->∀L,St S' L h'->∀x y,j x->p x=some y->CG P f (i x++a.toList).toArray S' h' (λv d g=>v=k y/\c y/\St d L g)):
  Rd S h (A9.fn P i j k c) (.func (.func f) #[] a) p:=⟨_,rfl,f,a,rfl,l,m⟩
def OJ.mono''{α S h S' h'}{r:A9 α}{p x}(k:Pt S h r p x)(s:∀b,S b->S' b)(e:∀b,S b->h'[b]? =h[b]?):Pt S' h' r p x:=
 let ⟨cs,a,c⟩:=k;⟨cs,a.mono s e,r.mono c s e⟩
def Rd.mono''{α S h S' h'}{r:A9 α}{v x}(k:Rd S h r v x)(s:∀b,S b->S' b)(e:∀b,S b->h'[b]? =h[b]?):Rd S' h' r v x:=
 let ⟨cs,a,c⟩:=k;⟨cs,a,r.mono c s e⟩
def St.pubb{S L L2 h b T cs}{α}{r:A9 α}{x:α}(d:St S L h)(p:RA L (Bx b T cs) L2)(g:r.rd S h cs x):∃S',St S' L2 h/\CO S h S' h/\Pt S' h r (.pointer (some ⟨b,0,none⟩)) x:=by
 obtain⟨F,c,k,i,a⟩:=d.pub p;exact⟨_,i,a,cs,⟨⟨b,0,none⟩,rfl,rfl,.inr ((c.1 b).2 rfl),λj _=>by simp only[Ahw];exact Bx.cell c j⟩,r.mono g a.sub a.same⟩
section
variable{P:Program}{ops:Array Oper}{C:World->Prop}{Q:Act->Prop}{n:FN}{m m':SM}{rest:List Oper}
variable{d:Nat}{ty:TypeId}{pos:String}{af:Array Edge}{X Y:Operand}{t t1 t2:TypeId}{x y z:Int}{kd:IntKind}{v p:Value}{S:Nat->Prop}{L:List HP}{h:AV}
def Oc{α}{r:A9 α}{l:List α}{e i x}(b:B5 m X=some v)(c:B5 m Y=some (.int .i64 i))(k0:Sl S h r v l)(g:Q4 P t e r.sz=true)(a:Go.Proofs.YtabonambpbofgaaGreat.ix l i=some x)(hd:Nat.blt d n.1=true)
  (k:∀q,Pt S h r q x->QF P ops C Q rest n ((d,q)::m)):QF P ops C Q (⟨some d,.indexAddr t X Y,ty,pos,af,none⟩::rest) n m:=Ad8 b c k0 g (FQ a).1 (FQ a).2 hd k
def BU{α}{r:A9 α}{l:List α}{T e i x}(b:St S L h)(c:OS r T v l∈L)(g:B5 m X=some v)(j:B5 m Y=some (.int .i64 i))(o:Q4 P t e r.sz=true)(a:Go.Proofs.YtabonambpbofgaaGreat.ix l i=some x)(hd:Nat.blt d n.1=true)
  (k:∀q,EP v (i.toNat*r.sz+0) q->QF P ops C Q rest n ((d,q)::m)):QF P ops C Q (⟨some d,.indexAddr t X Y,ty,pos,af,none⟩::rest) n m:=Aau b c g j o (FQ a).1 (FQ a).2 hd λq _ e=>k q e
def Ku{q:Value}(b:B5 m X=some q)(i:EP v k0 q)(l:eJ P t j off=true)(hd:Nat.blt d n.1=true)
  (k:∀a,EP v (k0+off) a->QF P ops C Q rest n ((d,a)::m)):QF P ops C Q (⟨some d,.fieldAddr t X j,ty,pos,af,none⟩::rest) n m:=by
 obtain⟨g,o,c,p,rfl⟩:=i;exact Gg b l hd (k _ ⟨g,o,c,p,rfl⟩)
def rS(a:B5 m X=some (.int .i64 x))(b:B5 m Y=some (.int .i64 y))(hd:Nat.blt d n.1=true)(c:BO (x+y)=z)(k:QF P ops C Q rest n ((d,.int .i64 z)::m)):QF P ops C Q (⟨some d,.binOp .add t1 X Y t2,ty,pos,af,none⟩::rest) n m:=cE a b hd (c▸k)
def rC(a:B5 m X=some (.int .i64 x))(b:B5 m Y=some (.int .i64 y))(hd:Nat.blt d n.1=true)(c:BO (x-y)=z)(k:QF P ops C Q rest n ((d,.int .i64 z)::m)):QF P ops C Q (⟨some d,.binOp .sub t1 X Y t2,ty,pos,af,none⟩::rest) n m:=bV a b hd (c▸k)
def nI{xs:Array Value}{i:Nat}(c:B5 m X=some (.tuple xs))(g:xs[i]? =some u)(hd:Nat.blt d n.1=true)(k:QF P ops C Q rest n ((d,u)::m)):QF P ops C Q (⟨some d,.extract X i,ty,pos,af,none⟩::rest) n m:=
 λa b=>GH b hd (λw _=>by simp[execOp,b.eval c,Instr.extract,g]) k
def PM{f:Fn}{b cs:Array Operand}{g i:List Value}(j:b.toList.mapM (B5 m)=some g)(l:cs.toList.mapM (B5 m)=some i)(hd:Nat.blt d n.1=true)(k:QF P ops C Q rest n ((d,.func f g.toArray i.toArray)::m)):QF P ops C Q (⟨some d,.makeFunc f b cs,ty,pos,af,none⟩::rest) n m:=
 λa c=>GH c hd (λw _=>by
  have e:(execOp a.eval ⟨some d,.makeFunc f b cs,ty,pos,af,none⟩).run P w= .ok (.value (.func f (b.map a.eval) (cs.map a.eval))) w:=rfl;rw[e,YR c j,YR c l]) k
end
section
variable{P:Program}{ex:List (Nat×AP)}{R N:AP}{cs:List Code}{B:World}{h:AV}{n:FN}{m m':SM}{S:Nat->Prop}{L:List HP}
def AT{i:Nat}{c:Code}(I:AP)(b:WF P ((i,I)::ex) R [c] I B h n m)(d:∀a w,I a w->W P ex R cs N a w):WF P ex R (.block i c::cs) N B h n m:=λa w g j=>Xc I (b a w g j) d
def A0{c:Code}(I:Nat->AP)(d:Nat)(h0:∀a w,Fr n a m->Wd B h w->I d a w)(j:∀a w,¬I 0 a w)(b:∀k a w,I (k+1) a w->W P ex R [c] (I k) a w):WF P ex R (.loop c::cs) N B h n m:=by
 refine qX (λi a w=>∃k,i+k=d/\I k a w) d 0 (λa w l o=>⟨d,Ω,h0 a w l o⟩) (λi a w ⟨k,p,_⟩=>Ω) λi a w ⟨k,p,g⟩=>?_;cases k with
 |zero=>exact absurd g (j a w)
 |succ k=>exact uX (b k a w g) λq w' h'=>⟨k,Ω,h'⟩
end
section
variable{P:Program}{ops:Array Oper}{Q:Exit->Act->World->Prop}{n:FN}{m:SM}{rest:List Oper}
variable{d:Nat}{ty:TypeId}{pos:String}{af:Array Edge}{X Y:Operand}{B:World}{h:AV}{S:Nat->Prop}{L L2:List HP}{v:Value}
def El{i:Array TypeId}
  (x:B5 m X=some (.func (.func f) first cap)) (j:xs.toList.mapM (B5 m)=some c) (l:first.toList++c++cap.toList=vs) (q:BI P f=true) (hd:Nat.blt d n.1=true) (u:St S L h) (y:CG P f vs.toArray (λb=>b<h.size) h g)
  (k:∀v S' h',St S L h'->CO S h S h'->CO (λb=>b<h.size) h S' h'->g v S' h'->LF P ops Q rest B h' n ((d,v)::m)):LF P ops Q (⟨some d,.call ⟨.value X,xs,i⟩,ty,pos,af,none⟩::rest) B h n m:=
 λ_ _ s t=>kD s x j l q hd t y λv a w S' h' s t e p=>
  have o:Ef h h':=⟨e.siz,λb z=>e.same b z⟩
  k v S' h' (o.st u) (o.ext u.1) e p a w s t
def LQ{α}{r:A9 α}{T sz c:Nat}{z:List Value}{l xs:List α}{q s a:Nat}{b:List Value}(t:B5 m X=some v)(u:B5 m Y=some (.slice (some ⟨q,0,none⟩) a sc))(w:OI P T=some (e,sz,c,z))(j:r.sz=sz)
  (x:Bx q s b∈L) (y:M6 S h r b xs) (o:a=xs.length) (g:Nat.blt 0 c=true) (p:HN (l.length+xs.length) c=true) (hd:Nat.blt d n.1=true) (A:St S L h) (C:∀i,Nm L (OS r e v l) (OS r e i (l++xs)) (LL i))
  (k:∀i h',St S (LL i) h'->CO S h S h'->LF P ops Q rest B h' n ((d,i)::m)):LF P ops Q (⟨some d,.call ⟨.builtin .append,#[X,Y],#[T,T]⟩,ty,pos,af,none⟩::rest) B h n m:=
 XN t u w j x y o g (Oq p) hd A C k
def L4{α}{r:A9 α}{T sz b:Nat}{z:List Value}{zx:α}{len cap:Int}{l o:IntKind}(p:OI P T=some (e,sz,b,z))(j:r.sz=sz)(q:r.rd S h z zx)
  (s:B5 m U=some (.int l len)) (t:B5 m V=some (.int o cap)) (g:ME len cap b=true) (i:Nat.blt 0 b=true) (hd:Nat.blt d n.1=true) (u:St S L h)
  (k:∀v h',St S (OS r e v (List.replicate len.toNat zx)::L) h'->CO S h S h'->LF P ops Q rest B h' n ((d,v)::m)):LF P ops Q (⟨some d,.makeSlice T U V,ty,pos,af,none⟩::rest) B h n m:=by
 simp only[ME,Agu,Ahb]at g;obtain⟨⟨h0,A⟩,w⟩:=g;obtain⟨a,rfl⟩:∃a:Nat,len=a:=⟨len.toNat,Ω⟩
 obtain⟨c,rfl⟩:∃c:Nat,cap=c:=⟨cap.toNat,Ω⟩
 have x:((b*c:Nat):Int)<=140737488355328:=by rw[Int.natCast_mul];exact w
 have C:b*c<=140737488355328:=Ω
 have y:1<=b:=by simpa[Nat.blt]using i
 have D:c<=b*c:=Nat.le_mul_of_pos_left _ y;exact Aec p j q s t Ω Ω (by unfold maxLen;omega) hd u (by simpa using k)
def Ei{α β}{r:A9 α}{r':A9 β}{T' e:TypeId}{l:List α}{i:Int}{x:α}{y:β}{g:α->β->α}{q:Value}(hx:B5 m X=some q)(hy:B5 m Y=some u)(hu:Rd S h r' u y)(ep:EP v (i.toNat*r.sz+off) q)(ac:ix l i=some x)
  (up:NQ r off r' g) (ht:LD P T' r'.sz r'.ag=true) (h1:r'.ag=false->r'.sz=1) (hs:St S L h) (rp:Nm L (OS r e v l) (OS r e v (upd l i (g x y))) L2)
  (k:∀h',St S L2 h'->CO S h S h'->LF P ops Q rest B h' n m):LF P ops Q (⟨none,.store T' X Y,ty,pos,af,none⟩::rest) B h n m:=by
 intro a w hf H;refine wpList_plain rfl λK hK=>?_;unfold Oper.wp;obtain⟨vs,rfl,d⟩:=hu;have o:=r'.len d;have hv:(r'.val vs).cells=vs.toArray:=by
  unfold A9.val;cases I:r'.ag with
  |true=>rfl
  |false=>
   have hl:=o;rw[h1 I]at hl
   match vs,hl,d with
   |[c],_,d=>
    have ho:=r'.one d c (by simp);cases c<;>first|rfl|(simp[Value.oneCell']at ho)
 obtain⟨M,p,_⟩:=rp.pick;obtain⟨F,g1,g2,_⟩:=Sp.pick p hs.2;obtain⟨j,n',c',rfl,rfl⟩:=ep;obtain⟨i0,J⟩:=FQ ac;have t:i.toNat<l.length:=(Ag0.1 J).1;have aj:i.toNat*r.sz+r.sz<=l.length*r.sz:=by rw[<-Aij];exact Aia _ t
 have ah:=up.1;obtain⟨ti,dd,hi,hd,ad,I⟩:=R0 ht;have s:∀F,(OS r e (.slice (some ⟨j,0,none⟩) n' c') l).holds S F h->(∀b,F b->b<h.size/\¬S b)->∃cur,(∀b,F b↔b=j)/\h[j]? =some (.cells cur e (0,0))/\l.length*r.sz<=cur.size/\
   ∀h',h'.size=h.size->h'[j]? =some (.cells (IY cur.toList (i.toNat*r.sz+off) vs).toArray e (0,0))->(∀b,b≠j->h'[b]? =h[b]?)->(OS r e (.slice (some ⟨j,0,none⟩) n' c') (upd l i (g x y))).holds S F h':=by
  intro F z hF;rcases z with⟨_,z,_⟩|⟨g0,cap,cur,z,D,k3,k4,k5,k6,k7⟩
  ·rw[z]at t;exact absurd t (Nat.not_lt_zero _)
  ·injection z with A e2 e3
   injection A with A
   injection A with A
   subst A;subst e2;subst e3;have ae:l.length*r.sz<=cur.size:=by rw[k6];exact Aia _ k4
   refine⟨cur,D,k3,ae,λh' z1 z2 z3=> .inr ⟨j,c',_,?_,D,z2,?_,k5,?_,?_⟩⟩
   ·simp[upd]
   ·simpa[upd]using k4
   ·rw[Ajv,X4 _ _ _ (by simp;omega)];simpa using k6
   ·have U:((IY cur.toList (i.toNat*r.sz+off) vs).toArray.toList.take ((upd l i (g x y)).length*r.sz))=IY (cur.toList.take (l.length*r.sz)) (i.toNat*r.sz+off) vs:=by
     unfold IY upd;simp only[List.length_set];rw[Ajk,Ajd Ω,List.take_append,List.take_of_length_le (by simp;omega),List.drop_take];congr 2;simp;omega
    rw[U];have C:M6 S h' r (cur.toList.take (l.length*r.sz)) l:=k7.mono (λ_ x=>x) λb hb=>z3 b λe=>(hF b ((D b).2 e)).2 hb;have V:r'.rd S h' vs y:=r'.mono d (λ_ x=>x) λb hb=>z3 b λe=>(hF b ((D b).2 e)).2 hb;exact C.set J Ω λc W=>up.2 W V
 obtain⟨cur,m1,m2,m3,m4⟩:=s F g1 g2;have hg:w.heap[j]? =some (.cells cur e (0,0)):=by rw[H.heap];exact m2
 have Z:=run_storeCells_at P j (i.toNat*r.sz+off) e vs 0 cur w hg Ω (λu hu=>r'.one d u hu);have aa:(List.take (i.toNat*r.sz+off+0) cur.toList++vs++List.drop (i.toNat*r.sz+off+0+vs.length) cur.toList)=IY cur.toList (i.toNat*r.sz+off) vs:=by simp[IY]
 rw[aa]at Z;have ab:(execOp a.eval ⟨none,.store T' X Y,ty,pos,af,none⟩).run P w= .ok .skip (w.setRow j (IY cur.toList (i.toNat*r.sz+off) vs).toArray):=by
  simp[execOp,hf.eval hx,hf.eval hy,Instr.storeAt,Instr.sureAddr,storeVar,hv,Su hi,ad,o,Z]
 rw[ab];obtain⟨h',A,e2,e3,U⟩:=R7 w j cur (IY cur.toList (i.toNat*r.sz+off) vs).toArray e hg;rw[H.heap]at e2 U;obtain⟨u1,u2⟩:=hs.upd (h':=h') rp Ω λF z D=>by
  obtain⟨ai,q1,G,q3,q4⟩:=s F z D;rw[m2]at G;injection G with G
  injection G with G
  subst G;exact⟨F,q4 h' e2 e3 U,λc W=> .inl W,λc _ W=>U c λe=>W ((q1 c).2 e)⟩
 exact hK _ _ (k h' u1 u2 _ _ hf ⟨A,H.os,H.tape,H.out⟩)
end
end Go.Proofs.YtabonambpbofgaaGreat
