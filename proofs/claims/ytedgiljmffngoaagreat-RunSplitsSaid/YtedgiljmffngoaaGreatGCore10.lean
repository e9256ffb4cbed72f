import Derived.Test.YtedgiljmffngoaaGreatGCore4
import Derived.Deep.DeepAppendWide
import Derived.StillTail
namespace Go.Proofs.YtedgiljmffngoaaGreat
set_option linter.all false
open Go.RowKit
def LB {α}(S:Nat→Prop) (h:AW) (r:A7 α):List Value→List α→Prop
 |cs,[]=>cs=[]
 |cs,x::l=>∃a b,cs=a++b∧r.rd S h a x∧LB S h r b l
def LB.mono {α S S' h h'}{r:A7 α}:∀{l:List α}{cs},LB S h r cs l→(∀b,S b→S' b)→(∀b,S b→h'[b]? =h[b]?)→LB S' h' r cs l
 |[],_,k,_,_=>k
 |_::_,_,⟨a,c,e,d,g⟩,s,q=>⟨a,c,e,r.mono d s q,g.mono s q⟩
def LB.len {α S h}{r:A7 α}:∀{l:List α}{cs},LB S h r cs l→cs.length=l.length*r.sz
 |[],_,k=>by have k:_=[]:=k;subst k;simp
 |_::l,_,⟨c,d,e,a,b⟩=>by subst e;rw[uJ,r.len a,b.len,wA,wF];omega
def LB.one {α S h}{r:A7 α}:∀{l:List α}{cs},LB S h r cs l→∀v∈cs,v.oneCell'=true
 |[],_,k,v,a=>by have k:_=[]:=k;subst k;cases a
 |_::_,_,⟨d,g,e,b,c⟩,v,a=>by subst e;exact(vC.1 a).elim (r.one b v) (c.one v)
def LB.append {α S h}{r:A7 α}:∀{l c:List α}{cs a},LB S h r cs l→LB S h r a c→LB S h r (cs++a) (l++c)
 |[],_,_,_,k,b=>by have k:_=[]:=k;subst k;exact b
 |_::_,_,_,_,⟨d,g,e,i,b⟩,kk=>by subst e;exact⟨d,g++_,by simp,i,b.append kk⟩
def LB.at_ {α S h}{r:A7 α}:∀{l:List α}{cs}{i:Nat}{x},LB S h r cs l→l[i]? =some x→r.rd S h ((cs.drop (i*r.sz)).take r.sz) x
 |[],_,_,_,_,a=>by simp at a
 |y::l,_,0,x,⟨b,c,e,d,g⟩,a=>by
  subst e;simp only[wW,vB] at a;subst a;have:=r.len d;simp only[Nat.zero_mul,List.drop_zero,←this,xL];exact d
 |y::l,_,i+1,x,⟨b,c,e,d,g⟩,a=>by
  subst e;simp only[wP] at a;have j:=r.len d;have m:(i+1)*r.sz=b.length+i*r.sz:=by rw[j,wF];omega
  rw[m,List.drop_append_of_le_length_add];exact g.at_ a
 where
 List.drop_append_of_le_length_add:∀{b c:List Value} {k:Nat},(b++c).drop (b.length+k)=c.drop k:=by
  intro b c k;rw[←List.drop_drop,List.drop_left]
def U2 (cs:List Value) (o:Nat) (vs:List Value) (h:o+vs.length≤cs.length):(IY cs o vs).length=cs.length:=by
 simp [IY];omega
def LB.set {α S h}{r:A7 α}:∀{l:List α}{cs}{i o:Nat}{x y}{vs:List Value},LB S h r cs l→l[i]? =some x→o+vs.length≤r.sz→(∀c,r.rd S h c x→r.rd S h (IY c o vs) y)→LB S h r (IY cs (i*r.sz+o) vs) (l.set i y)
 |[],_,_,_,_,_,_,_,a,_,_=>by simp at a
 |z::l,_,0,o,x,y,vs,⟨b,g,e,d,j⟩,a,m,k=>by
  subst e;simp only[wW,vB] at a;subst a;have n:=r.len d;refine⟨IY b o vs,g,?_,k _ d,j⟩;simp only[IY,Nat.zero_mul,uT];rw[List.take_append_of_le_length (by omega),List.drop_append_of_le_length (by omega)];simp
 |z::l,_,i+1,o,x,y,vs,⟨b,g,e,d,j⟩,a,m,k=>by
  subst e;simp only[wP] at a;have n:=r.len d;refine⟨b,IY g (i*r.sz+o) vs,?_,d,j.set a m k⟩;have p:(i+1)*r.sz+o=b.length+(i*r.sz+o):=by rw[n,wF];omega
  simp only[IY];rw[p,xJ b.length,←List.drop_drop,List.drop_left,List.take_length_add_append];simp
def OS {α}(r:A7 α) (T:TypeId) (v:Value) (l:List α):HP where
 holds:=λS F h=>((∃a,v= .slice a 0 0)∧l=[]∧∀b,¬F b)∨
  ∃g cap cur,v= .slice (some ⟨g,0,none⟩) l.length cap∧(∀b,F b↔b=g)∧h[g]? =some (.cells cur T (0,0))∧l.length≤cap∧cap≤maxLen∧cur.size=cap*r.sz∧LB S h r (cur.toList.take (l.length*r.sz)) l
 loc:=λk s e=>by
  rcases k with k|⟨g,cap,cur,k1,k2,k3,k4,k5,k6,k7⟩
  ·exact .inl k
  ·exact .inr ⟨g,cap,cur,k1,k2,(e g (.inr ((k2 g).2 rfl))).trans k3,k4,k5,k6,k7.mono s λb c=>e b (.inl c)⟩
section
variable {α:Type}{r:A7 α}{T:TypeId}{v:Value}{l:List α}{S F:Nat→Prop}{h:AW}{L L2:List HP}
def OS.len (k:(OS r T v l).holds S F h):∃a cap,v= .slice a l.length cap∧l.length≤maxLen:=by
 rcases k with ⟨⟨a,b⟩,h2,_⟩|⟨g,cap,cur,b,h2,h3,h4,h5,_⟩
 ·subst h2;exact⟨a,0,b,tU _⟩
 ·exact⟨_,cap,b,vH h4 h5⟩
def St.oslen (a:St S L h) (b:OS r T v l∈L):∃c cap,v= .slice c l.length cap∧l.length≤maxLen:=by
 obtain⟨F,k,_⟩:=a.get b;exact OS.len k
def St.nil (a:St S L h) (r:A7 α) (T:TypeId):St S (OS r T (.slice none 0 0) ([]:List α)::L) h:=
 (a.add (tX _) (λ_ _=>rfl) ⟨λ_=>False,Or.inl ⟨⟨none,rfl⟩,rfl,λ_ x=>x⟩,λ_ x=>x.elim⟩).1
def OS.sl (k:(OS r T v l).holds S F h) (s:∀b,F b→S b):Sl S h r v l:=by
 rcases k with ⟨⟨d,a⟩,h2,_⟩|⟨g,cap,cur,a,h2,h3,h4,h5,h6,h7⟩
 ·subst h2;cases d with
  |none=>exact .inl ⟨a,rfl⟩
  |some d=>exact .inr ⟨d,0,a,tX _,tU _,λi x c=>by simp at c⟩
 ·refine .inr ⟨⟨g,0,none⟩,cap,a,h4,h5,λi x c=>⟨rfl,?_⟩⟩;have m:=h7.at_ c;have n:i<l.length:=(uB.1 c).1;have p:i*r.sz+r.sz≤l.length*r.sz:=by rw[←wF];exact wB _ n
  refine⟨_,⟨⟨g,0+i*r.sz,none⟩,rfl,rfl,s g ((h2 g).2 rfl),λj q=>?_⟩,m⟩;have o:j<r.sz:=by simp only[vT,vY] at q;omega
  simp only[IK,h3,uT,xQ,wH,wI];rw[vU o,xB,vU (by omega),Array.getElem?_toList]
def St.pubs (c:St S L h) (p:PI L (OS r T v l) L2):∃S',St S' L2 h∧CB S h S' h∧Sl S' h r v l:=by
 obtain⟨F,d,j,g,a⟩:=c.pub p;exact⟨_,g,a,OS.sl (HP.loc _ d a.sub λ_ _=>rfl) λb i=> .inr i⟩
def St.oslAll (c:St S L h) (d:OS r T v l∈L):Sl (λb=>b<h.size) h r v l:=by
 obtain⟨F,g,i⟩:=c.get d;exact OS.sl (HP.loc _ g (λb a=>c.1 b a) λ_ _=>rfl) λb a=>(i b a).1
def St.osAt (p:St S L h) (q:OS r T v l∈L) {i:Nat}{x:α}(a:l[i]? =some x):
  ∃(g cap:Nat),v= .slice (some ⟨g,0,none⟩) l.length cap∧Mb (λb=>b<h.size) S h r (.pointer (some ⟨g,i*r.sz,none⟩)) x:=by
 obtain⟨F,k,s⟩:=p.get q;rcases k with ⟨o,c,_⟩|⟨g,cap,cur,o,c,k3,k4,k5,k6,k7⟩
 ·subst c;simp at a
 ·have d:=k7.at_ a;have m:i<l.length:=(uB.1 a).1;have t:i*r.sz+r.sz≤l.length*r.sz:=by rw[←wF];exact wB _ m
  refine⟨g,cap,o,_,⟨⟨g,i*r.sz,none⟩,rfl,rfl,(s g ((c g).2 rfl)).1,λj u=>?_⟩,d⟩;have n:j<r.sz:=by simp only[vT,vY] at u;omega
  simp only[IK,k3,xQ,wH,wI];rw[vU n,xB,vU (by omega),Array.getElem?_toList]
end
def EP (v:Value) (k:Nat) (q:Value):Prop:=∃g n c,v= .slice (some ⟨g,0,none⟩) n c∧q= .pointer (some ⟨g,k,none⟩)
def N3 (P:Program) (t:TypeId):Option (TypeId×Nat×Nat×List Value):=
 match P.underlying t with
 |some (.slice e)=>match P.info? e with
  |some i=>match i.zero with
   |some z=>if i.size=0|| !(z.cells.size==i.size) then none else some (e,i.size,i.bytes,z.cells.toList)
   |none=>none
  |none=>none
 |_=>none
def Kq {P t e sz by_ z}(h:N3 P t=some (e,sz,by_,z)):∃i a,P.underlying t=some (.slice e)∧P.info? e=some i∧i.zero=some a∧i.size=sz∧i.bytes=by_∧a.cells=z.toArray∧z.length=sz∧0<sz:=by
 unfold N3 at h;split at h
 ·rename_i j c;split at h
  ·rename_i i d;split at h
   ·rename_i a g;split at h
    ·cases h
    ·rename_i b;simp only[vB,xK] at h;obtain⟨rfl,rfl,rfl,rfl⟩:=h;simp only[uD,uF,not_or,Bool.not_eq_true,xE,beq_iff_eq] at b;exact⟨i,a,c,d,g,rfl,rfl,by simp,by simpa using b.2,by omega⟩
   ·cases h
  ·cases h
 ·cases h
section
variable {P:Program}{ops:Array Oper}{Q:Exit→Act→World→Prop}{n:FN}{a:Act}{m:List (Nat×Value)}{rest:List Oper}
variable {d:Nat}{ty:TypeId}{pos:String}{af:Array Edge}{X Y:Operand}{B w:World}{h:AW}{S:Nat→Prop}{L L2:List HP}
def Q7 {α}{r:A7 α}{S h}{z:List Value}{x:α}(a:r.rd S h z x) (c:Nat):LB S h r (List.replicate c z).flatten (List.replicate c x):=by
 induction c with
 |zero=>rfl
 |succ c b=>exact⟨z,_,by simp [List.replicate_succ],a,b⟩
def MJ (z:List Value) (c:Nat) (l:0<z.length):(madeCells z.toArray (c*z.length)).toList=(List.replicate c z).flatten:=by
 induction c with
 |zero=>simp [madeCells]
 |succ c j=>
  have k:List.replicate (c+1) z=List.replicate c z++[z]:=by rw[List.replicate_succ']
  rw[k,List.flatten_append,←j];apply vG;intro i;have g:(madeCells z.toArray (c*z.length)).toList.length=c*z.length:=by simp [size_madeCells]
  rw[List.getElem?_append];simp only[madeCells,Array.toList_map,Array.toList_range,List.length_map,List.length_range];have m:(c+1)*z.length=c*z.length+z.length:=wF _ _;by_cases a:i<c*z.length
  ·rw[tT a];simp [List.getElem?_range a,List.getElem?_range (show i<(c+1)*z.length by omega)]
  ·rw[tQ a];by_cases b:i<(c+1)*z.length
   ·have e:i%z.length=i-c*z.length:=by
     have:i=(i-c*z.length)+z.length*c:=by rw[xM z.length c];omega
     rw[this,Nat.add_mul_mod_self_left,xR (by omega),xM];omega
    have d:i-c*z.length<z.length:=by omega
    simp [List.getElem?_range b,e,d]
   ·rw[uW (by simp;omega),uW (by simp;omega)]
def rV {α}{r:A7 α}{T e sz g:Nat}{z:List Value}{zx:α}{len cap:Nat}{C D:IntKind}{U V:Operand}(u:Fr n a m) (I:N3 P T=some (e,sz,g,z)) (l:r.sz=sz) (J:r.rd S h z zx)
  (M:BT m U=some (.int C (len:Nat))) (W:BT m V=some (.int D (cap:Nat))) (o:len≤cap) (X:g*cap≤281474976710656) (p:cap≤maxLen) (hd:Nat.blt d n.1=true) (F:Wd B h w) (G:St S L h)
  (k:∀v a w h',Fr n a ((d,v)::m)→Wd B h' w→St S (OS r e v (List.replicate len zx)::L) h'→CB S h S h'→wpList P ops Q rest a w):
  wpList P ops Q (⟨some d,.makeSlice T U V,ty,pos,af,none⟩::rest) a w:=by
 refine wpList_plain rfl λK Y=>?_;unfold Oper.wp;obtain⟨i,Z,h1,h2,h3,h4,h5,h6,H,h8⟩:=Kq I;have q:=run_make (P:=P) w T e i Z h1 h2 h3 C D (len:Int) (cap:Int) (by omega) (by omega) (by rw[h5];omega) (by unfold maxLen at p;omega);simp only[vR,h6,h4] at q;have s:(execOp a.eval ⟨some d,.makeSlice T U V,ty,pos,af,none⟩).run P w= .ok (.value (.slice (some ⟨w.heap.size,0,none⟩) len cap)) (w.alloc (.cells (madeCells z.toArray (cap*sz)) e)):=by
  simp [execOp,u.eval M,u.eval W,q]
 rw[s];have c:(madeCells z.toArray (cap*sz)).toList=(List.replicate cap z).flatten:=by rw[←H];exact MJ z cap (by omega)
 have y:(OS r e (.slice (some ⟨h.size,0,none⟩) len cap) (List.replicate len zx)).holds S (λb=>b=h.size) (h.push (.cells (madeCells z.toArray (cap*sz)) e)):=by
  refine .inr ⟨h.size,cap,madeCells z.toArray (cap*sz),by simp,λ_=>vZ,Ka _ _,by simpa using o,p,by rw[size_madeCells,l],?_⟩;rw[c];have:((List.replicate cap z).flatten).take ((List.replicate len zx).length*r.sz)=(List.replicate len z).flatten:=by
   obtain⟨j,rfl⟩:=Nat.exists_eq_add_of_le o;rw[←List.replicate_append_replicate,List.flatten_append,List.length_replicate,l,←H];have:(List.replicate len z).flatten.length=len*z.length:=by simp
   rw[←this,xL]
  rw[this];exact(Q7 J len).mono (λ_ x=>x) λb t=>Gi _ _ _ (G.1 b t)
 obtain⟨g1,g2⟩:=G.add (h':=h.push (.cells (madeCells z.toArray (cap*sz)) e)) (by simp) (λb t=>Gi _ _ _ t) ⟨_,y,λb t=>by subst t;simp⟩;have A:=F.heap;exact Y _ _ (k _ _ _ _ (u.put hd _) (F.alloc _) (by rw[A];exact g1) g2)
def Jb (n b:Nat):Prop:=n*b≤140737488355328∨(n*b≤175921860444160∧b≤274877906944)
def Jb.le {n b:Nat}(h:Jb n b):n*b≤281474976710656:=by unfold Jb at h;omega
def Nj {a b bytes:Nat}(h:b<a) (c:Jb a bytes):Builtin.nextslicecap a b*bytes≤281474976710656:=by
 rcases c with c|⟨h1,h2⟩
 ·exact growslice_fits h c
 ·refine growslice_fits_wide h ?_;have d:=wB bytes (Nat.div_mul_le_self a 4);rw[Nat.mul_right_comm] at d;rw[vW,vW];omega
def Tm {α}{r:A7 α}{T ty e sz Q:Nat}{z:List Value}{v s:Value}{l xs:List α}{J:Addr}{sc:Nat}{a:List Value}{F:Nat→Prop}(he:N3 P T=some (e,sz,Q,z)) (c:r.sz=sz)
  (af:s= .slice (some J) xs.length sc) (V:LB S h r a xs) (hc:∀j u,a[j]? =some u→IK h (J.add j)=some u)
  (W:l.length+xs.length≤maxLen) (X:Jb (l.length+xs.length) Q) (d:Wd B h w) (k:(OS r e v l).holds S F h) (hS:∀b,S b→b<h.size∧¬F b):
  ∃v' w' h' F',(Builtin.append_ #[T,T] ty #[v,s]).run P w= .ok v' w'∧Wd B h' w'∧h.size≤h'.size∧(OS r e v' (l++xs)).holds S F' h'∧(∀b,F' b→F b∨(h.size≤b∧b<h'.size))∧∀b,b<h.size→¬F b→h'[b]? =h[b]? :=by
 obtain⟨i,K,Y,Z,h3,G,h5,h6,h7,h8⟩:=Kq he;subst af;have m:=V.len;rw[c,←G] at m;have aa:l.length+xs.length≤9223372036854775807:=by unfold maxLen at W;omega
 have H:∀j u,a[j]? =some u→w.cell? (J.add j)=some u:=λj u I=>by rw[I1,d.heap];exact hc j u I
 have ag:K.cells.size=sz:=by rw[h6];simpa using h7
 have t:∀(p:List Value) (q:Nat),LB S h r p l→q<l.length+xs.length→
   (OS r e (.slice (some ⟨h.size,0,none⟩) (l.length+xs.length) (grownCap w (l.length+xs.length) q e)) (l++xs)).holds S (λb=>b=h.size)
    (h.push (.cells (p.toArray++a.toArray++Builtin.zeroCells K.cells (grownCap w (l.length+xs.length) q e-(l.length+xs.length))) e)):=by
  intro p q ho aj;have ah:=grownCap_ge w (l.length+xs.length) q e;refine .inr ⟨h.size,_,_,by rw[uJ],λ_=>vZ,Ka _ _,by rw[uJ];exact ah,grownCap_le_maxLen w _ q e W,?_,?_⟩
  ·have:=ho.len;simp only[Array.size_append,xS,size_zeroCells,ag,this,m,G,c,←vW];congr 1;omega
  ·have y:(l++xs).length*r.sz=(p++a).length:=by rw[uJ,uJ,ho.len,V.len,vW]
   rw[y];simp only[Array.toList_append];rw[xL];exact(ho.append V).mono (λ_ x=>x) λb n=>Gi _ _ _ (hS b n).1
 rcases k with ⟨⟨U,rfl⟩,rfl,hF⟩|⟨g,cap,cur,rfl,hF,hg,hlc,hcm,hcs,hrd⟩
 ·by_cases hx:xs.length=0
  ·have ai:xs=[]:=xZ hx;subst ai;refine⟨.slice U 0 0,w,h,F,?_,d,tX _,.inl ⟨⟨U,rfl⟩,rfl,hF⟩,λb n=> .inl n,λ_ _ _=>rfl⟩;cases U<;>simp [Builtin.append_,run_underlying Y,sizeOf,typeInfo,Z,Builtin.lenOf,Builtin.firstCells,loadCells,loadCellsFrom,storeCells]
  ·have M:Jb xs.length Q:=by simpa using X
   have ak:=M.le;have hr:(Builtin.append_ #[T,T] ty #[.slice U 0 0,.slice (some J) xs.length sc]).run P w= .ok (.slice (some ⟨w.heap.size,0,none⟩) xs.length (grownCap w xs.length 0 e)) (w.drew.alloc (.cells (a.toArray++Builtin.zeroCells K.cells (grownCap w xs.length 0 e-xs.length)) e)):=by
    cases U with
    |none=>exact run_append_nil (P:=P) w T ty e i K Y Z h3 J xs.length sc a m H (by omega) (by simp at aa;omega) (by rw[h5];omega)
    |some U=>
     have hq:=run_append_grow (P:=P) w T ty e i K Y Z h3 U 0 0 [] (by simp) (λj u I=>by simp at I) J xs.length sc a m H (by omega) (by omega) (Nj (by omega) (by rw[h5];simpa using M));simpa using hq
   have A:=t [] 0 rfl (by simp;omega);simp only[List.length_nil,uT,uK,Array.empty_append] at A;refine⟨_,_,h.push (.cells (a.toArray++Builtin.zeroCells K.cells (grownCap w xs.length 0 e-xs.length)) e),λb=>b=h.size,hr,⟨?_,d.os,d.tape,d.out⟩,by simp,?_,λb n=> .inr (by subst n;simp),λb n _=>Gi _ _ _ n⟩
   ·show(w.heap.push _)=_;rw[d.heap]
   ·rw[d.heap];exact A
 ·have ab:w.heap[g]? =some (.cells cur e (0,0)):=by rw[d.heap];exact hg
  by_cases o:l.length+xs.length≤cap
  ·have ac:l.length*i.size+a.length≤cur.size:=by rw[m,hcs,G,c,←vW];exact wB _ o
   have hr:=run_append_room (P:=P) w T ty e i Y Z g l.length cap cur ab J xs.length sc a m H (λu I=>V.one u I) o ac;obtain⟨h',e1,e2,e3,e4⟩:=P0 w g cur (c':=(cur.toList.take (l.length*i.size)++a++cur.toList.drop (l.length*i.size+a.length)).toArray) e ab;rw[d.heap] at e2 e4;refine⟨_,_,h',F,hr,⟨e1,d.os,d.tape,d.out⟩,by omega,.inr ⟨g,cap,_,by rw[uJ],hF,e3,by rw[uJ];exact o,hcm,?_,?_⟩,λb n=> .inl n,λb _ n=>e4 b λe=>n ((hF b).2 e)⟩
   ·simp only[xS,uJ,vT,vY,yK];omega
   ·have C:=hrd.len;rw[c,←G] at C;have y:(l++xs).length*r.sz=(cur.toList.take (l.length*i.size)++a).length:=by
     rw[uJ,uJ,C,m,vW,c,G]
    rw[y,xL,G,←c];exact(hrd.append V).mono (λ_ x=>x) λb n=>e4 b λe=>(hS b n).2 ((hF b).2 e)
  ·have D:∀j u,(cur.toList.take (l.length*r.sz))[j]? =some u→w.cell? ((⟨g,0,none⟩:Addr).add j)=some u:=λj u I=>by
    have ae:(⟨g,0,none⟩:Addr).add j=⟨g,j,none⟩:=by unfold Addr.add;split<;>simp_all
    rw[ae,I1,d.heap];have hj:j<l.length*r.sz:=by
     have:=(uB.1 I).1;simp at this;omega
    rw[vU hj] at I;simp only[IK,hg,xQ,wH,wI];simpa using I
   have C:=hrd.len;rw[c,←G] at C;rw[c,←G] at D;have hr:=run_append_grow (P:=P) w T ty e i K Y Z h3 ⟨g,0,none⟩ l.length cap _ C D J xs.length sc a m H (by omega) (by omega) (Nj (by omega) (by rw[h5];exact X));have A:=t _ cap hrd (by omega);rw[c,←G] at A;refine⟨_,_,h.push (.cells ((cur.toList.take (l.length*i.size)).toArray++a.toArray++Builtin.zeroCells K.cells (grownCap w (l.length+xs.length) cap e-(l.length+xs.length))) e),λb=>b=h.size,hr,⟨?_,d.os,d.tape,d.out⟩,by simp,?_,λb n=> .inr (by subst n;simp),λb n _=>Gi _ _ _ n⟩
   ·show(w.heap.push _)=_;rw[d.heap]
   ·rw[d.heap];exact A
def oS {α}{r:A7 α}{T e sz C:Nat}{z:List Value}{v s:Value}{l xs:List α}{sd:Addr}{sc:Nat}{y:List Value}{LL:Value→List HP}(g:Fr n a m) (hx:BT m X=some v) (hy:BT m Y=some s) (he:N3 P T=some (e,sz,C,z)) (D:r.sz=sz)
  (H:s= .slice (some sd) xs.length sc) (hn:LB S h r y xs) (hc:∀j u,y[j]? =some u→IK h (sd.add j)=some u)
  (I:l.length+xs.length≤maxLen) (J:Jb (l.length+xs.length) C) (hd:Nat.blt d n.1=true) (hw:Wd B h w) (A:St S L h) (rp:∀i,MX L (OS r e v l) (OS r e i (l++xs)) (LL i))
  (k:∀i a w h',Fr n a ((d,i)::m)→Wd B h' w→St S (LL i) h'→CB S h S h'→wpList P ops Q rest a w):
  wpList P ops Q (⟨some d,.call ⟨.builtin .append,#[X,Y],#[T,T]⟩,ty,pos,af,none⟩::rest) a w:=by
 refine wpList_plain rfl λK hK=>?_;unfold Oper.wp;obtain⟨M,p,_⟩:=(rp v).pick;obtain⟨F,g1,g2,_⟩:=Sp.pick p A.2;obtain⟨i,w',h',F',e1,e2,e3,e4,e5,e6⟩:=Tm (ty:=ty) he D H hn hc I J hw g1 λb c=>⟨A.1 b c,λg=>(g2 b g).2 c⟩
 have U:(execOp a.eval ⟨some d,.call ⟨.builtin .append,#[X,Y],#[T,T]⟩,ty,pos,af,none⟩).run P w= .ok (.value i) w':=by
  simp [execOp,resolve,invoke,builtin,g.eval hx,g.eval hy,e1]
 rw[U];obtain⟨M,p,q⟩:=(rp i).pick;have V:St S (LL i) h'∧CB S h S h':=by
  obtain⟨G,ad,o,ae⟩:=Sp.pick p A.2;obtain⟨al,am,W,ag,Z,ah,t,ai,aa,ab⟩:=Tm (ty:=ty) he D H hn hc I J hw ad λb c=>⟨A.1 b c,λg=>(o b g).2 c⟩
  rw[e1] at Z;injection Z with ev ew
  subst ev;subst ew;have hh:W=h':=by rw[←ah.heap,e2.heap]
  subst hh;have ac:∀b,S b→W[b]? =h[b]? :=λb c=>ab b (A.1 b c) λg=>(o b g).2 c;refine⟨⟨λb c=>tZ (A.1 b c) t,L7 q ⟨ag,ai,λb c=>?_,?_⟩⟩,λ_ x=>x,ac,t⟩
  ·rcases aa b c with g|⟨hl,hu⟩
   ·exact⟨tZ (o b g).1 t,(o b g).2⟩
   ·exact⟨hu,λaj=>absurd (A.1 b aj) (by omega)⟩
  ·refine Sp.ext ae (λ_ x=>x) (λb c=>?_) λb c=>⟨⟨tZ c.1.1 t,c.1.2⟩,λak=>?_⟩
   ·rcases c with c|c
    ·exact ac b c
    ·exact ab b c.1.1 c.2
   ·rcases aa b ak with g|⟨hl,_⟩
    ·exact c.2 g
    ·exact absurd c.1.1 (by omega)
 exact hK _ _ (k i _ w' h' (g.put hd _) e2 V.1 V.2)
def jD {α}{r:A7 α}{T e sz g:Nat}{z:List Value}{v:Value}{l xs:List α}{p A b sc:Nat}{c:List Value}{LL:Value→List HP}(C:Fr n a m) (D:BT m X=some v) (G:BT m Y=some (.slice (some ⟨p,0,none⟩) b sc)) (H:N3 P T=some (e,sz,g,z)) (q:r.sz=sz)
  (I:Bx p A c∈L) (J:LB S h r c xs) (s:b=xs.length)
  (t:l.length+xs.length≤maxLen) (x:Jb (l.length+xs.length) g) (hd:Nat.blt d n.1=true) (K:Wd B h w) (y:St S L h) (M:∀i,MX L (OS r e v l) (OS r e i (l++xs)) (LL i))
  (k:∀i a w h',Fr n a ((d,i)::m)→Wd B h' w→St S (LL i) h'→CB S h S h'→wpList P ops Q rest a w):
  wpList P ops Q (⟨some d,.call ⟨.builtin .append,#[X,Y],#[T,T]⟩,ty,pos,af,none⟩::rest) a w:=by
 obtain⟨F,U,_⟩:=y.get I;refine oS C D G H q (by rw[s]) J (λj u V=>?_) t x hd K y M k;have o:(⟨p,0,none⟩:Addr).add j=⟨p,j,none⟩:=by unfold Addr.add;split<;>simp_all
 rw[o,Bx.cell U];exact V
def Tt (e:Nat) (len:Nat):List (Nat×Nat):=(List.range len).map λi=>(i*e,e)
def rW {T e sz H len:Nat}{z cs:List Value}{g:Array (Nat×Operand)}{pv:List (Nat×Value)}(W:Fr n a m) (he:N3 P T=some (e,sz,H,z)) (q:g.toList.mapM (cR m)=some pv)
  (X:Mq (Tt sz len) (List.replicate len z).flatten pv=some cs) (I:Nat.blt 0 len=true) (J:Nat.ble (len*sz) 16777216=true) (hd:Nat.blt d n.1=true) (Y:Wd B h w) (hs:St S L h)
  (o:∀p∈pv,p.1<len)
  (k:∀b a w h',Fr n a ((d,.slice (some ⟨b,0,none⟩) len len)::m)→Wd B h' w→St S (Bx b e cs::L) h'→CB S h S h'→wpList P ops Q rest a w):
  wpList P ops Q (⟨some d,.buildSlice T len g,ty,pos,af,none⟩::rest) a w:=by
 refine wpList_plain rfl λK hK=>?_;unfold Oper.wp;obtain⟨i,u,h1,h2,h3,G,h5,h6,h7,h8⟩:=Kq he;have M:(g.map λ(p:Nat×Operand)=>(p.1,a.eval p.2)).toList=pv:=by
  obtain⟨l⟩:=g;simp only at q;simp only[List.map_toArray];clear X o k
  induction l generalizing pv with
  |nil=>simp at q;subst q;rfl
  |cons x l U=>
   simp only[xP,yJ,wV,cR,vV] at q;obtain⟨y,⟨v,hv,rfl⟩,ys,V,A⟩:=q;simp only[Option.pure_def,vB] at A;subst A;simp only[uY,W.eval hv,U V]
 have C:0<len:=(by simpa [Nat.blt] using I:1≤len)
 have Z:len*sz≤16777216:=xD J;have s:((Array.range (len*i.size)).map (u.cells[· %u.cells.size]!))=((List.replicate len z).flatten).toArray:=by
  have:=MJ z len (by omega);rw[h7] at this;rw[←this];simp only[madeCells,G,h6,xS]
 have t:Instr.fill (λj=>some (j*i.size,i.size)) ((Array.range (len*i.size)).map (u.cells[· %u.cells.size]!)) pv=some cs.toArray:=by
  rw[s];have h0:=Nb (Tt sz len) pv _ _ X;have D:∀(pv:List (Nat×Value)) (c:Array Value),(∀p∈pv,p.1<len)→Instr.fill (λj=>some (j*i.size,i.size)) c pv=Instr.fill ((Tt sz len).toArray[·]?) c pv:=by
   intro pv
   induction pv with
   |nil=>intro c _;rfl
   |cons p pv U=>
    intro c o;obtain⟨j,v⟩:=p;have hj:j<len:=o (j,v) (by simp);have e1:(Tt sz len).toArray[j]? =some (j*i.size,i.size):=by simp [Tt,hj,G]
    simp only[Instr.fill,e1];split
    ·rfl
    ·exact U _ λp q=>o p (by simp [q])
  rw[D pv _ o];exact h0
 have hb:=run_buildSlice (P:=P) w T e len (g.map λ(p:Nat×Operand)=>(p.1,a.eval p.2)) cs.toArray i u h1 h2 h3 (by rw[G];omega) (by rw[G];exact Nat.ne_of_gt (Nat.mul_pos C h8)) (by rw[M];exact t);have F:(execOp a.eval ⟨some d,.buildSlice T len g,ty,pos,af,none⟩).run P w= .ok (.value (.slice (some ⟨w.heap.size,0,none⟩) len len)) (w.alloc (.cells cs.toArray e)):=by
  simp only[execOp,Sem.run_bind,hb];rfl
 rw[F];obtain⟨k1,k2⟩:=hs.push e cs;exact hK _ _ (k _ _ _ _ (W.put hd _) (Y.alloc _) (by rw[Y.heap];exact k1) k2)
def St.bxos {α}{r:A7 α}{b e:Nat}{cs:List Value}{l:List α}{M:List HP}(g:St S L h) (i:MX L (Bx b e cs) (OS r e (.slice (some ⟨b,0,none⟩) l.length l.length) l) M) (a:LB S h r cs l) (c:l.length≤maxLen):St S M h:=
 (g.upd i (tX _) λF d _=>⟨F,.inr ⟨b,l.length,cs.toArray,rfl,d.1,d.2,tX _,c,by simpa using a.len,by
  have:=a.len;simp only[←this,uZ];exact a⟩,λ_ j=> .inl j,λ_ _ _=>rfl⟩).1
end
abbrev SM:=List (Nat×Value)
def QF (P:Program) (ops:Array Oper) (C:World→Prop) (Q:Act→Prop) (l:List Oper) (n:FN) (m:SM):Prop:=∀a,Fr n a m→wpQuiet P ops C Q l a
def LF (P:Program) (ops:Array Oper) (Q:Exit→Act→World→Prop) (l:List Oper) (B:World) (h:AW) (n:FN) (m:SM):Prop:=∀a w,Fr n a m→Wd B h w→wpList P ops Q l a w
def WF (P:Program) (ex:List (Nat×AP)) (R:AP) (cs:List Code) (N:AP) (B:World) (h:AW) (n:FN) (m:SM):Prop:=∀a w,Fr n a m→Wd B h w→W P ex R cs N a w
section
variable {P:Program}{ex:List (Nat×AP)}{R N:AP}{cs:List Code}{B:World}{h:AW}{n:FN}{m m':SM}{S:Nat→Prop}{L:List HP}
def SR (b:Su m m') (k:WF P ex R cs N B h n m'):WF P ex R cs N B h n m:=λa w c d=>k a w (c.sub b) d
def Cy {x y:Code}(k:WF P ex R (x::y::cs) N B h n m):WF P ex R (.seq x y::cs) N B h n m:=λa w b c=>nJ (k a w b c)
def Fy (k:WF P ex R cs N B h n m):WF P ex R (.skip::cs) N B h n m:=λa w b c=>gY (k a w b c)
def Bu (k:∀a w,Fr n a m→Wd B h w→R a w):WF P ex R (.ret::cs) N B h n m:=λa w b c=>nK (k a w b c)
def BC {i:Nat}{K:AP}(b:iZ ex i=some K) (k:∀a w,Fr n a m→Wd B h w→K a w):WF P ex R (.exit i::cs) N B h n m:=λa w c d=>Yi b (k a w c d)
def WF.nil (k:∀a w,Fr n a m→Wd B h w→N a w):WF P ex R [] N B h n m:=λa w b c=>k a w b c
def SS {X b}{x y:Code}(g:BT m X=some (.bool b)) (i:b=true→WF P ex R (x::cs) N B h n m) (j:b=false→WF P ex R (y::cs) N B h n m):WF P ex R (.cond X x y::cs) N B h n m:=
 λa w c d=>rF c g (λe=>i e a w c d) λe=>j e a w c d
def UF {X}{x y:Code}(c:BT m X=some (.bool true)) (k:WF P ex R (x::cs) N B h n m):WF P ex R (.cond X x y::cs) N B h n m:=λa w b d=>nL b c (k a w b d)
def ST {X}{x y:Code}(c:BT m X=some (.bool false)) (k:WF P ex R (y::cs) N B h n m):WF P ex R (.cond X x y::cs) N B h n m:=λa w b d=>nM b c (k a w b d)
def A5 {i:Nat}{c:Code}(k:WF P ((i,W P ex R cs N)::ex) R [c] (W P ex R cs N) B h n m):WF P ex R (.block i c::cs) N B h n m:=λa w b d=>bZ (k a w b d)
def Gq {c:Code}(I:AP) (b:WF P ex R [c] I B h n m) (d:∀a w,I a w→W P ex R cs N a w):WF P ex R (c::cs) N B h n m:=λa w g i=>nN I (b a w g i) d
def dR {c:Code}(I:Nat→AP) (T d:Nat) (h0:∀a w,Fr n a m→Wd B h w→I d a w) (g:∀i a w,I i a w→i≤T)
  (b:∀i a w,I i a w→W P ex R [c] (I (i+1)) a w):WF P ex R (.loop c::cs) N B h n m:=λa w j k=>hE I T d (h0 a w j k) g b
def Iy {l:List Oper}{id:Nat}{b:Bool}(c:ZF P l b) (k:QF P l.toArray (Wd B h) (λa=>∀w,Wd B h w→W P ex R cs N a w) l n m):WF P ex R (.region id l.toArray b::cs) N B h n m:=
 λa _ d g=>rC c g (k a d)
def BX {l:List Oper}{id:Nat}{b:Bool}(c:ZF P l b) (d:St S L h) (k:QF P l.toArray (Cl B h) (λa=>∀w h',Wd B h' w→St S L h'→CB S h S h'→W P ex R cs N a w) l n m):WF P ex R (.region id l.toArray b::cs) N B h n m:=
 λa _ g i=>rE c i d (k a g)
def Bw {l:List Oper}{id:Nat}(k:LF P l.toArray (Qx ex R (W P ex R cs N)) l B h n m):WF P ex R (.region id l.toArray false::cs) N B h n m:=
 λa w b c=>rD (k a w b c)
def E3 {ops:Array Oper}{C}(b:Su m m') (k:WF P ex R cs N B h n m'):QF P ops C (λa=>∀w,Wd B h w→W P ex R cs N a w) [] n m:=λa c w d=>k a w (c.sub b) d
def BK {ops:Array Oper}{C}(b:Su m m') (k:∀h',St S L h'→CB S h S h'→WF P ex R cs N B h' n m'):QF P ops C (λa=>∀w h',Wd B h' w→St S L h'→CB S h S h'→W P ex R cs N a w) [] n m:=
 λa c w h' d s e=>k h' s e a w (c.sub b) d
def LF.nil {ops:Array Oper}(b:Su m m') (k:WF P ex R cs N B h n m'):LF P ops (Qx ex R (W P ex R cs N)) [] B h n m:=λa w c d=>fO (k a w (c.sub b) d)
def Ku {ops:Array Oper}{Q:Exit→Act→World→Prop}{l:List Oper}(j:Nat) (k:QF P ops (Wd B h) (λa=>∀w,Wd B h w→wpList P ops Q (l.drop j) a w) (l.take j) n m):LF P ops Q l B h n m:=λa _ b c=>l_q j c (k a b)
def Ks {ops:Array Oper}{C}{Q:Exit→Act→World→Prop}{l:List Oper}(k:LF P ops Q l B h n m):QF P ops C (λa=>∀w,Wd B h w→wpList P ops Q l a w) [] n m:=λa b w c=>k a w b c
def BA {f fn c l S h post}(n:Nat) (b:P.funcs[f]? =some fn) (d:fn.body=some c) (g:fn.ntmps=n) (i:Nat.ble l.length n=true)
  (k:∀B,WF P [] (Rt P fn B S h post) [c] (Rt P fn B S h post) B h (n,[]) (WA 0 l)):B0 P f l.toArray S h post:=
 B0.intro n b d g (xD i) λB w a j b=>k B a w b j
end
section
variable {P:Program}{ops:Array Oper}{C:World→Prop}{Q:Act→Prop}{n:FN}{m m':SM}{rest:List Oper}
variable {d:Nat}{ty:TypeId}{pos:String}{af:Array Edge}{X Y:Operand}{t t1 t2:TypeId}{x y:Int}{kd:IntKind}{v p:Value}
def QF.nil (k:∀a,Fr n a m→Q a):QF P ops C Q [] n m:=λa b=>k a b
def sI {l:List Oper}(b:Su m m') (k:QF P ops C Q l n m'):QF P ops C Q l n m:=λa c=>k a (c.sub b)
def XV {o:Oper}{j e:Nat}{b:Bool}(d:o.guard=some (j,b)) (g:(ops[j]?).bind (·.dst)=some e) (i:lk m e=some (.bool b)) (k:QF P ops C Q ({ o with guard:=none}::rest) n m):QF P ops C Q (o::rest) n m:=
 λa c=>rO c d g i (k a c)
def tC {o:Oper}{j e:Nat}{b:Bool}(a:o.guard=some (j,!b)) (c:(ops[j]?).bind (·.dst)=some e) (g:lk m e=some (.bool b)) (i:o.dst=some d) (hd:Nat.blt d n.1=true) (k:QF P ops C Q rest n ((d,undef)::m)):QF P ops C Q (o::rest) n m:=
 λ_ l=>rP l a c g i hd k
def mW (j:Nat) (m':SM) {l:List Oper}(c:QF P ops C (λa=>Fr n a m') (l.take j) n m) (d:QF P ops C Q (l.drop j) n m'):QF P ops C Q l n m:=
 λa g=>TE j (λa=>Fr n a m') (c a g) λi b=>d i b
def eH (b:Su m m'):QF P ops C (λa=>Fr n a m') [] n m:=λ_ c=>c.sub b
def Kz (a:BT m X=some v) (hd:Nat.blt d n.1=true) (k:QF P ops C Q rest n ((d,v)::m)):QF P ops C Q (⟨some d,.move X,ty,pos,af,none⟩::rest) n m:=λ_ b=>rM b a hd k
def MZ (a:BT m X=some v) (hd:Nat.blt d n.1=true) (k:QF P ops C Q rest n ((d,v)::m)):QF P ops C Q (⟨some d,.assign X,ty,pos,af,none⟩::rest) n m:=λ_ b=>rR b a hd k
def QK {c X Y:Operand}{b:Bool}(a:BT m c=some (.bool b)) (g:BT m (if b then X else Y)=some v) (hd:Nat.blt d n.1=true) (k:QF P ops C Q rest n ((d,v)::m)):QF P ops C Q (⟨some d,.pick c X Y,ty,pos,af,none⟩::rest) n m:=λ_ i=>iO i a g hd k
def sL (a:BT m X=some (.int .i64 x)) (b:BT m Y=some (.int .i64 y)) (hd:Nat.blt d n.1=true) (c:AA (x+y)) (k:QF P ops C Q rest n ((d,.int .i64 (x+y))::m)):QF P ops C Q (⟨some d,.binOp .add t1 X Y t2,ty,pos,af,none⟩::rest) n m:=λ_ g=>oO g a b hd c k
def sJ (a:BT m X=some (.int .i64 x)) (b:BT m Y=some (.int .i64 y)) (hd:Nat.blt d n.1=true) (c:AA (x*y)) (k:QF P ops C Q rest n ((d,.int .i64 (x*y))::m)):QF P ops C Q (⟨some d,.binOp .mul t1 X Y t2,ty,pos,af,none⟩::rest) n m:=λ_ g=>nY g a b hd c k
def Xb (a:BT m X=some (.int .i64 x)) (b:BT m Y=some (.int .i64 y)) (hd:Nat.blt d n.1=true) (k:QF P ops C Q rest n ((d,.int .i64 (BD (x+y)))::m)):QF P ops C Q (⟨some d,.binOp .add t1 X Y t2,ty,pos,af,none⟩::rest) n m:=λ_ c=>iS c a b hd k
def XP (a:BT m X=some (.int .i64 x)) (b:BT m Y=some (.int .i64 y)) (hd:Nat.blt d n.1=true) (k:QF P ops C Q rest n ((d,.int .i64 (BD (x-y)))::m)):QF P ops C Q (⟨some d,.binOp .sub t1 X Y t2,ty,pos,af,none⟩::rest) n m:=λ_ c=>iN c a b hd k
def bB (a:BT m X=some (.int kd x)) (b:BT m Y=some (.int kd y)) (hd:Nat.blt d n.1=true) (k:QF P ops C Q rest n ((d,.bool (decide (x<y)))::m)):QF P ops C Q (⟨some d,.binOp .lss t1 X Y t2,ty,pos,af,none⟩::rest) n m:=λ_ c=>oB c a b hd k
def bC (a:BT m X=some (.int kd x)) (b:BT m Y=some (.int kd y)) (hd:Nat.blt d n.1=true) (k:QF P ops C Q rest n ((d,.bool (decide (x≤y)))::m)):QF P ops C Q (⟨some d,.binOp .leq t1 X Y t2,ty,pos,af,none⟩::rest) n m:=λ_ c=>oC c a b hd k
def bF (a:BT m X=some (.int kd x)) (b:BT m Y=some (.int kd y)) (hd:Nat.blt d n.1=true) (k:QF P ops C Q rest n ((d,.bool (decide (y<x)))::m)):QF P ops C Q (⟨some d,.binOp .gtr t1 X Y t2,ty,pos,af,none⟩::rest) n m:=λ_ c=>oJ c a b hd k
def mT (a:BT m X=some (.int kd x)) (b:BT m Y=some (.int kd y)) (hd:Nat.blt d n.1=true) (k:QF P ops C Q rest n ((d,.bool (decide (y≤x)))::m)):QF P ops C Q (⟨some d,.binOp .geq t1 X Y t2,ty,pos,af,none⟩::rest) n m:=λ_ c=>oK c a b hd k
def bI (a:BT m X=some (.int kd x)) (b:BT m Y=some (.int kd y)) (hd:Nat.blt d n.1=true) (k:QF P ops C Q rest n ((d,.bool (decide (x=y)))::m)):QF P ops C Q (⟨some d,.binOp .eql t1 X Y t2,ty,pos,af,none⟩::rest) n m:=λ_ c=>oM c a b hd k
def bA (a:BT m X=some (.int kd x)) (b:BT m Y=some (.int kd y)) (hd:Nat.blt d n.1=true) (k:QF P ops C Q rest n ((d,.bool (decide (x≠y)))::m)):QF P ops C Q (⟨some d,.binOp .neq t1 X Y t2,ty,pos,af,none⟩::rest) n m:=λ_ c=>nX c a b hd k
def aX {b}(a:BT m X=some (.bool b)) (hd:Nat.blt d n.1=true) (k:QF P ops C Q rest n ((d,.bool (!b))::m)):QF P ops C Q (⟨some d,.unOp .not t1 X,ty,pos,af,none⟩::rest) n m:=λ_ c=>nV c a hd k
def XT (a:BT m X=some (.int .i64 x)) (hd:Nat.blt d n.1=true) (k:QF P ops C Q rest n ((d,.int .i64 (BD (0-x)))::m)):QF P ops C Q (⟨some d,.unOp .neg t1 X,ty,pos,af,none⟩::rest) n m:=λ_ b=>iP b a hd k
def SV {aty}(a:BT m X=some (.int kd x)) (b:BT m Y=some (.int kd y)) (hd:Nat.blt d n.1=true) (k:QF P ops C Q rest n ((d,.int kd (Max.max x y))::m)):QF P ops C Q (⟨some d,.call ⟨.builtin .max,#[X,Y],#[t1,t2]⟩,aty,pos,af,none⟩::rest) n m:=λ_ c=>oA c a b hd k
def WD {aty}(a:BT m X=some (.int kd x)) (b:BT m Y=some (.int kd y)) (hd:Nat.blt d n.1=true) (k:QF P ops C Q rest n ((d,.int kd (Min.min x y))::m)):QF P ops C Q (⟨some d,.call ⟨.builtin .min,#[X,Y],#[t1,t2]⟩,aty,pos,af,none⟩::rest) n m:=λ_ c=>nZ c a b hd k
def FV {T:TypeId}{a:Array (Nat×Operand)}{pl z pv cs}(b:UV P T=some (pl,z)) (c:a.toList.mapM (cR m)=some pv) (g:Mq pl z pv=some cs) (hd:Nat.blt d n.1=true) (k:QF P ops C Q rest n ((d,.agg cs.toArray)::m)):QF P ops C Q (⟨some d,.build T a,ty,pos,af,none⟩::rest) n m:=λ_ i=>oN i b c g hd k
def aY {T:TypeId}{ks xs ys}(a:BT m X=some (.agg xs)) (b:BT m Y=some (.agg ys)) (c:dF P T=some ks) (g:xs.toList.map MK=ks) (i:ys.toList.map MK=ks) (j:P2 xs.toList ys.toList=true) (hd:Nat.blt d n.1=true) (k:QF P ops C Q rest n ((d,.bool (!V2 xs.toList ys.toList))::m)):QF P ops C Q (⟨some d,.binOp .neq T X Y t2,ty,pos,af,none⟩::rest) n m:=λ_ l=>nW l a b c g i j hd k
def Ig {b o j off}(a:BT m X=some (.pointer (some ⟨b,o,none⟩))) (c:YV P t j off=true) (hd:Nat.blt d n.1=true) (k:QF P ops C Q rest n ((d,.pointer (some ⟨b,o+off,none⟩))::m)):QF P ops C Q (⟨some d,.fieldAddr t X j,ty,pos,af,none⟩::rest) n m:=λ_ g=>oL g a c hd k
def O7 {ad len cap aty e sz}(a:BT m X=some (.slice ad len cap)) (b:N1 P t e sz=true) (hd:Nat.blt d n.1=true) (k:QF P ops C Q rest n ((d,.int .i64 len)::m)):QF P ops C Q (⟨some d,.call ⟨.builtin .len,#[X],#[t]⟩,aty,pos,af,none⟩::rest) n m:=λ_ c=>iQ c a b hd k
section
variable {A S:Nat→Prop}{L:List HP}{h:AW}
def Nv {α}{r:A7 α}{x}(g:CK C h) (i:∀b,A b→b<h.size) (j:BT m X=some p) (k0:Mb A S h r p x) (l:Jd P t r.sz r.ag=true) (o:r.ag=false→r.sz=1) (hd:Nat.blt d n.1=true)
  (k:∀v,Rd S h r v x→QF P ops C Q rest n ((d,v)::m)):QF P ops C Q (⟨some d,.load t X,ty,pos,af,none⟩::rest) n m:=λ_ c=>X1 g i c j k0 l o hd λv a c q=>k v q a c
def F8 {x}(g:CK C h) (i:∀b,A b→b<h.size) (j:BT m X=some p) (k0:Mb A S h AB p x) (l:Jd P t 1 false=true) (hd:Nat.blt d n.1=true)
  (k:AA x→QF P ops C Q rest n ((d,.int .i64 x)::m)):QF P ops C Q (⟨some d,.load t X,ty,pos,af,none⟩::rest) n m:=λ_ c=>oH g i c j k0 l hd λa c o=>k o a c
def bE {x}(a:CK C h) (c:∀b,A b→b<h.size) (g:BT m X=some p) (k0:Mb A S h A7.bool p x) (i:Jd P t 1 false=true) (hd:Nat.blt d n.1=true)
  (k:QF P ops C Q rest n ((d,.bool x)::m)):QF P ops C Q (⟨some d,.load t X,ty,pos,af,none⟩::rest) n m:=λ_ j=>oI a c j g k0 i hd k
def SW {x}(g:CK C h) (i:∀b,A b→b<h.size) (j:BT m X=some p) (k0:Mb A S h A7.str p x) (l:Jd P t 1 false=true) (hd:Nat.blt d n.1=true)
  (k:x.size≤maxLen→QF P ops C Q rest n ((d,.string x)::m)):QF P ops C Q (⟨some d,.load t X,ty,pos,af,none⟩::rest) n m:=λ_ c=>oE g i c j k0 l hd λa c o=>k o a c
def If {α}{r:A7 α}{x}(g:CK C h) (i:∀b,A b→b<h.size) (j:BT m X=some p) (k0:Mb A S h r.sl p x) (l:Jd P t 1 false=true) (hd:Nat.blt d n.1=true)
  (k:∀v,Sl S h r v x→QF P ops C Q rest n ((d,v)::m)):QF P ops C Q (⟨some d,.load t X,ty,pos,af,none⟩::rest) n m:=λ_ c=>oG g i c j k0 l hd λv a c o=>k v o a c
def Lv {α β}{r:A7 α}{r':A7 β}{f:α→β}{j off x}(c:BT m X=some p) (k0:Mb A S h r p x) (g:FW r off r' f) (i:YV P t j off=true) (hd:Nat.blt d n.1=true)
  (k:∀q,Mb A S h r' q (f x)→QF P ops C Q rest n ((d,q)::m)):QF P ops C Q (⟨some d,.fieldAddr t X j,ty,pos,af,none⟩::rest) n m:=λ_ b=>rQ b c k0 g i hd λq a b l=>k q l a b
def qE {α}{r:A7 α}{l:List α}{e i x}(c:BT m X=some v) (g:BT m Y=some (.int .i64 i)) (k0:Sl S h r v l) (j:N1 P t e r.sz=true) (h0:0≤i) (o:l[i.toNat]? =some x) (hd:Nat.blt d n.1=true)
  (k:∀q,Pt S h r q x→QF P ops C Q rest n ((d,q)::m)):QF P ops C Q (⟨some d,.indexAddr t X Y,ty,pos,af,none⟩::rest) n m:=λ_ b=>rN b c g k0 j h0 o hd λq a b p=>k q p a b
def mQ {α}{r:A7 α}{l:List α}{T e i x}(p:St S L h) (s:OS r T v l∈L) (u:BT m X=some v) (y:BT m Y=some (.int .i64 i)) (z:N1 P t e r.sz=true) (h0:0≤i) (o:l[i.toNat]? =some x) (hd:Nat.blt d n.1=true)
  (k:∀q,Mb (λb=>b<h.size) S h r q x→EP v (i.toNat*r.sz) q→QF P ops C Q rest n ((d,q)::m)):QF P ops C Q (⟨some d,.indexAddr t X Y,ty,pos,af,none⟩::rest) n m:=by
 obtain⟨g,cap,rfl,A⟩:=p.osAt s o;have B:i.toNat<l.length:=(uB.1 o).1;have c:(⟨g,0,none⟩:Addr).add (i.toNat*r.sz)=⟨g,i.toNat*r.sz,none⟩:=by unfold Addr.add;split<;>simp_all
 intro a j;refine Dn j hd (λw _=>by simp [execOp,j.eval u,j.eval y,Mn (P:=P) (w:=w) (cap:=cap) (a:=⟨g,0,none⟩) z h0 B,c]) (k _ A ⟨g,_,_,rfl,rfl⟩)
def M1 {α}{r:A7 α}{l:List α}{aty e}(c:BT m X=some v) (k0:Sl S h r v l) (g:N1 P t e r.sz=true) (hd:Nat.blt d n.1=true)
  (k:l.length≤maxLen→QF P ops C Q rest n ((d,.int .i64 l.length)::m)):QF P ops C Q (⟨some d,.call ⟨.builtin .len,#[X],#[t]⟩,aty,pos,af,none⟩::rest) n m:=λ_ b=>oD b c k0 g hd λa b i=>k i a b
def eF {α}{r:A7 α}{l:List α}{T aty e sz}(b:St S L h) (c:OS r T v l∈L) (g:BT m X=some v) (i:N1 P t e sz=true) (hd:Nat.blt d n.1=true)
  (k:l.length≤maxLen→QF P ops C Q rest n ((d,.int .i64 l.length)::m)):QF P ops C Q (⟨some d,.call ⟨.builtin .len,#[X],#[t]⟩,aty,pos,af,none⟩::rest) n m:=by
 obtain⟨j,cap,rfl,a⟩:=b.oslen c;exact O7 g i hd (k a)
def Nl {T b o sz:Nat}{ag:Bool}{cs vs:List Value}(a:CK C h) (c:St S L h) (g:BT m X=some (.pointer (some ⟨b,o,none⟩))) (i:Bx b T cs∈L) (j:(cs.drop o).take sz=vs) (l:Nat.beq vs.length sz=true) (p:Jd P t sz ag=true) (q:(ag||Nat.beq sz 1)=true) (hd:Nat.blt d n.1=true)
  (k:QF P ops C Q rest n ((d,if ag then .agg vs.toArray else vs.headD undef)::m)):QF P ops C Q (⟨some d,.load t X,ty,pos,af,none⟩::rest) n m:=λ_ s=>oF a c s g i j l p q hd k
end
def eI {f:Nat}{xs:Array Operand}{c:Array TypeId}{a vs:List Value}{first cap:Array Value}{h B}
  (l:BT m X=some (.func (.func f) first cap)) (g:xs.toList.mapM (BT m)=some a) (i:first.toList++a++cap.toList=vs) (j:BJ P f=true) (hd:Nat.blt d n.1=true)
  (o:∀h',C5 h h'→B0 P f vs.toArray (λb=>b<h'.size) h' (λu _ _=>u=v))
  (k:QF P ops (Cl B h) Q rest n ((d,v)::m)):QF P ops (Cl B h) Q (⟨some d,.call ⟨.value X,xs,c⟩,ty,pos,af,none⟩::rest) n m:=λ_ p=>iR p l g i j hd o k
end
section
variable {P:Program}{ops:Array Oper}{Q:Exit→Act→World→Prop}{n:FN}{m:SM}{rest:List Oper}
variable {d:Nat}{ty:TypeId}{pos:String}{af:Array Edge}{X Y:Operand}{B:World}{h:AW}{S:Nat→Prop}{L L2:List HP}{v:Value}
def Oq {T:TypeId}{cs:List Value}(j:BT m X=some v) (l:v.cells=cs.toArray) (hd:Nat.blt d n.1=true) (c:St S L h)
  (k:∀b h',St S (Bx b T cs::L) h'→CB S h S h'→LF P ops Q rest B h' n ((d,.pointer (some ⟨b,0,none⟩))::m)):LF P ops Q (⟨some d,.box T X,ty,pos,af,none⟩::rest) B h n m:=
 λ_ _ g i=>fP g j l hd i c λb a w h' g i c e=>k b h' c e a w g i
def By {T:TypeId}{α}{r:A7 α}{x:α}(i:BT m X=some v) (j:Rd S h r v x) (l:r.ag=false→r.sz=1) (hd:Nat.blt d n.1=true) (b:St S L h)
  (k:∀p S' h',St S' L h'→CB S h S' h'→Pt S' h' r p x→LF P ops Q rest B h' n ((d,p)::m)):LF P ops Q (⟨some d,.box T X,ty,pos,af,none⟩::rest) B h n m:=
 λ_ _ c g=>jB c i j l hd g b λp a w S' h' c g b e kp=>k p S' h' b e kp a w c g
def CO {T:TypeId}{cs:List Value}(j:D9 P T=some cs) (hd:Nat.blt d n.1=true) (c:St S L h)
  (k:∀b h',St S (Bx b T cs::L) h'→CB S h S h'→LF P ops Q rest B h' n ((d,.pointer (some ⟨b,0,none⟩))::m)):LF P ops Q (⟨some d,.alloc T,ty,pos,af,none⟩::rest) B h n m:=
 λ_ _ g i=>rX g j hd i c λb a w h' g i c e=>k b h' c e a w g i
def SZ {T l:TypeId}{b o:Nat}{cs vs cs':List Value}{sz:Nat}{ag:Bool}(p:BT m X=some (.pointer (some ⟨b,o,none⟩))) (q:BT m Y=some v) (s:v.cells=vs.toArray) (t:∀u∈vs,u.oneCell'=true)
  (x:Jd P T sz ag=true) (d:vs.length=sz) (g:St S L h) (r:MX L (Bx b l cs) (Bx b l cs') L2) (c:Nat.ble (o+sz) cs.length=true) (y:IY cs o vs=cs')
  (k:∀h',St S L2 h'→CB S h S h'→LF P ops Q rest B h' n m):LF P ops Q (⟨none,.store T X Y,ty,pos,af,none⟩::rest) B h n m:=
 λ_ _ i j=>rU i p q s t x d c y j g r λa w h' i j g e=>k h' g e a w i j
def qG {α}{r:A7 α}{T e sz b:Nat}{z:List Value}{zx:α}{len cap:Nat}{q s:IntKind}{U V:Operand}(t:N3 P T=some (e,sz,b,z)) (c:r.sz=sz) (u:r.rd S h z zx)
  (x:BT m U=some (.int q (len:Nat))) (y:BT m V=some (.int s (cap:Nat))) (g:len≤cap) (i:b*cap≤281474976710656) (j:cap≤maxLen) (hd:Nat.blt d n.1=true) (l:St S L h)
  (k:∀v h',St S (OS r e v (List.replicate len zx)::L) h'→CB S h S h'→LF P ops Q rest B h' n ((d,v)::m)):LF P ops Q (⟨some d,.makeSlice T U V,ty,pos,af,none⟩::rest) B h n m:=
 λ_ _ o p=>rV o t c u x y g i j hd p l λv a w h' o p l e=>k v h' l e a w o p
def Xf {α}{r:A7 α}{T e sz i:Nat}{z:List Value}{l xs:List α}{x y b sc:Nat}{c:List Value}{LL:Value→List HP}(A:BT m X=some v) (C:BT m Y=some (.slice (some ⟨x,0,none⟩) b sc)) (D:N3 P T=some (e,sz,i,z)) (j:r.sz=sz)
  (F:Bx x y c∈L) (G:LB S h r c xs) (o:b=xs.length) (p:l.length+xs.length≤maxLen) (q:Jb (l.length+xs.length) i) (hd:Nat.blt d n.1=true) (s:St S L h) (H:∀g,MX L (OS r e v l) (OS r e g (l++xs)) (LL g))
  (k:∀g h',St S (LL g) h'→CB S h S h'→LF P ops Q rest B h' n ((d,g)::m)):LF P ops Q (⟨some d,.call ⟨.builtin .append,#[X,Y],#[T,T]⟩,ty,pos,af,none⟩::rest) B h n m:=
 λ_ _ t u=>jD t A C D j F G o p q hd u s H λg a w h' t u s e=>k g h' s e a w t u
def gH {T e sz g len:Nat}{z cs:List Value}{c:Array (Nat×Operand)}{pv:List (Nat×Value)}(t:N3 P T=some (e,sz,g,z)) (u:c.toList.mapM (cR m)=some pv)
  (v:Mq (Tt sz len) (List.replicate len z).flatten pv=some cs) (i:Nat.blt 0 len=true) (j:Nat.ble (len*sz) 16777216=true) (l:∀p∈pv,p.1<len) (hd:Nat.blt d n.1=true) (o:St S L h)
  (k:∀b h',St S (Bx b e cs::L) h'→CB S h S h'→LF P ops Q rest B h' n ((d,.slice (some ⟨b,0,none⟩) len len)::m)):LF P ops Q (⟨some d,.buildSlice T len c,ty,pos,af,none⟩::rest) B h n m:=
 λ_ _ q s=>rW q t u v i j hd s o l λb a w h' q s o e=>k b h' o e a w q s
def Dh {f:Nat}{xs:Array Operand}{g:Array TypeId}{b vs:List Value}{first cap:Array Value}{c:Value→(Nat→Prop)→AW→Prop}
  (s:BT m X=some (.func (.func f) first cap)) (i:xs.toList.mapM (BT m)=some b) (j:first.toList++b++cap.toList=vs) (l:BJ P f=true) (hd:Nat.blt d n.1=true) (t:B0 P f vs.toArray S h c)
  (k:∀v S' h',CB S h S' h'→c v S' h'→LF P ops Q rest B h' n ((d,v)::m)):LF P ops Q (⟨some d,.call ⟨.value X,xs,g⟩,ty,pos,af,none⟩::rest) B h n m:=
 λ_ _ o q=>ZZ o s i j l hd q t λv a w S' h' o q e p=>k v S' h' e p a w o q
end
instance:Inhabited ByteArray:=⟨.empty⟩
def Sl.one {α S h}{r:A7 α}{v l}(k:Sl S h r v l):v.oneCell'=true:=by
 rcases k with ⟨rfl,_⟩|⟨a,c,rfl,_⟩<;>rfl
section
variable {P:Program}{ex ex':List (Nat×AP)}{R N N':AP}{cs cs':List Code}{B:World}{h:AW}{n:FN}{m m':SM}{S:Nat→Prop}{L:List HP}
def J6 {i:Nat}(b:iZ ex i=some (W P ex' R cs' N')) (k:WF P ex' R cs' N' B h n m):WF P ex R (.exit i::cs) N B h n m:=λa w c d=>Yi b (k a w c d)
def BE (k:WF P ex' R cs' N' B h n m):WF P ex R [] (W P ex' R cs' N') B h n m:=λa w b c=>k a w b c
def AJ {a w}(k:WF P ex R cs N B h n m) (b:Fr n a m) (c:Wd B h w):W P ex R cs N a w:=k a w b c
end
section
variable {P:Program}{ops:Array Oper}{C:World→Prop}{Q:Act→Prop}{n:FN}{m m':SM}{rest:List Oper}
variable {d:Nat}{ty:TypeId}{pos:String}{af:Array Edge}{X Y:Operand}{t t1 t2:TypeId}{x y:Int}{kd:IntKind}{v p:Value}{A S:Nat→Prop}{L:List HP}{h:AW}
def AY (j d:Nat) (v:Value) {l:List Oper}(b:QF P ops C (λa=>Fr n a ((d,v)::m)) (l.take j) n m) (c:QF P ops C Q (l.drop j) n ((d,v)::m)):QF P ops C Q l n m:=mW j _ b c
end
def RV (P:Program) (w:World) (a:Act):ResultVar→Value→Prop
 | .tmp t,v=>a.tmps.getD t undef=v
 | .cell t T,v=>∀b:World,b.heap=w.heap→(do loadVar T (←asAddr (a.tmps.getD t undef)):Sem Value).run P b= .ok v b
def YX (P:Program) (w:World) (a:Act):List ResultVar→List Value→Prop
 |[],[]=>True
 |r::b,v::vs=>RV P w a r v∧YX P w a b vs
 |_,_=>False
def nP:List Value→Value
 |[v]=>v
 |vs=> .tuple vs.toArray
def Uu {P:Program}{w:World}{a:Act}{fn:Func}{b:List ResultVar}{vs:List Value}(l:fn.results.toList=b) (k:YX P w a b vs):(results fn a.tmps).run P w= .ok (nP vs) w:=by
 have g:∀(b:List ResultVar) (vs:List Value),YX P w a b vs→(b.mapM λr:ResultVar=>(match r with
   | .tmp t=>pure (a.tmps.getD t undef)
   | .cell c t=>do loadVar t (←asAddr (a.tmps.getD c undef)):Sem Value)).run P w= .ok vs w:=by
  intro b
  induction b with
  |nil=>intro vs k;cases vs with
   |nil=>simp
   |cons _ _=>exact k.elim
  |cons r b m=>intro vs k;cases vs with
   |nil=>exact k.elim
   |cons v vs=>
    obtain⟨d,n⟩:=k;have i:=m vs n;cases r with
    |tmp t=>
     have d:a.tmps.getD t undef=v:=d;simp only[xP,Sem.run_bind,Sem.run_pure,Result.andThen_ok,i,d]
    |cell c t=>
     have d:(do loadVar t (←asAddr (a.tmps.getD c undef)):Sem Value).run P w= .ok v w:=d w rfl;simp only[xP];rw[Sem.run_bind,d];simp only[Result.andThen_ok,Sem.run_bind,i,Sem.run_pure]
 have j:=g b vs k;unfold results;simp only[Array.mapM_eq_mapM_toList,l,Sem.run_bind,Sem.run_map];refine(tK (λx=>(Result.andThen x λa w'=>Result.ok a.toArray w').andThen λa w'=>Sem.run P (pure (if h:a.size=1 then a[0] else Value.tuple a)) w') j).trans ?_;clear j g k
 match vs with
 |[]=>rfl
 |[v]=>rfl
 |_::_::_=>rfl
section
variable {P:Program}{fn:Func}{B:World}{S S':Nat→Prop}{h h':AW}{post:Value→(Nat→Prop)→AW→Prop}{n:FN}{a:Act}{m:SM}{w:World}{L:List HP}
def H7 {t v}(b:Fr n a m) (c:lk m t=some v):RV P w a (.tmp t) v:=by
 have:=b.eval (X:= .tmp t) c;simpa [RV,Act.eval] using this
def Tj {t T b T' sz}{cs:List Value}(d:Fr n a m) (g:Wd B h w) (i:St S L h) (k:lk m t=some (.pointer (some ⟨b,0,none⟩))) (l:Bx b T' cs∈L) (o:Jd P T sz true=true) (q:cs.length=sz):RV P w a (.cell t T) (.agg cs.toArray):=by
 obtain⟨F,s,_⟩:=i.get l;have c:=d.eval (X:= .tmp t) k;simp only[Act.eval] at c;intro u v;have:=NX (P:=P) (w:=u) (S:=λ_=>True) (p:= .pointer (some ⟨b,0,none⟩)) (cs:=cs) ⟨⟨b,0,none⟩,rfl,rfl,trivial,λj _=>by rw[v,g.heap,uT,Bx.cell s]⟩ q o (λe=>by cases e);simp only[Instr.loadAt,Instr.sureAddr,Sem.run_bind,Sem.run_pure,Result.andThen_ok,if_true] at this;simp only[c,asAddr,Sem.run_bind,Sem.run_pure,Result.andThen_ok,this]
def Ta {d:World}(g:d.heap=w.heap):∀{b:List ResultVar}{vs:List Value},YX P w a b vs→YX P d a b vs
 |[],[],_=>trivial
 |[],_::_,h=>h.elim
 |_::_,[],h=>h.elim
 |r::b,v::vs,⟨h,t⟩=>⟨by
   cases r with
   |tmp t=>exact h
   |cell c t=>exact λi j=>h i (j.trans g),Ta g t⟩
def JB:YX P w a [] []:=trivial
def Gw {r v rs vs}(k:RV P w a r v) (b:YX P w a rs vs):YX P w a (r::rs) (v::vs):=⟨k,b⟩
def JC {k:Nat}{d:List ResultVar}{vs:List Value}{v:Value}(i:Fr (k,[]) a m) (j:fn.results.toList=d) (b:Wd B h' w) (l:YX P w a d vs) (n:nP vs=v) (e:CB S h S' h') (kp:post v S' h'):Rt P fn B S h post a w:=by
 refine⟨[],i.dfr,List.nodup_nil,λD o=>(by cases o),λp q s t u x=>?_⟩;have g:=TO u x;have c:Wd B h' p:=⟨g.trans b.heap,q.trans b.os,s.trans b.tape,t.trans b.out⟩
 exact⟨v,by rw[←n];exact Uu j (Ta g l),S',h',c,e,kp⟩
end
def sb {m:SM}(k:Nat) {v:Value}{r:SM}(h:lk m k=some v) (s:Su m r):Su m ((k,v)::r):=⟨h,s⟩
def NA {m:SM}:Su m []:=trivial
section
variable {P:Program}{ex:List (Nat×AP)}{R N:AP}{cs:List Code}{B:World}{h:AW}{n:FN}{m m':SM}{S:Nat→Prop}{L:List HP}
end
def B0.pure {P f args S h}{post:Value→(Nat→Prop)→AW→Prop}(k:B0 P f args S h post):∃v S' h',post v S' h':=by
 let w:World:={ (default:World) with heap:=h}
 obtain⟨e,w',fr,⟨v,S',h',_,_,_,a⟩,_⟩:=k w w ⟨rfl,rfl,rfl,rfl⟩ [];exact⟨v,S',h',a⟩
def IW {P:Program}{ops:Array Oper}{Q:Act→Prop}{n:FN}{m:SM}{rest:List Oper}{d:Nat}{ty:TypeId}{pos:String}{af:Array Edge}{X:Operand}{v:Value}{Ψ:Prop}{f:Nat}{xs:Array Operand}{c:Array TypeId}{a vs:List Value}{first cap:Array Value}{h B}
  (q:BT m X=some (.func (.func f) first cap)) (g:xs.toList.mapM (BT m)=some a) (i:first.toList++a++cap.toList=vs) (j:BJ P f=true) (hd:Nat.blt d n.1=true)
  (l:∀h',C5 h h'→B0 P f vs.toArray (λb=>b<h'.size) h' (λu _ _=>u=v∧Ψ))
  (k:Ψ→QF P ops (Cl B h) Q rest n ((d,v)::m)):QF P ops (Cl B h) Q (⟨some d,.call ⟨.value X,xs,c⟩,ty,pos,af,none⟩::rest) n m:=by
 obtain⟨_,_,_,_,s⟩:=(l h (C5.refl h)).pure;exact eI q g i j hd (λh' o=>(l h' o).mono λ_ _ _ _ p=>p.1) (k s)
section
variable {P:Program}{ops:Array Oper}{C:World→Prop}{Q:Act→Prop}{n:FN}{m m':SM}{rest:List Oper}{d:Nat}
end
def mh {α}{a:α}{l:List α}:a∈a::l:=List.Mem.head _
def mt {α}{a b:α}{l:List α}(h:a∈l):a∈b::l:=List.Mem.tail _ h
def eY {P:Program}{ops:Array Oper}{Q:Exit→Act→World→Prop}{n:FN}{m:SM}{rest:List Oper}{d:Nat}{ty:TypeId}{pos:String}{af:Array Edge}{X Y:Operand}{B:World}{h:AW}{S:Nat→Prop}{L:List HP}{v:Value}
  {α} {r:A7 α} {T e sz a:Nat} {z:List Value} {l xs:List α} {q s b sc:Nat} {c:List Value} {LL:Value→List HP} (t:BT m X=some v) (u:BT m Y=some (.slice (some ⟨q,0,none⟩) b sc)) (w:N3 P T=some (e,sz,a,z)) (o:r.sz=sz)
  (x:Bx q s c∈L) (y:LB S h r c xs) (p:b=xs.length) (g:Nat.blt 0 a=true) (i:Jb (l.length+xs.length) a) (hd:Nat.blt d n.1=true) (A:St S L h) (C:∀j,MX L (OS r e v l) (OS r e j (l++xs)) (LL j))
  (k:∀j h',St S (LL j) h'→CB S h S h'→LF P ops Q rest B h' n ((d,j)::m)):LF P ops Q (⟨some d,.call ⟨.builtin .append,#[X,Y],#[T,T]⟩,ty,pos,af,none⟩::rest) B h n m:=by
 have D:1≤a:=by simpa [Nat.blt] using g
 have F:l.length+xs.length≤(l.length+xs.length)*a:=Nat.le_mul_of_pos_right _ D;have G:=i.le;exact Xf t u w o x y p (by unfold maxLen;omega) i hd A C k
section
variable {P:Program}{ops:Array Oper}{C:World→Prop}{Q:Act→Prop}{n:FN}{m m':SM}{rest:List Oper}{d:Nat}{ty:TypeId}{pos:String}{af:Array Edge}{X Y Z:Operand}{t1 t2 t3 aty:TypeId}{x y z:Int}{kd:IntKind}
def eC (c:BT m X=some (.int kd x)) (g:BT m Y=some (.int kd y)) (i:BT m Z=some (.int kd z)) (hd:Nat.blt d n.1=true) (k:QF P ops C Q rest n ((d,.int kd (Min.min (Min.min x y) z))::m)):QF P ops C Q (⟨some d,.call ⟨.builtin .min,#[X,Y,Z],#[t1,t2,t3]⟩,aty,pos,af,none⟩::rest) n m:=
 λa b=>Dn b hd (λw _=>by
  have j:(if y<x then y else x)=Min.min x y:=by rw[Int.min_def];split<;>split<;>omega
  have l:(if z<Min.min x y then z else Min.min x y)=Min.min (Min.min x y) z:=by rw[Int.min_def (Min.min x y)];split<;>split<;>omega
  simp [execOp,resolve,invoke,builtin,Builtin.min_,Builtin.min2,b.eval c,b.eval g,b.eval i,j,l]) k
def QM {X Y:Operand}{t1 t2:TypeId}{a b:ByteArray}(g:BT m X=some (.string a)) (i:BT m Y=some (.string b)) (hd:Nat.blt d n.1=true) (k:QF P ops C Q rest n ((d,.bool (a==b))::m)):QF P ops C Q (⟨some d,.binOp .eql t1 X Y t2,ty,pos,af,none⟩::rest) n m:=
 λ_ c=>Dn c hd (λw _=>by
  have j:(eqGuard .eql t1 X Y (.string a) (.string b)).run P w= .ok () w:=by unfold eqGuard;simp
  simp [execOp,c.eval g,c.eval i,j,binOp,Op.stringOp,beq_toListBytes]) k
def VR {X Y:Operand}{t1 t2:TypeId}{a b:ByteArray}(g:BT m X=some (.string a)) (i:BT m Y=some (.string b)) (hd:Nat.blt d n.1=true) (k:QF P ops C Q rest n ((d,.bool (!(a==b)))::m)):QF P ops C Q (⟨some d,.binOp .neq t1 X Y t2,ty,pos,af,none⟩::rest) n m:=
 λ_ c=>Dn c hd (λw _=>by
  have j:(eqGuard .neq t1 X Y (.string a) (.string b)).run P w= .ok () w:=by unfold eqGuard;simp
  simp [execOp,c.eval g,c.eval i,j,binOp,Op.stringOp,beq_toListBytes]) k
def L0 {X:Operand}{t1:TypeId}{s:ByteArray}(b:BT m X=some (.string s)) (c:P.underlying t1=some .string) (hd:Nat.blt d n.1=true) (k:QF P ops C Q rest n ((d,.int .i64 s.size)::m)):QF P ops C Q (⟨some d,.call ⟨.builtin .len,#[X],#[t1]⟩,aty,pos,af,none⟩::rest) n m:=
 λ_ a=>Dn a hd (λw _=>by simp [execOp,resolve,invoke,builtin,Builtin.len_,a.eval b,run_underlying c,goInt]) k
end
def qz (o:Oper):Oper:={ o with dst:=none,op:= .move (.const undef),guard:=none}
def Lu (ops:Array Oper):Bool:=(List.range ops.size).all λi=>((ops[i]?).map λo=>o.after.all λe=> !Region.binds .any e||decide (e.on<i)).getD true
def Zg (ops:Array Oper) (n:Nat):Bool:=(List.range ops.size).all λi=>((ops[i]?).map λo=>match o.guard with|some (j,_)=> !Nat.beq j n|none=>true).getD true
def Yv (ops:Array Oper) (n:Nat):Bool:=
 match ops[n]? with
 |some on=>Nat.beq (n+1) ops.size&&Region.sinkB .any ops n&&Region.chainB .any ops n&&Lu ops&&Zg ops n&&Region.lexB .any (ops.setIfInBounds n (qz on))
 |none=>false
section
variable {P:Program}{ops:Array Oper}{C:World→Prop}{n:Nat}{on:Oper}
def Ts (b:ops[n]? =some on) (i:Nat):(ops.setIfInBounds n (qz on))[i]? =if i=n then some (qz on) else ops[i]? :=by
 have a:n<ops.size:=(uH.1 b).1;rw[vE];by_cases h:n=i
 ·subst h;simp [a]
 ·rw[tQ h,tQ (λe=>h e.symm)]
def R3 (b:ops[n]? =some on) (a:Array Bool):Region.ready .any (ops.setIfInBounds n (qz on)) a=Region.ready .any ops a:=by
 unfold Region.ready;simp only[Array.size_setIfInBounds];congr 1;funext i;rw[Ts b];by_cases h:i=n
 ·subst h;simp [b,qz]
 ·rw[tQ h]
def R0 (b:ops[n]? =some on) {j:Nat}(h:j≠n) (a:Array Value):yielded (ops.setIfInBounds n (qz on)) a j=yielded ops a j:=by
 unfold yielded;rw[Ts b,tQ h]
def Kf {p:Nat→Bool}:∀k,p k=false→∃i,i≤k∧p i=false∧∀j,j<i→p j=true:=by
 intro k
 induction k using Nat.strongRecOn with
 |_ k c=>
  intro d;by_cases h:∃j,j<k∧p j=false
  ·obtain⟨j,a,b⟩:=h;obtain⟨i,m,g,l⟩:=c j a b;exact⟨i,by omega,g,l⟩
  ·refine⟨k,tX _,d,λj a=>?_⟩;cases b:p j with
   |true=>rfl
   |false=>exact absurd ⟨j,a,b⟩ h
def Uh {Q':Exit→Act→World→Prop}(y:ops[n]? =some on) (ab:n+1=ops.size) (hs:Region.sinkB .any ops n=true) (hc:Region.chainB .any ops n=true) (hb:Lu ops=true) (hg:Zg ops n=true):
  ∀(d:Nat) (c:Array Bool) (a:Act) (w:World),HeadInv .any ops n c→C w→
   wpAnyQ P .any (ops.setIfInBounds n (qz on)) C (λa=>∀w,C w→wpList P ops Q' [on] a w) d c a→wpAny P .any ops Q' d c a w:=by
 have z:n<ops.size:=by omega
 have o:∀c,HeadInv .any ops n c→Region.ready .any ops c≠[]:=by
  intro c k h0;have H:c.getD n true=false:=k.tail n (tX _) z;obtain⟨i,t,Q,B⟩:=Kf (p:=λi=>c.getD i true) n H;have m:i<ops.size:=by omega
  have D:i∈Region.ready .any ops c:=by
   refine mem_ready.2 ⟨Q,ops[i],by simp [m],λe he U=>?_⟩;have u:=tS.1 hb i (uG.2 m);have F:ops[i]? =some ops[i]:=by simp [m]
   rw[F] at u;simp only[wK,vK,wL] at u;have h6:=u e he;simp only[U,uP,wC,uF] at h6;have h7:=B e.on h6;have h8:e.on<c.size:=by rw[k.size];omega
   simp only[vQ,xC h8,vK] at h7 ⊢;exact h7
  rw[h0] at D;cases D
 intro d
 induction d with
 |zero=>
  intro c a w k _ h;have t:=h.1;rw[R3 y] at t;exact absurd t (o c k)
 |succ d ih=>
  intro c a w k hw h;refine⟨λh0=>absurd h0 (o c k),λi D=>?_⟩;have V:i∈Region.ready .any (ops.setIfInBounds n (qz on)) c:=by rw[R3 y];exact D
  have t:=h.2 i V;obtain⟨H,oi,x,_⟩:=mem_ready.1 D;have m:i<ops.size:=(uH.1 x).1;by_cases I:i=n
  ·subst I;have W:oi=on:=tN (x.symm.trans y);subst W;have J:∀j,j<i→c.getD j true=true:=by
    intro j A;cases hl:c.getD j true with
    |true=>rfl
    |false=>exact absurd D (tail_waits hs hc z k _ j rfl A hl i (tX _))
   have l:Region.ready .any ops (c.setIfInBounds i true)=[]:=by
    apply List.eq_nil_iff_forall_not_mem.2;intro j A;obtain⟨q,oj,X,_⟩:=mem_ready.1 A;have aa:j<ops.size:=(uH.1 X).1;have Y:i<c.size:=by rw[k.size];omega
    have ac:j<c.size:=by rw[k.size];omega
    simp only[vQ,vE] at q;by_cases e:i=j
    ·subst e;simp [Y] at q
    ·rw[tQ e] at q;have:=J j (by omega);simp only[vQ] at this;rw[this] at q;cases q
   unfold qOp at t;rw[Ts y,tT rfl] at t;simp only at t;rw[tT (by simp [Region.wanted,qz])] at t;obtain⟨v,_,Q⟩:=t;have hk:∀w,C w→wpList P ops Q' [oi] a w:=by
    cases d with
    |zero=>exact Q.2
    |succ f=>exact Q.1 (by rw[R3 y];exact l)
   have B:=hk w hw;unfold wpOp;simp only[y];unfold wpList at B;have hQ:∀K w',wpList P ops Q' [] K w'→wpAny P .any ops Q' d (c.setIfInBounds i true) K w':=by
    intro K w' hq;cases d with
    |zero=>exact⟨l,hq⟩
    |succ f=>exact⟨λ_=>hq,λj A=>by rw[l] at A;cases A⟩
   split
   ·rename_i s;rw[tT s] at B;exact B.imp (Oper.wp_mono hQ) id
   ·rename_i s;rw[tQ s] at B;exact hQ _ _ B
  ·have M:i<n:=by omega
   have u:=wpOp_of_qOp (Q':=Q') hw (K':=wpAny P .any ops Q' d (c.setIfInBounds i true)) (λK w' s h'=>ih _ K w' (k.set D M) s h') t;unfold wpOp at u ⊢;rw[Ts y,tQ I] at u;simp only[x] at u ⊢;have G:Region.wanted oi (yielded (ops.setIfInBounds n (qz on)) a.tmps)=Region.wanted oi (yielded ops a.tmps):=by
    have F:=tS.1 hg i (uG.2 m);rw[x] at F;simp only[wK,vK] at F;unfold Region.wanted;cases Z:oi.guard with
    |none=>rfl
    |some g=>
     obtain⟨j,b⟩:=g;rw[Z] at F;simp only[uI] at F;have A:j≠n:=λe=>by subst e;simp at F
     simp only[R0 y A]
   rw[G] at u;exact u
def OE {c:Array Oper}{Q:Act→Prop}(i:∀(j:Nat) (d:Array Value),j<n→yielded c d j=yielded ops d j):
  ∀(l:List Oper) (a:Act),(∀o∈l,∀j b,o.guard=some (j,b)→j<n)→wpQuiet P ops C Q l a→wpQuiet P c C Q l a
 |[],_,_,h=>h
 |o::l,a,k,h=>by
  have s:Region.wanted o (yielded c a.tmps)=Region.wanted o (yielded ops a.tmps):=by
   unfold Region.wanted;cases m:o.guard with
   |none=>rfl
   |some g=>obtain⟨j,b⟩:=g;simp only;rw[i j _ (k o (by simp) j b m)]
  unfold wpQuiet at h ⊢;rw[s];split
  ·rename_i p;rw[tT p] at h;obtain⟨v,t,u⟩:=h;exact⟨v,t,OE i l _ (λo q=>k o (by simp [q])) u⟩
  ·rename_i p;rw[tQ p] at h;exact OE i l _ (λo q=>k o (by simp [q])) h
def fR (l:List Oper) (n:Nat):Bool:=l.all λo=>match o.guard with|some (j,_)=>Nat.blt j n|none=>true
def Ri {l:List Oper}{id:Nat}{Q':Exit→Act→World→Prop}{a:Act}{w:World}{D:Option Nat}(v:RD D (.region id l.toArray true)) (H:∀a w,¬Q' .outgrown a w) (n:Nat) (I:P.follows .mixedOrders=true) (m:Yv l.toArray n=true) (x:fR (l.take n) n=true) (J:C { w with drawn:=w.drawn+1})
  (h:wpQuiet P l.toArray C (λa=>∀w,C w→wpList P l.toArray Q' (l.drop n) a w) (l.take n) a):(Code.region id l.toArray true).wpIn (FF D) 0 P Q' a w:=by
 unfold Yv at m;split at m
 ·rename_i on y;simp only[tO] at m;obtain⟨⟨⟨⟨⟨K,M⟩,Q⟩,U⟩,V⟩,z⟩:=m;have p:=tV K;have F:n+1=l.length:=by simpa using p
  have k:l.drop n=[on]:=by
   have A:l[n]? =some on:=by simpa using y
   have d:n<l.length:=by omega
   rw[yL d,wX (by omega)];have:=uC d;rw[A] at this;rw[←tN this]
  rw[k] at h;have q:(l.toArray.setIfInBounds n (qz on)).toList=l.take n++[qz on]:=by
   have d:n<l.length:=by omega
   rw[List.setIfInBounds_toArray,List.set_eq_take_append_cons_drop,tT d,wX (by omega)]
  have W:wpQuiet P (l.toArray.setIfInBounds n (qz on)) C (λa=>∀w,C w→wpList P l.toArray Q' [on] a w) (l.take n++[qz on]) a:=by
   refine TE n (λa=>∀w,C w→wpList P l.toArray Q' [on] a w) ?_ λa' X=>?_
   ·have e:(l.take n++[qz on]).take n=l.take n:=by
     have:(l.take n).length=n:=by simp;omega
     rw[List.take_append_of_le_length (by omega),List.take_take,Nat.min_self]
    rw[e];refine OE (n:=n) (λj s hj=>R0 y (by omega) s) _ _ (λo Y j b B=>?_) h;have:=tS.1 x o Y;rw[B] at this;have h8:j+1≤n:=by simpa [Nat.blt] using this
    omega
   ·have e:(l.take n++[qz on]).drop n=[qz on]:=by
     have:(l.take n).length=n:=by simp;omega
     rw[List.drop_append_of_le_length (by omega),wX (by omega),uK]
    rw[e];unfold wpQuiet;rw[tT (by simp [Region.wanted,qz])];exact⟨undef,λw _=>by unfold Oper.quietAt;simp [execOp,qz,Act.eval,Oper.quietUpon],X⟩
  simp only[Region.lexB,tO] at z;refine NY v H I ?_;have g:(l.toArray.setIfInBounds n (qz on)).size=l.toArray.size:=by simp
  have c:(l.take n++[qz on]).length=l.toArray.size:=by rw[←q,yK,g]
  have u:HeadInv .any l.toArray n (Array.replicate l.toArray.size false):=
   ⟨by simp,λj oj _ G=>(by rw[getD_replicate_false] at G;cases G),λt _ Z=>getD_in (by simpa using Z) (getD_replicate_false _ _)⟩
  have i:=wpAnyQ_lex (P:=P) (C:=C) (md:= .any) z.1 (l.take n++[qz on]) 0 (Array.replicate l.toArray.size false) a (λj=>by rw[←q];simp) (by rw[c,←g];exact z.2) W;rw[c] at i;exact Uh y p M Q U V _ _ _ _ u J i
 ·cases m
end
section
variable {P:Program}{ex:List (Nat×AP)}{R N:AP}{cs:List Code}{B:World}{h:AW}{n:FN}{m:SM}{S:Nat→Prop}{L:List HP}
def Lo {l:List Oper}{id:Nat}(j:Nat) (g:P.follows .mixedOrders=true) (i:Yv l.toArray j=true) (b:fR (l.take j) j=true) (c:St S L h)
  (k:QF P l.toArray (Cl B h) (λa=>∀w h',Wd B h' w→St S L h'→CB S h S h'→wpList P l.toArray (Qx ex R (W P ex R cs N)) (l.drop j) a w) (l.take j) n m):WF P ex R (.region id l.toArray true::cs) N B h n m:=by
 intro a w o p t hd;refine Ri hd MG (C:=Cl B h) j g i b ⟨h,p.drew,C5.refl h⟩ ?_;refine TE j (λa=>∀w h',Wd B h' w→St S L h'→CB S h S h'→wpList P l.toArray (Qx ex R (W P ex R cs N)) (l.drop j) a w) (by rw[List.take_take,Nat.min_self];exact k a o) λu q=>?_;have e:(l.take j).drop j=[]:=by rw[wX];simp;omega
 rw[e];exact λw' ⟨h',s,d⟩=>q w' h' s (d.st c) (d.ext c.1)
def KD {ops:Array Oper}{C}{Q:Exit→Act→World→Prop}{l:List Oper}(k:∀h',St S L h'→CB S h S h'→LF P ops Q l B h' n m):QF P ops C (λa=>∀w h',Wd B h' w→St S L h'→CB S h S h'→wpList P ops Q l a w) [] n m:=
 λa b w h' c s e=>k h' s e a w b c
end
def ix {α}(l:List α) (i:Int):Option α:=if i<0 then none else l[i.toNat]?
def upd {α}(l:List α) (i:Int) (x:α):List α:=l.set i.toNat x
def chk {α}(b:Bool) (x:Option α):Option α:=cond b x none
def IX (n a:Nat):Bool:=decide (n*a≤140737488355328)||(decide (n*a≤175921860444160)&&decide (a≤274877906944))
def KH (len cap:Int) (a:Nat):Bool:=decide (0≤len)&&decide (len≤cap)&&decide (a*cap≤140737488355328)
def bd {α β}{a:Option α}{f:α→Option β}{r}(e:a.bind f=some r):∃x,a=some x∧f x=some r:=wV.1 e
def GV {α}{b:Bool}{x y r:α}(h:b=true) (e:cond b x y=r):x=r:=by subst h;exact e
def GW {α}{b:Bool}{x y r:α}(h:b=false) (e:cond b x y=r):y=r:=by subst h;exact e
def LA {α}{b:Bool}{x:Option α}{r}(e:chk b x=some r):b=true∧x=some r:=by
 cases b with
 |false=>cases e
 |true=>exact⟨rfl,e⟩
def Et {α}{l:List α}{i:Int}{x:α}(h:ix l i=some x):0≤i∧l[i.toNat]? =some x:=by
 unfold ix at h;split at h
 ·cases h
 ·exact⟨by omega,h⟩
def oW {α}{l:List α}{i:Int}{x:α}(h:ix l i=some x):0≤i∧i<(l.length:Int):=by
 obtain⟨a,b⟩:=Et h;have:=(uB.1 b).1;exact⟨a,by omega⟩
def L4 {n a:Nat}(h:IX n a=true):Jb n a:=by simpa [IX,Jb] using h
def Ql {x y:Int}(a:AA x) (b:AA y):AA (max x y):=by unfold AA at *;omega
def NF {x y:Int}(a:AA x) (b:AA y):AA (min x y):=by unfold AA at *;omega
def St.pick {S L h H L2}(a:St S L h) (p:PI L H L2):St S (H::L2) h:=⟨a.1,Sp.pick p a.2⟩
def HP.Flat (H:HP):Prop:=∀{S S' F h},H.holds S F h→H.holds S' F h
def A7.Flat {α}(r:A7 α):Prop:=∀{S h S' h' cs x},r.rd S h cs x→r.rd S' h' cs x
def LB.flat {α}{r:A7 α}(f:r.Flat) {S h S' h'}:∀{l:List α}{cs},LB S h r cs l→LB S' h' r cs l
 |[],_,k=>k
 |_::_,_,⟨a,b,e,c,d⟩=>⟨a,b,e,f c,d.flat f⟩
def OS.flat {α}{r:A7 α}{T v l}(f:r.Flat):(OS r T v l).Flat:=λ{_ _ _ _} k=>by
 rcases k with k|⟨g,cap,cur,k1,k2,k3,k4,k5,k6,k7⟩
 ·exact .inl k
 ·exact .inr ⟨g,cap,cur,k1,k2,k3,k4,k5,k6,k7.flat f⟩
def UT:List HP→Prop
 |[]=>True
 |H::M=>H.Flat∧UT M
def Sp.join {S S':Nat→Prop}{h}{L:List HP}:∀{M:List HP}{c d A:Nat→Prop},UT M→Sp S' M h c→Sp S L h d→(∀b,c b→A b)→(∀b,d b→A b)→(∀b,c b→¬d b)→Sp S (M++L) h A
 |[],c,d,A,_,_,g,_,i,_=>g.mono i
 |H::M,c,d,A,⟨f,m⟩,⟨F,n,j,o⟩,g,k,i,l=>
  ⟨F,f n,λb a=>k b (j b a),Sp.join m o g (λb a=>⟨k b a.1,a.2⟩) (λb a=>⟨i b a,λp=>l b (j b p) a⟩) λb a=>l b a.1⟩
def St.join {S S' L M h h'}(d:St S L h) (e:CB (λb=>b<h.size) h S' h') (g:St S' M h') (f:UT M):St S (M++L) h':=by
 refine⟨λb a=>tZ (d.1 b a) e.siz,?_⟩;have i:Sp S L h' (λb=>b<h.size∧¬S b):=Sp.ext d.2 (λ_ x=>x) (λb a=>e.same b (a.elim (d.1 b) (·.1))) λ_ x=>x;exact Sp.join f g.2 i (λb a=>⟨a.1,λc=>a.2 (e.sub b (d.1 b c))⟩) (λb a=>⟨tZ a.1 e.siz,a.2⟩) λb a c=>a.2 (e.sub b c.1)
def NM {α β}(r:A7 α) (off:Nat) (r':A7 β) (g:α→β→α):Prop:=
 off+r'.sz≤r.sz∧∀{S h c x vs y},r.rd S h c x→r'.rd S h vs y→r.rd S h (IY c off vs) (g x y)
def FW.id {α}{r:A7 α}:FW r 0 r (λx=>x):=λ{S h cs x} k=>by
 have:=r.len k;simp only[List.drop_zero,←this,uZ];exact k
def FW.trans {α β γ}{r:A7 α}{c:A7 β}{d:A7 γ}{o1 o2 f g}(a:FW r o1 c f) (b:FW c o2 d g) (i:o2+d.sz≤c.sz):FW r (o1+o2) d (λx=>g (f x)):=λ{S h cs x} k=>by
 have:=b (a k);rw[List.drop_take,List.drop_drop,List.take_take] at this;rw[xT (by omega)] at this;exact this
def NM.id {α}{r:A7 α}:NM r 0 r (λ_ y=>y):=⟨by omega,λ{S h c x vs y} b a=>by
 have d:=r.len b;have g:=r.len a;simp only[IY,wD,uK,uT];rw[List.drop_of_length_le (by omega),uU];exact a⟩
def NM.trans {α β γ}{r:A7 α}{d:A7 β}{g:A7 γ}{o1 o2 f g1 g2}(a:NM r o1 d g1) (k:FW r o1 d f) (b:NM d o2 g g2):NM r (o1+o2) g (λx y=>g1 x (g2 (f x) y)):=by
 refine⟨by have:=a.1;have:=b.1;omega,λ{S h c x vs y} i j=>?_⟩;have l:=k i;have m:=b.2 l j;have n:=a.2 i m;have t:=r.len i;have u:=g.len j;have v:=a.1;have w:=b.1;have:IY c (o1+o2) vs=IY c o1 (IY ((c.drop o1).take d.sz) o2 vs):=by
  unfold IY;have l1:((c.drop o1).take d.sz).length=d.sz:=by simp;omega
  simp only[uJ,vT,vY];rw[List.take_take,xT (by omega),List.drop_take,List.drop_drop];have o:c.take (o1+o2)=c.take o1++(c.drop o1).take o2:=List.take_add ..;rw[o];simp only[xU,List.append_cancel_left_eq];have p:o1+(min o2 (min d.sz (c.length-o1))+vs.length+(min d.sz (c.length-o1)-(o2+vs.length)))=o1+d.sz:=by omega
  rw[p];have q:c.drop (o1+(o2+vs.length))=(c.drop (o1+(o2+vs.length))).take (d.sz-(o2+vs.length))++(c.drop (o1+(o2+vs.length))).drop (d.sz-(o2+vs.length)):=(yA _ _).symm;have s:(c.drop (o1+(o2+vs.length))).drop (d.sz-(o2+vs.length))=c.drop (o1+d.sz):=by rw[List.drop_drop];congr 1;omega
  rw[←s,xJ];exact q
 rw[this];exact n
def jL {g k off:Nat}:(⟨g,k,none⟩:Addr).add off=⟨g,k+off,none⟩:=by unfold Addr.add;split<;>simp_all
def St.epAt {α β}{r:A7 α}{r':A7 β}{S L h T v l i x off f q}(o:St S L h) (p:OS r T v l∈L) (s:ix l i=some x) (t:FW r off r' f) (u:EP v (i.toNat*r.sz+off) q):Mb (λb=>b<h.size) S h r' q (f x):=by
 obtain⟨g,cap,rfl,k⟩:=o.osAt p (Et s).2;obtain⟨w,n,c,d,rfl⟩:=u;injection d with d
 injection d with d
 injection d with d
 subst d;obtain⟨a,j,m⟩:=k.fld t;injection j with j
 injection j with j
 subst j;rw[jL] at m;exact m
def A7.fn {t u:Type}(P:Program) (k:t→List Value) (l:t→Prop) (m:u→Value) (d:u→Prop):A7 (t→Option u) where
 sz:=1
 ag:=false
 rd:=λS h cs w=>∃(f:FuncId) (a:Array Value),cs=[.func (.func f) #[] a]∧BJ P f=true∧∀(S':Nat→Prop) (h':AW),(∀b,S b→S' b)→(∀b,S b→h'[b]? =h[b]?)→∀L,St S' L h'→∀x y,l x→w x=some y→
  B0 P f (k x++a.toList).toArray S' h' (λv g i=>v=m y∧d y∧St g L i)
 len:=λ⟨_,_,h,_⟩=>by rw[h];rfl
 one:=λ⟨_,_,h,_⟩ v j=>by rw[h] at j;simp at j;rw[j];rfl
 mono:=λ⟨f,a,n,o,p⟩ s e=>⟨f,a,n,o,λS' h' s' q=>p S' h' (λb c=>s' b (s b c)) λb c=>(q b (s b c)).trans (e b c)⟩
def Rd.fn {m n:Type}{P:Program}{i:m→List Value}{j:m→Prop}{l:n→Value}{c:n→Prop}{S h v}{o:m→Option n}(k:Rd S h (A7.fn P i j l c) v o):
  ∃(f:FuncId) (a:Array Value),v= .func (.func f) #[] a∧BJ P f=true∧∀(S':Nat→Prop) (h':AW),(∀b,S b→S' b)→(∀b,S b→h'[b]? =h[b]?)→∀L,St S' L h'→∀x y,j x→o x=some y→
  B0 P f (i x++a.toList).toArray S' h' (λv d g=>v=l y∧c y∧St d L g):=by
 obtain⟨_,rfl,f,a,rfl,h⟩:=k;exact⟨f,a,rfl,h⟩
def Rd.ofFn {n o:Type}{P:Program}{i:n→List Value}{j:n→Prop}{k:o→Value}{c:o→Prop}{S h}{p:n→Option o}(f:FuncId) (a:Array Value) (l:BJ P f=true)
  (m:∀(S':Nat→Prop) (h':AW),(∀b,S b→S' b)→(∀b,S b→h'[b]? =h[b]?)→∀L,St S' L h'→∀x y,j x→p x=some y→B0 P f (i x++a.toList).toArray S' h' (λv d g=>v=k y∧c y∧St d L g)):
  Rd S h (A7.fn P i j k c) (.func (.func f) #[] a) p:=⟨_,rfl,f,a,rfl,l,m⟩
def Mb.mono'' {α S h S' h'}{r:A7 α}{p x}(k:Pt S h r p x) (s:∀b,S b→S' b) (e:∀b,S b→h'[b]? =h[b]?):Pt S' h' r p x:=
 let ⟨cs,a,c⟩:=k;⟨cs,a.mono s e,r.mono c s e⟩
def Rd.mono'' {α S h S' h'}{r:A7 α}{v x}(k:Rd S h r v x) (s:∀b,S b→S' b) (e:∀b,S b→h'[b]? =h[b]?):Rd S' h' r v x:=
 let ⟨cs,a,c⟩:=k;⟨cs,a,r.mono c s e⟩
def St.pubb {S L L2 h b T cs}{α}{r:A7 α}{x:α}(d:St S L h) (p:PI L (Bx b T cs) L2) (g:r.rd S h cs x):∃S',St S' L2 h∧CB S h S' h∧Pt S' h r (.pointer (some ⟨b,0,none⟩)) x:=by
 obtain⟨F,c,k,i,a⟩:=d.pub p;exact⟨_,i,a,cs,⟨⟨b,0,none⟩,rfl,rfl,.inr ((c.1 b).2 rfl),λj _=>by simp only[uT];exact Bx.cell c j⟩,r.mono g a.sub a.same⟩
section
variable {P:Program}{ops:Array Oper}{C:World→Prop}{Q:Act→Prop}{n:FN}{m m':SM}{rest:List Oper}
variable {d:Nat}{ty:TypeId}{pos:String}{af:Array Edge}{X Y:Operand}{t t1 t2:TypeId}{x y z:Int}{kd:IntKind}{v p:Value}{S:Nat→Prop}{L:List HP}{h:AW}
def M2 {α}{r:A7 α}{l:List α}{e i x}(b:BT m X=some v) (c:BT m Y=some (.int .i64 i)) (k0:Sl S h r v l) (g:N1 P t e r.sz=true) (a:Go.Proofs.YtedgiljmffngoaaGreat.ix l i=some x) (hd:Nat.blt d n.1=true)
  (k:∀q,Pt S h r q x→QF P ops C Q rest n ((d,q)::m)):QF P ops C Q (⟨some d,.indexAddr t X Y,ty,pos,af,none⟩::rest) n m:=qE b c k0 g (Et a).1 (Et a).2 hd k
def BR {α}{r:A7 α}{l:List α}{T e i x}(b:St S L h) (c:OS r T v l∈L) (g:BT m X=some v) (j:BT m Y=some (.int .i64 i)) (o:N1 P t e r.sz=true) (a:Go.Proofs.YtedgiljmffngoaaGreat.ix l i=some x) (hd:Nat.blt d n.1=true)
  (k:∀q,EP v (i.toNat*r.sz+0) q→QF P ops C Q rest n ((d,q)::m)):QF P ops C Q (⟨some d,.indexAddr t X Y,ty,pos,af,none⟩::rest) n m:=mQ b c g j o (Et a).1 (Et a).2 hd λq _ e=>k q e
def UO {k0 j off:Nat}{q:Value}(b:BT m X=some q) (i:EP v k0 q) (l:YV P t j off=true) (hd:Nat.blt d n.1=true)
  (k:∀a,EP v (k0+off) a→QF P ops C Q rest n ((d,a)::m)):QF P ops C Q (⟨some d,.fieldAddr t X j,ty,pos,af,none⟩::rest) n m:=by
 obtain⟨g,o,c,p,rfl⟩:=i;exact Ig b l hd (k _ ⟨g,o,c,p,rfl⟩)
def eM (a:BT m X=some (.int .i64 x)) (b:BT m Y=some (.int .i64 y)) (hd:Nat.blt d n.1=true) (c:BD (x+y)=z) (k:QF P ops C Q rest n ((d,.int .i64 z)::m)):QF P ops C Q (⟨some d,.binOp .add t1 X Y t2,ty,pos,af,none⟩::rest) n m:=Xb a b hd (c▸k)
def dT (a:BT m X=some (.int .i64 x)) (b:BT m Y=some (.int .i64 y)) (hd:Nat.blt d n.1=true) (c:BD (x-y)=z) (k:QF P ops C Q rest n ((d,.int .i64 z)::m)):QF P ops C Q (⟨some d,.binOp .sub t1 X Y t2,ty,pos,af,none⟩::rest) n m:=XP a b hd (c▸k)
def bG {xs:Array Value}{i:Nat}{u:Value}(c:BT m X=some (.tuple xs)) (g:xs[i]? =some u) (hd:Nat.blt d n.1=true) (k:QF P ops C Q rest n ((d,u)::m)):QF P ops C Q (⟨some d,.extract X i,ty,pos,af,none⟩::rest) n m:=
 λa b=>Dn b hd (λw _=>by simp [execOp,b.eval c,Instr.extract,g]) k
def Om {f:Fn}{b cs:Array Operand}{g i:List Value}(j:b.toList.mapM (BT m)=some g) (l:cs.toList.mapM (BT m)=some i) (hd:Nat.blt d n.1=true) (k:QF P ops C Q rest n ((d,.func f g.toArray i.toArray)::m)):QF P ops C Q (⟨some d,.makeFunc f b cs,ty,pos,af,none⟩::rest) n m:=
 λa c=>Dn c hd (λw _=>by
  have e:(execOp a.eval ⟨some d,.makeFunc f b cs,ty,pos,af,none⟩).run P w= .ok (.value (.func f (b.map a.eval) (cs.map a.eval))) w:=rfl;rw[e,VH c j,VH c l]) k
end
section
variable {P:Program}{ex:List (Nat×AP)}{R N:AP}{cs:List Code}{B:World}{h:AW}{n:FN}{m m':SM}{S:Nat→Prop}{L:List HP}
def AO {i:Nat}{c:Code}(I:AP) (b:WF P ((i,I)::ex) R [c] I B h n m) (d:∀a w,I a w→W P ex R cs N a w):WF P ex R (.block i c::cs) N B h n m:=λa w g j=>Uc I (b a w g j) d
def A4 {c:Code}(I:Nat→AP) (d:Nat) (h0:∀a w,Fr n a m→Wd B h w→I d a w) (j:∀a w,¬I 0 a w) (b:∀k a w,I (k+1) a w→W P ex R [c] (I k) a w):WF P ex R (.loop c::cs) N B h n m:=by
 refine dR (λi a w=>∃k,i+k=d∧I k a w) d 0 (λa w l o=>⟨d,by omega,h0 a w l o⟩) (λi a w ⟨k,p,_⟩=>by omega) λi a w ⟨k,p,g⟩=>?_;cases k with
 |zero=>exact absurd g (j a w)
 |succ k=>exact gZ (b k a w g) λq w' h'=>⟨k,by omega,h'⟩
end
section
variable {P:Program}{ops:Array Oper}{Q:Exit→Act→World→Prop}{n:FN}{m:SM}{rest:List Oper}
variable {d:Nat}{ty:TypeId}{pos:String}{af:Array Edge}{X Y:Operand}{B:World}{h:AW}{S:Nat→Prop}{L L2:List HP}{v:Value}
def E6 {f:Nat}{xs:Array Operand}{i:Array TypeId}{c vs:List Value}{first cap:Array Value}{g:Value→(Nat→Prop)→AW→Prop}
  (x:BT m X=some (.func (.func f) first cap)) (j:xs.toList.mapM (BT m)=some c) (l:first.toList++c++cap.toList=vs) (q:BJ P f=true) (hd:Nat.blt d n.1=true) (u:St S L h) (y:B0 P f vs.toArray (λb=>b<h.size) h g)
  (k:∀v S' h',St S L h'→CB S h S h'→CB (λb=>b<h.size) h S' h'→g v S' h'→LF P ops Q rest B h' n ((d,v)::m)):LF P ops Q (⟨some d,.call ⟨.value X,xs,i⟩,ty,pos,af,none⟩::rest) B h n m:=
 λ_ _ s t=>ZZ s x j l q hd t y λv a w S' h' s t e p=>
  have o:C5 h h':=⟨e.siz,λb z=>e.same b z⟩
  k v S' h' (o.st u) (o.ext u.1) e p a w s t
def KE {α}{r:A7 α}{T e sz c:Nat}{z:List Value}{l xs:List α}{q s a sc:Nat}{b:List Value}{LL:Value→List HP}(t:BT m X=some v) (u:BT m Y=some (.slice (some ⟨q,0,none⟩) a sc)) (w:N3 P T=some (e,sz,c,z)) (j:r.sz=sz)
  (x:Bx q s b∈L) (y:LB S h r b xs) (o:a=xs.length) (g:Nat.blt 0 c=true) (p:IX (l.length+xs.length) c=true) (hd:Nat.blt d n.1=true) (A:St S L h) (C:∀i,MX L (OS r e v l) (OS r e i (l++xs)) (LL i))
  (k:∀i h',St S (LL i) h'→CB S h S h'→LF P ops Q rest B h' n ((d,i)::m)):LF P ops Q (⟨some d,.call ⟨.builtin .append,#[X,Y],#[T,T]⟩,ty,pos,af,none⟩::rest) B h n m:=
 eY t u w j x y o g (L4 p) hd A C k
def Jt {α}{r:A7 α}{T e sz b:Nat}{z:List Value}{zx:α}{len cap:Int}{l o:IntKind}{U V:Operand}(p:N3 P T=some (e,sz,b,z)) (j:r.sz=sz) (q:r.rd S h z zx)
  (s:BT m U=some (.int l len)) (t:BT m V=some (.int o cap)) (g:KH len cap b=true) (i:Nat.blt 0 b=true) (hd:Nat.blt d n.1=true) (u:St S L h)
  (k:∀v h',St S (OS r e v (List.replicate len.toNat zx)::L) h'→CB S h S h'→LF P ops Q rest B h' n ((d,v)::m)):LF P ops Q (⟨some d,.makeSlice T U V,ty,pos,af,none⟩::rest) B h n m:=by
 simp only[KH,tO,uF] at g;obtain⟨⟨h0,A⟩,w⟩:=g;obtain⟨a,rfl⟩:∃a:Nat,len=a:=⟨len.toNat,by omega⟩
 obtain⟨c,rfl⟩:∃c:Nat,cap=c:=⟨cap.toNat,by omega⟩
 have x:((b*c:Nat):Int)≤140737488355328:=by rw[Int.natCast_mul];exact w
 have C:b*c≤140737488355328:=by omega
 have y:1≤b:=by simpa [Nat.blt] using i
 have D:c≤b*c:=Nat.le_mul_of_pos_left _ y;exact qG p j q s t (by omega) (by omega) (by unfold maxLen;omega) hd u (by simpa using k)
def FM {α β}{r:A7 α}{r':A7 β}{T' e:TypeId}{l:List α}{i:Int}{x:α}{y:β}{g:α→β→α}{off:Nat}{q u:Value}(hx:BT m X=some q) (hy:BT m Y=some u) (hu:Rd S h r' u y) (ep:EP v (i.toNat*r.sz+off) q) (ac:ix l i=some x)
  (up:NM r off r' g) (ht:Jd P T' r'.sz r'.ag=true) (h1:r'.ag=false→r'.sz=1) (hs:St S L h) (rp:MX L (OS r e v l) (OS r e v (upd l i (g x y))) L2)
  (k:∀h',St S L2 h'→CB S h S h'→LF P ops Q rest B h' n m):LF P ops Q (⟨none,.store T' X Y,ty,pos,af,none⟩::rest) B h n m:=by
 intro a w hf H;refine wpList_plain rfl λK hK=>?_;unfold Oper.wp;obtain⟨vs,rfl,d⟩:=hu;have o:=r'.len d;have hv:(r'.val vs).cells=vs.toArray:=by
  unfold A7.val;cases I:r'.ag with
  |true=>rfl
  |false=>
   have hl:=o;rw[h1 I] at hl
   match vs,hl,d with
   |[c],_,d=>
    have ho:=r'.one d c (by simp);cases c<;>first|rfl|(simp [Value.oneCell'] at ho)
 obtain⟨M,p,_⟩:=rp.pick;obtain⟨F,g1,g2,_⟩:=Sp.pick p hs.2;obtain⟨j,n',c',rfl,rfl⟩:=ep;obtain⟨i0,J⟩:=Et ac;have t:i.toNat<l.length:=(uB.1 J).1;have aj:i.toNat*r.sz+r.sz≤l.length*r.sz:=by rw[←wF];exact wB _ t
 have ah:=up.1;obtain⟨ti,dd,hi,hd,ad,I⟩:=Py ht;have s:∀F,(OS r e (.slice (some ⟨j,0,none⟩) n' c') l).holds S F h→(∀b,F b→b<h.size∧¬S b)→∃cur,(∀b,F b↔b=j)∧h[j]? =some (.cells cur e (0,0))∧l.length*r.sz≤cur.size∧
   ∀h',h'.size=h.size→h'[j]? =some (.cells (IY cur.toList (i.toNat*r.sz+off) vs).toArray e (0,0))→(∀b,b≠j→h'[b]? =h[b]?)→(OS r e (.slice (some ⟨j,0,none⟩) n' c') (upd l i (g x y))).holds S F h':=by
  intro F z hF;rcases z with ⟨_,z,_⟩|⟨g0,cap,cur,z,D,k3,k4,k5,k6,k7⟩
  ·rw[z] at t;exact absurd t (Nat.not_lt_zero _)
  ·injection z with A e2 e3
   injection A with A
   injection A with A
   subst A;subst e2;subst e3;have ae:l.length*r.sz≤cur.size:=by rw[k6];exact wB _ k4
   refine⟨cur,D,k3,ae,λh' z1 z2 z3=> .inr ⟨j,c',_,?_,D,z2,?_,k5,?_,?_⟩⟩
   ·simp [upd]
   ·simpa [upd] using k4
   ·rw[xS,U2 _ _ _ (by simp;omega)];simpa using k6
   ·have U:((IY cur.toList (i.toNat*r.sz+off) vs).toArray.toList.take ((upd l i (g x y)).length*r.sz))=IY (cur.toList.take (l.length*r.sz)) (i.toNat*r.sz+off) vs:=by
     unfold IY upd;simp only[List.length_set];rw[List.take_take,xT (by omega),List.take_append,List.take_of_length_le (by simp;omega),List.drop_take];congr 2;simp;omega
    rw[U];have C:LB S h' r (cur.toList.take (l.length*r.sz)) l:=k7.mono (λ_ x=>x) λb hb=>z3 b λe=>(hF b ((D b).2 e)).2 hb;have V:r'.rd S h' vs y:=r'.mono d (λ_ x=>x) λb hb=>z3 b λe=>(hF b ((D b).2 e)).2 hb;exact C.set J (by omega) λc W=>up.2 W V
 obtain⟨cur,m1,m2,m3,m4⟩:=s F g1 g2;have hg:w.heap[j]? =some (.cells cur e (0,0)):=by rw[H.heap];exact m2
 have Z:=run_storeCells_at P j (i.toNat*r.sz+off) e vs 0 cur w hg (by omega) (λu hu=>r'.one d u hu);have aa:(List.take (i.toNat*r.sz+off+0) cur.toList++vs++List.drop (i.toNat*r.sz+off+0+vs.length) cur.toList)=IY cur.toList (i.toNat*r.sz+off) vs:=by simp [IY]
 rw[aa] at Z;have ab:(execOp a.eval ⟨none,.store T' X Y,ty,pos,af,none⟩).run P w= .ok .skip (w.setRow j (IY cur.toList (i.toNat*r.sz+off) vs).toArray):=by
  simp [execOp,hf.eval hx,hf.eval hy,Instr.storeAt,Instr.sureAddr,storeVar,hv,Qc hi,ad,o,Z]
 rw[ab];obtain⟨h',A,e2,e3,U⟩:=P0 w j cur (IY cur.toList (i.toNat*r.sz+off) vs).toArray e hg;rw[H.heap] at e2 U;obtain⟨u1,u2⟩:=hs.upd (h':=h') rp (by omega) λF z D=>by
  obtain⟨ai,q1,G,q3,q4⟩:=s F z D;rw[m2] at G;injection G with G
  injection G with G
  subst G;exact⟨F,q4 h' e2 e3 U,λc W=> .inl W,λc _ W=>U c λe=>W ((q1 c).2 e)⟩
 exact hK _ _ (k h' u1 u2 _ _ hf ⟨A,H.os,H.tape,H.out⟩)
end
end Go.Proofs.YtedgiljmffngoaaGreat
