import Derived.Test.YtibidnaedddfdaaGreatECore4
import Derived.Deep.DeepAppendWide
namespace Go.Proofs.YtibidnaedddfdaaGreat
set_option linter.all false
open Go.RowKit
def MX {α}(S:Nat→Prop) (h:AX) (r:BU α):List Value→List α→Prop
 |cs,[]=>cs=[]
 |cs,x::l=>∃a b,cs=a++b∧r.rd S h a x∧MX S h r b l
def MX.mono {α S S' h h'}{r:BU α}:∀{l:List α}{cs},MX S h r cs l→(∀b,S b→S' b)→(∀b,S b→h'[b]? =h[b]?)→MX S' h' r cs l
 |[],_,k,_,_=>k
 |_::_,_,⟨a,c,e,d,g⟩,s,q=>⟨a,c,e,r.mono d s q,g.mono s q⟩
def MX.len {α S h}{r:BU α}:∀{l:List α}{cs},MX S h r cs l→cs.length=l.length*r.sz
 |[],_,k=>by have k:_=[]:=k;subst k;simp
 |_::l,_,⟨c,d,e,a,b⟩=>by subst e;rw[wC,r.len a,b.len,List.length_cons,wY];omega
def MX.one {α S h}{r:BU α}:∀{l:List α}{cs},MX S h r cs l→∀v∈cs,v.oneCell'=true
 |[],_,k,v,a=>by have k:_=[]:=k;subst k;cases a
 |_::_,_,⟨d,g,e,b,c⟩,v,a=>by subst e;exact(wF.1 a).elim (r.one b v) (c.one v)
def MX.append {α S h}{r:BU α}:∀{l c:List α}{cs a},MX S h r cs l→MX S h r a c→MX S h r (cs++a) (l++c)
 |[],_,_,_,k,b=>by have k:_=[]:=k;subst k;exact b
 |_::_,_,_,_,⟨d,g,e,i,b⟩,kk=>by subst e;exact⟨d,g++_,by simp,i,b.append kk⟩
def MX.at_ {α S h}{r:BU α}:∀{l:List α}{cs}{i:Nat}{x},MX S h r cs l→l[i]? =some x→r.rd S h ((cs.drop (i*r.sz)).take r.sz) x
 |[],_,_,_,_,a=>by simp at a
 |y::l,_,0,x,⟨b,c,e,d,g⟩,a=>by
  subst e;simp only[xR,vU] at a;subst a;have:=r.len d;simp only[Nat.zero_mul,List.drop_zero,←this,yS];exact d
 |y::l,_,i+1,x,⟨b,c,e,d,g⟩,a=>by
  subst e;simp only[xL] at a;have j:=r.len d;have m:(i+1)*r.sz=b.length+i*r.sz:=by rw[j,wY];omega
  rw[m,List.drop_append_of_le_length_add];exact g.at_ a
 where
 List.drop_append_of_le_length_add:∀{b c:List Value} {k:Nat},(b++c).drop (b.length+k)=c.drop k:=by
  intro b c k;rw[←List.drop_drop,List.drop_left]
def Vk (cs:List Value) (o:Nat) (vs:List Value) (h:o+vs.length≤cs.length):(IA cs o vs).length=cs.length:=by
 simp [IA];omega
def MX.set {α S h}{r:BU α}:∀{l:List α}{cs}{i o:Nat}{x y}{vs:List Value},MX S h r cs l→l[i]? =some x→o+vs.length≤r.sz→(∀c,r.rd S h c x→r.rd S h (IA c o vs) y)→MX S h r (IA cs (i*r.sz+o) vs) (l.set i y)
 |[],_,_,_,_,_,_,_,a,_,_=>by simp at a
 |z::l,_,0,o,x,y,vs,⟨b,g,e,d,j⟩,a,m,k=>by
  subst e;simp only[xR,vU] at a;subst a;have n:=r.len d;refine⟨IA b o vs,g,?_,k _ d,j⟩;simp only[IA,Nat.zero_mul,vO];rw[zD (by omega),List.drop_append_of_le_length (by omega)];simp
 |z::l,_,i+1,o,x,y,vs,⟨b,g,e,d,j⟩,a,m,k=>by
  subst e;simp only[xL] at a;have n:=r.len d;refine⟨b,IA g (i*r.sz+o) vs,?_,d,j.set a m k⟩;have p:(i+1)*r.sz+o=b.length+(i*r.sz+o):=by rw[n,wY];omega
  simp only[IA];rw[p,Nat.add_assoc b.length,←List.drop_drop,List.drop_left,List.take_length_add_append];simp
def OS {α}(r:BU α) (T:TypeId) (v:Value) (l:List α):HP where
 holds:=λS F h=>((∃c,v= .slice c 0 0)∧l=[]∧∀b,¬F b)∨
  ∃i cap a,v= .slice (some ⟨i,0,none⟩) l.length cap∧(∀b,F b↔b=i)∧h[i]? =some (.cells a T (0,0))∧l.length≤cap∧cap≤maxLen∧a.size=cap*r.sz∧MX S h r (a.toList.take (l.length*r.sz)) l
 loc:=λk s e=>by
  rcases k with k|⟨i,cap,a,k1,k2,k3,k4,k5,k6,k7⟩
  ·exact .inl k
  ·exact .inr ⟨i,cap,a,k1,k2,(e i (.inr ((k2 i).2 rfl))).trans k3,k4,k5,k6,k7.mono s λb d=>e b (.inl d)⟩
section
variable {α:Type}{r:BU α}{T:TypeId}{v:Value}{l:List α}{S F:Nat→Prop}{h:AX}{L L2:List HP}
def OS.len (k:(OS r T v l).holds S F h):∃a cap,v= .slice a l.length cap∧l.length≤maxLen:=by
 rcases k with ⟨⟨a,b⟩,h2,_⟩|⟨g,cap,cur,b,h2,h3,h4,h5,_⟩
 ·subst h2;exact⟨a,0,b,uO _⟩
 ·exact⟨_,cap,b,wP h4 h5⟩
def St.oslen (a:St S L h) (b:OS r T v l∈L):∃c cap,v= .slice c l.length cap∧l.length≤maxLen:=by
 obtain⟨F,k,_⟩:=a.get b;exact OS.len k
def St.nil (a:St S L h) (r:BU α) (T:TypeId):St S (OS r T (.slice none 0 0) ([]:List α)::L) h:=
 (a.add (uW _) (λ_ _=>rfl) ⟨λ_=>False,Or.inl ⟨⟨none,rfl⟩,rfl,λ_ x=>x⟩,λ_ x=>x.elim⟩).1
def OS.sl (k:(OS r T v l).holds S F h) (s:∀b,F b→S b):Sl S h r v l:=by
 rcases k with ⟨⟨d,a⟩,h2,_⟩|⟨g,cap,cur,a,h2,h3,h4,h5,h6,h7⟩
 ·subst h2;cases d with
  |none=>exact .inl ⟨a,rfl⟩
  |some d=>exact .inr ⟨d,0,a,uW _,uO _,λi x c=>by simp at c⟩
 ·refine .inr ⟨⟨g,0,none⟩,cap,a,h4,h5,λi x c=>⟨rfl,?_⟩⟩;have m:=h7.at_ c;have n:i<l.length:=(uV.1 c).1;have p:i*r.sz+r.sz≤l.length*r.sz:=by rw[←wY];exact wM _ n
  refine⟨_,⟨⟨g,0+i*r.sz,none⟩,rfl,rfl,s g ((h2 g).2 rfl),λj q=>?_⟩,m⟩;have o:j<r.sz:=by simp only[vV,xC] at q;omega
  simp only[JT,h3,vO,Option.isSome_none,wS,if_false];rw[wU o,wX,wU (by omega),Array.getElem?_toList]
def St.pubs (c:St S L h) (p:P6 L (OS r T v l) L2):∃S',St S' L2 h∧Cc S h S' h∧Sl S' h r v l:=by
 obtain⟨F,d,j,g,a⟩:=c.pub p;exact⟨_,g,a,OS.sl (HP.loc _ d a.sub λ_ _=>rfl) λb i=> .inr i⟩
def St.oslAll (c:St S L h) (d:OS r T v l∈L):Sl (λb=>b<h.size) h r v l:=by
 obtain⟨F,g,i⟩:=c.get d;exact OS.sl (HP.loc _ g (λb a=>c.1 b a) λ_ _=>rfl) λb a=>(i b a).1
def St.osAt (p:St S L h) (q:OS r T v l∈L) {i:Nat}{x:α}(a:l[i]? =some x):
  ∃(w cap:Nat),v= .slice (some ⟨w,0,none⟩) l.length cap∧NK (λb=>b<h.size) S h r (.pointer (some ⟨w,i*r.sz,none⟩)) x:=by
 obtain⟨F,k,s⟩:=p.get q;rcases k with ⟨o,c,_⟩|⟨w,cap,cur,o,c,k3,k4,k5,k6,k7⟩
 ·subst c;simp at a
 ·have d:=k7.at_ a;have m:i<l.length:=(uV.1 a).1;have t:i*r.sz+r.sz≤l.length*r.sz:=by rw[←wY];exact wM _ m
  refine⟨w,cap,o,_,⟨⟨w,i*r.sz,none⟩,rfl,rfl,(s w ((c w).2 rfl)).1,λj u=>?_⟩,d⟩;have n:j<r.sz:=by simp only[vV,xC] at u;omega
  simp only[JT,k3,Option.isSome_none,wS,if_false];rw[wU n,wX,wU (by omega),Array.getElem?_toList]
end
def EP (v:Value) (k:Nat) (q:Value):Prop:=∃a n c,v= .slice (some ⟨a,0,none⟩) n c∧q= .pointer (some ⟨a,k,none⟩)
def QY (P:Program) (t:TypeId):Option (TypeId×Nat×Nat×List Value):=
 match P.underlying t with
 |some (.slice e)=>match P.info? e with
  |some i=>match i.zero with
   |some z=>if i.size=0|| !(z.cells.size==i.size) then none else some (e,i.size,i.bytes,z.cells.toList)
   |none=>none
  |none=>none
 |_=>none
def MK {P t e sz by_ z}(h:QY P t=some (e,sz,by_,z)):∃i a,P.underlying t=some (.slice e)∧P.info? e=some i∧i.zero=some a∧i.size=sz∧i.bytes=by_∧a.cells=z.toArray∧z.length=sz∧0<sz:=by
 unfold QY at h;split at h
 ·rename_i j c;split at h
  ·rename_i i d;split at h
   ·rename_i a g;split at h
    ·cases h
    ·rename_i b;simp only[vU,yR] at h;obtain⟨rfl,rfl,rfl,rfl⟩:=h;simp only[uZ,uY,not_or,xQ,xD,beq_iff_eq] at b;exact⟨i,a,c,d,g,rfl,rfl,by simp,by simpa using b.2,by omega⟩
   ·cases h
  ·cases h
 ·cases h
section
variable {P:Program}{ops:Array Oper}{Q:Exit→Act→World→Prop}{n:FN}{a:Act}{m:List (Nat×Value)}{rest:List Oper}
variable {d:Nat}{ty:TypeId}{pos:String}{af:Array Edge}{X Y:Operand}{B w:World}{h:AX}{S:Nat→Prop}{L L2:List HP}
def R4 {α}{r:BU α}{S h}{z:List Value}{x:α}(a:r.rd S h z x) (c:Nat):MX S h r (List.replicate c z).flatten (List.replicate c x):=by
 induction c with
 |zero=>rfl
 |succ c b=>exact⟨z,_,by simp [List.replicate_succ],a,b⟩
def My (z:List Value) (c:Nat) (l:0<z.length):(madeCells z.toArray (c*z.length)).toList=(List.replicate c z).flatten:=by
 induction c with
 |zero=>simp [madeCells]
 |succ c j=>
  have k:List.replicate (c+1) z=List.replicate c z++[z]:=by rw[List.replicate_succ']
  rw[k,List.flatten_append,←j];apply zE;intro i;have g:(madeCells z.toArray (c*z.length)).toList.length=c*z.length:=by simp [size_madeCells]
  rw[List.getElem?_append];simp only[madeCells,Array.toList_map,Array.toList_range,vQ,yG];have m:(c+1)*z.length=c*z.length+z.length:=wY _ _;by_cases a:i<c*z.length
  ·rw[uJ a];simp [yT a,yT (show i<(c+1)*z.length by omega)]
  ·rw[uI a];by_cases b:i<(c+1)*z.length
   ·have e:i%z.length=i-c*z.length:=by
     have:i=(i-c*z.length)+z.length*c:=by rw[yH z.length c];omega
     rw[this,Nat.add_mul_mod_self_left,xS (by omega),yH];omega
    have d:i-c*z.length<z.length:=by omega
    simp [yT b,e,d]
   ·rw[wG (by simp;omega),wG (by simp;omega)]
def tJ {α}{r:BU α}{T e sz g:Nat}{z:List Value}{zx:α}{len cap:Nat}{C D:IntKind}{U V:Operand}(u:Fr n a m) (I:QY P T=some (e,sz,g,z)) (l:r.sz=sz) (J:r.rd S h z zx)
  (M:CL m U=some (.int C (len:Nat))) (W:CL m V=some (.int D (cap:Nat))) (o:len≤cap) (X:g*cap≤281474976710656) (p:cap≤maxLen) (hd:Nat.blt d n.1=true) (F:Wd B h w) (G:St S L h)
  (k:∀v a w h',Fr n a ((d,v)::m)→Wd B h' w→St S (OS r e v (List.replicate len zx)::L) h'→Cc S h S h'→wpList P ops Q rest a w):
  wpList P ops Q (⟨some d,.makeSlice T U V,ty,pos,af,none⟩::rest) a w:=by
 refine wpList_plain rfl λK Y=>?_;unfold Oper.wp;obtain⟨i,Z,h1,h2,h3,h4,h5,h6,H,h8⟩:=MK I;have q:=run_make (P:=P) w T e i Z h1 h2 h3 C D (len:Int) (cap:Int) (by omega) (by omega) (by rw[h5];omega) (by unfold maxLen at p;omega);simp only[xT,h6,h4] at q;have s:(execOp a.eval ⟨some d,.makeSlice T U V,ty,pos,af,none⟩).run P w= .ok (.value (.slice (some ⟨w.heap.size,0,none⟩) len cap)) (w.alloc (.cells (madeCells z.toArray (cap*sz)) e)):=by
  simp [execOp,u.eval M,u.eval W,q]
 rw[s];have c:(madeCells z.toArray (cap*sz)).toList=(List.replicate cap z).flatten:=by rw[←H];exact My z cap (by omega)
 have y:(OS r e (.slice (some ⟨h.size,0,none⟩) len cap) (List.replicate len zx)).holds S (λb=>b=h.size) (h.push (.cells (madeCells z.toArray (cap*sz)) e)):=by
  refine .inr ⟨h.size,cap,madeCells z.toArray (cap*sz),by simp,λ_=>Iff.rfl,Le _ _,by simpa using o,p,by rw[size_madeCells,l],?_⟩;rw[c];have:((List.replicate cap z).flatten).take ((List.replicate len zx).length*r.sz)=(List.replicate len z).flatten:=by
   obtain⟨j,rfl⟩:=Nat.exists_eq_add_of_le o;rw[←List.replicate_append_replicate,List.flatten_append,List.length_replicate,l,←H];have:(List.replicate len z).flatten.length=len*z.length:=by simp
   rw[←this,yS]
  rw[this];exact(R4 J len).mono (λ_ x=>x) λb t=>IE _ _ _ (G.1 b t)
 obtain⟨g1,g2⟩:=G.add (h':=h.push (.cells (madeCells z.toArray (cap*sz)) e)) (by simp) (λb t=>IE _ _ _ t) ⟨_,y,λb t=>by subst t;simp⟩;have A:=F.heap;exact Y _ _ (k _ _ _ _ (u.put hd _) (F.alloc _) (by rw[A];exact g1) g2)
def L0 (n b:Nat):Prop:=n*b≤140737488355328∨(n*b≤175921860444160∧b≤274877906944)
def L0.le {n b:Nat}(h:L0 n b):n*b≤281474976710656:=by unfold L0 at h;omega
def L0.fits {a b bytes:Nat}(h:b<a) (c:L0 a bytes):Builtin.nextslicecap a b*bytes≤281474976710656:=by
 rcases c with c|⟨h1,h2⟩
 ·exact growslice_fits h c
 ·refine growslice_fits_wide h ?_;have d:=wM bytes (Nat.div_mul_le_self a 4);rw[Nat.mul_right_comm] at d;rw[wJ,wJ];omega
def Ub {α}{r:BU α}{T ty e sz K:Nat}{z:List Value}{v s:Value}{l xs:List α}{H:Addr}{sc:Nat}{news:List Value}{F:Nat→Prop}(he:QY P T=some (e,sz,K,z)) (a:r.sz=sz)
  (ae:s= .slice (some H) xs.length sc) (Q:MX S h r news xs) (hc:∀j u,news[j]? =some u→JT h (H.add j)=some u)
  (U:l.length+xs.length≤maxLen) (V:L0 (l.length+xs.length) K) (c:Wd B h w) (k:(OS r e v l).holds S F h) (hS:∀b,S b→b<h.size∧¬F b):
  ∃v' w' h' F',(Builtin.append_ #[T,T] ty #[v,s]).run P w= .ok v' w'∧Wd B h' w'∧h.size≤h'.size∧(OS r e v' (l++xs)).holds S F' h'∧(∀b,F' b→F b∨(h.size≤b∧b<h'.size))∧∀b,b<h.size→¬F b→h'[b]? =h[b]? :=by
 obtain⟨i,I,W,X,h3,C,h5,h6,h7,h8⟩:=MK he;subst ae;have d:=Q.len;rw[a,←C] at d;have Y:l.length+xs.length≤9223372036854775807:=by unfold maxLen at U;omega
 have D:∀j u,news[j]? =some u→w.cell? (H.add j)=some u:=λj u G=>by rw[LX,c.heap];exact hc j u G
 have af:I.cells.size=sz:=by rw[h6];simpa using h7
 have p:∀(olds:List Value) (o:Nat),MX S h r olds l→o<l.length+xs.length→
   (OS r e (.slice (some ⟨h.size,0,none⟩) (l.length+xs.length) (grownCap w (l.length+xs.length) o e)) (l++xs)).holds S (λb=>b=h.size)
    (h.push (.cells (olds.toArray++news.toArray++Builtin.zeroCells I.cells (grownCap w (l.length+xs.length) o e-(l.length+xs.length))) e)):=by
  intro olds o ho ai;have ag:=grownCap_ge w (l.length+xs.length) o e;refine .inr ⟨h.size,_,_,by rw[wC],λ_=>Iff.rfl,Le _ _,by rw[wC];exact ag,grownCap_le_maxLen w _ o e U,?_,?_⟩
  ·have:=ho.len;simp only[Array.size_append,zF,size_zeroCells,af,this,d,C,a,←wJ];congr 1;omega
  ·have q:(l++xs).length*r.sz=(olds++news).length:=by rw[wC,wC,ho.len,Q.len,wJ]
   rw[q];simp only[Array.toList_append];rw[yS];exact(ho.append Q).mono (λ_ x=>x) λb m=>IE _ _ _ (hS b m).1
 rcases k with ⟨⟨M,rfl⟩,rfl,hF⟩|⟨g,cap,cur,rfl,hF,hg,hlc,hcm,hcs,hrd⟩
 ·by_cases hx:xs.length=0
  ·have ah:xs=[]:=zX hx;subst ah;refine⟨.slice M 0 0,w,h,F,?_,c,uW _,.inl ⟨⟨M,rfl⟩,rfl,hF⟩,λb m=> .inl m,λ_ _ _=>rfl⟩;cases M<;>simp [Builtin.append_,run_underlying W,sizeOf,typeInfo,X,Builtin.lenOf,Builtin.firstCells,loadCells,loadCellsFrom,storeCells]
  ·have J:L0 xs.length K:=by simpa using V
   have aj:=J.le;have Z:(Builtin.append_ #[T,T] ty #[.slice M 0 0,.slice (some H) xs.length sc]).run P w= .ok (.slice (some ⟨w.heap.size,0,none⟩) xs.length (grownCap w xs.length 0 e)) (w.drew.alloc (.cells (news.toArray++Builtin.zeroCells I.cells (grownCap w xs.length 0 e-xs.length)) e)):=by
    cases M with
    |none=>exact run_append_nil (P:=P) w T ty e i I W X h3 H xs.length sc news d D (by omega) (by simp at Y;omega) (by rw[h5];omega)
    |some M=>
     have hq:=run_append_grow (P:=P) w T ty e i I W X h3 M 0 0 [] (by simp) (λj u G=>by simp at G) H xs.length sc news d D (by omega) (by omega) (L0.fits (by omega) (by rw[h5];simpa using J));simpa using hq
   have t:=p [] 0 rfl (by simp;omega);simp only[yU,vO,wB,Array.empty_append] at t;refine⟨_,_,h.push (.cells (news.toArray++Builtin.zeroCells I.cells (grownCap w xs.length 0 e-xs.length)) e),λb=>b=h.size,Z,⟨?_,c.os,c.tape,c.out⟩,by simp,?_,λb m=> .inr (by subst m;simp),λb m _=>IE _ _ _ m⟩
   ·show(w.heap.push _)=_;rw[c.heap]
   ·rw[c.heap];exact t
 ·have aa:w.heap[g]? =some (.cells cur e (0,0)):=by rw[c.heap];exact hg
  by_cases n:l.length+xs.length≤cap
  ·have ab:l.length*i.size+news.length≤cur.size:=by rw[d,hcs,C,a,←wJ];exact wM _ n
   have Z:=run_append_room (P:=P) w T ty e i W X g l.length cap cur aa H xs.length sc news d D (λu G=>Q.one u G) n ab;obtain⟨h',e1,e2,e3,e4⟩:=Qo w g cur (c':=(cur.toList.take (l.length*i.size)++news++cur.toList.drop (l.length*i.size+news.length)).toArray) e aa;rw[c.heap] at e2 e4;refine⟨_,_,h',F,Z,⟨e1,c.os,c.tape,c.out⟩,by omega,.inr ⟨g,cap,_,by rw[wC],hF,e3,by rw[wC];exact n,hcm,?_,?_⟩,λb m=> .inl m,λb _ m=>e4 b λe=>m ((hF b).2 e)⟩
   ·simp only[zF,wC,vV,xC,Array.length_toList];omega
   ·have y:=hrd.len;rw[a,←C] at y;have q:(l++xs).length*r.sz=(cur.toList.take (l.length*i.size)++news).length:=by
     rw[wC,wC,y,d,wJ,a,C]
    rw[q,yS,C,←a];exact(hrd.append Q).mono (λ_ x=>x) λb m=>e4 b λe=>(hS b m).2 ((hF b).2 e)
  ·have A:∀j u,(cur.toList.take (l.length*r.sz))[j]? =some u→w.cell? ((⟨g,0,none⟩:Addr).add j)=some u:=λj u G=>by
    have ac:(⟨g,0,none⟩:Addr).add j=⟨g,j,none⟩:=by unfold Addr.add;split<;>simp_all
    rw[ac,LX,c.heap];have hj:j<l.length*r.sz:=by
     have:=(uV.1 G).1;simp at this;omega
    rw[wU hj] at G;simp only[JT,hg,Option.isSome_none,wS,if_false];simpa using G
   have y:=hrd.len;rw[a,←C] at y;rw[a,←C] at A;have Z:=run_append_grow (P:=P) w T ty e i I W X h3 ⟨g,0,none⟩ l.length cap _ y A H xs.length sc news d D (by omega) (by omega) (L0.fits (by omega) (by rw[h5];exact V));have t:=p _ cap hrd (by omega);rw[a,←C] at t;refine⟨_,_,h.push (.cells ((cur.toList.take (l.length*i.size)).toArray++news.toArray++Builtin.zeroCells I.cells (grownCap w (l.length+xs.length) cap e-(l.length+xs.length))) e),λb=>b=h.size,Z,⟨?_,c.os,c.tape,c.out⟩,by simp,?_,λb m=> .inr (by subst m;simp),λb m _=>IE _ _ _ m⟩
   ·show(w.heap.push _)=_;rw[c.heap]
   ·rw[c.heap];exact t
def pI {α}{r:BU α}{T e sz A:Nat}{z:List Value}{v s:Value}{l xs:List α}{sd:Addr}{sc:Nat}{news:List Value}{LL:Value→List HP}(g:Fr n a m) (hx:CL m X=some v) (hy:CL m Y=some s) (he:QY P T=some (e,sz,A,z)) (C:r.sz=sz)
  (D:s= .slice (some sd) xs.length sc) (hn:MX S h r news xs) (hc:∀j u,news[j]? =some u→JT h (sd.add j)=some u)
  (H:l.length+xs.length≤maxLen) (I:L0 (l.length+xs.length) A) (hd:Nat.blt d n.1=true) (hw:Wd B h w) (y:St S L h) (rp:∀i,Mp L (OS r e v l) (OS r e i (l++xs)) (LL i))
  (k:∀i a w h',Fr n a ((d,i)::m)→Wd B h' w→St S (LL i) h'→Cc S h S h'→wpList P ops Q rest a w):
  wpList P ops Q (⟨some d,.call ⟨.builtin .append,#[X,Y],#[T,T]⟩,ty,pos,af,none⟩::rest) a w:=by
 refine wpList_plain rfl λK hK=>?_;unfold Oper.wp;obtain⟨M,p,_⟩:=(rp v).pick;obtain⟨F,g1,g2,_⟩:=Sp.pick p y.2;obtain⟨i,w',h',F',e1,e2,e3,e4,e5,e6⟩:=Ub (ty:=ty) he C D hn hc H I hw g1 λb c=>⟨y.1 b c,λg=>(g2 b g).2 c⟩
 have J:(execOp a.eval ⟨some d,.call ⟨.builtin .append,#[X,Y],#[T,T]⟩,ty,pos,af,none⟩).run P w= .ok (.value i) w':=by
  simp [execOp,resolve,invoke,builtin,g.eval hx,g.eval hy,e1]
 rw[J];obtain⟨M,p,q⟩:=(rp i).pick;have U:St S (LL i) h'∧Cc S h S h':=by
  obtain⟨G,ac,o,ad⟩:=Sp.pick p y.2;obtain⟨ak,al,V,ae,W,ag,t,ah,Z,aa⟩:=Ub (ty:=ty) he C D hn hc H I hw ac λb c=>⟨y.1 b c,λg=>(o b g).2 c⟩
  rw[e1] at W;injection W with ev ew
  subst ev;subst ew;have hh:V=h':=by rw[←ag.heap,e2.heap]
  subst hh;have ab:∀b,S b→V[b]? =h[b]? :=λb c=>aa b (y.1 b c) λg=>(o b g).2 c;refine⟨⟨λb c=>vB (y.1 b c) t,Pp q ⟨ae,ah,λb c=>?_,?_⟩⟩,λ_ x=>x,ab,t⟩
  ·rcases Z b c with g|⟨hl,hu⟩
   ·exact⟨vB (o b g).1 t,(o b g).2⟩
   ·exact⟨hu,λai=>absurd (y.1 b ai) (by omega)⟩
  ·refine Sp.ext ad (λ_ x=>x) (λb c=>?_) λb c=>⟨⟨vB c.1.1 t,c.1.2⟩,λaj=>?_⟩
   ·rcases c with c|c
    ·exact ab b c
    ·exact aa b c.1.1 c.2
   ·rcases Z b aj with g|⟨hl,_⟩
    ·exact c.2 g
    ·exact absurd c.1.1 (by omega)
 exact hK _ _ (k i _ w' h' (g.put hd _) e2 U.1 U.2)
def jY {α}{r:BU α}{T e sz c:Nat}{z:List Value}{v:Value}{l xs:List α}{o A b sc:Nat}{news:List Value}{x:Value→List HP}(C:Fr n a m) (D:CL m X=some v) (G:CL m Y=some (.slice (some ⟨o,0,none⟩) b sc)) (H:QY P T=some (e,sz,c,z)) (p:r.sz=sz)
  (I:Bx o A news∈L) (J:MX S h r news xs) (q:b=xs.length)
  (s:l.length+xs.length≤maxLen) (t:L0 (l.length+xs.length) c) (hd:Nat.blt d n.1=true) (K:Wd B h w) (y:St S L h) (M:∀g,Mp L (OS r e v l) (OS r e g (l++xs)) (x g))
  (k:∀g a w h',Fr n a ((d,g)::m)→Wd B h' w→St S (x g) h'→Cc S h S h'→wpList P ops Q rest a w):
  wpList P ops Q (⟨some d,.call ⟨.builtin .append,#[X,Y],#[T,T]⟩,ty,pos,af,none⟩::rest) a w:=by
 obtain⟨F,U,_⟩:=y.get I;refine pI C D G H p (by rw[q]) J (λj u V=>?_) s t hd K y M k;have i:(⟨o,0,none⟩:Addr).add j=⟨o,j,none⟩:=by unfold Addr.add;split<;>simp_all
 rw[i,Bx.cell U];exact V
def Uf (e:Nat) (len:Nat):List (Nat×Nat):=(List.range len).map λi=>(i*e,e)
def tK {T e sz I len:Nat}{z cs:List Value}{g:Array (Nat×Operand)}{o:List (Nat×Value)}(X:Fr n a m) (he:QY P T=some (e,sz,I,z)) (s:g.toList.mapM (dM m)=some o)
  (Y:NV (Uf sz len) (List.replicate len z).flatten o=some cs) (J:Nat.blt 0 len=true) (M:Nat.ble (len*sz) 16777216=true) (hd:Nat.blt d n.1=true) (Z:Wd B h w) (hs:St S L h)
  (q:∀p∈o,p.1<len)
  (k:∀b a w h',Fr n a ((d,.slice (some ⟨b,0,none⟩) len len)::m)→Wd B h' w→St S (Bx b e cs::L) h'→Cc S h S h'→wpList P ops Q rest a w):
  wpList P ops Q (⟨some d,.buildSlice T len g,ty,pos,af,none⟩::rest) a w:=by
 refine wpList_plain rfl λK hK=>?_;unfold Oper.wp;obtain⟨i,A,h1,h2,h3,H,h5,h6,h7,h8⟩:=MK he;have U:(g.map λ(p:Nat×Operand)=>(p.1,a.eval p.2)).toList=o:=by
  obtain⟨l⟩:=g;simp only at s;simp only[List.map_toArray];clear Y q k
  induction l generalizing o with
  |nil=>simp at s;subst s;rfl
  |cons x l V=>
   simp only[yP,zP,xK,dM,wV] at s;obtain⟨y,⟨v,hv,rfl⟩,ys,W,C⟩:=s;simp only[Option.pure_def,vU] at C;subst C;simp only[wA,X.eval hv,V W]
 have D:0<len:=(by simpa [Nat.blt] using J:1≤len)
 have aa:len*sz≤16777216:=yF M;have t:((Array.range (len*i.size)).map (A.cells[· %A.cells.size]!))=((List.replicate len z).flatten).toArray:=by
  have:=My z len (by omega);rw[h7] at this;rw[←this];simp only[madeCells,H,h6,zF]
 have u:Instr.fill (λj=>some (j*i.size,i.size)) ((Array.range (len*i.size)).map (A.cells[· %A.cells.size]!)) o=some cs.toArray:=by
  rw[t];have h0:=N8 (Uf sz len) o _ _ Y;have F:∀(o:List (Nat×Value)) (c:Array Value),(∀p∈o,p.1<len)→Instr.fill (λj=>some (j*i.size,i.size)) c o=Instr.fill ((Uf sz len).toArray[·]?) c o:=by
   intro o
   induction o with
   |nil=>intro c _;rfl
   |cons p o V=>
    intro c q;obtain⟨j,v⟩:=p;have hj:j<len:=q (j,v) (by simp);have e1:(Uf sz len).toArray[j]? =some (j*i.size,i.size):=by simp [Uf,hj,H]
    simp only[Instr.fill,e1];split
    ·rfl
    ·exact V _ λp s=>q p (by simp [s])
  rw[F o _ q];exact h0
 have hb:=run_buildSlice (P:=P) w T e len (g.map λ(p:Nat×Operand)=>(p.1,a.eval p.2)) cs.toArray i A h1 h2 h3 (by rw[H];omega) (by rw[H];exact Nat.ne_of_gt (Nat.mul_pos D h8)) (by rw[U];exact u);have G:(execOp a.eval ⟨some d,.buildSlice T len g,ty,pos,af,none⟩).run P w= .ok (.value (.slice (some ⟨w.heap.size,0,none⟩) len len)) (w.alloc (.cells cs.toArray e)):=by
  simp only[execOp,Sem.run_bind,hb];rfl
 rw[G];obtain⟨k1,k2⟩:=hs.push e cs;exact hK _ _ (k _ _ _ _ (X.put hd _) (Z.alloc _) (by rw[Z.heap];exact k1) k2)
def St.bxos {α}{r:BU α}{b e:Nat}{cs:List Value}{l:List α}{M:List HP}(g:St S L h) (i:Mp L (Bx b e cs) (OS r e (.slice (some ⟨b,0,none⟩) l.length l.length) l) M) (a:MX S h r cs l) (c:l.length≤maxLen):St S M h:=
 (g.upd i (uW _) λF d _=>⟨F,.inr ⟨b,l.length,cs.toArray,rfl,d.1,d.2,uW _,c,by simpa using a.len,by
  have:=a.len;simp only[←this,wQ];exact a⟩,λ_ j=> .inl j,λ_ _ _=>rfl⟩).1
end
end Go.Proofs.YtibidnaedddfdaaGreat
