import Derived.Test.YtibidnaedddfdaaGreatTCore4
import Derived.Deep.DeepAppendWide
import Derived.StillTail
namespace Go.Proofs.YtibidnaedddfdaaGreat
set_option linter.all false
open Go.RowKit
def NL {α}(S:Nat→Prop) (h:A4) (r:BX α):List Value→List α→Prop
 |cs,[]=>cs=[]
 |cs,x::l=>∃a b,cs=a++b∧r.rd S h a x∧NL S h r b l
def NL.mono {α S S' h h'}{r:BX α}:∀{l:List α}{cs},NL S h r cs l→(∀b,S b→S' b)→(∀b,S b→h'[b]? =h[b]?)→NL S' h' r cs l
 |[],_,k,_,_=>k
 |_::_,_,⟨a,c,e,d,g⟩,s,q=>⟨a,c,e,r.mono d s q,g.mono s q⟩
def NL.len {α S h}{r:BX α}:∀{l:List α}{cs},NL S h r cs l→cs.length=l.length*r.sz
 |[],_,k=>by have k:_=[]:=k;subst k;simp
 |_::l,_,⟨c,d,e,a,b⟩=>by subst e;rw[yA,r.len a,b.len,Aaz,yT];omega
def NL.one {α S h}{r:BX α}:∀{l:List α}{cs},NL S h r cs l→∀v∈cs,v.oneCell'=true
 |[],_,k,v,a=>by have k:_=[]:=k;subst k;cases a
 |_::_,_,⟨d,g,e,b,c⟩,v,a=>by subst e;exact(xX.1 a).elim (r.one b v) (c.one v)
def NL.append {α S h}{r:BX α}:∀{l c:List α}{cs a},NL S h r cs l→NL S h r a c→NL S h r (cs++a) (l++c)
 |[],_,_,_,k,b=>by have k:_=[]:=k;subst k;exact b
 |_::_,_,_,_,⟨d,g,e,i,b⟩,kk=>by subst e;exact⟨d,g++_,by simp,i,b.append kk⟩
def NL.at_ {α S h}{r:BX α}:∀{l:List α}{cs}{i:Nat}{x},NL S h r cs l→l[i]? =some x→r.rd S h ((cs.drop (i*r.sz)).take r.sz) x
 |[],_,_,_,_,a=>by simp at a
 |y::l,_,0,x,⟨b,c,e,d,g⟩,a=>by
  subst e;simp only[zI,xO] at a;subst a;have:=r.len d;simp only[Nat.zero_mul,List.drop_zero,←this,Aam];exact d
 |y::l,_,i+1,x,⟨b,c,e,d,g⟩,a=>by
  subst e;simp only[zJ] at a;have j:=r.len d;have m:(i+1)*r.sz=b.length+i*r.sz:=by rw[j,yT];omega
  rw[m,List.drop_append_of_le_length_add];exact g.at_ a
 where
 List.drop_append_of_le_length_add:∀{b c:List Value} {k:Nat},(b++c).drop (b.length+k)=c.drop k:=by
  intro b c k;rw[←zK,List.drop_left]
def WN (cs:List Value) (o:Nat) (vs:List Value) (h:o+vs.length≤cs.length):(JN cs o vs).length=cs.length:=by
 simp [JN];omega
def NL.set {α S h}{r:BX α}:∀{l:List α}{cs}{i o:Nat}{x y}{vs:List Value},NL S h r cs l→l[i]? =some x→o+vs.length≤r.sz→(∀c,r.rd S h c x→r.rd S h (JN c o vs) y)→NL S h r (JN cs (i*r.sz+o) vs) (l.set i y)
 |[],_,_,_,_,_,_,_,a,_,_=>by simp at a
 |z::l,_,0,o,x,y,vs,⟨b,g,e,d,j⟩,a,m,k=>by
  subst e;simp only[zI,xO] at a;subst a;have n:=r.len d;refine⟨JN b o vs,g,?_,k _ d,j⟩;simp only[JN,Nat.zero_mul,xM];rw[Aa1 (by omega),List.drop_append_of_le_length (by omega)];simp
 |z::l,_,i+1,o,x,y,vs,⟨b,g,e,d,j⟩,a,m,k=>by
  subst e;simp only[zJ] at a;have n:=r.len d;refine⟨b,JN g (i*r.sz+o) vs,?_,d,j.set a m k⟩;have p:(i+1)*r.sz+o=b.length+(i*r.sz+o):=by rw[n,yT];omega
  simp only[JN];rw[p,Nat.add_assoc b.length,←zK,List.drop_left,List.take_length_add_append];simp
def OS {α}(r:BX α) (T:TypeId) (v:Value) (l:List α):HP where
 holds:=λS F h=>((∃c,v= .slice c 0 0)∧l=[]∧∀b,¬F b)∨
  ∃i cap a,v= .slice (some ⟨i,0,none⟩) l.length cap∧(∀b,F b↔b=i)∧h[i]? =some (.cells a T (0,0))∧l.length≤cap∧cap≤maxLen∧a.size=cap*r.sz∧NL S h r (a.toList.take (l.length*r.sz)) l
 loc:=λk s e=>by
  rcases k with k|⟨i,cap,a,k1,k2,k3,k4,k5,k6,k7⟩
  ·exact .inl k
  ·exact .inr ⟨i,cap,a,k1,k2,(e i (.inr ((k2 i).2 rfl))).trans k3,k4,k5,k6,k7.mono s λb d=>e b (.inl d)⟩
section
variable {α:Type}{r:BX α}{T:TypeId}{v:Value}{l:List α}{S F:Nat→Prop}{h:A4}{L L2:List HP}
def OS.len (k:(OS r T v l).holds S F h):∃a cap,v= .slice a l.length cap∧l.length≤maxLen:=by
 rcases k with ⟨⟨a,b⟩,h2,_⟩|⟨g,cap,cur,b,h2,h3,h4,h5,_⟩
 ·subst h2;exact⟨a,0,b,wL _⟩
 ·exact⟨_,cap,b,yI h4 h5⟩
def St.oslen (a:St S L h) (b:OS r T v l∈L):∃c cap,v= .slice c l.length cap∧l.length≤maxLen:=by
 obtain⟨F,k,_⟩:=a.get b;exact OS.len k
def St.nil (a:St S L h) (r:BX α) (T:TypeId):St S (OS r T (.slice none 0 0) ([]:List α)::L) h:=
 (a.add (wV _) (λ_ _=>rfl) ⟨λ_=>False,Or.inl ⟨⟨none,rfl⟩,rfl,λ_ x=>x⟩,λ_ x=>x.elim⟩).1
def OS.sl (k:(OS r T v l).holds S F h) (s:∀b,F b→S b):Sl S h r v l:=by
 rcases k with ⟨⟨d,a⟩,h2,_⟩|⟨g,cap,cur,a,h2,h3,h4,h5,h6,h7⟩
 ·subst h2;cases d with
  |none=>exact .inl ⟨a,rfl⟩
  |some d=>exact .inr ⟨d,0,a,wV _,wL _,λi x c=>by simp at c⟩
 ·refine .inr ⟨⟨g,0,none⟩,cap,a,h4,h5,λi x c=>⟨rfl,?_⟩⟩;have m:=h7.at_ c;have n:i<l.length:=(wU.1 c).1;have p:i*r.sz+r.sz≤l.length*r.sz:=by rw[←yT];exact yO _ n
  refine⟨_,⟨⟨g,0+i*r.sz,none⟩,rfl,rfl,s g ((h2 g).2 rfl),λj q=>?_⟩,m⟩;have o:j<r.sz:=by simp only[xT,zV] at q;omega
  simp only[Ji,h3,xM,Option.isSome_none,yL,if_false];rw[yR o,yS,yR (by omega),Array.getElem?_toList]
def St.pubs (d:St S L h) (p:Q4 L (OS r T v l) L2):∃a,St a L2 h∧CX S h a h∧Sl a h r v l:=by
 obtain⟨F,g,k,i,c⟩:=d.pub p;exact⟨_,i,c,OS.sl (HP.loc _ g c.sub λ_ _=>rfl) λb j=> .inr j⟩
def St.oslAll (c:St S L h) (d:OS r T v l∈L):Sl (λb=>b<h.size) h r v l:=by
 obtain⟨F,g,i⟩:=c.get d;exact OS.sl (HP.loc _ g (λb a=>c.1 b a) λ_ _=>rfl) λb a=>(i b a).1
def St.osAt (p:St S L h) (q:OS r T v l∈L) {i:Nat}{x:α}(a:l[i]? =some x):
  ∃(w cap:Nat),v= .slice (some ⟨w,0,none⟩) l.length cap∧Ny (λb=>b<h.size) S h r (.pointer (some ⟨w,i*r.sz,none⟩)) x:=by
 obtain⟨F,k,s⟩:=p.get q;rcases k with ⟨o,c,_⟩|⟨w,cap,cur,o,c,k3,k4,k5,k6,k7⟩
 ·subst c;simp at a
 ·have d:=k7.at_ a;have m:i<l.length:=(wU.1 a).1;have t:i*r.sz+r.sz≤l.length*r.sz:=by rw[←yT];exact yO _ m
  refine⟨w,cap,o,_,⟨⟨w,i*r.sz,none⟩,rfl,rfl,(s w ((c w).2 rfl)).1,λj u=>?_⟩,d⟩;have n:j<r.sz:=by simp only[xT,zV] at u;omega
  simp only[Ji,k3,Option.isSome_none,yL,if_false];rw[yR n,yS,yR (by omega),Array.getElem?_toList]
end
def EP (v:Value) (k:Nat) (q:Value):Prop:=∃a n c,v= .slice (some ⟨a,0,none⟩) n c∧q= .pointer (some ⟨a,k,none⟩)
def RE (P:Program) (t:TypeId):Option (TypeId×Nat×Nat×List Value):=
 match P.underlying t with
 |some (.slice e)=>match P.info? e with
  |some i=>match i.zero with
   |some z=>if i.size=0|| !(z.cells.size==i.size) then none else some (e,i.size,i.bytes,z.cells.toList)
   |none=>none
  |none=>none
 |_=>none
def Mx {P t e sz by_ z}(h:RE P t=some (e,sz,by_,z)):∃i a,P.underlying t=some (.slice e)∧P.info? e=some i∧i.zero=some a∧i.size=sz∧i.bytes=by_∧a.cells=z.toArray∧z.length=sz∧0<sz:=by
 unfold RE at h;split at h
 ·rename_i j c;split at h
  ·rename_i i d;split at h
   ·rename_i a g;split at h
    ·cases h
    ·rename_i b;simp only[xO,zY] at h;obtain⟨rfl,rfl,rfl,rfl⟩:=h;simp only[wZ,wW,not_or,yN,zC,beq_iff_eq] at b;exact⟨i,a,c,d,g,rfl,rfl,by simp,by simpa using b.2,by omega⟩
   ·cases h
  ·cases h
 ·cases h
section
variable {P:Program}{ops:Array Oper}{Q:Exit→Act→World→Prop}{n:FN}{a:Act}{m:List (Nat×Value)}{rest:List Oper}
variable {d:Nat}{ty:TypeId}{pos:String}{af:Array Edge}{X Y:Operand}{B w:World}{h:A4}{S:Nat→Prop}{L L2:List HP}
def Sy {α}{r:BX α}{S h}{z:List Value}{x:α}(a:r.rd S h z x) (c:Nat):NL S h r (List.replicate c z).flatten (List.replicate c x):=by
 induction c with
 |zero=>rfl
 |succ c b=>exact⟨z,_,by simp [List.replicate_succ],a,b⟩
def NZ (z:List Value) (c:Nat) (l:0<z.length):(madeCells z.toArray (c*z.length)).toList=(List.replicate c z).flatten:=by
 induction c with
 |zero=>simp [madeCells]
 |succ c j=>
  have k:List.replicate (c+1) z=List.replicate c z++[z]:=by rw[List.replicate_succ']
  rw[k,List.flatten_append,←j];apply List.ext_getElem?;intro i;have g:(madeCells z.toArray (c*z.length)).toList.length=c*z.length:=by simp [size_madeCells]
  rw[List.getElem?_append];simp only[madeCells,Array.toList_map,Array.toList_range,xH,List.length_range];have m:(c+1)*z.length=c*z.length+z.length:=yT _ _;by_cases a:i<c*z.length
  ·rw[wG a];simp [Abb a,Abb (show i<(c+1)*z.length by omega)]
  ·rw[wF a];by_cases b:i<(c+1)*z.length
   ·have e:i%z.length=i-c*z.length:=by
     have:i=(i-c*z.length)+z.length*c:=by rw[zZ z.length c];omega
     rw[this,Nat.add_mul_mod_self_left,zL (by omega),zZ];omega
    have d:i-c*z.length<z.length:=by omega
    simp [Abb b,e,d]
   ·rw[zM (by simp;omega),zM (by simp;omega)]
def uY {α}{r:BX α}{T e sz g:Nat}{z:List Value}{zx:α}{len cap:Nat}{C D:IntKind}{U V:Operand}(u:Fr n a m) (I:RE P T=some (e,sz,g,z)) (l:r.sz=sz) (J:r.rd S h z zx)
  (M:CF m U=some (.int C (len:Nat))) (W:CF m V=some (.int D (cap:Nat))) (o:len≤cap) (X:g*cap≤281474976710656) (p:cap≤maxLen) (hd:Nat.blt d n.1=true) (F:Wd B h w) (G:St S L h)
  (k:∀v a w h',Fr n a ((d,v)::m)→Wd B h' w→St S (OS r e v (List.replicate len zx)::L) h'→CX S h S h'→wpList P ops Q rest a w):
  wpList P ops Q (⟨some d,.makeSlice T U V,ty,pos,af,none⟩::rest) a w:=by
 refine wpList_plain rfl λK Y=>?_;unfold Oper.wp;obtain⟨i,Z,h1,h2,h3,h4,h5,h6,H,h8⟩:=Mx I;have q:=run_make (P:=P) w T e i Z h1 h2 h3 C D (len:Int) (cap:Int) (by omega) (by omega) (by rw[h5];omega) (by unfold maxLen at p;omega);simp only[Aan,h6,h4] at q;have s:(execOp a.eval ⟨some d,.makeSlice T U V,ty,pos,af,none⟩).run P w= .ok (.value (.slice (some ⟨w.heap.size,0,none⟩) len cap)) (w.alloc (.cells (madeCells z.toArray (cap*sz)) e)):=by
  simp [execOp,u.eval M,u.eval W,q]
 rw[s];have c:(madeCells z.toArray (cap*sz)).toList=(List.replicate cap z).flatten:=by rw[←H];exact NZ z cap (by omega)
 have y:(OS r e (.slice (some ⟨h.size,0,none⟩) len cap) (List.replicate len zx)).holds S (λb=>b=h.size) (h.push (.cells (madeCells z.toArray (cap*sz)) e)):=by
  refine .inr ⟨h.size,cap,madeCells z.toArray (cap*sz),by simp,λ_=>yC,Lf _ _,by simpa using o,p,by rw[size_madeCells,l],?_⟩;rw[c];have:((List.replicate cap z).flatten).take ((List.replicate len zx).length*r.sz)=(List.replicate len z).flatten:=by
   obtain⟨j,rfl⟩:=Nat.exists_eq_add_of_le o;rw[←List.replicate_append_replicate,List.flatten_append,List.length_replicate,l,←H];have:(List.replicate len z).flatten.length=len*z.length:=by simp
   rw[←this,Aam]
  rw[this];exact(Sy J len).mono (λ_ x=>x) λb t=>HZ _ _ _ (G.1 b t)
 obtain⟨g1,g2⟩:=G.add (h':=h.push (.cells (madeCells z.toArray (cap*sz)) e)) (by simp) (λb t=>HZ _ _ _ t) ⟨_,y,λb t=>by subst t;simp⟩;have A:=F.heap;exact Y _ _ (k _ _ _ _ (u.put hd _) (F.alloc _) (by rw[A];exact g1) g2)
def Mb (n b:Nat):Prop:=n*b≤140737488355328∨(n*b≤175921860444160∧b≤274877906944)
def Mb.le {n b:Nat}(h:Mb n b):n*b≤281474976710656:=by unfold Mb at h;omega
def Mb.fits {a b bytes:Nat}(h:b<a) (c:Mb a bytes):Builtin.nextslicecap a b*bytes≤281474976710656:=by
 rcases c with c|⟨h1,h2⟩
 ·exact growslice_fits h c
 ·refine growslice_fits_wide h ?_;have d:=yO bytes (Nat.div_mul_le_self a 4);rw[Nat.mul_right_comm] at d;rw[yB,yB];omega
def VJ {α}{r:BX α}{T ty e sz K:Nat}{z:List Value}{v s:Value}{l xs:List α}{H:Addr}{sc:Nat}{news:List Value}{F:Nat→Prop}(he:RE P T=some (e,sz,K,z)) (a:r.sz=sz)
  (ae:s= .slice (some H) xs.length sc) (Q:NL S h r news xs) (hc:∀j u,news[j]? =some u→Ji h (H.add j)=some u)
  (U:l.length+xs.length≤maxLen) (V:Mb (l.length+xs.length) K) (c:Wd B h w) (k:(OS r e v l).holds S F h) (hS:∀b,S b→b<h.size∧¬F b):
  ∃v' w' h' F',(Builtin.append_ #[T,T] ty #[v,s]).run P w= .ok v' w'∧Wd B h' w'∧h.size≤h'.size∧(OS r e v' (l++xs)).holds S F' h'∧(∀b,F' b→F b∨(h.size≤b∧b<h'.size))∧∀b,b<h.size→¬F b→h'[b]? =h[b]? :=by
 obtain⟨i,I,W,X,h3,C,h5,h6,h7,h8⟩:=Mx he;subst ae;have d:=Q.len;rw[a,←C] at d;have Y:l.length+xs.length≤9223372036854775807:=by unfold maxLen at U;omega
 have D:∀j u,news[j]? =some u→w.cell? (H.add j)=some u:=λj u G=>by rw[Mu,c.heap];exact hc j u G
 have af:I.cells.size=sz:=by rw[h6];simpa using h7
 have p:∀(olds:List Value) (o:Nat),NL S h r olds l→o<l.length+xs.length→
   (OS r e (.slice (some ⟨h.size,0,none⟩) (l.length+xs.length) (grownCap w (l.length+xs.length) o e)) (l++xs)).holds S (λb=>b=h.size)
    (h.push (.cells (olds.toArray++news.toArray++Builtin.zeroCells I.cells (grownCap w (l.length+xs.length) o e-(l.length+xs.length))) e)):=by
  intro olds o ho ai;have ag:=grownCap_ge w (l.length+xs.length) o e;refine .inr ⟨h.size,_,_,by rw[yA],λ_=>yC,Lf _ _,by rw[yA];exact ag,grownCap_le_maxLen w _ o e U,?_,?_⟩
  ·have:=ho.len;simp only[Array.size_append,List.size_toArray,size_zeroCells,af,this,d,C,a,←yB];congr 1;omega
  ·have q:(l++xs).length*r.sz=(olds++news).length:=by rw[yA,yA,ho.len,Q.len,yB]
   rw[q];simp only[Array.toList_append];rw[Aam];exact(ho.append Q).mono (λ_ x=>x) λb m=>HZ _ _ _ (hS b m).1
 rcases k with ⟨⟨M,rfl⟩,rfl,hF⟩|⟨g,cap,cur,rfl,hF,hg,hlc,hcm,hcs,hrd⟩
 ·by_cases hx:xs.length=0
  ·have ah:xs=[]:=List.eq_nil_of_length_eq_zero hx;subst ah;refine⟨.slice M 0 0,w,h,F,?_,c,wV _,.inl ⟨⟨M,rfl⟩,rfl,hF⟩,λb m=> .inl m,λ_ _ _=>rfl⟩;cases M<;>simp [Builtin.append_,run_underlying W,sizeOf,typeInfo,X,Builtin.lenOf,Builtin.firstCells,loadCells,loadCellsFrom,storeCells]
  ·have J:Mb xs.length K:=by simpa using V
   have aj:=J.le;have Z:(Builtin.append_ #[T,T] ty #[.slice M 0 0,.slice (some H) xs.length sc]).run P w= .ok (.slice (some ⟨w.heap.size,0,none⟩) xs.length (grownCap w xs.length 0 e)) (w.drew.alloc (.cells (news.toArray++Builtin.zeroCells I.cells (grownCap w xs.length 0 e-xs.length)) e)):=by
    cases M with
    |none=>exact run_append_nil (P:=P) w T ty e i I W X h3 H xs.length sc news d D (by omega) (by simp at Y;omega) (by rw[h5];omega)
    |some M=>
     have hq:=run_append_grow (P:=P) w T ty e i I W X h3 M 0 0 [] (by simp) (λj u G=>by simp at G) H xs.length sc news d D (by omega) (by omega) (Mb.fits (by omega) (by rw[h5];simpa using J));simpa using hq
   have t:=p [] 0 rfl (by simp;omega);simp only[Aao,xM,yD,Array.empty_append] at t;refine⟨_,_,h.push (.cells (news.toArray++Builtin.zeroCells I.cells (grownCap w xs.length 0 e-xs.length)) e),λb=>b=h.size,Z,⟨?_,c.os,c.tape,c.out⟩,by simp,?_,λb m=> .inr (by subst m;simp),λb m _=>HZ _ _ _ m⟩
   ·show(w.heap.push _)=_;rw[c.heap]
   ·rw[c.heap];exact t
 ·have aa:w.heap[g]? =some (.cells cur e (0,0)):=by rw[c.heap];exact hg
  by_cases n:l.length+xs.length≤cap
  ·have ab:l.length*i.size+news.length≤cur.size:=by rw[d,hcs,C,a,←yB];exact yO _ n
   have Z:=run_append_room (P:=P) w T ty e i W X g l.length cap cur aa H xs.length sc news d D (λu G=>Q.one u G) n ab;obtain⟨h',e1,e2,e3,e4⟩:=TW w g cur (c':=(cur.toList.take (l.length*i.size)++news++cur.toList.drop (l.length*i.size+news.length)).toArray) e aa;rw[c.heap] at e2 e4;refine⟨_,_,h',F,Z,⟨e1,c.os,c.tape,c.out⟩,by omega,.inr ⟨g,cap,_,by rw[yA],hF,e3,by rw[yA];exact n,hcm,?_,?_⟩,λb m=> .inl m,λb _ m=>e4 b λe=>m ((hF b).2 e)⟩
   ·simp only[List.size_toArray,yA,xT,zV,Array.length_toList];omega
   ·have y:=hrd.len;rw[a,←C] at y;have q:(l++xs).length*r.sz=(cur.toList.take (l.length*i.size)++news).length:=by
     rw[yA,yA,y,d,yB,a,C]
    rw[q,Aam,C,←a];exact(hrd.append Q).mono (λ_ x=>x) λb m=>e4 b λe=>(hS b m).2 ((hF b).2 e)
  ·have A:∀j u,(cur.toList.take (l.length*r.sz))[j]? =some u→w.cell? ((⟨g,0,none⟩:Addr).add j)=some u:=λj u G=>by
    have ac:(⟨g,0,none⟩:Addr).add j=⟨g,j,none⟩:=by unfold Addr.add;split<;>simp_all
    rw[ac,Mu,c.heap];have hj:j<l.length*r.sz:=by
     have:=(wU.1 G).1;simp at this;omega
    rw[yR hj] at G;simp only[Ji,hg,Option.isSome_none,yL,if_false];simpa using G
   have y:=hrd.len;rw[a,←C] at y;rw[a,←C] at A;have Z:=run_append_grow (P:=P) w T ty e i I W X h3 ⟨g,0,none⟩ l.length cap _ y A H xs.length sc news d D (by omega) (by omega) (Mb.fits (by omega) (by rw[h5];exact V));have t:=p _ cap hrd (by omega);rw[a,←C] at t;refine⟨_,_,h.push (.cells ((cur.toList.take (l.length*i.size)).toArray++news.toArray++Builtin.zeroCells I.cells (grownCap w (l.length+xs.length) cap e-(l.length+xs.length))) e),λb=>b=h.size,Z,⟨?_,c.os,c.tape,c.out⟩,by simp,?_,λb m=> .inr (by subst m;simp),λb m _=>HZ _ _ _ m⟩
   ·show(w.heap.push _)=_;rw[c.heap]
   ·rw[c.heap];exact t
def rE {α}{r:BX α}{T e sz A:Nat}{z:List Value}{v s:Value}{l xs:List α}{sd:Addr}{sc:Nat}{news:List Value}{LL:Value→List HP}(g:Fr n a m) (hx:CF m X=some v) (hy:CF m Y=some s) (he:RE P T=some (e,sz,A,z)) (C:r.sz=sz)
  (D:s= .slice (some sd) xs.length sc) (hn:NL S h r news xs) (hc:∀j u,news[j]? =some u→Ji h (sd.add j)=some u)
  (H:l.length+xs.length≤maxLen) (I:Mb (l.length+xs.length) A) (hd:Nat.blt d n.1=true) (hw:Wd B h w) (y:St S L h) (rp:∀i,Np L (OS r e v l) (OS r e i (l++xs)) (LL i))
  (k:∀i a w h',Fr n a ((d,i)::m)→Wd B h' w→St S (LL i) h'→CX S h S h'→wpList P ops Q rest a w):
  wpList P ops Q (⟨some d,.call ⟨.builtin .append,#[X,Y],#[T,T]⟩,ty,pos,af,none⟩::rest) a w:=by
 refine wpList_plain rfl λK hK=>?_;unfold Oper.wp;obtain⟨M,p,_⟩:=(rp v).pick;obtain⟨F,g1,g2,_⟩:=Sp.pick p y.2;obtain⟨i,w',h',F',e1,e2,e3,e4,e5,e6⟩:=VJ (ty:=ty) he C D hn hc H I hw g1 λb c=>⟨y.1 b c,λg=>(g2 b g).2 c⟩
 have J:(execOp a.eval ⟨some d,.call ⟨.builtin .append,#[X,Y],#[T,T]⟩,ty,pos,af,none⟩).run P w= .ok (.value i) w':=by
  simp [execOp,resolve,invoke,builtin,g.eval hx,g.eval hy,e1]
 rw[J];obtain⟨M,p,q⟩:=(rp i).pick;have U:St S (LL i) h'∧CX S h S h':=by
  obtain⟨G,ac,o,ad⟩:=Sp.pick p y.2;obtain⟨ak,al,V,ae,W,ag,t,ah,Z,aa⟩:=VJ (ty:=ty) he C D hn hc H I hw ac λb c=>⟨y.1 b c,λg=>(o b g).2 c⟩
  rw[e1] at W;injection W with ev ew
  subst ev;subst ew;have hh:V=h':=by rw[←ag.heap,e2.heap]
  subst hh;have ab:∀b,S b→V[b]? =h[b]? :=λb c=>aa b (y.1 b c) λg=>(o b g).2 c;refine⟨⟨λb c=>wX (y.1 b c) t,Qm q ⟨ae,ah,λb c=>?_,?_⟩⟩,λ_ x=>x,ab,t⟩
  ·rcases Z b c with g|⟨hl,hu⟩
   ·exact⟨wX (o b g).1 t,(o b g).2⟩
   ·exact⟨hu,λai=>absurd (y.1 b ai) (by omega)⟩
  ·refine Sp.ext ad (λ_ x=>x) (λb c=>?_) λb c=>⟨⟨wX c.1.1 t,c.1.2⟩,λaj=>?_⟩
   ·rcases c with c|c
    ·exact ab b c
    ·exact aa b c.1.1 c.2
   ·rcases Z b aj with g|⟨hl,_⟩
    ·exact c.2 g
    ·exact absurd c.1.1 (by omega)
 exact hK _ _ (k i _ w' h' (g.put hd _) e2 U.1 U.2)
def lD {α}{r:BX α}{T e sz c:Nat}{z:List Value}{v:Value}{l xs:List α}{o A b sc:Nat}{news:List Value}{x:Value→List HP}(C:Fr n a m) (D:CF m X=some v) (G:CF m Y=some (.slice (some ⟨o,0,none⟩) b sc)) (H:RE P T=some (e,sz,c,z)) (p:r.sz=sz)
  (I:Bx o A news∈L) (J:NL S h r news xs) (q:b=xs.length)
  (s:l.length+xs.length≤maxLen) (t:Mb (l.length+xs.length) c) (hd:Nat.blt d n.1=true) (K:Wd B h w) (y:St S L h) (M:∀g,Np L (OS r e v l) (OS r e g (l++xs)) (x g))
  (k:∀g a w h',Fr n a ((d,g)::m)→Wd B h' w→St S (x g) h'→CX S h S h'→wpList P ops Q rest a w):
  wpList P ops Q (⟨some d,.call ⟨.builtin .append,#[X,Y],#[T,T]⟩,ty,pos,af,none⟩::rest) a w:=by
 obtain⟨F,U,_⟩:=y.get I;refine rE C D G H p (by rw[q]) J (λj u V=>?_) s t hd K y M k;have i:(⟨o,0,none⟩:Addr).add j=⟨o,j,none⟩:=by unfold Addr.add;split<;>simp_all
 rw[i,Bx.cell U];exact V
def VO (e:Nat) (len:Nat):List (Nat×Nat):=(List.range len).map λi=>(i*e,e)
def uZ {T e sz I len:Nat}{z cs:List Value}{g:Array (Nat×Operand)}{o:List (Nat×Value)}(X:Fr n a m) (he:RE P T=some (e,sz,I,z)) (s:g.toList.mapM (eZ m)=some o)
  (Y:N3 (VO sz len) (List.replicate len z).flatten o=some cs) (J:Nat.blt 0 len=true) (M:Nat.ble (len*sz) 16777216=true) (hd:Nat.blt d n.1=true) (Z:Wd B h w) (hs:St S L h)
  (q:∀p∈o,p.1<len)
  (k:∀b a w h',Fr n a ((d,.slice (some ⟨b,0,none⟩) len len)::m)→Wd B h' w→St S (Bx b e cs::L) h'→CX S h S h'→wpList P ops Q rest a w):
  wpList P ops Q (⟨some d,.buildSlice T len g,ty,pos,af,none⟩::rest) a w:=by
 refine wpList_plain rfl λK hK=>?_;unfold Oper.wp;obtain⟨i,A,h1,h2,h3,H,h5,h6,h7,h8⟩:=Mx he;have U:(g.map λ(p:Nat×Operand)=>(p.1,a.eval p.2)).toList=o:=by
  obtain⟨l⟩:=g;simp only at s;simp only[List.map_toArray];clear Y q k
  induction l generalizing o with
  |nil=>simp at s;subst s;rfl
  |cons x l V=>
   simp only[Aal,Aba,yW,eZ,xZ] at s;obtain⟨y,⟨v,hv,rfl⟩,ys,W,C⟩:=s;simp only[Option.pure_def,xO] at C;subst C;simp only[xQ,X.eval hv,V W]
 have D:0<len:=(by simpa [Nat.blt] using J:1≤len)
 have aa:len*sz≤16777216:=zX M;have t:((Array.range (len*i.size)).map (A.cells[· %A.cells.size]!))=((List.replicate len z).flatten).toArray:=by
  have:=NZ z len (by omega);rw[h7] at this;rw[←this];simp only[madeCells,H,h6,List.size_toArray]
 have u:Instr.fill (λj=>some (j*i.size,i.size)) ((Array.range (len*i.size)).map (A.cells[· %A.cells.size]!)) o=some cs.toArray:=by
  rw[t];have h0:=O0 (VO sz len) o _ _ Y;have F:∀(o:List (Nat×Value)) (c:Array Value),(∀p∈o,p.1<len)→Instr.fill (λj=>some (j*i.size,i.size)) c o=Instr.fill ((VO sz len).toArray[·]?) c o:=by
   intro o
   induction o with
   |nil=>intro c _;rfl
   |cons p o V=>
    intro c q;obtain⟨j,v⟩:=p;have hj:j<len:=q (j,v) (by simp);have e1:(VO sz len).toArray[j]? =some (j*i.size,i.size):=by simp [VO,hj,H]
    simp only[Instr.fill,e1];split
    ·rfl
    ·exact V _ λp s=>q p (by simp [s])
  rw[F o _ q];exact h0
 have hb:=run_buildSlice (P:=P) w T e len (g.map λ(p:Nat×Operand)=>(p.1,a.eval p.2)) cs.toArray i A h1 h2 h3 (by rw[H];omega) (by rw[H];exact Nat.ne_of_gt (Nat.mul_pos D h8)) (by rw[U];exact u);have G:(execOp a.eval ⟨some d,.buildSlice T len g,ty,pos,af,none⟩).run P w= .ok (.value (.slice (some ⟨w.heap.size,0,none⟩) len len)) (w.alloc (.cells cs.toArray e)):=by
  simp only[execOp,Sem.run_bind,hb];rfl
 rw[G];obtain⟨k1,k2⟩:=hs.push e cs;exact hK _ _ (k _ _ _ _ (X.put hd _) (Z.alloc _) (by rw[Z.heap];exact k1) k2)
def St.bxos {α}{r:BX α}{b e:Nat}{cs:List Value}{l:List α}{M:List HP}(g:St S L h) (i:Np L (Bx b e cs) (OS r e (.slice (some ⟨b,0,none⟩) l.length l.length) l) M) (a:NL S h r cs l) (c:l.length≤maxLen):St S M h:=
 (g.upd i (wV _) λF d _=>⟨F,.inr ⟨b,l.length,cs.toArray,rfl,d.1,d.2,wV _,c,by simpa using a.len,by
  have:=a.len;simp only[←this,xU];exact a⟩,λ_ j=> .inl j,λ_ _ _=>rfl⟩).1
end
abbrev SM:=List (Nat×Value)
def QF (P:Program) (ops:Array Oper) (C:World→Prop) (Q:Act→Prop) (l:List Oper) (n:FN) (m:SM):Prop:=∀a,Fr n a m→wpQuiet P ops C Q l a
def LF (P:Program) (ops:Array Oper) (Q:Exit→Act→World→Prop) (l:List Oper) (B:World) (h:A4) (n:FN) (m:SM):Prop:=∀a w,Fr n a m→Wd B h w→wpList P ops Q l a w
def WF (P:Program) (ex:List (Nat×AP)) (R:AP) (cs:List Code) (N:AP) (B:World) (h:A4) (n:FN) (m:SM):Prop:=∀a w,Fr n a m→Wd B h w→W P ex R cs N a w
section
variable {P:Program}{ex:List (Nat×AP)}{R N:AP}{cs:List Code}{B:World}{h:A4}{n:FN}{m m':SM}{S:Nat→Prop}{L:List HP}
def Nn (b:Ud m m') (k:WF P ex R cs N B h n m'):WF P ex R cs N B h n m:=λa w c d=>k a w (c.sub b) d
def Dj {x y:Code}(k:WF P ex R (x::y::cs) N B h n m):WF P ex R (.seq x y::cs) N B h n m:=λa w b c=>oU (k a w b c)
def KT (k:WF P ex R cs N B h n m):WF P ex R (.skip::cs) N B h n m:=λa w b c=>jL (k a w b c)
def WF.ret (k:∀a w,Fr n a m→Wd B h w→R a w):WF P ex R (.ret::cs) N B h n m:=λa w b c=>oV (k a w b c)
def WF.exit {i:Nat}{K:AP}(b:fJ ex i=some K) (k:∀a w,Fr n a m→Wd B h w→K a w):WF P ex R (.exit i::cs) N B h n m:=λa w c d=>Zo b (k a w c d)
def WF.nil (k:∀a w,Fr n a m→Wd B h w→N a w):WF P ex R [] N B h n m:=λa w b c=>k a w b c
def Rg {X b}{x y:Code}(g:CF m X=some (.bool b)) (i:b=true→WF P ex R (x::cs) N B h n m) (j:b=false→WF P ex R (y::cs) N B h n m):WF P ex R (.cond X x y::cs) N B h n m:=
 λa w c d=>uH c g (λe=>i e a w c d) λe=>j e a w c d
def QV {X}{x y:Code}(c:CF m X=some (.bool true)) (k:WF P ex R (x::cs) N B h n m):WF P ex R (.cond X x y::cs) N B h n m:=λa w b d=>oW b c (k a w b d)
def UJ {X}{x y:Code}(c:CF m X=some (.bool false)) (k:WF P ex R (y::cs) N B h n m):WF P ex R (.cond X x y::cs) N B h n m:=λa w b d=>oX b c (k a w b d)
def BG {i:Nat}{c:Code}(k:WF P ((i,W P ex R cs N)::ex) R [c] (W P ex R cs N) B h n m):WF P ex R (.block i c::cs) N B h n m:=λa w b d=>eO (k a w b d)
def F2 {c:Code}(I:AP) (b:WF P ex R [c] I B h n m) (d:∀a w,I a w→W P ex R cs N a w):WF P ex R (c::cs) N B h n m:=λa w g i=>oY I (b a w g i) d
def fX {c:Code}(I:Nat→AP) (T d:Nat) (h0:∀a w,Fr n a m→Wd B h w→I d a w) (g:∀i a w,I i a w→i≤T)
  (b:∀i a w,I i a w→W P ex R [c] (I (i+1)) a w):WF P ex R (.loop c::cs) N B h n m:=λa w j k=>jN I T d (h0 a w j k) g b
def JL {l:List Oper}{id:Nat}{b:Bool}(c:aG P l b) (k:QF P l.toArray (Wd B h) (λa=>∀w,Wd B h w→W P ex R cs N a w) l n m):WF P ex R (.region id l.toArray b::cs) N B h n m:=
 λa _ d g=>uE c g (k a d)
def WF.rc {l:List Oper}{id:Nat}{b:Bool}(c:aG P l b) (d:St S L h) (k:QF P l.toArray (Cl B h) (λa=>∀w h',Wd B h' w→St S L h'→CX S h S h'→W P ex R cs N a w) l n m):WF P ex R (.region id l.toArray b::cs) N B h n m:=
 λa _ g i=>uG c i d (k a g)
def Es {l:List Oper}{id:Nat}(k:LF P l.toArray (Qx ex R (W P ex R cs N)) l B h n m):WF P ex R (.region id l.toArray false::cs) N B h n m:=
 λa w b c=>uF (k a w b c)
def Ip {ops:Array Oper}{C}(b:Ud m m') (k:WF P ex R cs N B h n m'):QF P ops C (λa=>∀w,Wd B h w→W P ex R cs N a w) [] n m:=λa c w d=>k a w (c.sub b) d
def BB {ops:Array Oper}{C}(b:Ud m m') (k:∀h',St S L h'→CX S h S h'→WF P ex R cs N B h' n m'):QF P ops C (λa=>∀w h',Wd B h' w→St S L h'→CX S h S h'→W P ex R cs N a w) [] n m:=
 λa c w h' d s e=>k h' s e a w (c.sub b) d
def LF.nil {ops:Array Oper}(b:Ud m m') (k:WF P ex R cs N B h n m'):LF P ops (Qx ex R (W P ex R cs N)) [] B h n m:=λa w c d=>iF (k a w (c.sub b) d)
def IA {ops:Array Oper}{Q:Exit→Act→World→Prop}{l:List Oper}(j:Nat) (k:QF P ops (Wd B h) (λa=>∀w,Wd B h w→wpList P ops Q (l.drop j) a w) (l.take j) n m):LF P ops Q l B h n m:=λa _ b c=>l_q j c (k a b)
def EI {ops:Array Oper}{C}{Q:Exit→Act→World→Prop}{l:List Oper}(k:LF P ops Q l B h n m):QF P ops C (λa=>∀w,Wd B h w→wpList P ops Q l a w) [] n m:=λa b w c=>k a w b c
def A8 {f fn c l S h post}(n:Nat) (b:P.funcs[f]? =some fn) (d:fn.body=some c) (g:fn.ntmps=n) (i:Nat.ble l.length n=true)
  (k:∀B,WF P [] (Rt P fn B S h post) [c] (Rt P fn B S h post) B h (n,[]) (XM 0 l)):CA P f l.toArray S h post:=
 CA.intro n b d g (zX i) λB w a j b=>k B a w b j
end
section
variable {P:Program}{ops:Array Oper}{C:World→Prop}{Q:Act→Prop}{n:FN}{m m':SM}{rest:List Oper}
variable {d:Nat}{ty:TypeId}{pos:String}{af:Array Edge}{X Y:Operand}{t t1 t2:TypeId}{x y:Int}{kd:IntKind}{v p:Value}
def QF.nil (k:∀a,Fr n a m→Q a):QF P ops C Q [] n m:=λa b=>k a b
def vM {l:List Oper}(b:Ud m m') (k:QF P ops C Q l n m'):QF P ops C Q l n m:=λa c=>k a (c.sub b)
def Ys {o:Oper}{j e:Nat}{b:Bool}(d:o.guard=some (j,b)) (g:(ops[j]?).bind (·.dst)=some e) (i:lk m e=some (.bool b)) (k:QF P ops C Q ({ o with guard:=none}::rest) n m):QF P ops C Q (o::rest) n m:=
 λa c=>uR c d g i (k a c)
def tO {o:Oper}{j e:Nat}{b:Bool}(a:o.guard=some (j,!b)) (c:(ops[j]?).bind (·.dst)=some e) (g:lk m e=some (.bool b)) (i:o.dst=some d) (hd:Nat.blt d n.1=true) (k:QF P ops C Q rest n ((d,undef)::m)):QF P ops C Q (o::rest) n m:=
 λ_ l=>uS l a c g i hd k
def oA (j:Nat) (m':SM) {l:List Oper}(c:QF P ops C (λa=>Fr n a m') (l.take j) n m) (d:QF P ops C Q (l.drop j) n m'):QF P ops C Q l n m:=
 λa g=>Ul j (λa=>Fr n a m') (c a g) λi b=>d i b
def gG (b:Ud m m'):QF P ops C (λa=>Fr n a m') [] n m:=λ_ c=>c.sub b
def G7 (a:CF m X=some v) (hd:Nat.blt d n.1=true) (k:QF P ops C Q rest n ((d,v)::m)):QF P ops C Q (⟨some d,.move X,ty,pos,af,none⟩::rest) n m:=λ_ b=>uP b a hd k
def OH (a:CF m X=some v) (hd:Nat.blt d n.1=true) (k:QF P ops C Q rest n ((d,v)::m)):QF P ops C Q (⟨some d,.assign X,ty,pos,af,none⟩::rest) n m:=λ_ b=>uU b a hd k
def SH {c X Y:Operand}{b:Bool}(a:CF m c=some (.bool b)) (g:CF m (if b then X else Y)=some v) (hd:Nat.blt d n.1=true) (k:QF P ops C Q rest n ((d,v)::m)):QF P ops C Q (⟨some d,.pick c X Y,ty,pos,af,none⟩::rest) n m:=λ_ i=>kM i a g hd k
def vR (a:CF m X=some (.int .i64 x)) (b:CF m Y=some (.int .i64 y)) (hd:Nat.blt d n.1=true) (c:AA (x+y)) (k:QF P ops C Q rest n ((d,.int .i64 (x+y))::m)):QF P ops C Q (⟨some d,.binOp .add t1 X Y t2,ty,pos,af,none⟩::rest) n m:=λ_ g=>qZ g a b hd c k
def vQ (a:CF m X=some (.int .i64 x)) (b:CF m Y=some (.int .i64 y)) (hd:Nat.blt d n.1=true) (c:AA (x*y)) (k:QF P ops C Q rest n ((d,.int .i64 (x*y))::m)):QF P ops C Q (⟨some d,.binOp .mul t1 X Y t2,ty,pos,af,none⟩::rest) n m:=λ_ g=>qH g a b hd c k
def Yv (a:CF m X=some (.int .i64 x)) (b:CF m Y=some (.int .i64 y)) (hd:Nat.blt d n.1=true) (k:QF P ops C Q rest n ((d,.int .i64 (BV (x+y)))::m)):QF P ops C Q (⟨some d,.binOp .add t1 X Y t2,ty,pos,af,none⟩::rest) n m:=λ_ c=>kP c a b hd k
def Yp (a:CF m X=some (.int .i64 x)) (b:CF m Y=some (.int .i64 y)) (hd:Nat.blt d n.1=true) (k:QF P ops C Q rest n ((d,.int .i64 (BV (x-y)))::m)):QF P ops C Q (⟨some d,.binOp .sub t1 X Y t2,ty,pos,af,none⟩::rest) n m:=λ_ c=>kL c a b hd k
def dS (a:CF m X=some (.int kd x)) (b:CF m Y=some (.int kd y)) (hd:Nat.blt d n.1=true) (k:QF P ops C Q rest n ((d,.bool (decide (x<y)))::m)):QF P ops C Q (⟨some d,.binOp .lss t1 X Y t2,ty,pos,af,none⟩::rest) n m:=λ_ c=>qK c a b hd k
def dT (a:CF m X=some (.int kd x)) (b:CF m Y=some (.int kd y)) (hd:Nat.blt d n.1=true) (k:QF P ops C Q rest n ((d,.bool (decide (x≤y)))::m)):QF P ops C Q (⟨some d,.binOp .leq t1 X Y t2,ty,pos,af,none⟩::rest) n m:=λ_ c=>qL c a b hd k
def XT (a:CF m X=some (.int kd x)) (b:CF m Y=some (.int kd y)) (hd:Nat.blt d n.1=true) (k:QF P ops C Q rest n ((d,.bool (decide (y<x)))::m)):QF P ops C Q (⟨some d,.binOp .gtr t1 X Y t2,ty,pos,af,none⟩::rest) n m:=λ_ c=>qT c a b hd k
def dV (a:CF m X=some (.int kd x)) (b:CF m Y=some (.int kd y)) (hd:Nat.blt d n.1=true) (k:QF P ops C Q rest n ((d,.bool (decide (y≤x)))::m)):QF P ops C Q (⟨some d,.binOp .geq t1 X Y t2,ty,pos,af,none⟩::rest) n m:=λ_ c=>qU c a b hd k
def XW (a:CF m X=some (.int kd x)) (b:CF m Y=some (.int kd y)) (hd:Nat.blt d n.1=true) (k:QF P ops C Q rest n ((d,.bool (decide (x=y)))::m)):QF P ops C Q (⟨some d,.binOp .eql t1 X Y t2,ty,pos,af,none⟩::rest) n m:=λ_ c=>qX c a b hd k
def dO (a:CF m X=some (.int kd x)) (b:CF m Y=some (.int kd y)) (hd:Nat.blt d n.1=true) (k:QF P ops C Q rest n ((d,.bool (decide (x≠y)))::m)):QF P ops C Q (⟨some d,.binOp .neq t1 X Y t2,ty,pos,af,none⟩::rest) n m:=λ_ c=>qG c a b hd k
def XS {b}(a:CF m X=some (.bool b)) (hd:Nat.blt d n.1=true) (k:QF P ops C Q rest n ((d,.bool (!b))::m)):QF P ops C Q (⟨some d,.unOp .not t1 X,ty,pos,af,none⟩::rest) n m:=λ_ c=>qE c a hd k
def Lc {aty}(a:CF m X=some (.int kd x)) (b:CF m Y=some (.int kd y)) (hd:Nat.blt d n.1=true) (k:QF P ops C Q rest n ((d,.int kd (Max.max x y))::m)):QF P ops C Q (⟨some d,.call ⟨.builtin .max,#[X,Y],#[t1,t2]⟩,aty,pos,af,none⟩::rest) n m:=λ_ c=>qJ c a b hd k
def Lb {aty}(a:CF m X=some (.int kd x)) (b:CF m Y=some (.int kd y)) (hd:Nat.blt d n.1=true) (k:QF P ops C Q rest n ((d,.int kd (Min.min x y))::m)):QF P ops C Q (⟨some d,.call ⟨.builtin .min,#[X,Y],#[t1,t2]⟩,aty,pos,af,none⟩::rest) n m:=λ_ c=>qI c a b hd k
def CT {T:TypeId}{a:Array (Nat×Operand)}{pl z pv cs}(b:Ug P T=some (pl,z)) (c:a.toList.mapM (eZ m)=some pv) (g:N3 pl z pv=some cs) (hd:Nat.blt d n.1=true) (k:QF P ops C Q rest n ((d,.agg cs.toArray)::m)):QF P ops C Q (⟨some d,.build T a,ty,pos,af,none⟩::rest) n m:=λ_ i=>qY i b c g hd k
def QX {T:TypeId}{ks xs ys}(a:CF m X=some (.agg xs)) (b:CF m Y=some (.agg ys)) (c:ZV P T=some ks) (g:xs.toList.map II=ks) (i:ys.toList.map II=ks) (j:OT xs.toList ys.toList=true) (hd:Nat.blt d n.1=true) (k:QF P ops C Q rest n ((d,.bool (M8 xs.toList ys.toList))::m)):QF P ops C Q (⟨some d,.binOp .eql T X Y t2,ty,pos,af,none⟩::rest) n m:=λ_ l=>qW l a b c g i j hd k
def nT {T:TypeId}{ks xs ys}(a:CF m X=some (.agg xs)) (b:CF m Y=some (.agg ys)) (c:ZV P T=some ks) (g:xs.toList.map II=ks) (i:ys.toList.map II=ks) (j:OT xs.toList ys.toList=true) (hd:Nat.blt d n.1=true) (k:QF P ops C Q rest n ((d,.bool (!M8 xs.toList ys.toList))::m)):QF P ops C Q (⟨some d,.binOp .neq T X Y t2,ty,pos,af,none⟩::rest) n m:=λ_ l=>qF l a b c g i j hd k
def GH {b o j off}(a:CF m X=some (.pointer (some ⟨b,o,none⟩))) (c:bK P t j off=true) (hd:Nat.blt d n.1=true) (k:QF P ops C Q rest n ((d,.pointer (some ⟨b,o+off,none⟩))::m)):QF P ops C Q (⟨some d,.fieldAddr t X j,ty,pos,af,none⟩::rest) n m:=λ_ g=>qV g a c hd k
def Vs {ad len cap aty e sz}(a:CF m X=some (.slice ad len cap)) (b:TI P t e sz=true) (hd:Nat.blt d n.1=true) (k:QF P ops C Q rest n ((d,.int .i64 len)::m)):QF P ops C Q (⟨some d,.call ⟨.builtin .len,#[X],#[t]⟩,aty,pos,af,none⟩::rest) n m:=λ_ c=>kN c a b hd k
section
variable {A S:Nat→Prop}{L:List HP}{h:A4}
def Iz {α}{r:BX α}{x}(g:CK C h) (i:∀b,A b→b<h.size) (j:CF m X=some p) (k0:Ny A S h r p x) (l:L5 P t r.sz r.ag=true) (o:r.ag=false→r.sz=1) (hd:Nat.blt d n.1=true)
  (k:∀v,Rd S h r v x→QF P ops C Q rest n ((d,v)::m)):QF P ops C Q (⟨some d,.load t X,ty,pos,af,none⟩::rest) n m:=λ_ c=>aL g i c j k0 l o hd λv a c q=>k v q a c
def G0 {x}(g:CK C h) (i:∀b,A b→b<h.size) (j:CF m X=some p) (k0:Ny A S h AW p x) (l:L5 P t 1 false=true) (hd:Nat.blt d n.1=true)
  (k:AA x→QF P ops C Q rest n ((d,.int .i64 x)::m)):QF P ops C Q (⟨some d,.load t X,ty,pos,af,none⟩::rest) n m:=λ_ c=>qR g i c j k0 l hd λa c o=>k o a c
def nV {x}(a:CK C h) (c:∀b,A b→b<h.size) (g:CF m X=some p) (k0:Ny A S h BX.bool p x) (i:L5 P t 1 false=true) (hd:Nat.blt d n.1=true)
  (k:QF P ops C Q rest n ((d,.bool x)::m)):QF P ops C Q (⟨some d,.load t X,ty,pos,af,none⟩::rest) n m:=λ_ j=>qS a c j g k0 i hd k
def nU {x}(g:CK C h) (i:∀b,A b→b<h.size) (j:CF m X=some p) (k0:Ny A S h BX.str p x) (l:L5 P t 1 false=true) (hd:Nat.blt d n.1=true)
  (k:x.size≤maxLen→QF P ops C Q rest n ((d,.string x)::m)):QF P ops C Q (⟨some d,.load t X,ty,pos,af,none⟩::rest) n m:=λ_ c=>qO g i c j k0 l hd λa c o=>k o a c
def dU {α}{r:BX α}{x}(g:CK C h) (i:∀b,A b→b<h.size) (j:CF m X=some p) (k0:Ny A S h r.sl p x) (l:L5 P t 1 false=true) (hd:Nat.blt d n.1=true)
  (k:∀v,Sl S h r v x→QF P ops C Q rest n ((d,v)::m)):QF P ops C Q (⟨some d,.load t X,ty,pos,af,none⟩::rest) n m:=λ_ c=>qQ g i c j k0 l hd λv a c o=>k v o a c
def Lk {α β}{r:BX α}{r':BX β}{f:α→β}{j off x}(c:CF m X=some p) (k0:Ny A S h r p x) (g:Gs r off r' f) (i:bK P t j off=true) (hd:Nat.blt d n.1=true)
  (k:∀q,Ny A S h r' q (f x)→QF P ops C Q rest n ((d,q)::m)):QF P ops C Q (⟨some d,.fieldAddr t X j,ty,pos,af,none⟩::rest) n m:=λ_ b=>uT b c k0 g i hd λq a b l=>k q l a b
def tN {α}{r:BX α}{l:List α}{e i x}(c:CF m X=some v) (g:CF m Y=some (.int .i64 i)) (k0:Sl S h r v l) (j:TI P t e r.sz=true) (h0:0≤i) (o:l[i.toNat]? =some x) (hd:Nat.blt d n.1=true)
  (k:∀q,Pt S h r q x→QF P ops C Q rest n ((d,q)::m)):QF P ops C Q (⟨some d,.indexAddr t X Y,ty,pos,af,none⟩::rest) n m:=λ_ b=>uQ b c g k0 j h0 o hd λq a b p=>k q p a b
def nW {α}{r:BX α}{l:List α}{T e i x}(p:St S L h) (s:OS r T v l∈L) (u:CF m X=some v) (y:CF m Y=some (.int .i64 i)) (z:TI P t e r.sz=true) (h0:0≤i) (o:l[i.toNat]? =some x) (hd:Nat.blt d n.1=true)
  (k:∀q,Ny (λb=>b<h.size) S h r q x→EP v (i.toNat*r.sz) q→QF P ops C Q rest n ((d,q)::m)):QF P ops C Q (⟨some d,.indexAddr t X Y,ty,pos,af,none⟩::rest) n m:=by
 obtain⟨D,cap,rfl,A⟩:=p.osAt s o;have B:i.toNat<l.length:=(wU.1 o).1;have c:(⟨D,0,none⟩:Addr).add (i.toNat*r.sz)=⟨D,i.toNat*r.sz,none⟩:=by unfold Addr.add;split<;>simp_all
 intro a j;refine HT j hd (λw _=>by simp [execOp,j.eval u,j.eval y,P3 (P:=P) (w:=w) (cap:=cap) (a:=⟨D,0,none⟩) z h0 B,c]) (k _ A ⟨D,_,_,rfl,rfl⟩)
def Vt {α}{r:BX α}{l:List α}{aty e}(c:CF m X=some v) (k0:Sl S h r v l) (g:TI P t e r.sz=true) (hd:Nat.blt d n.1=true)
  (k:l.length≤maxLen→QF P ops C Q rest n ((d,.int .i64 l.length)::m)):QF P ops C Q (⟨some d,.call ⟨.builtin .len,#[X],#[t]⟩,aty,pos,af,none⟩::rest) n m:=λ_ b=>qM b c k0 g hd λa b i=>k i a b
def gD {α}{r:BX α}{l:List α}{T aty e sz}(b:St S L h) (c:OS r T v l∈L) (g:CF m X=some v) (i:TI P t e sz=true) (hd:Nat.blt d n.1=true)
  (k:l.length≤maxLen→QF P ops C Q rest n ((d,.int .i64 l.length)::m)):QF P ops C Q (⟨some d,.call ⟨.builtin .len,#[X],#[t]⟩,aty,pos,af,none⟩::rest) n m:=by
 obtain⟨j,cap,rfl,a⟩:=b.oslen c;exact Vs g i hd (k a)
def L0 {T b o sz:Nat}{ag:Bool}{cs vs:List Value}(a:CK C h) (c:St S L h) (g:CF m X=some (.pointer (some ⟨b,o,none⟩))) (i:Bx b T cs∈L) (j:(cs.drop o).take sz=vs) (l:Nat.beq vs.length sz=true) (p:L5 P t sz ag=true) (q:(ag||Nat.beq sz 1)=true) (hd:Nat.blt d n.1=true)
  (k:QF P ops C Q rest n ((d,if ag then .agg vs.toArray else vs.headD undef)::m)):QF P ops C Q (⟨some d,.load t X,ty,pos,af,none⟩::rest) n m:=λ_ s=>qP a c s g i j l p q hd k
end
def gI {f:Nat}{xs:Array Operand}{a:Array TypeId}{args vs:List Value}{first cap:Array Value}{h B}
  (j:CF m X=some (.func (.func f) first cap)) (c:xs.toList.mapM (CF m)=some args) (g:first.toList++args++cap.toList=vs) (i:BK P f=true) (hd:Nat.blt d n.1=true)
  (l:∀h',HS h h'→CA P f vs.toArray (λb=>b<h'.size) h' (λu _ _=>u=v))
  (k:QF P ops (Cl B h) Q rest n ((d,v)::m)):QF P ops (Cl B h) Q (⟨some d,.call ⟨.value X,xs,a⟩,ty,pos,af,none⟩::rest) n m:=λ_ o=>kO o j c g i hd l k
end
section
variable {P:Program}{ops:Array Oper}{Q:Exit→Act→World→Prop}{n:FN}{m:SM}{rest:List Oper}
variable {d:Nat}{ty:TypeId}{pos:String}{af:Array Edge}{X Y:Operand}{B:World}{h:A4}{S:Nat→Prop}{L L2:List HP}{v:Value}
def OI {T:TypeId}{cs:List Value}(j:CF m X=some v) (l:v.cells=cs.toArray) (hd:Nat.blt d n.1=true) (c:St S L h)
  (k:∀b h',St S (Bx b T cs::L) h'→CX S h S h'→LF P ops Q rest B h' n ((d,.pointer (some ⟨b,0,none⟩))::m)):LF P ops Q (⟨some d,.box T X,ty,pos,af,none⟩::rest) B h n m:=
 λ_ _ g i=>iG g j l hd i c λb a w h' g i c e=>k b h' c e a w g i
def A6 {T:TypeId}{α}{r:BX α}{x:α}(j:CF m X=some v) (l:Rd S h r v x) (o:r.ag=false→r.sz=1) (hd:Nat.blt d n.1=true) (c:St S L h)
  (k:∀p b h',St b L h'→CX S h b h'→Pt b h' r p x→LF P ops Q rest B h' n ((d,p)::m)):LF P ops Q (⟨some d,.box T X,ty,pos,af,none⟩::rest) B h n m:=
 λ_ _ g i=>lA g j l o hd i c λp a w b h' g i c e kp=>k p b h' c e kp a w g i
def BZ {T:TypeId}{cs:List Value}(j:FV P T=some cs) (hd:Nat.blt d n.1=true) (c:St S L h)
  (k:∀b h',St S (Bx b T cs::L) h'→CX S h S h'→LF P ops Q rest B h' n ((d,.pointer (some ⟨b,0,none⟩))::m)):LF P ops Q (⟨some d,.alloc T,ty,pos,af,none⟩::rest) B h n m:=
 λ_ _ g i=>vA g j hd i c λb a w h' g i c e=>k b h' c e a w g i
def dX {T l:TypeId}{b o:Nat}{cs vs cs':List Value}{sz:Nat}{ag:Bool}(p:CF m X=some (.pointer (some ⟨b,o,none⟩))) (q:CF m Y=some v) (s:v.cells=vs.toArray) (t:∀u∈vs,u.oneCell'=true)
  (x:L5 P T sz ag=true) (d:vs.length=sz) (g:St S L h) (r:Np L (Bx b l cs) (Bx b l cs') L2) (c:Nat.ble (o+sz) cs.length=true) (y:JN cs o vs=cs')
  (k:∀h',St S L2 h'→CX S h S h'→LF P ops Q rest B h' n m):LF P ops Q (⟨none,.store T X Y,ty,pos,af,none⟩::rest) B h n m:=
 λ_ _ i j=>uX i p q s t x d c y j g r λa w h' i j g e=>k h' g e a w i j
def tR {α}{r:BX α}{T e sz b:Nat}{z:List Value}{zx:α}{len cap:Nat}{q s:IntKind}{U V:Operand}(t:RE P T=some (e,sz,b,z)) (c:r.sz=sz) (u:r.rd S h z zx)
  (x:CF m U=some (.int q (len:Nat))) (y:CF m V=some (.int s (cap:Nat))) (g:len≤cap) (i:b*cap≤281474976710656) (j:cap≤maxLen) (hd:Nat.blt d n.1=true) (l:St S L h)
  (k:∀v h',St S (OS r e v (List.replicate len zx)::L) h'→CX S h S h'→LF P ops Q rest B h' n ((d,v)::m)):LF P ops Q (⟨some d,.makeSlice T U V,ty,pos,af,none⟩::rest) B h n m:=
 λ_ _ o p=>uY o t c u x y g i j hd p l λv a w h' o p l e=>k v h' l e a w o p
def gQ {α}{r:BX α}{T e sz g:Nat}{z:List Value}{l xs:List α}{u y b sc:Nat}{news:List Value}{x:Value→List HP}(A:CF m X=some v) (C:CF m Y=some (.slice (some ⟨u,0,none⟩) b sc)) (D:RE P T=some (e,sz,g,z)) (i:r.sz=sz)
  (F:Bx u y news∈L) (G:NL S h r news xs) (j:b=xs.length) (o:l.length+xs.length≤maxLen) (p:Mb (l.length+xs.length) g) (hd:Nat.blt d n.1=true) (q:St S L h) (H:∀c,Np L (OS r e v l) (OS r e c (l++xs)) (x c))
  (k:∀c h',St S (x c) h'→CX S h S h'→LF P ops Q rest B h' n ((d,c)::m)):LF P ops Q (⟨some d,.call ⟨.builtin .append,#[X,Y],#[T,T]⟩,ty,pos,af,none⟩::rest) B h n m:=
 λ_ _ s t=>lD s A C D i F G j o p hd t q H λc a w h' s t q e=>k c h' q e a w s t
def tS {T e sz g len:Nat}{z cs:List Value}{c:Array (Nat×Operand)}{i:List (Nat×Value)}(u:RE P T=some (e,sz,g,z)) (v:c.toList.mapM (eZ m)=some i)
  (x:N3 (VO sz len) (List.replicate len z).flatten i=some cs) (j:Nat.blt 0 len=true) (l:Nat.ble (len*sz) 16777216=true) (o:∀p∈i,p.1<len) (hd:Nat.blt d n.1=true) (q:St S L h)
  (k:∀b h',St S (Bx b e cs::L) h'→CX S h S h'→LF P ops Q rest B h' n ((d,.slice (some ⟨b,0,none⟩) len len)::m)):LF P ops Q (⟨some d,.buildSlice T len c,ty,pos,af,none⟩::rest) B h n m:=
 λ_ _ s t=>uZ s u v x j l hd t q o λb a w h' s t q e=>k b h' q e a w s t
def KG {f:Nat}{xs:Array Operand}{g:Array TypeId}{args vs:List Value}{first cap:Array Value}{b:Value→(Nat→Prop)→A4→Prop}
  (s:CF m X=some (.func (.func f) first cap)) (i:xs.toList.mapM (CF m)=some args) (j:first.toList++args++cap.toList=vs) (l:BK P f=true) (hd:Nat.blt d n.1=true) (t:CA P f vs.toArray S h b)
  (k:∀v c h',CX S h c h'→b v c h'→LF P ops Q rest B h' n ((d,v)::m)):LF P ops Q (⟨some d,.call ⟨.value X,xs,g⟩,ty,pos,af,none⟩::rest) B h n m:=
 λ_ _ o q=>aX o s i j l hd q t λv a w c h' o q e p=>k v c h' e p a w o q
end
def gt {α}[Inhabited α] (l:List α) (i:Int):α:=l.getD i.toNat default
def gd {α}[Inhabited α] {l:List α}{i:Int}(h0:0≤i) (h:i<(l.length:Int)):l[i.toNat]? =some (gt l i):=by
 have:i.toNat<l.length:=by omega
 simp [gt,List.getD,wR this]
instance:Inhabited ByteArray:=⟨.empty⟩
def Sl.one {α S h}{r:BX α}{v l}(k:Sl S h r v l):v.oneCell'=true:=by
 rcases k with ⟨rfl,_⟩|⟨a,c,rfl,_⟩<;>rfl
section
variable {P:Program}{ex ex':List (Nat×AP)}{R N N':AP}{cs cs':List Code}{B:World}{h:A4}{n:FN}{m m':SM}{S:Nat→Prop}{L:List HP}
def M1 {i:Nat}(b:fJ ex i=some (W P ex' R cs' N')) (k:WF P ex' R cs' N' B h n m):WF P ex R (.exit i::cs) N B h n m:=λa w c d=>Zo b (k a w c d)
def BP (k:WF P ex' R cs' N' B h n m):WF P ex R [] (W P ex' R cs' N') B h n m:=λa w b c=>k a w b c
def AI {a w}(k:WF P ex R cs N B h n m) (b:Fr n a m) (c:Wd B h w):W P ex R cs N a w:=k a w b c
end
section
variable {P:Program}{ops:Array Oper}{C:World→Prop}{Q:Act→Prop}{n:FN}{m m':SM}{rest:List Oper}
variable {d:Nat}{ty:TypeId}{pos:String}{af:Array Edge}{X Y:Operand}{t t1 t2:TypeId}{x y:Int}{kd:IntKind}{v p:Value}{A S:Nat→Prop}{L:List HP}{h:A4}
def A0 (j d:Nat) (v:Value) {l:List Oper}(b:QF P ops C (λa=>Fr n a ((d,v)::m)) (l.take j) n m) (c:QF P ops C Q (l.drop j) n ((d,v)::m)):QF P ops C Q l n m:=oA j _ b c
end
def RV (P:Program) (w:World) (a:Act):ResultVar→Value→Prop
 | .tmp t,v=>a.tmps.getD t undef=v
 | .cell t T,v=>∀b:World,b.heap=w.heap→(do loadVar T (←asAddr (a.tmps.getD t undef)):Sem Value).run P b= .ok v b
def Zc (P:Program) (w:World) (a:Act):List ResultVar→List Value→Prop
 |[],[]=>True
 |r::b,v::vs=>RV P w a r v∧Zc P w a b vs
 |_,_=>False
def jO:List Value→Value
 |[v]=>v
 |vs=> .tuple vs.toArray
def Sr {P:Program}{w:World}{a:Act}{fn:Func}{b:List ResultVar}{vs:List Value}(m:fn.results.toList=b) (k:Zc P w a b vs):(results fn a.tmps).run P w= .ok (jO vs) w:=by
 have g:∀(b:List ResultVar) (vs:List Value),Zc P w a b vs→(b.mapM λr:ResultVar=>(match r with
   | .tmp t=>pure (a.tmps.getD t undef)
   | .cell c t=>do loadVar t (←asAddr (a.tmps.getD c undef)):Sem Value)).run P w= .ok vs w:=by
  intro b
  induction b with
  |nil=>intro vs k;cases vs with
   |nil=>simp
   |cons _ _=>exact k.elim
  |cons r b n=>intro vs k;cases vs with
   |nil=>exact k.elim
   |cons v vs=>
    obtain⟨d,o⟩:=k;have j:=n vs o;cases r with
    |tmp t=>
     have d:a.tmps.getD t undef=v:=d;simp only[Aal,Sem.run_bind,Sem.run_pure,Result.andThen_ok,j,d]
    |cell c t=>
     have d:(do loadVar t (←asAddr (a.tmps.getD c undef)):Sem Value).run P w= .ok v w:=d w rfl;simp only[Aal];rw[Sem.run_bind,d];simp only[Result.andThen_ok,Sem.run_bind,j,Sem.run_pure]
 have l:=g b vs k;unfold results;simp only[Array.mapM_eq_mapM_toList,m,Sem.run_bind,Sem.run_map];refine(wH (λx=>(Result.andThen x λa i=>Result.ok a.toArray i).andThen λa i=>Sem.run P (pure (if h:a.size=1 then a[0] else Value.tuple a)) i) l).trans ?_;clear l g k
 match vs with
 |[]=>rfl
 |[v]=>rfl
 |_::_::_=>rfl
section
variable {P:Program}{fn:Func}{B:World}{S S':Nat→Prop}{h h':A4}{post:Value→(Nat→Prop)→A4→Prop}{n:FN}{a:Act}{m:SM}{w:World}{L:List HP}
def K5 {t v}(b:Fr n a m) (c:lk m t=some v):RV P w a (.tmp t) v:=by
 have:=b.eval (X:= .tmp t) c;simpa [RV,Act.eval] using this
def NS {t T b T' sz}{cs:List Value}(d:Fr n a m) (g:Wd B h w) (i:St S L h) (k:lk m t=some (.pointer (some ⟨b,0,none⟩))) (l:Bx b T' cs∈L) (o:L5 P T sz true=true) (q:cs.length=sz):RV P w a (.cell t T) (.agg cs.toArray):=by
 obtain⟨F,s,_⟩:=i.get l;have c:=d.eval (X:= .tmp t) k;simp only[Act.eval] at c;intro u v;have:=Oq (P:=P) (w:=u) (S:=λ_=>True) (p:= .pointer (some ⟨b,0,none⟩)) (cs:=cs) ⟨⟨b,0,none⟩,rfl,rfl,trivial,λj _=>by rw[v,g.heap,xM,Bx.cell s]⟩ q o (λe=>by cases e);simp only[Instr.loadAt,Instr.sureAddr,Sem.run_bind,Sem.run_pure,Result.andThen_ok,if_true] at this;simp only[c,asAddr,Sem.run_bind,Sem.run_pure,Result.andThen_ok,this]
def U5 {d:World}(g:d.heap=w.heap):∀{b:List ResultVar}{vs:List Value},Zc P w a b vs→Zc P d a b vs
 |[],[],_=>trivial
 |[],_::_,h=>h.elim
 |_::_,[],h=>h.elim
 |r::b,v::vs,⟨h,t⟩=>⟨by
   cases r with
   |tmp t=>exact h
   |cell c t=>exact λi j=>h i (j.trans g),U5 g t⟩
def Jr:Zc P w a [] []:=trivial
def Hr {r v rs vs}(k:RV P w a r v) (b:Zc P w a rs vs):Zc P w a (r::rs) (v::vs):=⟨k,b⟩
def Jw {k:Nat}{d:List ResultVar}{vs:List Value}{v:Value}(i:Fr (k,[]) a m) (j:fn.results.toList=d) (b:Wd B h' w) (l:Zc P w a d vs) (n:jO vs=v) (e:CX S h S' h') (kp:post v S' h'):Rt P fn B S h post a w:=by
 refine⟨[],i.dfr,List.nodup_nil,λD o=>(by cases o),λp q s t u x=>?_⟩;have g:=Ut u x;have c:Wd B h' p:=⟨g.trans b.heap,q.trans b.os,s.trans b.tape,t.trans b.out⟩
 exact⟨v,by rw[←n];exact Sr j (U5 g l),S',h',c,e,kp⟩
end
def sb {m:SM}(k:Nat) {v:Value}{r:SM}(h:lk m k=some v) (s:Ud m r):Ud m ((k,v)::r):=⟨h,s⟩
def PJ {m:SM}:Ud m []:=trivial
section
variable {P:Program}{ex:List (Nat×AP)}{R N:AP}{cs:List Code}{B:World}{h:A4}{n:FN}{m m':SM}{S:Nat→Prop}{L:List HP}
end
def CA.pure {P f args S h}{post:Value→(Nat→Prop)→A4→Prop}(k:CA P f args S h post):∃v S' h',post v S' h':=by
 let w:World:={ (default:World) with heap:=h}
 obtain⟨e,b,fr,⟨v,S',h',_,_,_,a⟩,_⟩:=k w w ⟨rfl,rfl,rfl,rfl⟩ [];exact⟨v,S',h',a⟩
def IQ {P:Program}{ops:Array Oper}{Q:Act→Prop}{n:FN}{m:SM}{rest:List Oper}{d:Nat}{ty:TypeId}{pos:String}{af:Array Edge}{X:Operand}{v:Value}{Ψ:Prop}{f:Nat}{xs:Array Operand}{a:Array TypeId}{args vs:List Value}{first cap:Array Value}{h B}
  (l:CF m X=some (.func (.func f) first cap)) (c:xs.toList.mapM (CF m)=some args) (g:first.toList++args++cap.toList=vs) (i:BK P f=true) (hd:Nat.blt d n.1=true)
  (j:∀h',HS h h'→CA P f vs.toArray (λb=>b<h'.size) h' (λu _ _=>u=v∧Ψ))
  (k:Ψ→QF P ops (Cl B h) Q rest n ((d,v)::m)):QF P ops (Cl B h) Q (⟨some d,.call ⟨.value X,xs,a⟩,ty,pos,af,none⟩::rest) n m:=by
 obtain⟨_,_,_,_,q⟩:=(j h (HS.refl h)).pure;exact gI l c g i hd (λh' o=>(j h' o).mono λ_ _ _ _ p=>p.1) (k q)
section
variable {P:Program}{ops:Array Oper}{C:World→Prop}{Q:Act→Prop}{n:FN}{m m':SM}{rest:List Oper}{d:Nat}
def L3 {o:Oper}{j e:Nat}(a:o.guard=some (j,false)) (c:(ops[j]?).bind (·.dst)=some e) (g:lk m e=some (.bool true)) (i:o.dst=some d) (hd:Nat.blt d n.1=true) (k:QF P ops C Q rest n ((d,undef)::m)):QF P ops C Q (o::rest) n m:=tO (b:=true) a c g i hd k
end
def mh {α}{a:α}{l:List α}:a∈a::l:=List.Mem.head _
def mt {α}{a b:α}{l:List α}(h:a∈l):a∈b::l:=List.Mem.tail _ h
def gR {P:Program}{ops:Array Oper}{Q:Exit→Act→World→Prop}{n:FN}{m:SM}{rest:List Oper}{d:Nat}{ty:TypeId}{pos:String}{af:Array Edge}{X Y:Operand}{B:World}{h:A4}{S:Nat→Prop}{L:List HP}{v:Value}
  {α} {r:BX α} {T e sz a:Nat} {z:List Value} {l xs:List α} {p s b sc:Nat} {news:List Value} {q:Value→List HP} (t:CF m X=some v) (u:CF m Y=some (.slice (some ⟨p,0,none⟩) b sc)) (w:RE P T=some (e,sz,a,z)) (j:r.sz=sz)
  (x:Bx p s news∈L) (y:NL S h r news xs) (o:b=xs.length) (c:Nat.blt 0 a=true) (g:Mb (l.length+xs.length) a) (hd:Nat.blt d n.1=true) (A:St S L h) (C:∀i,Np L (OS r e v l) (OS r e i (l++xs)) (q i))
  (k:∀i h',St S (q i) h'→CX S h S h'→LF P ops Q rest B h' n ((d,i)::m)):LF P ops Q (⟨some d,.call ⟨.builtin .append,#[X,Y],#[T,T]⟩,ty,pos,af,none⟩::rest) B h n m:=by
 have D:1≤a:=by simpa [Nat.blt] using c
 have F:l.length+xs.length≤(l.length+xs.length)*a:=Nat.le_mul_of_pos_right _ D;have G:=g.le;exact gQ t u w j x y o (by unfold maxLen;omega) g hd A C k
section
variable {P:Program}{ops:Array Oper}{C:World→Prop}{Q:Act→Prop}{n:FN}{m m':SM}{rest:List Oper}{d:Nat}{ty:TypeId}{pos:String}{af:Array Edge}{X Y Z:Operand}{t1 t2 t3 aty:TypeId}{x y z:Int}{kd:IntKind}
def dP {X Y:Operand}{t1 t2:TypeId}{a b:Bool}(g:CF m X=some (.bool a)) (i:CF m Y=some (.bool b)) (j:P.underlying t1=some .bool) (hd:Nat.blt d n.1=true) (k:QF P ops C Q rest n ((d,.bool (!(a==b)))::m)):QF P ops C Q (⟨some d,.binOp .neq t1 X Y t2,ty,pos,af,none⟩::rest) n m:=
 λ_ c=>HT c hd (λw _=>by
  have l:(eqGuard .neq t1 X Y (.bool a) (.bool b)).run P w= .ok () w:=by unfold eqGuard;simp
  have o:(Op.equal t1 (.bool a) (.bool b)).run P w= .ok (a==b) w:=run_equalIn_bool' w 9999 t1 a b j;simp [execOp,c.eval g,c.eval i,l,binOp,o]) k
def Wq {X Y:Operand}{t1 t2:TypeId}{a b:ByteArray}(g:CF m X=some (.string a)) (i:CF m Y=some (.string b)) (hd:Nat.blt d n.1=true) (k:QF P ops C Q rest n ((d,.bool (a==b))::m)):QF P ops C Q (⟨some d,.binOp .eql t1 X Y t2,ty,pos,af,none⟩::rest) n m:=
 λ_ c=>HT c hd (λw _=>by
  have j:(eqGuard .eql t1 X Y (.string a) (.string b)).run P w= .ok () w:=by unfold eqGuard;simp
  simp [execOp,c.eval g,c.eval i,j,binOp,Op.stringOp,beq_toListBytes]) k
def gC {X:Operand}{t1:TypeId}{s:ByteArray}(b:CF m X=some (.string s)) (c:P.underlying t1=some .string) (hd:Nat.blt d n.1=true) (k:QF P ops C Q rest n ((d,.int .i64 s.size)::m)):QF P ops C Q (⟨some d,.call ⟨.builtin .len,#[X],#[t1]⟩,aty,pos,af,none⟩::rest) n m:=
 λ_ a=>HT a hd (λw _=>by simp [execOp,resolve,invoke,builtin,Builtin.len_,a.eval b,run_underlying c,goInt]) k
end
def qz (o:Oper):Oper:={ o with dst:=none,op:= .move (.const undef),guard:=none}
def Oe (ops:Array Oper):Bool:=(List.range ops.size).all λi=>((ops[i]?).map λo=>o.after.all λe=> !Region.binds .any e||decide (e.on<i)).getD true
def bE (ops:Array Oper) (n:Nat):Bool:=(List.range ops.size).all λi=>((ops[i]?).map λo=>match o.guard with|some (j,_)=> !Nat.beq j n|none=>true).getD true
def Xi (ops:Array Oper) (n:Nat):Bool:=
 match ops[n]? with
 |some on=>Nat.beq (n+1) ops.size&&Region.sinkB .any ops n&&Region.chainB .any ops n&&Oe ops&&bE ops n&&Region.lexB .any (ops.setIfInBounds n (qz on))
 |none=>false
section
variable {P:Program}{ops:Array Oper}{C:World→Prop}{n:Nat}{on:Oper}
def VM (b:ops[n]? =some on) (i:Nat):(ops.setIfInBounds n (qz on))[i]? =if i=n then some (qz on) else ops[i]? :=by
 have a:n<ops.size:=(xN.1 b).1;rw[yH];by_cases h:n=i
 ·subst h;simp [a]
 ·rw[wF h,wF (λe=>h e.symm)]
def Tu (b:ops[n]? =some on) (a:Array Bool):Region.ready .any (ops.setIfInBounds n (qz on)) a=Region.ready .any ops a:=by
 unfold Region.ready;simp only[Array.size_setIfInBounds];congr 1;funext i;rw[VM b];by_cases h:i=n
 ·subst h;simp [b,qz]
 ·rw[wF h]
def Tt (b:ops[n]? =some on) {j:Nat}(h:j≠n) (a:Array Value):yielded (ops.setIfInBounds n (qz on)) a j=yielded ops a j:=by
 unfold yielded;rw[VM b,wF h]
def Ov {p:Nat→Bool}:∀k,p k=false→∃i,i≤k∧p i=false∧∀j,j<i→p j=true:=by
 intro k
 induction k using Nat.strongRecOn with
 |_ k c=>
  intro d;by_cases h:∃j,j<k∧p j=false
  ·obtain⟨j,a,b⟩:=h;obtain⟨i,m,g,l⟩:=c j a b;exact⟨i,by omega,g,l⟩
  ·refine⟨k,wV _,d,λj a=>?_⟩;cases b:p j with
   |true=>rfl
   |false=>exact absurd ⟨j,a,b⟩ h
def V5 {Q':Exit→Act→World→Prop}(y:ops[n]? =some on) (ac:n+1=ops.size) (hs:Region.sinkB .any ops n=true) (hc:Region.chainB .any ops n=true) (hb:Oe ops=true) (hg:bE ops n=true):
  ∀(d:Nat) (c:Array Bool) (a:Act) (w:World),HeadInv .any ops n c→C w→
   wpAnyQ P .any (ops.setIfInBounds n (qz on)) C (λa=>∀w,C w→wpList P ops Q' [on] a w) d c a→wpAny P .any ops Q' d c a w:=by
 have z:n<ops.size:=by omega
 have o:∀c,HeadInv .any ops n c→Region.ready .any ops c≠[]:=by
  intro c k h0;have H:c.getD n true=false:=k.tail n (wV _) z;obtain⟨i,t,U,B⟩:=Ov (p:=λi=>c.getD i true) n H;have m:i<ops.size:=by omega
  have D:i∈Region.ready .any ops c:=by
   refine mem_ready.2 ⟨U,ops[i],by simp [m],λe he V=>?_⟩;have u:=wO.1 hb i (xG.2 m);have F:ops[i]? =some ops[i]:=by simp [m]
   rw[F] at u;simp only[Aaa,xJ,Aab] at u;have h6:=u e he;simp only[V,xE,yU,wW] at h6;have h7:=B e.on h6;have h8:e.on<c.size:=by rw[k.size];omega
   simp only[yG,Aak h8,xJ] at h7 ⊢;exact h7
  rw[h0] at D;cases D
 intro d
 induction d with
 |zero=>
  intro c a w k _ h;have t:=h.1;rw[Tu y] at t;exact absurd t (o c k)
 |succ d ih=>
  intro c a w k hw h;refine⟨λh0=>absurd h0 (o c k),λi D=>?_⟩;have W:i∈Region.ready .any (ops.setIfInBounds n (qz on)) c:=by rw[Tu y];exact D
  have t:=h.2 i W;obtain⟨H,oi,x,_⟩:=mem_ready.1 D;have m:i<ops.size:=(xN.1 x).1;by_cases I:i=n
  ·subst I;have X:oi=on:=wP (x.symm.trans y);subst X;have J:∀j,j<i→c.getD j true=true:=by
    intro j A;cases hl:c.getD j true with
    |true=>rfl
    |false=>exact absurd D (tail_waits hs hc z k _ j rfl A hl i (wV _))
   have l:Region.ready .any ops (c.setIfInBounds i true)=[]:=by
    apply List.eq_nil_iff_forall_not_mem.2;intro j A;obtain⟨q,oj,Y,_⟩:=mem_ready.1 A;have ab:j<ops.size:=(xN.1 Y).1;have Z:i<c.size:=by rw[k.size];omega
    have ad:j<c.size:=by rw[k.size];omega
    simp only[yG,yH] at q;by_cases e:i=j
    ·subst e;simp [Z] at q
    ·rw[wF e] at q;have:=J j (by omega);simp only[yG] at this;rw[this] at q;cases q
   unfold qOp at t;rw[VM y,wG rfl] at t;simp only at t;rw[wG (by simp [Region.wanted,qz])] at t;obtain⟨v,_,U⟩:=t;have hk:∀w,C w→wpList P ops Q' [oi] a w:=by
    cases d with
    |zero=>exact U.2
    |succ f=>exact U.1 (by rw[Tu y];exact l)
   have B:=hk w hw;unfold wpOp;simp only[y];unfold wpList at B;have hQ:∀K M,wpList P ops Q' [] K M→wpAny P .any ops Q' d (c.setIfInBounds i true) K M:=by
    intro K M hq;cases d with
    |zero=>exact⟨l,hq⟩
    |succ f=>exact⟨λ_=>hq,λj A=>by rw[l] at A;cases A⟩
   split
   ·rename_i s;rw[wG s] at B;exact B.imp (Oper.wp_mono hQ) id
   ·rename_i s;rw[wF s] at B;exact hQ _ _ B
  ·have Q:i<n:=by omega
   have u:=wpOp_of_qOp (Q':=Q') hw (K':=wpAny P .any ops Q' d (c.setIfInBounds i true)) (λK M s h'=>ih _ K M (k.set D Q) s h') t;unfold wpOp at u ⊢;rw[VM y,wF I] at u;simp only[x] at u ⊢;have G:Region.wanted oi (yielded (ops.setIfInBounds n (qz on)) a.tmps)=Region.wanted oi (yielded ops a.tmps):=by
    have F:=wO.1 hg i (xG.2 m);rw[x] at F;simp only[Aaa,xJ] at F;unfold Region.wanted;cases aa:oi.guard with
    |none=>rfl
    |some g=>
     obtain⟨j,b⟩:=g;rw[aa] at F;simp only[xC] at F;have A:j≠n:=λe=>by subst e;simp at F
     simp only[Tt y A]
   rw[G] at u;exact u
def Ps {c:Array Oper}{Q:Act→Prop}(i:∀(j:Nat) (d:Array Value),j<n→yielded c d j=yielded ops d j):
  ∀(l:List Oper) (a:Act),(∀o∈l,∀j b,o.guard=some (j,b)→j<n)→wpQuiet P ops C Q l a→wpQuiet P c C Q l a
 |[],_,_,h=>h
 |o::l,a,k,h=>by
  have s:Region.wanted o (yielded c a.tmps)=Region.wanted o (yielded ops a.tmps):=by
   unfold Region.wanted;cases m:o.guard with
   |none=>rfl
   |some w=>obtain⟨j,b⟩:=w;simp only;rw[i j _ (k o (by simp) j b m)]
  unfold wpQuiet at h ⊢;rw[s];split
  ·rename_i p;rw[wG p] at h;obtain⟨v,t,u⟩:=h;exact⟨v,t,Ps i l _ (λo q=>k o (by simp [q])) u⟩
  ·rename_i p;rw[wF p] at h;exact Ps i l _ (λo q=>k o (by simp [q])) h
def bF (l:List Oper) (n:Nat):Bool:=l.all λo=>match o.guard with|some (j,_)=>Nat.blt j n|none=>true
def Pr {l:List Oper}{id:Nat}{Q':Exit→Act→World→Prop}{a:Act}{w:World}{D:Option Nat}(v:RD D (.region id l.toArray true)) (H:∀a w,¬Q' .outgrown a w) (n:Nat) (I:P.follows .mixedOrders=true) (m:Xi l.toArray n=true) (x:bF (l.take n) n=true) (J:C { w with drawn:=w.drawn+1})
  (h:wpQuiet P l.toArray C (λa=>∀w,C w→wpList P l.toArray Q' (l.drop n) a w) (l.take n) a):(Code.region id l.toArray true).wpIn (FF D) 0 P Q' a w:=by
 unfold Xi at m;split at m
 ·rename_i on y;simp only[wI] at m;obtain⟨⟨⟨⟨⟨K,M⟩,Q⟩,U⟩,V⟩,z⟩:=m;have p:=wQ K;have F:n+1=l.length:=by simpa using p
  have k:l.drop n=[on]:=by
   have A:l[n]? =some on:=by simpa using y
   have d:n<l.length:=by omega
   rw[Aac d,zN (by omega)];have:=wR d;rw[A] at this;rw[←wP this]
  rw[k] at h;have q:(l.toArray.setIfInBounds n (qz on)).toList=l.take n++[qz on]:=by
   have d:n<l.length:=by omega
   rw[List.setIfInBounds_toArray,List.set_eq_take_append_cons_drop,wG d,zN (by omega)]
  have W:wpQuiet P (l.toArray.setIfInBounds n (qz on)) C (λa=>∀w,C w→wpList P l.toArray Q' [on] a w) (l.take n++[qz on]) a:=by
   refine Ul n (λa=>∀w,C w→wpList P l.toArray Q' [on] a w) ?_ λa' X=>?_
   ·have e:(l.take n++[qz on]).take n=l.take n:=by
     have:(l.take n).length=n:=by simp;omega
     rw[Aa1 (by omega),Aad,Nat.min_self]
    rw[e];refine Ps (n:=n) (λj s hj=>Tt y (by omega) s) _ _ (λo Y j b B=>?_) h;have:=wO.1 x o Y;rw[B] at this;have h8:j+1≤n:=by simpa [Nat.blt] using this
    omega
   ·have e:(l.take n++[qz on]).drop n=[qz on]:=by
     have:(l.take n).length=n:=by simp;omega
     rw[List.drop_append_of_le_length (by omega),zN (by omega),yD]
    rw[e];unfold wpQuiet;rw[wG (by simp [Region.wanted,qz])];exact⟨undef,λw _=>by unfold Oper.quietAt;simp [execOp,qz,Act.eval,Oper.quietUpon],X⟩
  simp only[Region.lexB,wI] at z;refine RU v H I ?_;have g:(l.toArray.setIfInBounds n (qz on)).size=l.toArray.size:=by simp
  have c:(l.take n++[qz on]).length=l.toArray.size:=by rw[←q,Array.length_toList,g]
  have u:HeadInv .any l.toArray n (Array.replicate l.toArray.size false):=
   ⟨by simp,λj oj _ G=>(by rw[getD_replicate_false] at G;cases G),λt _ Z=>getD_in (by simpa using Z) (getD_replicate_false _ _)⟩
  have i:=wpAnyQ_lex (P:=P) (C:=C) (md:= .any) z.1 (l.take n++[qz on]) 0 (Array.replicate l.toArray.size false) a (λj=>by rw[←q];simp) (by rw[c,←g];exact z.2) W;rw[c] at i;exact V5 y p M Q U V _ _ _ _ u J i
 ·cases m
end
section
variable {P:Program}{ex:List (Nat×AP)}{R N:AP}{cs:List Code}{B:World}{h:A4}{n:FN}{m:SM}{S:Nat→Prop}{L:List HP}
def QU {l:List Oper}{id:Nat}(j:Nat) (c:P.follows .mixedOrders=true) (d:Xi l.toArray j=true) (b:bF (l.take j) j=true)
  (k:QF P l.toArray (Wd B h) (λa=>∀w,Wd B h w→wpList P l.toArray (Qx ex R (W P ex R cs N)) (l.drop j) a w) (l.take j) n m):WF P ex R (.region id l.toArray true::cs) N B h n m:=
 λa _ g i _ hd=>Pr hd OD j c d b i.drew (k a g)
def GZ {l:List Oper}{id:Nat}(j:Nat) (g:P.follows .mixedOrders=true) (i:Xi l.toArray j=true) (b:bF (l.take j) j=true) (c:St S L h)
  (k:QF P l.toArray (Cl B h) (λa=>∀w h',Wd B h' w→St S L h'→CX S h S h'→wpList P l.toArray (Qx ex R (W P ex R cs N)) (l.drop j) a w) (l.take j) n m):WF P ex R (.region id l.toArray true::cs) N B h n m:=by
 intro a w o p u hd;refine Pr hd OD (C:=Cl B h) j g i b ⟨h,p.drew,HS.refl h⟩ ?_;refine Ul j (λa=>∀w h',Wd B h' w→St S L h'→CX S h S h'→wpList P l.toArray (Qx ex R (W P ex R cs N)) (l.drop j) a w) (by rw[Aad,Nat.min_self];exact k a o) λv q=>?_;have e:(l.take j).drop j=[]:=by rw[zN];simp;omega
 rw[e];exact λs ⟨h',t,d⟩=>q s h' t (d.st c) (d.ext c.1)
def ET {ops:Array Oper}{C}{Q:Exit→Act→World→Prop}{l:List Oper}(k:∀h',St S L h'→CX S h S h'→LF P ops Q l B h' n m):QF P ops C (λa=>∀w h',Wd B h' w→St S L h'→CX S h S h'→wpList P ops Q l a w) [] n m:=
 λa b w h' c s e=>k h' s e a w b c
end
def ix {α}(l:List α) (i:Int):Option α:=if i<0 then none else l[i.toNat]?
def upd {α}(l:List α) (i:Int) (x:α):List α:=l.set i.toNat x
def chk {α}(b:Bool) (x:Option α):Option α:=cond b x none
def room (n a:Nat):Bool:=decide (n*a≤140737488355328)||(decide (n*a≤175921860444160)&&decide (a≤274877906944))
def OX (len cap:Int) (a:Nat):Bool:=decide (0≤len)&&decide (len≤cap)&&decide (a*cap≤140737488355328)
def bd {α β}{a:Option α}{f:α→Option β}{r}(e:a.bind f=some r):∃x,a=some x∧f x=some r:=yW.1 e
def HU {α}{b:Bool}{x y r:α}(h:b=true) (e:cond b x y=r):x=r:=by subst h;exact e
def HX {α}{b:Bool}{x y r:α}(h:b=false) (e:cond b x y=r):y=r:=by subst h;exact e
def Qw {α}{b:Bool}{x:Option α}{r}(e:chk b x=some r):b=true∧x=some r:=by
 cases b with
 |false=>cases e
 |true=>exact⟨rfl,e⟩
def Lp {α}{l:List α}{i:Int}{x:α}(h:ix l i=some x):0≤i∧l[i.toNat]? =some x:=by
 unfold ix at h;split at h
 ·cases h
 ·exact⟨by omega,h⟩
def rH {α}{l:List α}{i:Int}{x:α}(h:ix l i=some x):0≤i∧i<(l.length:Int):=by
 obtain⟨a,b⟩:=Lp h;have:=(wU.1 b).1;exact⟨a,by omega⟩
def SY {n a:Nat}(h:room n a=true):Mb n a:=by simpa [room,Mb] using h
def Iq {x y:Int}(a:AA x) (b:AA y):AA (max x y):=by unfold AA at *;omega
def IR {x y:Int}(a:AA x) (b:AA y):AA (min x y):=by unfold AA at *;omega
def St.pick {S L h H L2}(a:St S L h) (p:Q4 L H L2):St S (H::L2) h:=⟨a.1,Sp.pick p a.2⟩
def HP.Flat (H:HP):Prop:=∀{S a F h},H.holds S F h→H.holds a F h
def BX.Flat {α}(r:BX α):Prop:=∀{S h a h' cs x},r.rd S h cs x→r.rd a h' cs x
def NL.flat {α}{r:BX α}(f:r.Flat) {S h S' h'}:∀{l:List α}{cs},NL S h r cs l→NL S' h' r cs l
 |[],_,k=>k
 |_::_,_,⟨a,b,e,c,d⟩=>⟨a,b,e,f c,d.flat f⟩
def OS.flat {α}{r:BX α}{T v l}(f:r.Flat):(OS r T v l).Flat:=λ{_ _ _ _} k=>by
 rcases k with k|⟨g,cap,cur,k1,k2,k3,k4,k5,k6,k7⟩
 ·exact .inl k
 ·exact .inr ⟨g,cap,cur,k1,k2,k3,k4,k5,k6,k7.flat f⟩
def Vy:List HP→Prop
 |[]=>True
 |H::M=>H.Flat∧Vy M
def Sp.join {S m:Nat→Prop}{h}{L:List HP}:∀{M:List HP}{c d A:Nat→Prop},Vy M→Sp m M h c→Sp S L h d→(∀b,c b→A b)→(∀b,d b→A b)→(∀b,c b→¬d b)→Sp S (M++L) h A
 |[],c,d,A,_,_,g,_,i,_=>g.mono i
 |H::M,c,d,A,⟨f,n⟩,⟨F,o,j,p⟩,g,k,i,l=>
  ⟨F,f o,λb a=>k b (j b a),Sp.join n p g (λb a=>⟨k b a.1,a.2⟩) (λb a=>⟨i b a,λq=>l b (j b q) a⟩) λb a=>l b a.1⟩
def St.join {S S' L M h h'}(d:St S L h) (e:CX (λb=>b<h.size) h S' h') (g:St S' M h') (f:Vy M):St S (M++L) h':=by
 refine⟨λb a=>wX (d.1 b a) e.siz,?_⟩;have i:Sp S L h' (λb=>b<h.size∧¬S b):=Sp.ext d.2 (λ_ x=>x) (λb a=>e.same b (a.elim (d.1 b) (·.1))) λ_ x=>x;exact Sp.join f g.2 i (λb a=>⟨a.1,λc=>a.2 (e.sub b (d.1 b c))⟩) (λb a=>⟨wX a.1 e.siz,a.2⟩) λb a c=>a.2 (e.sub b c.1)
def RI {α β}(r:BX α) (a:Nat) (r':BX β) (b:α→β→α):Prop:=
 a+r'.sz≤r.sz∧∀{S h c x vs y},r.rd S h c x→r'.rd S h vs y→r.rd S h (JN c a vs) (b x y)
def Gs.id {α}{r:BX α}:Gs r 0 r (λx=>x):=λ{S h cs x} k=>by
 have:=r.len k;simp only[List.drop_zero,←this,xU];exact k
def Gs.trans {α β γ}{r:BX α}{c:BX β}{d:BX γ}{o1 o2 f g}(a:Gs r o1 c f) (b:Gs c o2 d g) (i:o2+d.sz≤c.sz):Gs r (o1+o2) d (λx=>g (f x)):=λ{S h cs x} k=>by
 have:=b (a k);rw[List.drop_take,zK,Aad] at this;rw[Nat.min_eq_left (by omega)] at this;exact this
def RI.id {α}{r:BX α}:RI r 0 r (λ_ y=>y):=⟨by omega,λ{S h c x vs y} b a=>by
 have d:=r.len b;have g:=r.len a;simp only[JN,List.take_zero,yD,xM];rw[List.drop_of_length_le (by omega),xK];exact a⟩
def RI.trans {α β γ}{r:BX α}{d:BX β}{g:BX γ}{o1 o2 f g1 g2}(a:RI r o1 d g1) (k:Gs r o1 d f) (b:RI d o2 g g2):RI r (o1+o2) g (λx y=>g1 x (g2 (f x) y)):=by
 refine⟨by have:=a.1;have:=b.1;omega,λ{S h c x vs y} i j=>?_⟩;have l:=k i;have m:=b.2 l j;have n:=a.2 i m;have t:=r.len i;have u:=g.len j;have v:=a.1;have w:=b.1;have:JN c (o1+o2) vs=JN c o1 (JN ((c.drop o1).take d.sz) o2 vs):=by
  unfold JN;have z:((c.drop o1).take d.sz).length=d.sz:=by simp;omega
  simp only[yA,xT,zV];rw[Aad,Nat.min_eq_left (by omega),List.drop_take,zK];have o:c.take (o1+o2)=c.take o1++(c.drop o1).take o2:=List.take_add ..;rw[o];simp only[yX,List.append_cancel_left_eq];have p:o1+(min o2 (min d.sz (c.length-o1))+vs.length+(min d.sz (c.length-o1)-(o2+vs.length)))=o1+d.sz:=by omega
  rw[p];have q:c.drop (o1+(o2+vs.length))=(c.drop (o1+(o2+vs.length))).take (d.sz-(o2+vs.length))++(c.drop (o1+(o2+vs.length))).drop (d.sz-(o2+vs.length)):=(zD _ _).symm;have s:(c.drop (o1+(o2+vs.length))).drop (d.sz-(o2+vs.length))=c.drop (o1+d.sz):=by rw[zK];congr 1;omega
  rw[←s,Nat.add_assoc];exact q
 rw[this];exact n
def lN {b k a:Nat}:(⟨b,k,none⟩:Addr).add a=⟨b,k+a,none⟩:=by unfold Addr.add;split<;>simp_all
def St.epAt {α β}{r:BX α}{r':BX β}{S L h T v l i x off f q}(o:St S L h) (p:OS r T v l∈L) (s:ix l i=some x) (t:Gs r off r' f) (u:EP v (i.toNat*r.sz+off) q):Ny (λb=>b<h.size) S h r' q (f x):=by
 obtain⟨y,cap,rfl,k⟩:=o.osAt p (Lp s).2;obtain⟨w,n,c,d,rfl⟩:=u;injection d with d
 injection d with d
 injection d with d
 subst d;obtain⟨a,j,m⟩:=k.fld t;injection j with j
 injection j with j
 subst j;rw[lN] at m;exact m
def BX.fn {α u:Type}(P:Program) (l:α→List Value) (m:α→Prop) (n:u→Value) (g:u→Prop):BX (α→Option u) where
 sz:=1
 ag:=false
 rd:=λS h cs w=>∃(f:FuncId) (a:Array Value),cs=[.func (.func f) #[] a]∧BK P f=true∧∀(c:Nat→Prop) (h':A4),(∀b,S b→c b)→(∀b,S b→h'[b]? =h[b]?)→∀L,St c L h'→∀x y,m x→w x=some y→
  CA P f (l x++a.toList).toArray c h' (λv i j=>v=n y∧g y∧St i L j)
 len:=λ⟨_,_,h,_⟩=>by rw[h];rfl
 one:=λ⟨_,_,h,_⟩ v k=>by rw[h] at k;simp at k;rw[k];rfl
 mono:=λ⟨f,a,o,p,q⟩ s e=>⟨f,a,o,p,λc h' s' t=>q c h' (λb d=>s' b (s b d)) λb d=>(t b (s b d)).trans (e b d)⟩
def Rd.fn {α n:Type}{P:Program}{j:α→List Value}{l:α→Prop}{m:n→Value}{c:n→Prop}{S h v}{o:α→Option n}(k:Rd S h (BX.fn P j l m c) v o):
  ∃(f:FuncId) (a:Array Value),v= .func (.func f) #[] a∧BK P f=true∧∀(d:Nat→Prop) (h':A4),(∀b,S b→d b)→(∀b,S b→h'[b]? =h[b]?)→∀L,St d L h'→∀x y,l x→o x=some y→
  CA P f (j x++a.toList).toArray d h' (λv g i=>v=m y∧c y∧St g L i):=by
 obtain⟨_,rfl,f,a,rfl,h⟩:=k;exact⟨f,a,rfl,h⟩
def O8 {α o:Type}{P:Program}{j:α→List Value}{k:α→Prop}{l:o→Value}{c:o→Prop}{S h}{p:α→Option o}(f:FuncId) (a:Array Value) (m:BK P f=true)
  (n:∀(d:Nat→Prop) (h':A4),(∀b,S b→d b)→(∀b,S b→h'[b]? =h[b]?)→∀L,St d L h'→∀x y,k x→p x=some y→CA P f (j x++a.toList).toArray d h' (λv g i=>v=l y∧c y∧St g L i)):
  Rd S h (BX.fn P j k l c) (.func (.func f) #[] a) p:=⟨_,rfl,f,a,rfl,m,n⟩
def Ny.mono'' {α S h S' h'}{r:BX α}{p x}(k:Pt S h r p x) (s:∀b,S b→S' b) (e:∀b,S b→h'[b]? =h[b]?):Pt S' h' r p x:=
 let ⟨cs,a,c⟩:=k;⟨cs,a.mono s e,r.mono c s e⟩
def Rd.mono'' {α S h S' h'}{r:BX α}{v x}(k:Rd S h r v x) (s:∀b,S b→S' b) (e:∀b,S b→h'[b]? =h[b]?):Rd S' h' r v x:=
 let ⟨cs,a,c⟩:=k;⟨cs,a,r.mono c s e⟩
def St.pubb {S L L2 h b T cs}{α}{r:BX α}{x:α}(g:St S L h) (p:Q4 L (Bx b T cs) L2) (i:r.rd S h cs x):∃a,St a L2 h∧CX S h a h∧Pt a h r (.pointer (some ⟨b,0,none⟩)) x:=by
 obtain⟨F,d,l,k,c⟩:=g.pub p;exact⟨_,k,c,cs,⟨⟨b,0,none⟩,rfl,rfl,.inr ((d.1 b).2 rfl),λj _=>by simp only[xM];exact Bx.cell d j⟩,r.mono i c.sub c.same⟩
section
variable {P:Program}{ops:Array Oper}{C:World→Prop}{Q:Act→Prop}{n:FN}{m m':SM}{rest:List Oper}
variable {d:Nat}{ty:TypeId}{pos:String}{af:Array Edge}{X Y:Operand}{t t1 t2:TypeId}{x y z:Int}{kd:IntKind}{v p:Value}{S:Nat→Prop}{L:List HP}{h:A4}
def MK {α}{r:BX α}{l:List α}{e i x}(b:CF m X=some v) (c:CF m Y=some (.int .i64 i)) (k0:Sl S h r v l) (g:TI P t e r.sz=true) (a:Go.Proofs.YtibidnaedddfdaaGreat.ix l i=some x) (hd:Nat.blt d n.1=true)
  (k:∀q,Pt S h r q x→QF P ops C Q rest n ((d,q)::m)):QF P ops C Q (⟨some d,.indexAddr t X Y,ty,pos,af,none⟩::rest) n m:=tN b c k0 g (Lp a).1 (Lp a).2 hd k
def CR {α}{r:BX α}{l:List α}{T e i x}(b:St S L h) (c:OS r T v l∈L) (g:CF m X=some v) (j:CF m Y=some (.int .i64 i)) (o:TI P t e r.sz=true) (a:Go.Proofs.YtibidnaedddfdaaGreat.ix l i=some x) (hd:Nat.blt d n.1=true)
  (k:∀q,EP v (i.toNat*r.sz+0) q→QF P ops C Q rest n ((d,q)::m)):QF P ops C Q (⟨some d,.indexAddr t X Y,ty,pos,af,none⟩::rest) n m:=nW b c g j o (Lp a).1 (Lp a).2 hd λq _ e=>k q e
def ML {k0 j a:Nat}{q:Value}(i:CF m X=some q) (l:EP v k0 q) (o:bK P t j a=true) (hd:Nat.blt d n.1=true)
  (k:∀b,EP v (k0+a) b→QF P ops C Q rest n ((d,b)::m)):QF P ops C Q (⟨some d,.fieldAddr t X j,ty,pos,af,none⟩::rest) n m:=by
 obtain⟨u,p,c,s,rfl⟩:=l;exact GH i o hd (k _ ⟨u,p,c,s,rfl⟩)
def Qo (a:CF m X=some (.int .i64 x)) (b:CF m Y=some (.int .i64 y)) (hd:Nat.blt d n.1=true) (c:BV (x+y)=z) (k:QF P ops C Q rest n ((d,.int .i64 z)::m)):QF P ops C Q (⟨some d,.binOp .add t1 X Y t2,ty,pos,af,none⟩::rest) n m:=Yv a b hd (c▸k)
def fY (a:CF m X=some (.int .i64 x)) (b:CF m Y=some (.int .i64 y)) (hd:Nat.blt d n.1=true) (c:BV (x-y)=z) (k:QF P ops C Q rest n ((d,.int .i64 z)::m)):QF P ops C Q (⟨some d,.binOp .sub t1 X Y t2,ty,pos,af,none⟩::rest) n m:=Yp a b hd (c▸k)
def dW {xs:Array Value}{i:Nat}{u:Value}(c:CF m X=some (.tuple xs)) (g:xs[i]? =some u) (hd:Nat.blt d n.1=true) (k:QF P ops C Q rest n ((d,u)::m)):QF P ops C Q (⟨some d,.extract X i,ty,pos,af,none⟩::rest) n m:=
 λa b=>HT b hd (λw _=>by simp [execOp,b.eval c,Instr.extract,g]) k
def OG {f:Fn}{b cs:Array Operand}{g i:List Value}(j:b.toList.mapM (CF m)=some g) (l:cs.toList.mapM (CF m)=some i) (hd:Nat.blt d n.1=true) (k:QF P ops C Q rest n ((d,.func f g.toArray i.toArray)::m)):QF P ops C Q (⟨some d,.makeFunc f b cs,ty,pos,af,none⟩::rest) n m:=
 λa c=>HT c hd (λw _=>by
  have e:(execOp a.eval ⟨some d,.makeFunc f b cs,ty,pos,af,none⟩).run P w= .ok (.value (.func f (b.map a.eval) (cs.map a.eval))) w:=rfl;rw[e,YK c j,YK c l]) k
end
section
variable {P:Program}{ex:List (Nat×AP)}{R N:AP}{cs:List Code}{B:World}{h:A4}{n:FN}{m m':SM}{S:Nat→Prop}{L:List HP}
def AN {i:Nat}{c:Code}(I:AP) (b:WF P ((i,I)::ex) R [c] I B h n m) (d:∀a w,I a w→W P ex R cs N a w):WF P ex R (.block i c::cs) N B h n m:=λa w g j=>V0 I (b a w g j) d
def BA {c:Code}(I:Nat→AP) (d:Nat) (h0:∀a w,Fr n a m→Wd B h w→I d a w) (j:∀a w,¬I 0 a w) (b:∀k a w,I (k+1) a w→W P ex R [c] (I k) a w):WF P ex R (.loop c::cs) N B h n m:=by
 refine fX (λi a w=>∃k,i+k=d∧I k a w) d 0 (λa w l o=>⟨d,by omega,h0 a w l o⟩) (λi a w ⟨k,p,_⟩=>by omega) λi a w ⟨k,p,g⟩=>?_;cases k with
 |zero=>exact absurd g (j a w)
 |succ k=>exact jM (b k a w g) λq s h'=>⟨k,by omega,h'⟩
end
section
variable {P:Program}{ops:Array Oper}{Q:Exit→Act→World→Prop}{n:FN}{m:SM}{rest:List Oper}
variable {d:Nat}{ty:TypeId}{pos:String}{af:Array Edge}{X Y:Operand}{B:World}{h:A4}{S:Nat→Prop}{L L2:List HP}{v:Value}
def Cj {f:Nat}{xs:Array Operand}{i:Array TypeId}{args vs:List Value}{first cap:Array Value}{c:Value→(Nat→Prop)→A4→Prop}
  (x:CF m X=some (.func (.func f) first cap)) (j:xs.toList.mapM (CF m)=some args) (l:first.toList++args++cap.toList=vs) (q:BK P f=true) (hd:Nat.blt d n.1=true) (u:St S L h) (y:CA P f vs.toArray (λb=>b<h.size) h c)
  (k:∀v g h',St S L h'→CX S h S h'→CX (λb=>b<h.size) h g h'→c v g h'→LF P ops Q rest B h' n ((d,v)::m)):LF P ops Q (⟨some d,.call ⟨.value X,xs,i⟩,ty,pos,af,none⟩::rest) B h n m:=
 λ_ _ s t=>aX s x j l q hd t y λv a w g h' s t e p=>
  have o:HS h h':=⟨e.siz,λb z=>e.same b z⟩
  k v g h' (o.st u) (o.ext u.1) e p a w s t
def LA {α}{r:BX α}{T e sz b:Nat}{z:List Value}{l xs:List α}{p s a sc:Nat}{news:List Value}{q:Value→List HP}(t:CF m X=some v) (u:CF m Y=some (.slice (some ⟨p,0,none⟩) a sc)) (w:RE P T=some (e,sz,b,z)) (i:r.sz=sz)
  (x:Bx p s news∈L) (y:NL S h r news xs) (j:a=xs.length) (c:Nat.blt 0 b=true) (o:room (l.length+xs.length) b=true) (hd:Nat.blt d n.1=true) (A:St S L h) (C:∀g,Np L (OS r e v l) (OS r e g (l++xs)) (q g))
  (k:∀g h',St S (q g) h'→CX S h S h'→LF P ops Q rest B h' n ((d,g)::m)):LF P ops Q (⟨some d,.call ⟨.builtin .append,#[X,Y],#[T,T]⟩,ty,pos,af,none⟩::rest) B h n m:=
 gR t u w i x y j c (SY o) hd A C k
def dZ {α}{r:BX α}{T e sz b:Nat}{z:List Value}{zx:α}{len cap:Int}{l o:IntKind}{U V:Operand}(p:RE P T=some (e,sz,b,z)) (j:r.sz=sz) (q:r.rd S h z zx)
  (s:CF m U=some (.int l len)) (t:CF m V=some (.int o cap)) (g:OX len cap b=true) (i:Nat.blt 0 b=true) (hd:Nat.blt d n.1=true) (u:St S L h)
  (k:∀v h',St S (OS r e v (List.replicate len.toNat zx)::L) h'→CX S h S h'→LF P ops Q rest B h' n ((d,v)::m)):LF P ops Q (⟨some d,.makeSlice T U V,ty,pos,af,none⟩::rest) B h n m:=by
 simp only[OX,wI,wW] at g;obtain⟨⟨h0,A⟩,w⟩:=g;obtain⟨a,rfl⟩:∃a:Nat,len=a:=⟨len.toNat,by omega⟩
 obtain⟨c,rfl⟩:∃c:Nat,cap=c:=⟨cap.toNat,by omega⟩
 have x:((b*c:Nat):Int)≤140737488355328:=by rw[zO];exact w
 have C:b*c≤140737488355328:=by omega
 have y:1≤b:=by simpa [Nat.blt] using i
 have D:c≤b*c:=Nat.le_mul_of_pos_left _ y;exact tR p j q s t (by omega) (by omega) (by unfold maxLen;omega) hd u (by simpa using k)
def JS {α β}{r:BX α}{r':BX β}{T' e:TypeId}{l:List α}{i:Int}{x:α}{y:β}{g:α→β→α}{j:Nat}{q u:Value}(hx:CF m X=some q) (hy:CF m Y=some u) (hu:Rd S h r' u y) (ep:EP v (i.toNat*r.sz+j) q) (ad:ix l i=some x)
  (up:RI r j r' g) (ht:L5 P T' r'.sz r'.ag=true) (h1:r'.ag=false→r'.sz=1) (hs:St S L h) (rp:Np L (OS r e v l) (OS r e v (upd l i (g x y))) L2)
  (k:∀h',St S L2 h'→CX S h S h'→LF P ops Q rest B h' n m):LF P ops Q (⟨none,.store T' X Y,ty,pos,af,none⟩::rest) B h n m:=by
 intro a w hf J;refine wpList_plain rfl λK hK=>?_;unfold Oper.wp;obtain⟨vs,rfl,o⟩:=hu;have t:=r'.len o;have hv:(r'.val vs).cells=vs.toArray:=by
  unfold BX.val;cases U:r'.ag with
  |true=>rfl
  |false=>
   have hl:=t;rw[h1 U] at hl
   match vs,hl,o with
   |[c],_,o=>
    have ho:=r'.one o c (by simp);cases c<;>first|rfl|(simp [Value.oneCell'] at ho)
 obtain⟨M,p,_⟩:=rp.pick;obtain⟨F,g1,g2,_⟩:=Sp.pick p hs.2;obtain⟨s,n',c',rfl,rfl⟩:=ep;obtain⟨i0,V⟩:=Lp ad;have A:i.toNat<l.length:=(wU.1 V).1;have ak:i.toNat*r.sz+r.sz≤l.length*r.sz:=by rw[←yT];exact yO _ A
 have ai:=up.1;obtain⟨ti,dd,hi,hd,ae,U⟩:=Ro ht;have z:∀F,(OS r e (.slice (some ⟨s,0,none⟩) n' c') l).holds S F h→(∀b,F b→b<h.size∧¬S b)→∃d,(∀b,F b↔b=s)∧h[s]? =some (.cells d e (0,0))∧l.length*r.sz≤d.size∧
   ∀h',h'.size=h.size→h'[s]? =some (.cells (JN d.toList (i.toNat*r.sz+j) vs).toArray e (0,0))→(∀b,b≠s→h'[b]? =h[b]?)→(OS r e (.slice (some ⟨s,0,none⟩) n' c') (upd l i (g x y))).holds S F h':=by
  intro F C hF;rcases C with ⟨_,C,_⟩|⟨g0,cap,d,C,H,k3,k4,k5,k6,k7⟩
  ·rw[C] at A;exact absurd A (Nat.not_lt_zero _)
  ·injection C with D e2 e3
   injection D with D
   injection D with D
   subst D;subst e2;subst e3;have ah:l.length*r.sz≤d.size:=by rw[k6];exact yO _ k4
   refine⟨d,H,k3,ah,λh' z1 z2 z3=> .inr ⟨s,c',_,?_,H,z2,?_,k5,?_,?_⟩⟩
   ·simp [upd]
   ·simpa [upd] using k4
   ·rw[List.size_toArray,WN _ _ _ (by simp;omega)];simpa using k6
   ·have W:((JN d.toList (i.toNat*r.sz+j) vs).toArray.toList.take ((upd l i (g x y)).length*r.sz))=JN (d.toList.take (l.length*r.sz)) (i.toNat*r.sz+j) vs:=by
     unfold JN upd;simp only[Aae];rw[Aad,Nat.min_eq_left (by omega),List.take_append,Aap (by simp;omega),List.drop_take];congr 2;simp;omega
    rw[W];have G:NL S h' r (d.toList.take (l.length*r.sz)) l:=k7.mono (λ_ x=>x) λb hb=>z3 b λe=>(hF b ((H b).2 e)).2 hb;have Z:r'.rd S h' vs y:=r'.mono o (λ_ x=>x) λb hb=>z3 b λe=>(hF b ((H b).2 e)).2 hb;exact G.set V (by omega) λc hc=>up.2 hc Z
 obtain⟨d,m1,m2,m3,m4⟩:=z F g1 g2;have hg:w.heap[s]? =some (.cells d e (0,0)):=by rw[J.heap];exact m2
 have aa:=run_storeCells_at P s (i.toNat*r.sz+j) e vs 0 d w hg (by omega) (λu hu=>r'.one o u hu);have ab:(List.take (i.toNat*r.sz+j+0) d.toList++vs++List.drop (i.toNat*r.sz+j+0+vs.length) d.toList)=JN d.toList (i.toNat*r.sz+j) vs:=by simp [JN]
 rw[ab] at aa;have ac:(execOp a.eval ⟨none,.store T' X Y,ty,pos,af,none⟩).run P w= .ok .skip (w.setRow s (JN d.toList (i.toNat*r.sz+j) vs).toArray):=by
  simp [execOp,hf.eval hx,hf.eval hy,Instr.storeAt,Instr.sureAddr,storeVar,hv,SW hi,ae,t,aa]
 rw[ac];obtain⟨h',D,e2,e3,W⟩:=TW w s d (JN d.toList (i.toNat*r.sz+j) vs).toArray e hg;rw[J.heap] at e2 W;obtain⟨u1,u2⟩:=hs.upd (h':=h') rp (by omega) λF C H=>by
  obtain⟨aj,q1,I,q3,q4⟩:=z F C H;rw[m2] at I;injection I with I
  injection I with I
  subst I;exact⟨F,q4 h' e2 e3 W,λc hc=> .inl hc,λc _ hc=>W c λe=>hc ((q1 c).2 e)⟩
 exact hK _ _ (k h' u1 u2 _ _ hf ⟨D,J.os,J.tape,J.out⟩)
end
end Go.Proofs.YtibidnaedddfdaaGreat
