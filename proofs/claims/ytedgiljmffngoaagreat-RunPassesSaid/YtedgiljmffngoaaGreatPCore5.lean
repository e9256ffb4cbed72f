import Derived.Test.YtedgiljmffngoaaGreatPCore4
import Derived.Deep.DeepAppendWide
namespace Go.Proofs.YtedgiljmffngoaaGreat
set_option linter.all false
open Go.RowKit
def LQ {α}(S:Nat→Prop) (h:AS) (r:A6 α):List Value→List α→Prop
 |cs,[]=>cs=[]
 |cs,x::l=>∃a b,cs=a++b∧r.rd S h a x∧LQ S h r b l
def LQ.mono {α S S' h h'}{r:A6 α}:∀{l:List α}{cs},LQ S h r cs l→(∀b,S b→S' b)→(∀b,S b→h'[b]? =h[b]?)→LQ S' h' r cs l
 |[],_,k,_,_=>k
 |_::_,_,⟨a,c,e,d,g⟩,s,q=>⟨a,c,e,r.mono d s q,g.mono s q⟩
def LQ.len {α S h}{r:A6 α}:∀{l:List α}{cs},LQ S h r cs l→cs.length=l.length*r.sz
 |[],_,k=>by have k:_=[]:=k;subst k;simp
 |_::l,_,⟨c,d,e,a,b⟩=>by subst e;rw[Aas,r.len a,b.len,Abm,Ab2];omega
def LQ.one {α S h}{r:A6 α}:∀{l:List α}{cs},LQ S h r cs l→∀v∈cs,v.oneCell'=true
 |[],_,k,v,a=>by have k:_=[]:=k;subst k;cases a
 |_::_,_,⟨d,g,e,b,c⟩,v,a=>by subst e;exact(Aa0.1 a).elim (r.one b v) (c.one v)
def LQ.append {α S h}{r:A6 α}:∀{l c:List α}{cs a},LQ S h r cs l→LQ S h r a c→LQ S h r (cs++a) (l++c)
 |[],_,_,_,k,b=>by have k:_=[]:=k;subst k;exact b
 |_::_,_,_,_,⟨d,g,e,i,b⟩,j=>by subst e;exact⟨d,g++_,by simp,i,b.append j⟩
def LQ.at_ {α S h}{r:A6 α}:∀{l:List α}{cs}{i:Nat}{x},LQ S h r cs l→l[i]? =some x→r.rd S h ((cs.drop (i*r.sz)).take r.sz) x
 |[],_,_,_,_,a=>by simp at a
 |y::l,_,0,x,⟨b,c,e,d,g⟩,a=>by
  subst e;simp only[Acg,Abd] at a;subst a;have:=r.len d;simp only[Nat.zero_mul,List.drop_zero,←this,Acu];exact d
 |y::l,_,i+1,x,⟨b,c,e,d,g⟩,a=>by
  subst e;simp only[Acc] at a;have j:=r.len d;have m:(i+1)*r.sz=b.length+i*r.sz:=by rw[j,Ab2];omega
  rw[m,List.drop_append_of_le_length_add];exact g.at_ a
 where
 List.drop_append_of_le_length_add:∀{b c:List Value} {k:Nat},(b++c).drop (b.length+k)=c.drop k:=by
  intro b c k;rw[←List.drop_drop,List.drop_left]
def V5 (cs:List Value) (o:Nat) (vs:List Value) (h:o+vs.length≤cs.length):(IZ cs o vs).length=cs.length:=by
 simp [IZ];omega
def LQ.set {α S h}{r:A6 α}:∀{l:List α}{cs}{i o:Nat}{x y}{vs:List Value},LQ S h r cs l→l[i]? =some x→o+vs.length≤r.sz→(∀c,r.rd S h c x→r.rd S h (IZ c o vs) y)→LQ S h r (IZ cs (i*r.sz+o) vs) (l.set i y)
 |[],_,_,_,_,_,_,_,a,_,_=>by simp at a
 |z::l,_,0,o,x,y,vs,⟨b,g,e,d,j⟩,a,m,k=>by
  subst e;simp only[Acg,Abd] at a;subst a;have n:=r.len d;refine⟨IZ b o vs,g,?_,k _ d,j⟩;simp only[IZ,Nat.zero_mul,Aa7];rw[List.take_append_of_le_length (by omega),List.drop_append_of_le_length (by omega)];simp
 |z::l,_,i+1,o,x,y,vs,⟨b,g,e,d,j⟩,a,m,k=>by
  subst e;simp only[Acc] at a;have n:=r.len d;refine⟨b,IZ g (i*r.sz+o) vs,?_,d,j.set a m k⟩;have p:(i+1)*r.sz+o=b.length+(i*r.sz+o):=by rw[n,Ab2];omega
  simp only[IZ];rw[p,Ac2 b.length,←List.drop_drop,List.drop_left,List.take_length_add_append];simp
def OS {α}(r:A6 α) (T:TypeId) (v:Value) (l:List α):HP where
 holds:=λS F h=>((∃a,v= .slice a 0 0)∧l=[]∧∀b,¬F b)∨
  ∃g cap cur,v= .slice (some ⟨g,0,none⟩) l.length cap∧(∀b,F b↔b=g)∧h[g]? =some (.cells cur T (0,0))∧l.length≤cap∧cap≤maxLen∧cur.size=cap*r.sz∧LQ S h r (cur.toList.take (l.length*r.sz)) l
 loc:=λk s e=>by
  rcases k with k|⟨g,cap,cur,k1,k2,k3,k4,k5,k6,k7⟩
  ·exact .inl k
  ·exact .inr ⟨g,cap,cur,k1,k2,(e g (.inr ((k2 g).2 rfl))).trans k3,k4,k5,k6,k7.mono s λb c=>e b (.inl c)⟩
section
variable {α:Type}{r:A6 α}{T:TypeId}{v:Value}{l:List α}{S F:Nat→Prop}{h:AS}{L L2:List HP}
def OS.len (k:(OS r T v l).holds S F h):∃a cap,v= .slice a l.length cap∧l.length≤maxLen:=by
 rcases k with ⟨⟨a,b⟩,h2,_⟩|⟨g,cap,cur,b,h2,h3,h4,h5,_⟩
 ·subst h2;exact⟨a,0,b,Aad _⟩
 ·exact⟨_,cap,b,Abk h4 h5⟩
def St.oslen (a:St S L h) (b:OS r T v l∈L):∃c cap,v= .slice c l.length cap∧l.length≤maxLen:=by
 obtain⟨F,k,_⟩:=a.get b;exact OS.len k
def St.nil (a:St S L h) (r:A6 α) (T:TypeId):St S (OS r T (.slice none 0 0) ([]:List α)::L) h:=
 (a.add (Aal _) (λ_ _=>rfl) ⟨λ_=>False,Or.inl ⟨⟨none,rfl⟩,rfl,λ_ x=>x⟩,λ_ x=>x.elim⟩).1
def OS.sl (k:(OS r T v l).holds S F h) (s:∀b,F b→S b):Sl S h r v l:=by
 rcases k with ⟨⟨d,a⟩,h2,_⟩|⟨g,cap,cur,a,h2,h3,h4,h5,h6,h7⟩
 ·subst h2;cases d with
  |none=>exact .inl ⟨a,rfl⟩
  |some d=>exact .inr ⟨d,0,a,Aal _,Aad _,λi x c=>by simp at c⟩
 ·refine .inr ⟨⟨g,0,none⟩,cap,a,h4,h5,λi x c=>⟨rfl,?_⟩⟩;have m:=h7.at_ c;have n:i<l.length:=(Aai.1 c).1;have p:i*r.sz+r.sz≤l.length*r.sz:=by rw[←Ab2];exact Aby _ n
  refine⟨_,⟨⟨g,0+i*r.sz,none⟩,rfl,rfl,s g ((h2 g).2 rfl),λj q=>?_⟩,m⟩;have o:j<r.sz:=by simp only[Abl,Acb] at q;omega
  simp only[IQ,h3,Aa7,Ac4,Ab4,Ab5];rw[Abr o,Acp,Abr (by omega),Array.getElem?_toList]
def St.pubs (c:St S L h) (p:Pv L (OS r T v l) L2):∃S',St S' L2 h∧CG S h S' h∧Sl S' h r v l:=by
 obtain⟨F,d,j,g,a⟩:=c.pub p;exact⟨_,g,a,OS.sl (HP.loc _ d a.sub λ_ _=>rfl) λb i=> .inr i⟩
def St.oslAll (c:St S L h) (d:OS r T v l∈L):Sl (λb=>b<h.size) h r v l:=by
 obtain⟨F,g,i⟩:=c.get d;exact OS.sl (HP.loc _ g (λb a=>c.1 b a) λ_ _=>rfl) λb a=>(i b a).1
def St.osAt (p:St S L h) (q:OS r T v l∈L) {i:Nat}{x:α}(a:l[i]? =some x):
  ∃(g cap:Nat),v= .slice (some ⟨g,0,none⟩) l.length cap∧Ms (λb=>b<h.size) S h r (.pointer (some ⟨g,i*r.sz,none⟩)) x:=by
 obtain⟨F,k,s⟩:=p.get q;rcases k with ⟨o,c,_⟩|⟨g,cap,cur,o,c,k3,k4,k5,k6,k7⟩
 ·subst c;simp at a
 ·have d:=k7.at_ a;have m:i<l.length:=(Aai.1 a).1;have t:i*r.sz+r.sz≤l.length*r.sz:=by rw[←Ab2];exact Aby _ m
  refine⟨g,cap,o,_,⟨⟨g,i*r.sz,none⟩,rfl,rfl,(s g ((c g).2 rfl)).1,λj u=>?_⟩,d⟩;have n:j<r.sz:=by simp only[Abl,Acb] at u;omega
  simp only[IQ,k3,Ac4,Ab4,Ab5];rw[Abr n,Acp,Abr (by omega),Array.getElem?_toList]
end
def EP (v:Value) (k:Nat) (q:Value):Prop:=∃g n c,v= .slice (some ⟨g,0,none⟩) n c∧q= .pointer (some ⟨g,k,none⟩)
def OR (P:Program) (t:TypeId):Option (TypeId×Nat×Nat×List Value):=
 match P.underlying t with
 |some (.slice e)=>match P.info? e with
  |some i=>match i.zero with
   |some z=>if i.size=0|| !(z.cells.size==i.size) then none else some (e,i.size,i.bytes,z.cells.toList)
   |none=>none
  |none=>none
 |_=>none
def Kz {P t e sz by_ z}(h:OR P t=some (e,sz,by_,z)):∃i a,P.underlying t=some (.slice e)∧P.info? e=some i∧i.zero=some a∧i.size=sz∧i.bytes=by_∧a.cells=z.toArray∧z.length=sz∧0<sz:=by
 unfold OR at h;split at h
 ·rename_i j c;split at h
  ·rename_i i d;split at h
   ·rename_i a g;split at h
    ·cases h
    ·rename_i b;simp only[Abd,Acs] at h;obtain⟨rfl,rfl,rfl,rfl⟩:=h;simp only[Aay,Aam,not_or,Bool.not_eq_true,Ach,beq_iff_eq] at b;exact⟨i,a,c,d,g,rfl,rfl,by simp,by simpa using b.2,by omega⟩
   ·cases h
  ·cases h
 ·cases h
section
variable {P:Program}{ops:Array Oper}{Q:Exit→Act→World→Prop}{n:FN}{a:Act}{m:List (Nat×Value)}{rest:List Oper}
variable {d:Nat}{ty:TypeId}{pos:String}{af:Array Edge}{X Y:Operand}{B w:World}{h:AS}{S:Nat→Prop}{L L2:List HP}
def R5 {α}{r:A6 α}{S h}{z:List Value}{x:α}(a:r.rd S h z x) (c:Nat):LQ S h r (List.replicate c z).flatten (List.replicate c x):=by
 induction c with
 |zero=>rfl
 |succ c b=>exact⟨z,_,by simp [List.replicate_succ],a,b⟩
def Mb (z:List Value) (c:Nat) (l:0<z.length):(madeCells z.toArray (c*z.length)).toList=(List.replicate c z).flatten:=by
 induction c with
 |zero=>simp [madeCells]
 |succ c j=>
  have k:List.replicate (c+1) z=List.replicate c z++[z]:=by rw[List.replicate_succ']
  rw[k,List.flatten_append,←j];apply Abj;intro i;have g:(madeCells z.toArray (c*z.length)).toList.length=c*z.length:=by simp [size_madeCells]
  rw[List.getElem?_append];simp only[madeCells,Array.toList_map,Array.toList_range,List.length_map,List.length_range];have m:(c+1)*z.length=c*z.length+z.length:=Ab2 _ _;by_cases a:i<c*z.length
  ·rw[Aab a];simp [List.getElem?_range a,List.getElem?_range (show i<(c+1)*z.length by omega)]
  ·rw[zY a];by_cases b:i<(c+1)*z.length
   ·have e:i%z.length=i-c*z.length:=by
     have:i=(i-c*z.length)+z.length*c:=by rw[Acv z.length c];omega
     rw[this,Nat.add_mul_mod_self_left,Ac5 (by omega),Acv];omega
    have d:i-c*z.length<z.length:=by omega
    simp [List.getElem?_range b,e,d]
   ·rw[Aa8 (by simp;omega),Aa8 (by simp;omega)]
def yE {α}{r:A6 α}{T e sz g:Nat}{z:List Value}{zx:α}{len cap:Nat}{C D:IntKind}{U V:Operand}(u:Fr n a m) (I:OR P T=some (e,sz,g,z)) (l:r.sz=sz) (J:r.rd S h z zx)
  (M:BV m U=some (.int C (len:Nat))) (W:BV m V=some (.int D (cap:Nat))) (o:len≤cap) (X:g*cap≤281474976710656) (p:cap≤maxLen) (hd:Nat.blt d n.1=true) (F:Wd B h w) (G:St S L h)
  (k:∀v a w h',Fr n a ((d,v)::m)→Wd B h' w→St S (OS r e v (List.replicate len zx)::L) h'→CG S h S h'→wpList P ops Q rest a w):
  wpList P ops Q (⟨some d,.makeSlice T U V,ty,pos,af,none⟩::rest) a w:=by
 refine wpList_plain rfl λK Y=>?_;unfold Oper.wp;obtain⟨i,Z,h1,h2,h3,h4,h5,h6,H,h8⟩:=Kz I;have q:=run_make (P:=P) w T e i Z h1 h2 h3 C D (len:Int) (cap:Int) (by omega) (by omega) (by rw[h5];omega) (by unfold maxLen at p;omega);simp only[Abh,h6,h4] at q;have s:(execOp a.eval ⟨some d,.makeSlice T U V,ty,pos,af,none⟩).run P w= .ok (.value (.slice (some ⟨w.heap.size,0,none⟩) len cap)) (w.alloc (.cells (madeCells z.toArray (cap*sz)) e)):=by
  simp [execOp,u.eval M,u.eval W,q]
 rw[s];have c:(madeCells z.toArray (cap*sz)).toList=(List.replicate cap z).flatten:=by rw[←H];exact Mb z cap (by omega)
 have y:(OS r e (.slice (some ⟨h.size,0,none⟩) len cap) (List.replicate len zx)).holds S (λb=>b=h.size) (h.push (.cells (madeCells z.toArray (cap*sz)) e)):=by
  refine .inr ⟨h.size,cap,madeCells z.toArray (cap*sz),by simp,λ_=>Abx,Kn _ _,by simpa using o,p,by rw[size_madeCells,l],?_⟩;rw[c];have:((List.replicate cap z).flatten).take ((List.replicate len zx).length*r.sz)=(List.replicate len z).flatten:=by
   obtain⟨j,rfl⟩:=Nat.exists_eq_add_of_le o;rw[←List.replicate_append_replicate,List.flatten_append,Adb,l,←H];have:(List.replicate len z).flatten.length=len*z.length:=by simp
   rw[←this,Acu]
  rw[this];exact(R5 J len).mono (λ_ x=>x) λb t=>Gp _ _ _ (G.1 b t)
 obtain⟨g1,g2⟩:=G.add (h':=h.push (.cells (madeCells z.toArray (cap*sz)) e)) (by simp) (λb t=>Gp _ _ _ t) ⟨_,y,λb t=>by subst t;simp⟩;have A:=F.heap;exact Y _ _ (k _ _ _ _ (u.put hd _) (F.alloc _) (by rw[A];exact g1) g2)
def Jh (n b:Nat):Prop:=n*b≤140737488355328∨(n*b≤175921860444160∧b≤274877906944)
def Jh.le {n b:Nat}(h:Jh n b):n*b≤281474976710656:=by unfold Jh at h;omega
def N7 {a b bytes:Nat}(h:b<a) (c:Jh a bytes):Builtin.nextslicecap a b*bytes≤281474976710656:=by
 rcases c with c|⟨h1,h2⟩
 ·exact growslice_fits h c
 ·refine growslice_fits_wide h ?_;have d:=Aby bytes (Nat.div_mul_le_self a 4);rw[Nat.mul_right_comm] at d;rw[Abs,Abs];omega
def Un {α}{r:A6 α}{T ty e sz Q:Nat}{z:List Value}{v s:Value}{l xs:List α}{J:Addr}{sc:Nat}{a:List Value}{F:Nat→Prop}(he:OR P T=some (e,sz,Q,z)) (c:r.sz=sz)
  (af:s= .slice (some J) xs.length sc) (V:LQ S h r a xs) (hc:∀j u,a[j]? =some u→IQ h (J.add j)=some u)
  (W:l.length+xs.length≤maxLen) (X:Jh (l.length+xs.length) Q) (d:Wd B h w) (k:(OS r e v l).holds S F h) (hS:∀b,S b→b<h.size∧¬F b):
  ∃v' w' h' F',(Builtin.append_ #[T,T] ty #[v,s]).run P w= .ok v' w'∧Wd B h' w'∧h.size≤h'.size∧(OS r e v' (l++xs)).holds S F' h'∧(∀b,F' b→F b∨(h.size≤b∧b<h'.size))∧∀b,b<h.size→¬F b→h'[b]? =h[b]? :=by
 obtain⟨i,K,Y,Z,h3,G,h5,h6,h7,h8⟩:=Kz he;subst af;have m:=V.len;rw[c,←G] at m;have aa:l.length+xs.length≤9223372036854775807:=by unfold maxLen at W;omega
 have H:∀j u,a[j]? =some u→w.cell? (J.add j)=some u:=λj u I=>by rw[Iz,d.heap];exact hc j u I
 have ag:K.cells.size=sz:=by rw[h6];simpa using h7
 have t:∀(p:List Value) (q:Nat),LQ S h r p l→q<l.length+xs.length→
   (OS r e (.slice (some ⟨h.size,0,none⟩) (l.length+xs.length) (grownCap w (l.length+xs.length) q e)) (l++xs)).holds S (λb=>b=h.size)
    (h.push (.cells (p.toArray++a.toArray++Builtin.zeroCells K.cells (grownCap w (l.length+xs.length) q e-(l.length+xs.length))) e)):=by
  intro p q ho aj;have ah:=grownCap_ge w (l.length+xs.length) q e;refine .inr ⟨h.size,_,_,by rw[Aas],λ_=>Abx,Kn _ _,by rw[Aas];exact ah,grownCap_le_maxLen w _ q e W,?_,?_⟩
  ·have:=ho.len;simp only[Array.size_append,Acw,size_zeroCells,ag,this,m,G,c,←Abs];congr 1;omega
  ·have y:(l++xs).length*r.sz=(p++a).length:=by rw[Aas,Aas,ho.len,V.len,Abs]
   rw[y];simp only[Array.toList_append];rw[Acu];exact(ho.append V).mono (λ_ x=>x) λb n=>Gp _ _ _ (hS b n).1
 rcases k with ⟨⟨U,rfl⟩,rfl,hF⟩|⟨g,cap,cur,rfl,hF,hg,hlc,hcm,hcs,hrd⟩
 ·by_cases hx:xs.length=0
  ·have ai:xs=[]:=Adc hx;subst ai;refine⟨.slice U 0 0,w,h,F,?_,d,Aal _,.inl ⟨⟨U,rfl⟩,rfl,hF⟩,λb n=> .inl n,λ_ _ _=>rfl⟩;cases U<;>simp [Builtin.append_,run_underlying Y,sizeOf,typeInfo,Z,Builtin.lenOf,Builtin.firstCells,loadCells,loadCellsFrom,storeCells]
  ·have M:Jh xs.length Q:=by simpa using X
   have ak:=M.le;have hr:(Builtin.append_ #[T,T] ty #[.slice U 0 0,.slice (some J) xs.length sc]).run P w= .ok (.slice (some ⟨w.heap.size,0,none⟩) xs.length (grownCap w xs.length 0 e)) (w.drew.alloc (.cells (a.toArray++Builtin.zeroCells K.cells (grownCap w xs.length 0 e-xs.length)) e)):=by
    cases U with
    |none=>exact run_append_nil (P:=P) w T ty e i K Y Z h3 J xs.length sc a m H (by omega) (by simp at aa;omega) (by rw[h5];omega)
    |some U=>
     have hq:=run_append_grow (P:=P) w T ty e i K Y Z h3 U 0 0 [] (by simp) (λj u I=>by simp at I) J xs.length sc a m H (by omega) (by omega) (N7 (by omega) (by rw[h5];simpa using M));simpa using hq
   have A:=t [] 0 rfl (by simp;omega);simp only[List.length_nil,Aa7,Aav,Array.empty_append] at A;refine⟨_,_,h.push (.cells (a.toArray++Builtin.zeroCells K.cells (grownCap w xs.length 0 e-xs.length)) e),λb=>b=h.size,hr,⟨?_,d.os,d.tape,d.out⟩,by simp,?_,λb n=> .inr (by subst n;simp),λb n _=>Gp _ _ _ n⟩
   ·show(w.heap.push _)=_;rw[d.heap]
   ·rw[d.heap];exact A
 ·have ab:w.heap[g]? =some (.cells cur e (0,0)):=by rw[d.heap];exact hg
  by_cases o:l.length+xs.length≤cap
  ·have ac:l.length*i.size+a.length≤cur.size:=by rw[m,hcs,G,c,←Abs];exact Aby _ o
   have hr:=run_append_room (P:=P) w T ty e i Y Z g l.length cap cur ab J xs.length sc a m H (λu I=>V.one u I) o ac;obtain⟨h',e1,e2,e3,e4⟩:=Qf w g cur (c':=(cur.toList.take (l.length*i.size)++a++cur.toList.drop (l.length*i.size+a.length)).toArray) e ab;rw[d.heap] at e2 e4;refine⟨_,_,h',F,hr,⟨e1,d.os,d.tape,d.out⟩,by omega,.inr ⟨g,cap,_,by rw[Aas],hF,e3,by rw[Aas];exact o,hcm,?_,?_⟩,λb n=> .inl n,λb _ n=>e4 b λe=>n ((hF b).2 e)⟩
   ·simp only[Acw,Aas,Abl,Acb,Adl];omega
   ·have C:=hrd.len;rw[c,←G] at C;have y:(l++xs).length*r.sz=(cur.toList.take (l.length*i.size)++a).length:=by
     rw[Aas,Aas,C,m,Abs,c,G]
    rw[y,Acu,G,←c];exact(hrd.append V).mono (λ_ x=>x) λb n=>e4 b λe=>(hS b n).2 ((hF b).2 e)
  ·have D:∀j u,(cur.toList.take (l.length*r.sz))[j]? =some u→w.cell? ((⟨g,0,none⟩:Addr).add j)=some u:=λj u I=>by
    have ae:(⟨g,0,none⟩:Addr).add j=⟨g,j,none⟩:=by unfold Addr.add;split<;>simp_all
    rw[ae,Iz,d.heap];have hj:j<l.length*r.sz:=by
     have:=(Aai.1 I).1;simp at this;omega
    rw[Abr hj] at I;simp only[IQ,hg,Ac4,Ab4,Ab5];simpa using I
   have C:=hrd.len;rw[c,←G] at C;rw[c,←G] at D;have hr:=run_append_grow (P:=P) w T ty e i K Y Z h3 ⟨g,0,none⟩ l.length cap _ C D J xs.length sc a m H (by omega) (by omega) (N7 (by omega) (by rw[h5];exact X));have A:=t _ cap hrd (by omega);rw[c,←G] at A;refine⟨_,_,h.push (.cells ((cur.toList.take (l.length*i.size)).toArray++a.toArray++Builtin.zeroCells K.cells (grownCap w (l.length+xs.length) cap e-(l.length+xs.length))) e),λb=>b=h.size,hr,⟨?_,d.os,d.tape,d.out⟩,by simp,?_,λb n=> .inr (by subst n;simp),λb n _=>Gp _ _ _ n⟩
   ·show(w.heap.push _)=_;rw[d.heap]
   ·rw[d.heap];exact A
def vE {α}{r:A6 α}{T e sz C:Nat}{z:List Value}{v s:Value}{l xs:List α}{sd:Addr}{sc:Nat}{y:List Value}{LL:Value→List HP}(g:Fr n a m) (hx:BV m X=some v) (hy:BV m Y=some s) (he:OR P T=some (e,sz,C,z)) (D:r.sz=sz)
  (H:s= .slice (some sd) xs.length sc) (hn:LQ S h r y xs) (hc:∀j u,y[j]? =some u→IQ h (sd.add j)=some u)
  (I:l.length+xs.length≤maxLen) (J:Jh (l.length+xs.length) C) (hd:Nat.blt d n.1=true) (hw:Wd B h w) (A:St S L h) (rp:∀i,Mo L (OS r e v l) (OS r e i (l++xs)) (LL i))
  (k:∀i a w h',Fr n a ((d,i)::m)→Wd B h' w→St S (LL i) h'→CG S h S h'→wpList P ops Q rest a w):
  wpList P ops Q (⟨some d,.call ⟨.builtin .append,#[X,Y],#[T,T]⟩,ty,pos,af,none⟩::rest) a w:=by
 refine wpList_plain rfl λK hK=>?_;unfold Oper.wp;obtain⟨M,p,_⟩:=(rp v).pick;obtain⟨F,g1,g2,_⟩:=Sp.pick p A.2;obtain⟨i,w',h',F',e1,e2,e3,e4,e5,e6⟩:=Un (ty:=ty) he D H hn hc I J hw g1 λb c=>⟨A.1 b c,λg=>(g2 b g).2 c⟩
 have U:(execOp a.eval ⟨some d,.call ⟨.builtin .append,#[X,Y],#[T,T]⟩,ty,pos,af,none⟩).run P w= .ok (.value i) w':=by
  simp [execOp,resolve,invoke,builtin,g.eval hx,g.eval hy,e1]
 rw[U];obtain⟨M,p,q⟩:=(rp i).pick;have V:St S (LL i) h'∧CG S h S h':=by
  obtain⟨G,ad,o,ae⟩:=Sp.pick p A.2;obtain⟨al,am,W,ag,Z,ah,t,ai,aa,ab⟩:=Un (ty:=ty) he D H hn hc I J hw ad λb c=>⟨A.1 b c,λg=>(o b g).2 c⟩
  rw[e1] at Z;injection Z with ev ew
  subst ev;subst ew;have hh:W=h':=by rw[←ah.heap,e2.heap]
  subst hh;have ac:∀b,S b→W[b]? =h[b]? :=λb c=>ab b (A.1 b c) λg=>(o b g).2 c;refine⟨⟨λb c=>Aak (A.1 b c) t,MR q ⟨ag,ai,λb c=>?_,?_⟩⟩,λ_ x=>x,ac,t⟩
  ·rcases aa b c with g|⟨hl,hu⟩
   ·exact⟨Aak (o b g).1 t,(o b g).2⟩
   ·exact⟨hu,λaj=>absurd (A.1 b aj) (by omega)⟩
  ·refine Sp.ext ae (λ_ x=>x) (λb c=>?_) λb c=>⟨⟨Aak c.1.1 t,c.1.2⟩,λak=>?_⟩
   ·rcases c with c|c
    ·exact ac b c
    ·exact ab b c.1.1 c.2
   ·rcases aa b ak with g|⟨hl,_⟩
    ·exact c.2 g
    ·exact absurd c.1.1 (by omega)
 exact hK _ _ (k i _ w' h' (g.put hd _) e2 V.1 V.2)
def oW {α}{r:A6 α}{T e sz g:Nat}{z:List Value}{v:Value}{l xs:List α}{p A b sc:Nat}{c:List Value}{LL:Value→List HP}(C:Fr n a m) (D:BV m X=some v) (G:BV m Y=some (.slice (some ⟨p,0,none⟩) b sc)) (H:OR P T=some (e,sz,g,z)) (q:r.sz=sz)
  (I:Bx p A c∈L) (J:LQ S h r c xs) (s:b=xs.length)
  (t:l.length+xs.length≤maxLen) (x:Jh (l.length+xs.length) g) (hd:Nat.blt d n.1=true) (K:Wd B h w) (y:St S L h) (M:∀i,Mo L (OS r e v l) (OS r e i (l++xs)) (LL i))
  (k:∀i a w h',Fr n a ((d,i)::m)→Wd B h' w→St S (LL i) h'→CG S h S h'→wpList P ops Q rest a w):
  wpList P ops Q (⟨some d,.call ⟨.builtin .append,#[X,Y],#[T,T]⟩,ty,pos,af,none⟩::rest) a w:=by
 obtain⟨F,U,_⟩:=y.get I;refine vE C D G H q (by rw[s]) J (λj u V=>?_) t x hd K y M k;have o:(⟨p,0,none⟩:Addr).add j=⟨p,j,none⟩:=by unfold Addr.add;split<;>simp_all
 rw[o,Bx.cell U];exact V
def Uu (e:Nat) (len:Nat):List (Nat×Nat):=(List.range len).map λi=>(i*e,e)
def yF {T e sz H len:Nat}{z cs:List Value}{g:Array (Nat×Operand)}{pv:List (Nat×Value)}(W:Fr n a m) (he:OR P T=some (e,sz,H,z)) (q:g.toList.mapM (iJ m)=some pv)
  (X:NB (Uu sz len) (List.replicate len z).flatten pv=some cs) (I:Nat.blt 0 len=true) (J:Nat.ble (len*sz) 16777216=true) (hd:Nat.blt d n.1=true) (Y:Wd B h w) (hs:St S L h)
  (o:∀p∈pv,p.1<len)
  (k:∀b a w h',Fr n a ((d,.slice (some ⟨b,0,none⟩) len len)::m)→Wd B h' w→St S (Bx b e cs::L) h'→CG S h S h'→wpList P ops Q rest a w):
  wpList P ops Q (⟨some d,.buildSlice T len g,ty,pos,af,none⟩::rest) a w:=by
 refine wpList_plain rfl λK hK=>?_;unfold Oper.wp;obtain⟨i,u,h1,h2,h3,G,h5,h6,h7,h8⟩:=Kz he;have M:(g.map λ(p:Nat×Operand)=>(p.1,a.eval p.2)).toList=pv:=by
  obtain⟨l⟩:=g;simp only at q;simp only[List.map_toArray];clear X o k
  induction l generalizing pv with
  |nil=>simp at q;subst q;rfl
  |cons x l U=>
   simp only[Ac3,Adk,Acf,iJ,Abn] at q;obtain⟨y,⟨v,hv,rfl⟩,ys,V,A⟩:=q;simp only[Option.pure_def,Abd] at A;subst A;simp only[Aaz,W.eval hv,U V]
 have C:0<len:=(by simpa [Nat.blt] using I:1≤len)
 have Z:len*sz≤16777216:=Acr J;have s:((Array.range (len*i.size)).map (u.cells[· %u.cells.size]!))=((List.replicate len z).flatten).toArray:=by
  have:=Mb z len (by omega);rw[h7] at this;rw[←this];simp only[madeCells,G,h6,Acw]
 have t:Instr.fill (λj=>some (j*i.size,i.size)) ((Array.range (len*i.size)).map (u.cells[· %u.cells.size]!)) pv=some cs.toArray:=by
  rw[s];have h0:=N1 (Uu sz len) pv _ _ X;have D:∀(pv:List (Nat×Value)) (c:Array Value),(∀p∈pv,p.1<len)→Instr.fill (λj=>some (j*i.size,i.size)) c pv=Instr.fill ((Uu sz len).toArray[·]?) c pv:=by
   intro pv
   induction pv with
   |nil=>intro c _;rfl
   |cons p pv U=>
    intro c o;obtain⟨j,v⟩:=p;have hj:j<len:=o (j,v) (by simp);have e1:(Uu sz len).toArray[j]? =some (j*i.size,i.size):=by simp [Uu,hj,G]
    simp only[Instr.fill,e1];split
    ·rfl
    ·exact U _ λp q=>o p (by simp [q])
  rw[D pv _ o];exact h0
 have hb:=run_buildSlice (P:=P) w T e len (g.map λ(p:Nat×Operand)=>(p.1,a.eval p.2)) cs.toArray i u h1 h2 h3 (by rw[G];omega) (by rw[G];exact Nat.ne_of_gt (Nat.mul_pos C h8)) (by rw[M];exact t);have F:(execOp a.eval ⟨some d,.buildSlice T len g,ty,pos,af,none⟩).run P w= .ok (.value (.slice (some ⟨w.heap.size,0,none⟩) len len)) (w.alloc (.cells cs.toArray e)):=by
  simp only[execOp,Sem.run_bind,hb];rfl
 rw[F];obtain⟨k1,k2⟩:=hs.push e cs;exact hK _ _ (k _ _ _ _ (W.put hd _) (Y.alloc _) (by rw[Y.heap];exact k1) k2)
def St.bxos {α}{r:A6 α}{b e:Nat}{cs:List Value}{l:List α}{M:List HP}(g:St S L h) (i:Mo L (Bx b e cs) (OS r e (.slice (some ⟨b,0,none⟩) l.length l.length) l) M) (a:LQ S h r cs l) (c:l.length≤maxLen):St S M h:=
 (g.upd i (Aal _) λF d _=>⟨F,.inr ⟨b,l.length,cs.toArray,rfl,d.1,d.2,Aal _,c,by simpa using a.len,by
  have:=a.len;simp only[←this,Aa9];exact a⟩,λ_ j=> .inl j,λ_ _ _=>rfl⟩).1
end
end Go.Proofs.YtedgiljmffngoaaGreat
