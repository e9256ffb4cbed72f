import Derived.Test.YtabonambpbofgaaGreatNCore4
import Derived.Deep.DeepAppendWide
namespace Go.Proofs.YtabonambpbofgaaGreat
set_option linter.all false
open Go.RowKit
def Me {α}(S:Nat→Prop) (h:AS) (r:A5 α):List Value→List α→Prop
 |cs,[]=>cs=[]
 |cs,x::l=>∃a b,cs=a++b∧r.rd S h a x∧Me S h r b l
def Me.mono {α S S' h h'}{r:A5 α}:∀{l:List α}{cs},Me S h r cs l→(∀b,S b→S' b)→(∀b,S b→h'[b]? =h[b]?)→Me S' h' r cs l
 |[],_,k,_,_=>k
 |_::_,_,⟨a,c,e,d,g⟩,s,q=>⟨a,c,e,r.mono d s q,g.mono s q⟩
def Me.len {α S h}{r:A5 α}:∀{l:List α}{cs},Me S h r cs l→cs.length=l.length*r.sz
 |[],_,k=>by have k:_=[]:=k;subst k;simp
 |_::l,_,⟨c,d,e,a,b⟩=>by subst e;rw[Ac6,r.len a,b.len,Aei,Ad7];omega
def Me.one {α S h}{r:A5 α}:∀{l:List α}{cs},Me S h r cs l→∀v∈cs,v.oneCell'=true
 |[],_,k,v,a=>by have k:_=[]:=k;subst k;cases a
 |_::_,_,⟨d,g,e,b,c⟩,v,a=>by subst e;exact(Ac7.1 a).elim (r.one b v) (c.one v)
def Me.append {α S h}{r:A5 α}:∀{l c:List α}{cs a},Me S h r cs l→Me S h r a c→Me S h r (cs++a) (l++c)
 |[],_,_,_,k,b=>by have k:_=[]:=k;subst k;exact b
 |_::_,_,_,_,⟨d,g,e,i,b⟩,j=>by subst e;exact⟨d,g++_,by simp,i,b.append j⟩
def Me.at_ {α S h}{r:A5 α}:∀{l:List α}{cs}{i:Nat}{x},Me S h r cs l→l[i]? =some x→r.rd S h ((cs.drop (i*r.sz)).take r.sz) x
 |[],_,_,_,_,a=>by simp at a
 |y::l,_,0,x,⟨b,c,e,d,g⟩,a=>by
  subst e;simp only[Aem,Adh] at a;subst a;have:=r.len d;simp only[Nat.zero_mul,List.drop_zero,←this,List.take_left];exact d
 |y::l,_,i+1,x,⟨b,c,e,d,g⟩,a=>by
  subst e;simp only[Aej] at a;have j:=r.len d;have m:(i+1)*r.sz=b.length+i*r.sz:=by rw[j,Ad7];omega
  rw[m,List.drop_append_of_le_length_add];exact g.at_ a
 where
 List.drop_append_of_le_length_add:∀{b c:List Value} {k:Nat},(b++c).drop (b.length+k)=c.drop k:=by
  intro b c k;rw[←List.drop_drop,List.drop_left]
def WR (cs:List Value) (o:Nat) (vs:List Value) (h:o+vs.length≤cs.length):(H7 cs o vs).length=cs.length:=by
 simp [H7];omega
def Me.set {α S h}{r:A5 α}:∀{l:List α}{cs}{i o:Nat}{x y}{vs:List Value},Me S h r cs l→l[i]? =some x→o+vs.length≤r.sz→(∀c,r.rd S h c x→r.rd S h (H7 c o vs) y)→Me S h r (H7 cs (i*r.sz+o) vs) (l.set i y)
 |[],_,_,_,_,_,_,_,a,_,_=>by simp at a
 |z::l,_,0,o,x,y,vs,⟨b,g,e,d,j⟩,a,m,k=>by
  subst e;simp only[Aem,Adh] at a;subst a;have n:=r.len d;refine⟨H7 b o vs,g,?_,k _ d,j⟩;simp only[H7,Nat.zero_mul,Adj];rw[List.take_append_of_le_length (by omega),List.drop_append_of_le_length (by omega)];simp
 |z::l,_,i+1,o,x,y,vs,⟨b,g,e,d,j⟩,a,m,k=>by
  subst e;simp only[Aej] at a;have n:=r.len d;refine⟨b,H7 g (i*r.sz+o) vs,?_,d,j.set a m k⟩;have p:(i+1)*r.sz+o=b.length+(i*r.sz+o):=by rw[n,Ad7];omega
  simp only[H7];rw[p,Nat.add_assoc b.length,←List.drop_drop,List.drop_left,List.take_length_add_append];simp
def OS {α}(r:A5 α) (T:TypeId) (v:Value) (l:List α):HP where
 holds:=λS F h=>((∃a,v= .slice a 0 0)∧l=[]∧∀b,¬F b)∨
  ∃g cap cur,v= .slice (some ⟨g,0,none⟩) l.length cap∧(∀b,F b↔b=g)∧h[g]? =some (.cells cur T (0,0))∧l.length≤cap∧cap≤maxLen∧cur.size=cap*r.sz∧Me S h r (cur.toList.take (l.length*r.sz)) l
 loc:=λk s e=>by
  rcases k with k|⟨g,cap,cur,k1,k2,k3,k4,k5,k6,k7⟩
  ·exact .inl k
  ·exact .inr ⟨g,cap,cur,k1,k2,(e g (.inr ((k2 g).2 rfl))).trans k3,k4,k5,k6,k7.mono s λb c=>e b (.inl c)⟩
section
variable {α:Type}{r:A5 α}{T:TypeId}{v:Value}{l:List α}{S F:Nat→Prop}{h:AS}{L L2:List HP}
def OS.len (k:(OS r T v l).holds S F h):∃a cap,v= .slice a l.length cap∧l.length≤maxLen:=by
 rcases k with ⟨⟨a,b⟩,h2,_⟩|⟨g,cap,cur,b,h2,h3,h4,h5,_⟩
 ·subst h2;exact⟨a,0,b,Aci _⟩
 ·exact⟨_,cap,b,Adq h4 h5⟩
def St.oslen (a:St S L h) (b:OS r T v l∈L):∃c cap,v= .slice c l.length cap∧l.length≤maxLen:=by
 obtain⟨F,k,_⟩:=a.get b;exact OS.len k
def St.nil (a:St S L h) (r:A5 α) (T:TypeId):St S (OS r T (.slice none 0 0) ([]:List α)::L) h:=
 (a.add (Acr _) (λ_ _=>rfl) ⟨λ_=>False,Or.inl ⟨⟨none,rfl⟩,rfl,λ_ x=>x⟩,λ_ x=>x.elim⟩).1
def OS.sl (k:(OS r T v l).holds S F h) (s:∀b,F b→S b):Sl S h r v l:=by
 rcases k with ⟨⟨d,a⟩,h2,_⟩|⟨g,cap,cur,a,h2,h3,h4,h5,h6,h7⟩
 ·subst h2;cases d with
  |none=>exact .inl ⟨a,rfl⟩
  |some d=>exact .inr ⟨d,0,a,Acr _,Aci _,λi x c=>by simp at c⟩
 ·refine .inr ⟨⟨g,0,none⟩,cap,a,h4,h5,λi x c=>⟨rfl,?_⟩⟩;have m:=h7.at_ c;have n:i<l.length:=(Acq.1 c).1;have p:i*r.sz+r.sz≤l.length*r.sz:=by rw[←Ad7];exact Ady _ n
  refine⟨_,⟨⟨g,0+i*r.sz,none⟩,rfl,rfl,s g ((h2 g).2 rfl),λj q=>?_⟩,m⟩;have o:j<r.sz:=by simp only[Adv,Aex] at q;omega
  simp only[Jm,h3,Adj,Afi,Aeb,Aec];rw[Ad3 o,Aes,Ad3 (by omega),Array.getElem?_toList]
def St.pubs (c:St S L h) (p:P7 L (OS r T v l) L2):∃S',St S' L2 h∧CJ S h S' h∧Sl S' h r v l:=by
 obtain⟨F,d,j,g,a⟩:=c.pub p;exact⟨_,g,a,OS.sl (HP.loc _ d a.sub λ_ _=>rfl) λb i=> .inr i⟩
def St.oslAll (c:St S L h) (d:OS r T v l∈L):Sl (λb=>b<h.size) h r v l:=by
 obtain⟨F,g,i⟩:=c.get d;exact OS.sl (HP.loc _ g (λb a=>c.1 b a) λ_ _=>rfl) λb a=>(i b a).1
def St.osAt (p:St S L h) (q:OS r T v l∈L) {i:Nat}{x:α}(a:l[i]? =some x):
  ∃(g cap:Nat),v= .slice (some ⟨g,0,none⟩) l.length cap∧NX (λb=>b<h.size) S h r (.pointer (some ⟨g,i*r.sz,none⟩)) x:=by
 obtain⟨F,k,s⟩:=p.get q;rcases k with ⟨o,c,_⟩|⟨g,cap,cur,o,c,k3,k4,k5,k6,k7⟩
 ·subst c;simp at a
 ·have d:=k7.at_ a;have m:i<l.length:=(Acq.1 a).1;have t:i*r.sz+r.sz≤l.length*r.sz:=by rw[←Ad7];exact Ady _ m
  refine⟨g,cap,o,_,⟨⟨g,i*r.sz,none⟩,rfl,rfl,(s g ((c g).2 rfl)).1,λj u=>?_⟩,d⟩;have n:j<r.sz:=by simp only[Adv,Aex] at u;omega
  simp only[Jm,k3,Afi,Aeb,Aec];rw[Ad3 n,Aes,Ad3 (by omega),Array.getElem?_toList]
end
def EP (v:Value) (k:Nat) (q:Value):Prop:=∃g n c,v= .slice (some ⟨g,0,none⟩) n c∧q= .pointer (some ⟨g,k,none⟩)
def Nc (P:Program) (t:TypeId):Option (TypeId×Nat×Nat×List Value):=
 match P.underlying t with
 |some (.slice e)=>match P.info? e with
  |some i=>match i.zero with
   |some z=>if i.size=0|| !(z.cells.size==i.size) then none else some (e,i.size,i.bytes,z.cells.toList)
   |none=>none
  |none=>none
 |_=>none
def Mc {P t e sz by_ z}(h:Nc P t=some (e,sz,by_,z)):∃i a,P.underlying t=some (.slice e)∧P.info? e=some i∧i.zero=some a∧i.size=sz∧i.bytes=by_∧a.cells=z.toArray∧z.length=sz∧0<sz:=by
 unfold Nc at h;split at h
 ·rename_i j c;split at h
  ·rename_i i d;split at h
   ·rename_i a g;split at h
    ·cases h
    ·rename_i b;simp only[Adh,Ae0] at h;obtain⟨rfl,rfl,rfl,rfl⟩:=h;simp only[Ac5,Ac1,not_or,Bool.not_eq_true,Aeu,beq_iff_eq] at b;exact⟨i,a,c,d,g,rfl,rfl,by simp,by simpa using b.2,by omega⟩
   ·cases h
  ·cases h
 ·cases h
section
variable {P:Program}{ops:Array Oper}{Q:Exit→Act→World→Prop}{n:FN}{a:Act}{m:List (Nat×Value)}{rest:List Oper}
variable {d:Nat}{ty:TypeId}{pos:String}{af:Array Edge}{X Y:Operand}{B w:World}{h:AS}{S:Nat→Prop}{L L2:List HP}
def SD {α}{r:A5 α}{S h}{z:List Value}{x:α}(a:r.rd S h z x) (c:Nat):Me S h r (List.replicate c z).flatten (List.replicate c x):=by
 induction c with
 |zero=>rfl
 |succ c b=>exact⟨z,_,by simp [List.replicate_succ],a,b⟩
def NF (z:List Value) (c:Nat) (l:0<z.length):(madeCells z.toArray (c*z.length)).toList=(List.replicate c z).flatten:=by
 induction c with
 |zero=>simp [madeCells]
 |succ c j=>
  have k:List.replicate (c+1) z=List.replicate c z++[z]:=by rw[List.replicate_succ']
  rw[k,List.flatten_append,←j];apply Adl;intro i;have g:(madeCells z.toArray (c*z.length)).toList.length=c*z.length:=by simp [size_madeCells]
  rw[List.getElem?_append];simp only[madeCells,Array.toList_map,Array.toList_range,Ae7,List.length_range];have m:(c+1)*z.length=c*z.length+z.length:=Ad7 _ _;by_cases a:i<c*z.length
  ·rw[Acf a];simp [Aft a,Aft (show i<(c+1)*z.length by omega)]
  ·rw[Ace a];by_cases b:i<(c+1)*z.length
   ·have e:i%z.length=i-c*z.length:=by
     have:i=(i-c*z.length)+z.length*c:=by rw[Ae1 z.length c];omega
     rw[this,Nat.add_mul_mod_self_left,Ae8 (by omega),Ae1];omega
    have d:i-c*z.length<z.length:=by omega
    simp [Aft b,e,d]
   ·rw[Ac8 (by simp;omega),Ac8 (by simp;omega)]
def Aa6 {α}{r:A5 α}{T e sz g:Nat}{z:List Value}{zx:α}{len cap:Nat}{C D:IntKind}{U V:Operand}(u:Fr n a m) (I:Nc P T=some (e,sz,g,z)) (l:r.sz=sz) (J:r.rd S h z zx)
  (M:B4 m U=some (.int C (len:Nat))) (W:B4 m V=some (.int D (cap:Nat))) (o:len≤cap) (X:g*cap≤281474976710656) (p:cap≤maxLen) (hd:Nat.blt d n.1=true) (F:Wd B h w) (G:St S L h)
  (k:∀v a w h',Fr n a ((d,v)::m)→Wd B h' w→St S (OS r e v (List.replicate len zx)::L) h'→CJ S h S h'→wpList P ops Q rest a w):
  wpList P ops Q (⟨some d,.makeSlice T U V,ty,pos,af,none⟩::rest) a w:=by
 refine wpList_plain rfl λK Y=>?_;unfold Oper.wp;obtain⟨i,Z,h1,h2,h3,h4,h5,h6,H,h8⟩:=Mc I;have q:=run_make (P:=P) w T e i Z h1 h2 h3 C D (len:Int) (cap:Int) (by omega) (by omega) (by rw[h5];omega) (by unfold maxLen at p;omega);simp only[Adm,h6,h4] at q;have s:(execOp a.eval ⟨some d,.makeSlice T U V,ty,pos,af,none⟩).run P w= .ok (.value (.slice (some ⟨w.heap.size,0,none⟩) len cap)) (w.alloc (.cells (madeCells z.toArray (cap*sz)) e)):=by
  simp [execOp,u.eval M,u.eval W,q]
 rw[s];have c:(madeCells z.toArray (cap*sz)).toList=(List.replicate cap z).flatten:=by rw[←H];exact NF z cap (by omega)
 have y:(OS r e (.slice (some ⟨h.size,0,none⟩) len cap) (List.replicate len zx)).holds S (λb=>b=h.size) (h.push (.cells (madeCells z.toArray (cap*sz)) e)):=by
  refine .inr ⟨h.size,cap,madeCells z.toArray (cap*sz),by simp,λ_=>Iff.rfl,MR _ _,by simpa using o,p,by rw[size_madeCells,l],?_⟩;rw[c];have:((List.replicate cap z).flatten).take ((List.replicate len zx).length*r.sz)=(List.replicate len z).flatten:=by
   obtain⟨j,rfl⟩:=Nat.exists_eq_add_of_le o;rw[←List.replicate_append_replicate,List.flatten_append,List.length_replicate,l,←H];have:(List.replicate len z).flatten.length=len*z.length:=by simp
   rw[←this,List.take_left]
  rw[this];exact(SD J len).mono (λ_ x=>x) λb t=>If _ _ _ (G.1 b t)
 obtain⟨g1,g2⟩:=G.add (h':=h.push (.cells (madeCells z.toArray (cap*sz)) e)) (by simp) (λb t=>If _ _ _ t) ⟨_,y,λb t=>by subst t;simp⟩;have A:=F.heap;exact Y _ _ (k _ _ _ _ (u.put hd _) (F.alloc _) (by rw[A];exact g1) g2)
def Md (n b:Nat):Prop:=n*b≤140737488355328∨(n*b≤175921860444160∧b≤274877906944)
def Md.le {n b:Nat}(h:Md n b):n*b≤281474976710656:=by unfold Md at h;omega
def Tl {a b bytes:Nat}(h:b<a) (c:Md a bytes):Builtin.nextslicecap a b*bytes≤281474976710656:=by
 rcases c with c|⟨h1,h2⟩
 ·exact growslice_fits h c
 ·refine growslice_fits_wide h ?_;have d:=Ady bytes (Nat.div_mul_le_self a 4);rw[Nat.mul_right_comm] at d;rw[Adz,Adz];omega
def Ux {α}{r:A5 α}{T ty e sz Q:Nat}{z:List Value}{v s:Value}{l xs:List α}{J:Addr}{sc:Nat}{a:List Value}{F:Nat→Prop}(he:Nc P T=some (e,sz,Q,z)) (c:r.sz=sz)
  (af:s= .slice (some J) xs.length sc) (V:Me S h r a xs) (hc:∀j u,a[j]? =some u→Jm h (J.add j)=some u)
  (W:l.length+xs.length≤maxLen) (X:Md (l.length+xs.length) Q) (d:Wd B h w) (k:(OS r e v l).holds S F h) (hS:∀b,S b→b<h.size∧¬F b):
  ∃v' w' h' F',(Builtin.append_ #[T,T] ty #[v,s]).run P w= .ok v' w'∧Wd B h' w'∧h.size≤h'.size∧(OS r e v' (l++xs)).holds S F' h'∧(∀b,F' b→F b∨(h.size≤b∧b<h'.size))∧∀b,b<h.size→¬F b→h'[b]? =h[b]? :=by
 obtain⟨i,K,Y,Z,h3,G,h5,h6,h7,h8⟩:=Mc he;subst af;have m:=V.len;rw[c,←G] at m;have aa:l.length+xs.length≤9223372036854775807:=by unfold maxLen at W;omega
 have H:∀j u,a[j]? =some u→w.cell? (J.add j)=some u:=λj u I=>by rw[MS,d.heap];exact hc j u I
 have ag:K.cells.size=sz:=by rw[h6];simpa using h7
 have t:∀(p:List Value) (q:Nat),Me S h r p l→q<l.length+xs.length→
   (OS r e (.slice (some ⟨h.size,0,none⟩) (l.length+xs.length) (grownCap w (l.length+xs.length) q e)) (l++xs)).holds S (λb=>b=h.size)
    (h.push (.cells (p.toArray++a.toArray++Builtin.zeroCells K.cells (grownCap w (l.length+xs.length) q e-(l.length+xs.length))) e)):=by
  intro p q ho aj;have ah:=grownCap_ge w (l.length+xs.length) q e;refine .inr ⟨h.size,_,_,by rw[Ac6],λ_=>Iff.rfl,MR _ _,by rw[Ac6];exact ah,grownCap_le_maxLen w _ q e W,?_,?_⟩
  ·have:=ho.len;simp only[Array.size_append,Afj,size_zeroCells,ag,this,m,G,c,←Adz];congr 1;omega
  ·have y:(l++xs).length*r.sz=(p++a).length:=by rw[Ac6,Ac6,ho.len,V.len,Adz]
   rw[y];simp only[Array.toList_append];rw[List.take_left];exact(ho.append V).mono (λ_ x=>x) λb n=>If _ _ _ (hS b n).1
 rcases k with ⟨⟨U,rfl⟩,rfl,hF⟩|⟨g,cap,cur,rfl,hF,hg,hlc,hcm,hcs,hrd⟩
 ·by_cases hx:xs.length=0
  ·have ai:xs=[]:=Af7 hx;subst ai;refine⟨.slice U 0 0,w,h,F,?_,d,Acr _,.inl ⟨⟨U,rfl⟩,rfl,hF⟩,λb n=> .inl n,λ_ _ _=>rfl⟩;cases U<;>simp [Builtin.append_,run_underlying Y,sizeOf,typeInfo,Z,Builtin.lenOf,Builtin.firstCells,loadCells,loadCellsFrom,storeCells]
  ·have M:Md xs.length Q:=by simpa using X
   have ak:=M.le;have hr:(Builtin.append_ #[T,T] ty #[.slice U 0 0,.slice (some J) xs.length sc]).run P w= .ok (.slice (some ⟨w.heap.size,0,none⟩) xs.length (grownCap w xs.length 0 e)) (w.drew.alloc (.cells (a.toArray++Builtin.zeroCells K.cells (grownCap w xs.length 0 e-xs.length)) e)):=by
    cases U with
    |none=>exact run_append_nil (P:=P) w T ty e i K Y Z h3 J xs.length sc a m H (by omega) (by simp at aa;omega) (by rw[h5];omega)
    |some U=>
     have hq:=run_append_grow (P:=P) w T ty e i K Y Z h3 U 0 0 [] (by simp) (λj u I=>by simp at I) J xs.length sc a m H (by omega) (by omega) (Tl (by omega) (by rw[h5];simpa using M));simpa using hq
   have A:=t [] 0 rfl (by simp;omega);simp only[List.length_nil,Adj,Acs,Array.empty_append] at A;refine⟨_,_,h.push (.cells (a.toArray++Builtin.zeroCells K.cells (grownCap w xs.length 0 e-xs.length)) e),λb=>b=h.size,hr,⟨?_,d.os,d.tape,d.out⟩,by simp,?_,λb n=> .inr (by subst n;simp),λb n _=>If _ _ _ n⟩
   ·show(w.heap.push _)=_;rw[d.heap]
   ·rw[d.heap];exact A
 ·have ab:w.heap[g]? =some (.cells cur e (0,0)):=by rw[d.heap];exact hg
  by_cases o:l.length+xs.length≤cap
  ·have ac:l.length*i.size+a.length≤cur.size:=by rw[m,hcs,G,c,←Adz];exact Ady _ o
   have hr:=run_append_room (P:=P) w T ty e i Y Z g l.length cap cur ab J xs.length sc a m H (λu I=>V.one u I) o ac;obtain⟨h',e1,e2,e3,e4⟩:=Qs w g cur (c':=(cur.toList.take (l.length*i.size)++a++cur.toList.drop (l.length*i.size+a.length)).toArray) e ab;rw[d.heap] at e2 e4;refine⟨_,_,h',F,hr,⟨e1,d.os,d.tape,d.out⟩,by omega,.inr ⟨g,cap,_,by rw[Ac6],hF,e3,by rw[Ac6];exact o,hcm,?_,?_⟩,λb n=> .inl n,λb _ n=>e4 b λe=>n ((hF b).2 e)⟩
   ·simp only[Afj,Ac6,Adv,Aex,Array.length_toList];omega
   ·have C:=hrd.len;rw[c,←G] at C;have y:(l++xs).length*r.sz=(cur.toList.take (l.length*i.size)++a).length:=by
     rw[Ac6,Ac6,C,m,Adz,c,G]
    rw[y,List.take_left,G,←c];exact(hrd.append V).mono (λ_ x=>x) λb n=>e4 b λe=>(hS b n).2 ((hF b).2 e)
  ·have D:∀j u,(cur.toList.take (l.length*r.sz))[j]? =some u→w.cell? ((⟨g,0,none⟩:Addr).add j)=some u:=λj u I=>by
    have ae:(⟨g,0,none⟩:Addr).add j=⟨g,j,none⟩:=by unfold Addr.add;split<;>simp_all
    rw[ae,MS,d.heap];have hj:j<l.length*r.sz:=by
     have:=(Acq.1 I).1;simp at this;omega
    rw[Ad3 hj] at I;simp only[Jm,hg,Afi,Aeb,Aec];simpa using I
   have C:=hrd.len;rw[c,←G] at C;rw[c,←G] at D;have hr:=run_append_grow (P:=P) w T ty e i K Y Z h3 ⟨g,0,none⟩ l.length cap _ C D J xs.length sc a m H (by omega) (by omega) (Tl (by omega) (by rw[h5];exact X));have A:=t _ cap hrd (by omega);rw[c,←G] at A;refine⟨_,_,h.push (.cells ((cur.toList.take (l.length*i.size)).toArray++a.toArray++Builtin.zeroCells K.cells (grownCap w (l.length+xs.length) cap e-(l.length+xs.length))) e),λb=>b=h.size,hr,⟨?_,d.os,d.tape,d.out⟩,by simp,?_,λb n=> .inr (by subst n;simp),λb n _=>If _ _ _ n⟩
   ·show(w.heap.push _)=_;rw[d.heap]
   ·rw[d.heap];exact A
def xK {α}{r:A5 α}{T e sz C:Nat}{z:List Value}{v s:Value}{l xs:List α}{sd:Addr}{sc:Nat}{y:List Value}{LL:Value→List HP}(g:Fr n a m) (hx:B4 m X=some v) (hy:B4 m Y=some s) (he:Nc P T=some (e,sz,C,z)) (D:r.sz=sz)
  (H:s= .slice (some sd) xs.length sc) (hn:Me S h r y xs) (hc:∀j u,y[j]? =some u→Jm h (sd.add j)=some u)
  (I:l.length+xs.length≤maxLen) (J:Md (l.length+xs.length) C) (hd:Nat.blt d n.1=true) (hw:Wd B h w) (A:St S L h) (rp:∀i,Mx L (OS r e v l) (OS r e i (l++xs)) (LL i))
  (k:∀i a w h',Fr n a ((d,i)::m)→Wd B h' w→St S (LL i) h'→CJ S h S h'→wpList P ops Q rest a w):
  wpList P ops Q (⟨some d,.call ⟨.builtin .append,#[X,Y],#[T,T]⟩,ty,pos,af,none⟩::rest) a w:=by
 refine wpList_plain rfl λK hK=>?_;unfold Oper.wp;obtain⟨M,p,_⟩:=(rp v).pick;obtain⟨F,g1,g2,_⟩:=Sp.pick p A.2;obtain⟨i,w',h',F',e1,e2,e3,e4,e5,e6⟩:=Ux (ty:=ty) he D H hn hc I J hw g1 λb c=>⟨A.1 b c,λg=>(g2 b g).2 c⟩
 have U:(execOp a.eval ⟨some d,.call ⟨.builtin .append,#[X,Y],#[T,T]⟩,ty,pos,af,none⟩).run P w= .ok (.value i) w':=by
  simp [execOp,resolve,invoke,builtin,g.eval hx,g.eval hy,e1]
 rw[U];obtain⟨M,p,q⟩:=(rp i).pick;have V:St S (LL i) h'∧CJ S h S h':=by
  obtain⟨G,ad,o,ae⟩:=Sp.pick p A.2;obtain⟨al,am,W,ag,Z,ah,t,ai,aa,ab⟩:=Ux (ty:=ty) he D H hn hc I J hw ad λb c=>⟨A.1 b c,λg=>(o b g).2 c⟩
  rw[e1] at Z;injection Z with ev ew
  subst ev;subst ew;have hh:W=h':=by rw[←ah.heap,e2.heap]
  subst hh;have ac:∀b,S b→W[b]? =h[b]? :=λb c=>ab b (A.1 b c) λg=>(o b g).2 c;refine⟨⟨λb c=>Acv (A.1 b c) t,N5 q ⟨ag,ai,λb c=>?_,?_⟩⟩,λ_ x=>x,ac,t⟩
  ·rcases aa b c with g|⟨hl,hu⟩
   ·exact⟨Acv (o b g).1 t,(o b g).2⟩
   ·exact⟨hu,λaj=>absurd (A.1 b aj) (by omega)⟩
  ·refine Sp.ext ae (λ_ x=>x) (λb c=>?_) λb c=>⟨⟨Acv c.1.1 t,c.1.2⟩,λak=>?_⟩
   ·rcases c with c|c
    ·exact ac b c
    ·exact ab b c.1.1 c.2
   ·rcases aa b ak with g|⟨hl,_⟩
    ·exact c.2 g
    ·exact absurd c.1.1 (by omega)
 exact hK _ _ (k i _ w' h' (g.put hd _) e2 V.1 V.2)
def rK {α}{r:A5 α}{T e sz g:Nat}{z:List Value}{v:Value}{l xs:List α}{p A b sc:Nat}{c:List Value}{LL:Value→List HP}(C:Fr n a m) (D:B4 m X=some v) (G:B4 m Y=some (.slice (some ⟨p,0,none⟩) b sc)) (H:Nc P T=some (e,sz,g,z)) (q:r.sz=sz)
  (I:Bx p A c∈L) (J:Me S h r c xs) (s:b=xs.length)
  (t:l.length+xs.length≤maxLen) (x:Md (l.length+xs.length) g) (hd:Nat.blt d n.1=true) (K:Wd B h w) (y:St S L h) (M:∀i,Mx L (OS r e v l) (OS r e i (l++xs)) (LL i))
  (k:∀i a w h',Fr n a ((d,i)::m)→Wd B h' w→St S (LL i) h'→CJ S h S h'→wpList P ops Q rest a w):
  wpList P ops Q (⟨some d,.call ⟨.builtin .append,#[X,Y],#[T,T]⟩,ty,pos,af,none⟩::rest) a w:=by
 obtain⟨F,U,_⟩:=y.get I;refine xK C D G H q (by rw[s]) J (λj u V=>?_) t x hd K y M k;have o:(⟨p,0,none⟩:Addr).add j=⟨p,j,none⟩:=by unfold Addr.add;split<;>simp_all
 rw[o,Bx.cell U];exact V
def U4 (e:Nat) (len:Nat):List (Nat×Nat):=(List.range len).map λi=>(i*e,e)
def Aa7 {T e sz H len:Nat}{z cs:List Value}{g:Array (Nat×Operand)}{pv:List (Nat×Value)}(W:Fr n a m) (he:Nc P T=some (e,sz,H,z)) (q:g.toList.mapM (Z8 m)=some pv)
  (X:Mr (U4 sz len) (List.replicate len z).flatten pv=some cs) (I:Nat.blt 0 len=true) (J:Nat.ble (len*sz) 16777216=true) (hd:Nat.blt d n.1=true) (Y:Wd B h w) (hs:St S L h)
  (o:∀p∈pv,p.1<len)
  (k:∀b a w h',Fr n a ((d,.slice (some ⟨b,0,none⟩) len len)::m)→Wd B h' w→St S (Bx b e cs::L) h'→CJ S h S h'→wpList P ops Q rest a w):
  wpList P ops Q (⟨some d,.buildSlice T len g,ty,pos,af,none⟩::rest) a w:=by
 refine wpList_plain rfl λK hK=>?_;unfold Oper.wp;obtain⟨i,u,h1,h2,h3,G,h5,h6,h7,h8⟩:=Mc he;have M:(g.map λ(p:Nat×Operand)=>(p.1,a.eval p.2)).toList=pv:=by
  obtain⟨l⟩:=g;simp only at q;simp only[List.map_toArray];clear X o k
  induction l generalizing pv with
  |nil=>simp at q;subst q;rfl
  |cons x l U=>
   simp only[Aez,Aff,Aeh,Z8,Adt] at q;obtain⟨y,⟨v,hv,rfl⟩,ys,V,A⟩:=q;simp only[Afg,Adh] at A;subst A;simp only[Acz,W.eval hv,U V]
 have C:0<len:=(by simpa [Nat.blt] using I:1≤len)
 have Z:len*sz≤16777216:=Afh J;have s:((Array.range (len*i.size)).map (u.cells[· %u.cells.size]!))=((List.replicate len z).flatten).toArray:=by
  have:=NF z len (by omega);rw[h7] at this;rw[←this];simp only[madeCells,G,h6,Afj]
 have t:Instr.fill (λj=>some (j*i.size,i.size)) ((Array.range (len*i.size)).map (u.cells[· %u.cells.size]!)) pv=some cs.toArray:=by
  rw[s];have h0:=OI (U4 sz len) pv _ _ X;have D:∀(pv:List (Nat×Value)) (c:Array Value),(∀p∈pv,p.1<len)→Instr.fill (λj=>some (j*i.size,i.size)) c pv=Instr.fill ((U4 sz len).toArray[·]?) c pv:=by
   intro pv
   induction pv with
   |nil=>intro c _;rfl
   |cons p pv U=>
    intro c o;obtain⟨j,v⟩:=p;have hj:j<len:=o (j,v) (by simp);have e1:(U4 sz len).toArray[j]? =some (j*i.size,i.size):=by simp [U4,hj,G]
    simp only[Instr.fill,e1];split
    ·rfl
    ·exact U _ λp q=>o p (by simp [q])
  rw[D pv _ o];exact h0
 have hb:=run_buildSlice (P:=P) w T e len (g.map λ(p:Nat×Operand)=>(p.1,a.eval p.2)) cs.toArray i u h1 h2 h3 (by rw[G];omega) (by rw[G];exact Nat.ne_of_gt (Nat.mul_pos C h8)) (by rw[M];exact t);have F:(execOp a.eval ⟨some d,.buildSlice T len g,ty,pos,af,none⟩).run P w= .ok (.value (.slice (some ⟨w.heap.size,0,none⟩) len len)) (w.alloc (.cells cs.toArray e)):=by
  simp only[execOp,Sem.run_bind,hb];rfl
 rw[F];obtain⟨k1,k2⟩:=hs.push e cs;exact hK _ _ (k _ _ _ _ (W.put hd _) (Y.alloc _) (by rw[Y.heap];exact k1) k2)
def St.bxos {α}{r:A5 α}{b e:Nat}{cs:List Value}{l:List α}{M:List HP}(g:St S L h) (i:Mx L (Bx b e cs) (OS r e (.slice (some ⟨b,0,none⟩) l.length l.length) l) M) (a:Me S h r cs l) (c:l.length≤maxLen):St S M h:=
 (g.upd i (Acr _) λF d _=>⟨F,.inr ⟨b,l.length,cs.toArray,rfl,d.1,d.2,Acr _,c,by simpa using a.len,by
  have:=a.len;simp only[←this,Adk];exact a⟩,λ_ j=> .inl j,λ_ _ _=>rfl⟩).1
end
abbrev SM:=List (Nat×Value)
def QF (P:Program) (ops:Array Oper) (C:World→Prop) (Q:Act→Prop) (l:List Oper) (n:FN) (m:SM):Prop:=∀a,Fr n a m→wpQuiet P ops C Q l a
def LF (P:Program) (ops:Array Oper) (Q:Exit→Act→World→Prop) (l:List Oper) (B:World) (h:AS) (n:FN) (m:SM):Prop:=∀a w,Fr n a m→Wd B h w→wpList P ops Q l a w
def WF (P:Program) (ex:List (Nat×AP)) (R:AP) (cs:List Code) (N:AP) (B:World) (h:AS) (n:FN) (m:SM):Prop:=∀a w,Fr n a m→Wd B h w→W P ex R cs N a w
section
variable {P:Program}{ex:List (Nat×AP)}{R N:AP}{cs:List Code}{B:World}{h:AS}{n:FN}{m m':SM}{S:Nat→Prop}{L:List HP}
def Rp (b:Un m m') (k:WF P ex R cs N B h n m'):WF P ex R cs N B h n m:=λa w c d=>k a w (c.sub b) d
def CU {x y:Code}(k:WF P ex R (x::y::cs) N B h n m):WF P ex R (.seq x y::cs) N B h n m:=λa w b c=>wA (k a w b c)
def Dv (k:WF P ex R cs N B h n m):WF P ex R (.skip::cs) N B h n m:=λa w b c=>pL (k a w b c)
def CO (k:∀a w,Fr n a m→Wd B h w→R a w):WF P ex R (.ret::cs) N B h n m:=λa w b c=>wB (k a w b c)
def BM {i:Nat}{K:AP}(b:rH ex i=some K) (k:∀a w,Fr n a m→Wd B h w→K a w):WF P ex R (.exit i::cs) N B h n m:=λa w c d=>aI b (k a w c d)
def WF.nil (k:∀a w,Fr n a m→Wd B h w→N a w):WF P ex R [] N B h n m:=λa w b c=>k a w b c
def IW {X b}{x y:Code}(g:B4 m X=some (.bool b)) (i:b=true→WF P ex R (x::cs) N B h n m) (j:b=false→WF P ex R (y::cs) N B h n m):WF P ex R (.cond X x y::cs) N B h n m:=
 λa w c d=>Aas c g (λe=>i e a w c d) λe=>j e a w c d
def KV {X}{x y:Code}(c:B4 m X=some (.bool true)) (k:WF P ex R (x::cs) N B h n m):WF P ex R (.cond X x y::cs) N B h n m:=λa w b d=>wC b c (k a w b d)
def KW {X}{x y:Code}(c:B4 m X=some (.bool false)) (k:WF P ex R (y::cs) N B h n m):WF P ex R (.cond X x y::cs) N B h n m:=λa w b d=>wD b c (k a w b d)
def A6 {i:Nat}{c:Code}(k:WF P ((i,W P ex R cs N)::ex) R [c] (W P ex R cs N) B h n m):WF P ex R (.block i c::cs) N B h n m:=λa w b d=>iV (k a w b d)
def H6 {c:Code}(I:AP) (b:WF P ex R [c] I B h n m) (d:∀a w,I a w→W P ex R cs N a w):WF P ex R (c::cs) N B h n m:=λa w g i=>wE I (b a w g i) d
def lM {c:Code}(I:Nat→AP) (T d:Nat) (h0:∀a w,Fr n a m→Wd B h w→I d a w) (g:∀i a w,I i a w→i≤T)
  (b:∀i a w,I i a w→W P ex R [c] (I (i+1)) a w):WF P ex R (.loop c::cs) N B h n m:=λa w j k=>pN I T d (h0 a w j k) g b
def ID {l:List Oper}{id:Nat}{b:Bool}(c:cT P l b) (k:QF P l.toArray (Wd B h) (λa=>∀w,Wd B h w→W P ex R cs N a w) l n m):WF P ex R (.region id l.toArray b::cs) N B h n m:=
 λa _ d g=>Aap c g (k a d)
def CX {l:List Oper}{id:Nat}{b:Bool}(c:cT P l b) (d:St S L h) (k:QF P l.toArray (Cl B h) (λa=>∀w h',Wd B h' w→St S L h'→CJ S h S h'→W P ex R cs N a w) l n m):WF P ex R (.region id l.toArray b::cs) N B h n m:=
 λa _ g i=>Aar c i d (k a g)
def DQ {l:List Oper}{id:Nat}(k:LF P l.toArray (Qx ex R (W P ex R cs N)) l B h n m):WF P ex R (.region id l.toArray false::cs) N B h n m:=
 λa w b c=>Aaq (k a w b c)
def Ea {ops:Array Oper}{C}(b:Un m m') (k:WF P ex R cs N B h n m'):QF P ops C (λa=>∀w,Wd B h w→W P ex R cs N a w) [] n m:=λa c w d=>k a w (c.sub b) d
def By {ops:Array Oper}{C}(b:Un m m') (k:∀h',St S L h'→CJ S h S h'→WF P ex R cs N B h' n m'):QF P ops C (λa=>∀w h',Wd B h' w→St S L h'→CJ S h S h'→W P ex R cs N a w) [] n m:=
 λa c w h' d s e=>k h' s e a w (c.sub b) d
def LF.nil {ops:Array Oper}(b:Un m m') (k:WF P ex R cs N B h n m'):LF P ops (Qx ex R (W P ex R cs N)) [] B h n m:=λa w c d=>nU (k a w (c.sub b) d)
def AJ {ops:Array Oper}{Q:Exit→Act→World→Prop}{l:List Oper}(j:Nat) (k:QF P ops (Wd B h) (λa=>∀w,Wd B h w→wpList P ops Q (l.drop j) a w) (l.take j) n m):LF P ops Q l B h n m:=λa _ b c=>l_q j c (k a b)
def AE {ops:Array Oper}{C}{Q:Exit→Act→World→Prop}{l:List Oper}(k:LF P ops Q l B h n m):QF P ops C (λa=>∀w,Wd B h w→wpList P ops Q l a w) [] n m:=λa b w c=>k a w b c
def CL.go {f fn c l S h post}(n:Nat) (b:P.funcs[f]? =some fn) (d:fn.body=some c) (g:fn.ntmps=n) (i:Nat.ble l.length n=true)
  (k:∀B,WF P [] (Rt P fn B S h post) [c] (Rt P fn B S h post) B h (n,[]) (Xi 0 l)):CL P f l.toArray S h post:=
 CL.intro n b d g (Afh i) λB w a j b=>k B a w b j
end
section
variable {P:Program}{ops:Array Oper}{C:World→Prop}{Q:Act→Prop}{n:FN}{m m':SM}{rest:List Oper}
variable {d:Nat}{ty:TypeId}{pos:String}{af:Array Edge}{X Y:Operand}{t t1 t2:TypeId}{x y:Int}{kd:IntKind}{v p:Value}
def QF.nil (k:∀a,Fr n a m→Q a):QF P ops C Q [] n m:=λa b=>k a b
def Abk {l:List Oper}(b:Un m m') (k:QF P ops C Q l n m'):QF P ops C Q l n m:=λa c=>k a (c.sub b)
def ZC {o:Oper}{j e:Nat}{b:Bool}(d:o.guard=some (j,b)) (g:(ops[j]?).bind (·.dst)=some e) (i:lk m e=some (.bool b)) (k:QF P ops C Q ({ o with guard:=none}::rest) n m):QF P ops C Q (o::rest) n m:=
 λa c=>Aa0 c d g i (k a c)
def QF.gn {o:Oper}{j e:Nat}{b:Bool}(a:o.guard=some (j,!b)) (c:(ops[j]?).bind (·.dst)=some e) (g:lk m e=some (.bool b)) (i:o.dst=some d) (hd:Nat.blt d n.1=true) (k:QF P ops C Q rest n ((d,undef)::m)):QF P ops C Q (o::rest) n m:=
 λ_ l=>Aa1 l a c g i hd k
def vC (j:Nat) (m':SM) {l:List Oper}(c:QF P ops C (λa=>Fr n a m') (l.take j) n m) (d:QF P ops C Q (l.drop j) n m'):QF P ops C Q l n m:=
 λa g=>UK j (λa=>Fr n a m') (c a g) λi b=>d i b
def mC (b:Un m m'):QF P ops C (λa=>Fr n a m') [] n m:=λ_ c=>c.sub b
def oZ (a:B4 m X=some v) (hd:Nat.blt d n.1=true) (k:QF P ops C Q rest n ((d,v)::m)):QF P ops C Q (⟨some d,.move X,ty,pos,af,none⟩::rest) n m:=λ_ b=>Aay b a hd k
def iH (a:B4 m X=some v) (hd:Nat.blt d n.1=true) (k:QF P ops C Q rest n ((d,v)::m)):QF P ops C Q (⟨some d,.assign X,ty,pos,af,none⟩::rest) n m:=λ_ b=>Aa3 b a hd k
def RO {c X Y:Operand}{b:Bool}(a:B4 m c=some (.bool b)) (g:B4 m (if b then X else Y)=some v) (hd:Nat.blt d n.1=true) (k:QF P ops C Q rest n ((d,v)::m)):QF P ops C Q (⟨some d,.pick c X Y,ty,pos,af,none⟩::rest) n m:=λ_ i=>qZ i a g hd k
def Abo (a:B4 m X=some (.int .i64 x)) (b:B4 m Y=some (.int .i64 y)) (hd:Nat.blt d n.1=true) (c:AA (x+y)) (k:QF P ops C Q rest n ((d,.int .i64 (x+y))::m)):QF P ops C Q (⟨some d,.binOp .add t1 X Y t2,ty,pos,af,none⟩::rest) n m:=λ_ g=>xH g a b hd c k
def Abl (a:B4 m X=some (.int .i64 x)) (b:B4 m Y=some (.int .i64 y)) (hd:Nat.blt d n.1=true) (c:AA (x*y)) (k:QF P ops C Q rest n ((d,.int .i64 (x*y))::m)):QF P ops C Q (⟨some d,.binOp .mul t1 X Y t2,ty,pos,af,none⟩::rest) n m:=λ_ g=>wQ g a b hd c k
def mG (a:B4 m X=some (.int .i64 x)) (b:B4 m Y=some (.int .i64 y)) (hd:Nat.blt d n.1=true) (k:QF P ops C Q rest n ((d,.int .i64 (BT (x+y)))::m)):QF P ops C Q (⟨some d,.binOp .add t1 X Y t2,ty,pos,af,none⟩::rest) n m:=λ_ c=>rC c a b hd k
def lR (a:B4 m X=some (.int .i64 x)) (b:B4 m Y=some (.int .i64 y)) (hd:Nat.blt d n.1=true) (k:QF P ops C Q rest n ((d,.int .i64 (BT (x-y)))::m)):QF P ops C Q (⟨some d,.binOp .sub t1 X Y t2,ty,pos,af,none⟩::rest) n m:=λ_ c=>qY c a b hd k
def iB (a:B4 m X=some (.int kd x)) (b:B4 m Y=some (.int kd y)) (hd:Nat.blt d n.1=true) (k:QF P ops C Q rest n ((d,.bool (decide (x<y)))::m)):QF P ops C Q (⟨some d,.binOp .lss t1 X Y t2,ty,pos,af,none⟩::rest) n m:=λ_ c=>wU c a b hd k
def uV (a:B4 m X=some (.int kd x)) (b:B4 m Y=some (.int kd y)) (hd:Nat.blt d n.1=true) (k:QF P ops C Q rest n ((d,.bool (decide (x≤y)))::m)):QF P ops C Q (⟨some d,.binOp .leq t1 X Y t2,ty,pos,af,none⟩::rest) n m:=λ_ c=>wV c a b hd k
def iD (a:B4 m X=some (.int kd x)) (b:B4 m Y=some (.int kd y)) (hd:Nat.blt d n.1=true) (k:QF P ops C Q rest n ((d,.bool (decide (y<x)))::m)):QF P ops C Q (⟨some d,.binOp .gtr t1 X Y t2,ty,pos,af,none⟩::rest) n m:=λ_ c=>xC c a b hd k
def iE (a:B4 m X=some (.int kd x)) (b:B4 m Y=some (.int kd y)) (hd:Nat.blt d n.1=true) (k:QF P ops C Q rest n ((d,.bool (decide (y≤x)))::m)):QF P ops C Q (⟨some d,.binOp .geq t1 X Y t2,ty,pos,af,none⟩::rest) n m:=λ_ c=>xD c a b hd k
def iG (a:B4 m X=some (.int kd x)) (b:B4 m Y=some (.int kd y)) (hd:Nat.blt d n.1=true) (k:QF P ops C Q rest n ((d,.bool (decide (x=y)))::m)):QF P ops C Q (⟨some d,.binOp .eql t1 X Y t2,ty,pos,af,none⟩::rest) n m:=λ_ c=>xF c a b hd k
def iA (a:B4 m X=some (.int kd x)) (b:B4 m Y=some (.int kd y)) (hd:Nat.blt d n.1=true) (k:QF P ops C Q rest n ((d,.bool (decide (x≠y)))::m)):QF P ops C Q (⟨some d,.binOp .neq t1 X Y t2,ty,pos,af,none⟩::rest) n m:=λ_ c=>wP c a b hd k
def hJ {b}(a:B4 m X=some (.bool b)) (hd:Nat.blt d n.1=true) (k:QF P ops C Q rest n ((d,.bool (!b))::m)):QF P ops C Q (⟨some d,.unOp .not t1 X,ty,pos,af,none⟩::rest) n m:=λ_ c=>wN c a hd k
def Rw {aty}(a:B4 m X=some (.int kd x)) (b:B4 m Y=some (.int kd y)) (hd:Nat.blt d n.1=true) (k:QF P ops C Q rest n ((d,.int kd (Max.max x y))::m)):QF P ops C Q (⟨some d,.call ⟨.builtin .max,#[X,Y],#[t1,t2]⟩,aty,pos,af,none⟩::rest) n m:=λ_ c=>wT c a b hd k
def Xn {aty}(a:B4 m X=some (.int kd x)) (b:B4 m Y=some (.int kd y)) (hd:Nat.blt d n.1=true) (k:QF P ops C Q rest n ((d,.int kd (Min.min x y))::m)):QF P ops C Q (⟨some d,.call ⟨.builtin .min,#[X,Y],#[t1,t2]⟩,aty,pos,af,none⟩::rest) n m:=λ_ c=>wR c a b hd k
def HO {T:TypeId}{a:Array (Nat×Operand)}{pl z pv cs}(b:Sz P T=some (pl,z)) (c:a.toList.mapM (Z8 m)=some pv) (g:Mr pl z pv=some cs) (hd:Nat.blt d n.1=true) (k:QF P ops C Q rest n ((d,.agg cs.toArray)::m)):QF P ops C Q (⟨some d,.build T a,ty,pos,af,none⟩::rest) n m:=λ_ i=>xG i b c g hd k
def Tn {T:TypeId}{ks xs ys}(a:B4 m X=some (.agg xs)) (b:B4 m Y=some (.agg ys)) (c:eR P T=some ks) (g:xs.toList.map NG=ks) (i:ys.toList.map NG=ks) (j:Qu xs.toList ys.toList=true) (hd:Nat.blt d n.1=true) (k:QF P ops C Q rest n ((d,.bool (!RE xs.toList ys.toList))::m)):QF P ops C Q (⟨some d,.binOp .neq T X Y t2,ty,pos,af,none⟩::rest) n m:=λ_ l=>wO l a b c g i j hd k
def Ew {b o j off}(a:B4 m X=some (.pointer (some ⟨b,o,none⟩))) (c:aA P t j off=true) (hd:Nat.blt d n.1=true) (k:QF P ops C Q rest n ((d,.pointer (some ⟨b,o+off,none⟩))::m)):QF P ops C Q (⟨some d,.fieldAddr t X j,ty,pos,af,none⟩::rest) n m:=λ_ g=>xE g a c hd k
def Pw {ad len cap aty e sz}(a:B4 m X=some (.slice ad len cap)) (b:O3 P t e sz=true) (hd:Nat.blt d n.1=true) (k:QF P ops C Q rest n ((d,.int .i64 len)::m)):QF P ops C Q (⟨some d,.call ⟨.builtin .len,#[X],#[t]⟩,aty,pos,af,none⟩::rest) n m:=λ_ c=>rA c a b hd k
section
variable {A S:Nat→Prop}{L:List HP}{h:AS}
def Le {α}{r:A5 α}{x}(g:CK C h) (i:∀b,A b→b<h.size) (j:B4 m X=some p) (k0:NX A S h r p x) (l:Kh P t r.sz r.ag=true) (o:r.ag=false→r.sz=1) (hd:Nat.blt d n.1=true)
  (k:∀v,Rd S h r v x→QF P ops C Q rest n ((d,v)::m)):QF P ops C Q (⟨some d,.load t X,ty,pos,af,none⟩::rest) n m:=λ_ c=>cX g i c j k0 l o hd λv a c q=>k v q a c
def Fs {x}(g:CK C h) (i:∀b,A b→b<h.size) (j:B4 m X=some p) (k0:NX A S h AB p x) (l:Kh P t 1 false=true) (hd:Nat.blt d n.1=true)
  (k:AA x→QF P ops C Q rest n ((d,.int .i64 x)::m)):QF P ops C Q (⟨some d,.load t X,ty,pos,af,none⟩::rest) n m:=λ_ c=>xA g i c j k0 l hd λa c o=>k o a c
def uW {x}(a:CK C h) (c:∀b,A b→b<h.size) (g:B4 m X=some p) (k0:NX A S h A5.bool p x) (i:Kh P t 1 false=true) (hd:Nat.blt d n.1=true)
  (k:QF P ops C Q rest n ((d,.bool x)::m)):QF P ops C Q (⟨some d,.load t X,ty,pos,af,none⟩::rest) n m:=λ_ j=>xB a c j g k0 i hd k
def Vb {x}(g:CK C h) (i:∀b,A b→b<h.size) (j:B4 m X=some p) (k0:NX A S h A5.str p x) (l:Kh P t 1 false=true) (hd:Nat.blt d n.1=true)
  (k:x.size≤maxLen→QF P ops C Q rest n ((d,.string x)::m)):QF P ops C Q (⟨some d,.load t X,ty,pos,af,none⟩::rest) n m:=λ_ c=>wX g i c j k0 l hd λa c o=>k o a c
def G6 {α}{r:A5 α}{x}(g:CK C h) (i:∀b,A b→b<h.size) (j:B4 m X=some p) (k0:NX A S h r.sl p x) (l:Kh P t 1 false=true) (hd:Nat.blt d n.1=true)
  (k:∀v,Sl S h r v x→QF P ops C Q rest n ((d,v)::m)):QF P ops C Q (⟨some d,.load t X,ty,pos,af,none⟩::rest) n m:=λ_ c=>wZ g i c j k0 l hd λv a c o=>k v o a c
def Nf {α β}{r:A5 α}{r':A5 β}{f:α→β}{j off x}(c:B4 m X=some p) (k0:NX A S h r p x) (g:FZ r off r' f) (i:aA P t j off=true) (hd:Nat.blt d n.1=true)
  (k:∀q,NX A S h r' q (f x)→QF P ops C Q rest n ((d,q)::m)):QF P ops C Q (⟨some d,.fieldAddr t X j,ty,pos,af,none⟩::rest) n m:=λ_ b=>Aa2 b c k0 g i hd λq a b l=>k q l a b
def zP {α}{r:A5 α}{l:List α}{e i x}(c:B4 m X=some v) (g:B4 m Y=some (.int .i64 i)) (k0:Sl S h r v l) (j:O3 P t e r.sz=true) (h0:0≤i) (o:l[i.toNat]? =some x) (hd:Nat.blt d n.1=true)
  (k:∀q,Pt S h r q x→QF P ops C Q rest n ((d,q)::m)):QF P ops C Q (⟨some d,.indexAddr t X Y,ty,pos,af,none⟩::rest) n m:=λ_ b=>Aaz b c g k0 j h0 o hd λq a b p=>k q p a b
def uX {α}{r:A5 α}{l:List α}{T e i x}(p:St S L h) (s:OS r T v l∈L) (u:B4 m X=some v) (y:B4 m Y=some (.int .i64 i)) (z:O3 P t e r.sz=true) (h0:0≤i) (o:l[i.toNat]? =some x) (hd:Nat.blt d n.1=true)
  (k:∀q,NX (λb=>b<h.size) S h r q x→EP v (i.toNat*r.sz) q→QF P ops C Q rest n ((d,q)::m)):QF P ops C Q (⟨some d,.indexAddr t X Y,ty,pos,af,none⟩::rest) n m:=by
 obtain⟨g,cap,rfl,A⟩:=p.osAt s o;have B:i.toNat<l.length:=(Acq.1 o).1;have c:(⟨g,0,none⟩:Addr).add (i.toNat*r.sz)=⟨g,i.toNat*r.sz,none⟩:=by unfold Addr.add;split<;>simp_all
 intro a j;refine GI j hd (λw _=>by simp [execOp,j.eval u,j.eval y,MM (P:=P) (w:=w) (cap:=cap) (a:=⟨g,0,none⟩) z h0 B,c]) (k _ A ⟨g,_,_,rfl,rfl⟩)
def LE {α}{r:A5 α}{l:List α}{aty e}(c:B4 m X=some v) (k0:Sl S h r v l) (g:O3 P t e r.sz=true) (hd:Nat.blt d n.1=true)
  (k:l.length≤maxLen→QF P ops C Q rest n ((d,.int .i64 l.length)::m)):QF P ops C Q (⟨some d,.call ⟨.builtin .len,#[X],#[t]⟩,aty,pos,af,none⟩::rest) n m:=λ_ b=>wW b c k0 g hd λa b i=>k i a b
def OT {α}{r:A5 α}{l:List α}{T aty e sz}(b:St S L h) (c:OS r T v l∈L) (g:B4 m X=some v) (i:O3 P t e sz=true) (hd:Nat.blt d n.1=true)
  (k:l.length≤maxLen→QF P ops C Q rest n ((d,.int .i64 l.length)::m)):QF P ops C Q (⟨some d,.call ⟨.builtin .len,#[X],#[t]⟩,aty,pos,af,none⟩::rest) n m:=by
 obtain⟨j,cap,rfl,a⟩:=b.oslen c;exact Pw g i hd (k a)
def Fq {T b o sz:Nat}{ag:Bool}{cs vs:List Value}(a:CK C h) (c:St S L h) (g:B4 m X=some (.pointer (some ⟨b,o,none⟩))) (i:Bx b T cs∈L) (j:(cs.drop o).take sz=vs) (l:Nat.beq vs.length sz=true) (p:Kh P t sz ag=true) (q:(ag||Nat.beq sz 1)=true) (hd:Nat.blt d n.1=true)
  (k:QF P ops C Q rest n ((d,if ag then .agg vs.toArray else vs.headD undef)::m)):QF P ops C Q (⟨some d,.load t X,ty,pos,af,none⟩::rest) n m:=λ_ s=>wY a c s g i j l p q hd k
end
def mD {f:Nat}{xs:Array Operand}{c:Array TypeId}{a vs:List Value}{first cap:Array Value}{h B}
  (l:B4 m X=some (.func (.func f) first cap)) (g:xs.toList.mapM (B4 m)=some a) (i:first.toList++a++cap.toList=vs) (j:BJ P f=true) (hd:Nat.blt d n.1=true)
  (o:∀h',EY h h'→CL P f vs.toArray (λb=>b<h'.size) h' (λu _ _=>u=v))
  (k:QF P ops (Cl B h) Q rest n ((d,v)::m)):QF P ops (Cl B h) Q (⟨some d,.call ⟨.value X,xs,c⟩,ty,pos,af,none⟩::rest) n m:=λ_ p=>rB p l g i j hd o k
end
section
variable {P:Program}{ops:Array Oper}{Q:Exit→Act→World→Prop}{n:FN}{m:SM}{rest:List Oper}
variable {d:Nat}{ty:TypeId}{pos:String}{af:Array Edge}{X Y:Operand}{B:World}{h:AS}{S:Nat→Prop}{L L2:List HP}{v:Value}
def NQ {T:TypeId}{cs:List Value}(j:B4 m X=some v) (l:v.cells=cs.toArray) (hd:Nat.blt d n.1=true) (c:St S L h)
  (k:∀b h',St S (Bx b T cs::L) h'→CJ S h S h'→LF P ops Q rest B h' n ((d,.pointer (some ⟨b,0,none⟩))::m)):LF P ops Q (⟨some d,.box T X,ty,pos,af,none⟩::rest) B h n m:=
 λ_ _ g i=>nV g j l hd i c λb a w h' g i c e=>k b h' c e a w g i
def CZ {T:TypeId}{α}{r:A5 α}{x:α}(i:B4 m X=some v) (j:Rd S h r v x) (l:r.ag=false→r.sz=1) (hd:Nat.blt d n.1=true) (b:St S L h)
  (k:∀p S' h',St S' L h'→CJ S h S' h'→Pt S' h' r p x→LF P ops Q rest B h' n ((d,p)::m)):LF P ops Q (⟨some d,.box T X,ty,pos,af,none⟩::rest) B h n m:=
 λ_ _ c g=>rI c i j l hd g b λp a w S' h' c g b e kp=>k p S' h' b e kp a w c g
def Dp {T:TypeId}{cs:List Value}(j:FM P T=some cs) (hd:Nat.blt d n.1=true) (c:St S L h)
  (k:∀b h',St S (Bx b T cs::L) h'→CJ S h S h'→LF P ops Q rest B h' n ((d,.pointer (some ⟨b,0,none⟩))::m)):LF P ops Q (⟨some d,.alloc T,ty,pos,af,none⟩::rest) B h n m:=
 λ_ _ g i=>Aa8 g j hd i c λb a w h' g i c e=>k b h' c e a w g i
def Lx {T l:TypeId}{b o:Nat}{cs vs cs':List Value}{sz:Nat}{ag:Bool}(p:B4 m X=some (.pointer (some ⟨b,o,none⟩))) (q:B4 m Y=some v) (s:v.cells=vs.toArray) (t:∀u∈vs,u.oneCell'=true)
  (x:Kh P T sz ag=true) (d:vs.length=sz) (g:St S L h) (r:Mx L (Bx b l cs) (Bx b l cs') L2) (c:Nat.ble (o+sz) cs.length=true) (y:H7 cs o vs=cs')
  (k:∀h',St S L2 h'→CJ S h S h'→LF P ops Q rest B h' n m):LF P ops Q (⟨none,.store T X Y,ty,pos,af,none⟩::rest) B h n m:=
 λ_ _ i j=>Aa5 i p q s t x d c y j g r λa w h' i j g e=>k h' g e a w i j
def zT {α}{r:A5 α}{T e sz b:Nat}{z:List Value}{zx:α}{len cap:Nat}{q s:IntKind}{U V:Operand}(t:Nc P T=some (e,sz,b,z)) (c:r.sz=sz) (u:r.rd S h z zx)
  (x:B4 m U=some (.int q (len:Nat))) (y:B4 m V=some (.int s (cap:Nat))) (g:len≤cap) (i:b*cap≤281474976710656) (j:cap≤maxLen) (hd:Nat.blt d n.1=true) (l:St S L h)
  (k:∀v h',St S (OS r e v (List.replicate len zx)::L) h'→CJ S h S h'→LF P ops Q rest B h' n ((d,v)::m)):LF P ops Q (⟨some d,.makeSlice T U V,ty,pos,af,none⟩::rest) B h n m:=
 λ_ _ o p=>Aa6 o t c u x y g i j hd p l λv a w h' o p l e=>k v h' l e a w o p
def mO {α}{r:A5 α}{T e sz i:Nat}{z:List Value}{l xs:List α}{x y b sc:Nat}{c:List Value}{LL:Value→List HP}(A:B4 m X=some v) (C:B4 m Y=some (.slice (some ⟨x,0,none⟩) b sc)) (D:Nc P T=some (e,sz,i,z)) (j:r.sz=sz)
  (F:Bx x y c∈L) (G:Me S h r c xs) (o:b=xs.length) (p:l.length+xs.length≤maxLen) (q:Md (l.length+xs.length) i) (hd:Nat.blt d n.1=true) (s:St S L h) (H:∀g,Mx L (OS r e v l) (OS r e g (l++xs)) (LL g))
  (k:∀g h',St S (LL g) h'→CJ S h S h'→LF P ops Q rest B h' n ((d,g)::m)):LF P ops Q (⟨some d,.call ⟨.builtin .append,#[X,Y],#[T,T]⟩,ty,pos,af,none⟩::rest) B h n m:=
 λ_ _ t u=>rK t A C D j F G o p q hd u s H λg a w h' t u s e=>k g h' s e a w t u
def iK {T e sz g len:Nat}{z cs:List Value}{c:Array (Nat×Operand)}{pv:List (Nat×Value)}(t:Nc P T=some (e,sz,g,z)) (u:c.toList.mapM (Z8 m)=some pv)
  (v:Mr (U4 sz len) (List.replicate len z).flatten pv=some cs) (i:Nat.blt 0 len=true) (j:Nat.ble (len*sz) 16777216=true) (l:∀p∈pv,p.1<len) (hd:Nat.blt d n.1=true) (o:St S L h)
  (k:∀b h',St S (Bx b e cs::L) h'→CJ S h S h'→LF P ops Q rest B h' n ((d,.slice (some ⟨b,0,none⟩) len len)::m)):LF P ops Q (⟨some d,.buildSlice T len c,ty,pos,af,none⟩::rest) B h n m:=
 λ_ _ q s=>Aa7 q t u v i j hd s o l λb a w h' q s o e=>k b h' o e a w q s
def CY {f:Nat}{xs:Array Operand}{g:Array TypeId}{b vs:List Value}{first cap:Array Value}{c:Value→(Nat→Prop)→AS→Prop}
  (s:B4 m X=some (.func (.func f) first cap)) (i:xs.toList.mapM (B4 m)=some b) (j:first.toList++b++cap.toList=vs) (l:BJ P f=true) (hd:Nat.blt d n.1=true) (t:CL P f vs.toArray S h c)
  (k:∀v S' h',CJ S h S' h'→c v S' h'→LF P ops Q rest B h' n ((d,v)::m)):LF P ops Q (⟨some d,.call ⟨.value X,xs,g⟩,ty,pos,af,none⟩::rest) B h n m:=
 λ_ _ o q=>dP o s i j l hd q t λv a w S' h' o q e p=>k v S' h' e p a w o q
end
end Go.Proofs.YtabonambpbofgaaGreat
