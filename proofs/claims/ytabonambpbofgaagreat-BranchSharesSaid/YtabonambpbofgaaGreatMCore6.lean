import Derived.Test.YtabonambpbofgaaGreatMCore4
import Derived.Deep.DeepAppendWide
namespace Go.Proofs.YtabonambpbofgaaGreat
set_option linter.all false
open Go.RowKit
def L5 {α}(S:Nat→Prop) (h:AO) (r:A5 α):List Value→List α→Prop
 |cs,[]=>cs=[]
 |cs,x::l=>∃a b,cs=a++b∧r.rd S h a x∧L5 S h r b l
def L5.mono {α S S' h h'}{r:A5 α}:∀{l:List α}{cs},L5 S h r cs l→(∀b,S b→S' b)→(∀b,S b→h'[b]? =h[b]?)→L5 S' h' r cs l
 |[],_,k,_,_=>k
 |_::_,_,⟨a,c,e,d,g⟩,s,q=>⟨a,c,e,r.mono d s q,g.mono s q⟩
def L5.len {α S h}{r:A5 α}:∀{l:List α}{cs},L5 S h r cs l→cs.length=l.length*r.sz
 |[],_,k=>by have k:_=[]:=k;subst k;simp
 |_::l,_,⟨c,d,e,a,b⟩=>by subst e;rw[Abi,r.len a,b.len,Ac3,Ack];omega
def L5.one {α S h}{r:A5 α}:∀{l:List α}{cs},L5 S h r cs l→∀v∈cs,v.oneCell'=true
 |[],_,k,v,a=>by have k:_=[]:=k;subst k;cases a
 |_::_,_,⟨d,g,e,b,c⟩,v,a=>by subst e;exact(Abp.1 a).elim (r.one b v) (c.one v)
def L5.append {α S h}{r:A5 α}:∀{l c:List α}{cs a},L5 S h r cs l→L5 S h r a c→L5 S h r (cs++a) (l++c)
 |[],_,_,_,k,b=>by have k:_=[]:=k;subst k;exact b
 |_::_,_,_,_,⟨d,g,e,i,b⟩,j=>by subst e;exact⟨d,g++_,by simp,i,b.append j⟩
def L5.at_ {α S h}{r:A5 α}:∀{l:List α}{cs}{i:Nat}{x},L5 S h r cs l→l[i]? =some x→r.rd S h ((cs.drop (i*r.sz)).take r.sz) x
 |[],_,_,_,_,a=>by simp at a
 |y::l,_,0,x,⟨b,c,e,d,g⟩,a=>by
  subst e;simp only[Acx,Abr] at a;subst a;have:=r.len d;simp only[Nat.zero_mul,List.drop_zero,←this,List.take_left];exact d
 |y::l,_,i+1,x,⟨b,c,e,d,g⟩,a=>by
  subst e;simp only[Acs] at a;have j:=r.len d;have m:(i+1)*r.sz=b.length+i*r.sz:=by rw[j,Ack];omega
  rw[m,List.drop_append_of_le_length_add];exact g.at_ a
 where
 List.drop_append_of_le_length_add:∀{b c:List Value} {k:Nat},(b++c).drop (b.length+k)=c.drop k:=by
  intro b c k;rw[←List.drop_drop,List.drop_left]
def Vp (cs:List Value) (o:Nat) (vs:List Value) (h:o+vs.length≤cs.length):(Hq cs o vs).length=cs.length:=by
 simp [Hq];omega
def L5.set {α S h}{r:A5 α}:∀{l:List α}{cs}{i o:Nat}{x y}{vs:List Value},L5 S h r cs l→l[i]? =some x→o+vs.length≤r.sz→(∀c,r.rd S h c x→r.rd S h (Hq c o vs) y)→L5 S h r (Hq cs (i*r.sz+o) vs) (l.set i y)
 |[],_,_,_,_,_,_,_,a,_,_=>by simp at a
 |z::l,_,0,o,x,y,vs,⟨b,g,e,d,j⟩,a,m,k=>by
  subst e;simp only[Acx,Abr] at a;subst a;have n:=r.len d;refine⟨Hq b o vs,g,?_,k _ d,j⟩;simp only[Hq,Nat.zero_mul,Abt];rw[List.take_append_of_le_length (by omega),List.drop_append_of_le_length (by omega)];simp
 |z::l,_,i+1,o,x,y,vs,⟨b,g,e,d,j⟩,a,m,k=>by
  subst e;simp only[Acs] at a;have n:=r.len d;refine⟨b,Hq g (i*r.sz+o) vs,?_,d,j.set a m k⟩;have p:(i+1)*r.sz+o=b.length+(i*r.sz+o):=by rw[n,Ack];omega
  simp only[Hq];rw[p,Nat.add_assoc b.length,←List.drop_drop,List.drop_left,List.take_length_add_append];simp
def OS {α}(r:A5 α) (T:TypeId) (v:Value) (l:List α):HP where
 holds:=λS F h=>((∃a,v= .slice a 0 0)∧l=[]∧∀b,¬F b)∨
  ∃g cap cur,v= .slice (some ⟨g,0,none⟩) l.length cap∧(∀b,F b↔b=g)∧h[g]? =some (.cells cur T (0,0))∧l.length≤cap∧cap≤maxLen∧cur.size=cap*r.sz∧L5 S h r (cur.toList.take (l.length*r.sz)) l
 loc:=λk s e=>by
  rcases k with k|⟨g,cap,cur,k1,k2,k3,k4,k5,k6,k7⟩
  ·exact .inl k
  ·exact .inr ⟨g,cap,cur,k1,k2,(e g (.inr ((k2 g).2 rfl))).trans k3,k4,k5,k6,k7.mono s λb c=>e b (.inl c)⟩
section
variable {α:Type}{r:A5 α}{T:TypeId}{v:Value}{l:List α}{S F:Nat→Prop}{h:AO}{L L2:List HP}
def OS.len (k:(OS r T v l).holds S F h):∃a cap,v= .slice a l.length cap∧l.length≤maxLen:=by
 rcases k with ⟨⟨a,b⟩,h2,_⟩|⟨g,cap,cur,b,h2,h3,h4,h5,_⟩
 ·subst h2;exact⟨a,0,b,Aaw _⟩
 ·exact⟨_,cap,b,Ab5 h4 h5⟩
def St.oslen (a:St S L h) (b:OS r T v l∈L):∃c cap,v= .slice c l.length cap∧l.length≤maxLen:=by
 obtain⟨F,k,_⟩:=a.get b;exact OS.len k
def St.nil (a:St S L h) (r:A5 α) (T:TypeId):St S (OS r T (.slice none 0 0) ([]:List α)::L) h:=
 (a.add (Aa7 _) (λ_ _=>rfl) ⟨λ_=>False,Or.inl ⟨⟨none,rfl⟩,rfl,λ_ x=>x⟩,λ_ x=>x.elim⟩).1
def OS.sl (k:(OS r T v l).holds S F h) (s:∀b,F b→S b):Sl S h r v l:=by
 rcases k with ⟨⟨d,a⟩,h2,_⟩|⟨g,cap,cur,a,h2,h3,h4,h5,h6,h7⟩
 ·subst h2;cases d with
  |none=>exact .inl ⟨a,rfl⟩
  |some d=>exact .inr ⟨d,0,a,Aa7 _,Aaw _,λi x c=>by simp at c⟩
 ·refine .inr ⟨⟨g,0,none⟩,cap,a,h4,h5,λi x c=>⟨rfl,?_⟩⟩;have m:=h7.at_ c;have n:i<l.length:=(Aa4.1 c).1;have p:i*r.sz+r.sz≤l.length*r.sz:=by rw[←Ack];exact Aca _ n
  refine⟨_,⟨⟨g,0+i*r.sz,none⟩,rfl,rfl,s g ((h2 g).2 rfl),λj q=>?_⟩,m⟩;have o:j<r.sz:=by simp only[Ab6,Ac9] at q;omega
  simp only[JN,h3,Abt,Adu,Aco,Acp];rw[Acg o,Ac2,Acg (by omega),Array.getElem?_toList]
def St.pubs (c:St S L h) (p:PY L (OS r T v l) L2):∃S',St S' L2 h∧BF S h S' h∧Sl S' h r v l:=by
 obtain⟨F,d,j,g,a⟩:=c.pub p;exact⟨_,g,a,OS.sl (HP.loc _ d a.sub λ_ _=>rfl) λb i=> .inr i⟩
def St.oslAll (c:St S L h) (d:OS r T v l∈L):Sl (λb=>b<h.size) h r v l:=by
 obtain⟨F,g,i⟩:=c.get d;exact OS.sl (HP.loc _ g (λb a=>c.1 b a) λ_ _=>rfl) λb a=>(i b a).1
def St.osAt (p:St S L h) (q:OS r T v l∈L) {i:Nat}{x:α}(a:l[i]? =some x):
  ∃(g cap:Nat),v= .slice (some ⟨g,0,none⟩) l.length cap∧Mv (λb=>b<h.size) S h r (.pointer (some ⟨g,i*r.sz,none⟩)) x:=by
 obtain⟨F,k,s⟩:=p.get q;rcases k with ⟨o,c,_⟩|⟨g,cap,cur,o,c,k3,k4,k5,k6,k7⟩
 ·subst c;simp at a
 ·have d:=k7.at_ a;have m:i<l.length:=(Aa4.1 a).1;have t:i*r.sz+r.sz≤l.length*r.sz:=by rw[←Ack];exact Aca _ m
  refine⟨g,cap,o,_,⟨⟨g,i*r.sz,none⟩,rfl,rfl,(s g ((c g).2 rfl)).1,λj u=>?_⟩,d⟩;have n:j<r.sz:=by simp only[Ab6,Ac9] at u;omega
  simp only[JN,k3,Adu,Aco,Acp];rw[Acg n,Ac2,Acg (by omega),Array.getElem?_toList]
end
def EP (v:Value) (k:Nat) (q:Value):Prop:=∃g n c,v= .slice (some ⟨g,0,none⟩) n c∧q= .pointer (some ⟨g,k,none⟩)
def NH (P:Program) (t:TypeId):Option (TypeId×Nat×Nat×List Value):=
 match P.underlying t with
 |some (.slice e)=>match P.info? e with
  |some i=>match i.zero with
   |some z=>if i.size=0|| !(z.cells.size==i.size) then none else some (e,i.size,i.bytes,z.cells.toList)
   |none=>none
  |none=>none
 |_=>none
def L3 {P t e sz by_ z}(h:NH P t=some (e,sz,by_,z)):∃i a,P.underlying t=some (.slice e)∧P.info? e=some i∧i.zero=some a∧i.size=sz∧i.bytes=by_∧a.cells=z.toArray∧z.length=sz∧0<sz:=by
 unfold NH at h;split at h
 ·rename_i j c;split at h
  ·rename_i i d;split at h
   ·rename_i a g;split at h
    ·cases h
    ·rename_i b;simp only[Abr,Adc] at h;obtain⟨rfl,rfl,rfl,rfl⟩:=h;simp only[Abh,Abd,not_or,Bool.not_eq_true,Ac4,beq_iff_eq] at b;exact⟨i,a,c,d,g,rfl,rfl,by simp,by simpa using b.2,by omega⟩
   ·cases h
  ·cases h
 ·cases h
section
variable {P:Program}{ops:Array Oper}{Q:Exit→Act→World→Prop}{n:FN}{a:Act}{m:List (Nat×Value)}{rest:List Oper}
variable {d:Nat}{ty:TypeId}{pos:String}{af:Array Edge}{X Y:Operand}{B w:World}{h:AO}{S:Nat→Prop}{L L2:List HP}
def RZ {α}{r:A5 α}{S h}{z:List Value}{x:α}(a:r.rd S h z x) (c:Nat):L5 S h r (List.replicate c z).flatten (List.replicate c x):=by
 induction c with
 |zero=>rfl
 |succ c b=>exact⟨z,_,by simp [List.replicate_succ],a,b⟩
def Mi (z:List Value) (c:Nat) (l:0<z.length):(madeCells z.toArray (c*z.length)).toList=(List.replicate c z).flatten:=by
 induction c with
 |zero=>simp [madeCells]
 |succ c j=>
  have k:List.replicate (c+1) z=List.replicate c z++[z]:=by rw[List.replicate_succ']
  rw[k,List.flatten_append,←j];apply Abw;intro i;have g:(madeCells z.toArray (c*z.length)).toList.length=c*z.length:=by simp [size_madeCells]
  rw[List.getElem?_append];simp only[madeCells,Array.toList_map,Array.toList_range,Adv,List.length_range];have m:(c+1)*z.length=c*z.length+z.length:=Ack _ _;by_cases a:i<c*z.length
  ·rw[Aav a];simp [Adw a,Adw (show i<(c+1)*z.length by omega)]
  ·rw[Aas a];by_cases b:i<(c+1)*z.length
   ·have e:i%z.length=i-c*z.length:=by
     have:i=(i-c*z.length)+z.length*c:=by rw[Add z.length c];omega
     rw[this,Nat.add_mul_mod_self_left,Adk (by omega),Add];omega
    have d:i-c*z.length<z.length:=by omega
    simp [Adw b,e,d]
   ·rw[Abj (by simp;omega),Abj (by simp;omega)]
def yX {α}{r:A5 α}{T e sz g:Nat}{z:List Value}{zx:α}{len cap:Nat}{C D:IntKind}{U V:Operand}(u:Fr n a m) (I:NH P T=some (e,sz,g,z)) (l:r.sz=sz) (J:r.rd S h z zx)
  (M:Bz m U=some (.int C (len:Nat))) (W:Bz m V=some (.int D (cap:Nat))) (o:len≤cap) (X:g*cap≤281474976710656) (p:cap≤maxLen) (hd:Nat.blt d n.1=true) (F:Wd B h w) (G:St S L h)
  (k:∀v a w h',Fr n a ((d,v)::m)→Wd B h' w→St S (OS r e v (List.replicate len zx)::L) h'→BF S h S h'→wpList P ops Q rest a w):
  wpList P ops Q (⟨some d,.makeSlice T U V,ty,pos,af,none⟩::rest) a w:=by
 refine wpList_plain rfl λK Y=>?_;unfold Oper.wp;obtain⟨i,Z,h1,h2,h3,h4,h5,h6,H,h8⟩:=L3 I;have q:=run_make (P:=P) w T e i Z h1 h2 h3 C D (len:Int) (cap:Int) (by omega) (by omega) (by rw[h5];omega) (by unfold maxLen at p;omega);simp only[Abx,h6,h4] at q;have s:(execOp a.eval ⟨some d,.makeSlice T U V,ty,pos,af,none⟩).run P w= .ok (.value (.slice (some ⟨w.heap.size,0,none⟩) len cap)) (w.alloc (.cells (madeCells z.toArray (cap*sz)) e)):=by
  simp [execOp,u.eval M,u.eval W,q]
 rw[s];have c:(madeCells z.toArray (cap*sz)).toList=(List.replicate cap z).flatten:=by rw[←H];exact Mi z cap (by omega)
 have y:(OS r e (.slice (some ⟨h.size,0,none⟩) len cap) (List.replicate len zx)).holds S (λb=>b=h.size) (h.push (.cells (madeCells z.toArray (cap*sz)) e)):=by
  refine .inr ⟨h.size,cap,madeCells z.toArray (cap*sz),by simp,λ_=>Iff.rfl,Lt _ _,by simpa using o,p,by rw[size_madeCells,l],?_⟩;rw[c];have:((List.replicate cap z).flatten).take ((List.replicate len zx).length*r.sz)=(List.replicate len z).flatten:=by
   obtain⟨j,rfl⟩:=Nat.exists_eq_add_of_le o;rw[←List.replicate_append_replicate,List.flatten_append,List.length_replicate,l,←H];have:(List.replicate len z).flatten.length=len*z.length:=by simp
   rw[←this,List.take_left]
  rw[this];exact(RZ J len).mono (λ_ x=>x) λb t=>IL _ _ _ (G.1 b t)
 obtain⟨g1,g2⟩:=G.add (h':=h.push (.cells (madeCells z.toArray (cap*sz)) e)) (by simp) (λb t=>IL _ _ _ t) ⟨_,y,λb t=>by subst t;simp⟩;have A:=F.heap;exact Y _ _ (k _ _ _ _ (u.put hd _) (F.alloc _) (by rw[A];exact g1) g2)
def L4 (n b:Nat):Prop:=n*b≤140737488355328∨(n*b≤175921860444160∧b≤274877906944)
def L4.le {n b:Nat}(h:L4 n b):n*b≤281474976710656:=by unfold L4 at h;omega
def TG {a b bytes:Nat}(h:b<a) (c:L4 a bytes):Builtin.nextslicecap a b*bytes≤281474976710656:=by
 rcases c with c|⟨h1,h2⟩
 ·exact growslice_fits h c
 ·refine growslice_fits_wide h ?_;have d:=Aca bytes (Nat.div_mul_le_self a 4);rw[Nat.mul_right_comm] at d;rw[Acb,Acb];omega
def UR {α}{r:A5 α}{T ty e sz Q:Nat}{z:List Value}{v s:Value}{l xs:List α}{J:Addr}{sc:Nat}{a:List Value}{F:Nat→Prop}(he:NH P T=some (e,sz,Q,z)) (c:r.sz=sz)
  (af:s= .slice (some J) xs.length sc) (V:L5 S h r a xs) (hc:∀j u,a[j]? =some u→JN h (J.add j)=some u)
  (W:l.length+xs.length≤maxLen) (X:L4 (l.length+xs.length) Q) (d:Wd B h w) (k:(OS r e v l).holds S F h) (hS:∀b,S b→b<h.size∧¬F b):
  ∃v' w' h' F',(Builtin.append_ #[T,T] ty #[v,s]).run P w= .ok v' w'∧Wd B h' w'∧h.size≤h'.size∧(OS r e v' (l++xs)).holds S F' h'∧(∀b,F' b→F b∨(h.size≤b∧b<h'.size))∧∀b,b<h.size→¬F b→h'[b]? =h[b]? :=by
 obtain⟨i,K,Y,Z,h3,G,h5,h6,h7,h8⟩:=L3 he;subst af;have m:=V.len;rw[c,←G] at m;have aa:l.length+xs.length≤9223372036854775807:=by unfold maxLen at W;omega
 have H:∀j u,a[j]? =some u→w.cell? (J.add j)=some u:=λj u I=>by rw[Lu,d.heap];exact hc j u I
 have ag:K.cells.size=sz:=by rw[h6];simpa using h7
 have t:∀(p:List Value) (q:Nat),L5 S h r p l→q<l.length+xs.length→
   (OS r e (.slice (some ⟨h.size,0,none⟩) (l.length+xs.length) (grownCap w (l.length+xs.length) q e)) (l++xs)).holds S (λb=>b=h.size)
    (h.push (.cells (p.toArray++a.toArray++Builtin.zeroCells K.cells (grownCap w (l.length+xs.length) q e-(l.length+xs.length))) e)):=by
  intro p q ho aj;have ah:=grownCap_ge w (l.length+xs.length) q e;refine .inr ⟨h.size,_,_,by rw[Abi],λ_=>Iff.rfl,Lt _ _,by rw[Abi];exact ah,grownCap_le_maxLen w _ q e W,?_,?_⟩
  ·have:=ho.len;simp only[Array.size_append,Adx,size_zeroCells,ag,this,m,G,c,←Acb];congr 1;omega
  ·have y:(l++xs).length*r.sz=(p++a).length:=by rw[Abi,Abi,ho.len,V.len,Acb]
   rw[y];simp only[Array.toList_append];rw[List.take_left];exact(ho.append V).mono (λ_ x=>x) λb n=>IL _ _ _ (hS b n).1
 rcases k with ⟨⟨U,rfl⟩,rfl,hF⟩|⟨g,cap,cur,rfl,hF,hg,hlc,hcm,hcs,hrd⟩
 ·by_cases hx:xs.length=0
  ·have ai:xs=[]:=Aei hx;subst ai;refine⟨.slice U 0 0,w,h,F,?_,d,Aa7 _,.inl ⟨⟨U,rfl⟩,rfl,hF⟩,λb n=> .inl n,λ_ _ _=>rfl⟩;cases U<;>simp [Builtin.append_,run_underlying Y,sizeOf,typeInfo,Z,Builtin.lenOf,Builtin.firstCells,loadCells,loadCellsFrom,storeCells]
  ·have M:L4 xs.length Q:=by simpa using X
   have ak:=M.le;have hr:(Builtin.append_ #[T,T] ty #[.slice U 0 0,.slice (some J) xs.length sc]).run P w= .ok (.slice (some ⟨w.heap.size,0,none⟩) xs.length (grownCap w xs.length 0 e)) (w.drew.alloc (.cells (a.toArray++Builtin.zeroCells K.cells (grownCap w xs.length 0 e-xs.length)) e)):=by
    cases U with
    |none=>exact run_append_nil (P:=P) w T ty e i K Y Z h3 J xs.length sc a m H (by omega) (by simp at aa;omega) (by rw[h5];omega)
    |some U=>
     have hq:=run_append_grow (P:=P) w T ty e i K Y Z h3 U 0 0 [] (by simp) (λj u I=>by simp at I) J xs.length sc a m H (by omega) (by omega) (TG (by omega) (by rw[h5];simpa using M));simpa using hq
   have A:=t [] 0 rfl (by simp;omega);simp only[List.length_nil,Abt,Aa6,Array.empty_append] at A;refine⟨_,_,h.push (.cells (a.toArray++Builtin.zeroCells K.cells (grownCap w xs.length 0 e-xs.length)) e),λb=>b=h.size,hr,⟨?_,d.os,d.tape,d.out⟩,by simp,?_,λb n=> .inr (by subst n;simp),λb n _=>IL _ _ _ n⟩
   ·show(w.heap.push _)=_;rw[d.heap]
   ·rw[d.heap];exact A
 ·have ab:w.heap[g]? =some (.cells cur e (0,0)):=by rw[d.heap];exact hg
  by_cases o:l.length+xs.length≤cap
  ·have ac:l.length*i.size+a.length≤cur.size:=by rw[m,hcs,G,c,←Acb];exact Aca _ o
   have hr:=run_append_room (P:=P) w T ty e i Y Z g l.length cap cur ab J xs.length sc a m H (λu I=>V.one u I) o ac;obtain⟨h',e1,e2,e3,e4⟩:=QL w g cur (c':=(cur.toList.take (l.length*i.size)++a++cur.toList.drop (l.length*i.size+a.length)).toArray) e ab;rw[d.heap] at e2 e4;refine⟨_,_,h',F,hr,⟨e1,d.os,d.tape,d.out⟩,by omega,.inr ⟨g,cap,_,by rw[Abi],hF,e3,by rw[Abi];exact o,hcm,?_,?_⟩,λb n=> .inl n,λb _ n=>e4 b λe=>n ((hF b).2 e)⟩
   ·simp only[Adx,Abi,Ab6,Ac9,Array.length_toList];omega
   ·have C:=hrd.len;rw[c,←G] at C;have y:(l++xs).length*r.sz=(cur.toList.take (l.length*i.size)++a).length:=by
     rw[Abi,Abi,C,m,Acb,c,G]
    rw[y,List.take_left,G,←c];exact(hrd.append V).mono (λ_ x=>x) λb n=>e4 b λe=>(hS b n).2 ((hF b).2 e)
  ·have D:∀j u,(cur.toList.take (l.length*r.sz))[j]? =some u→w.cell? ((⟨g,0,none⟩:Addr).add j)=some u:=λj u I=>by
    have ae:(⟨g,0,none⟩:Addr).add j=⟨g,j,none⟩:=by unfold Addr.add;split<;>simp_all
    rw[ae,Lu,d.heap];have hj:j<l.length*r.sz:=by
     have:=(Aa4.1 I).1;simp at this;omega
    rw[Acg hj] at I;simp only[JN,hg,Adu,Aco,Acp];simpa using I
   have C:=hrd.len;rw[c,←G] at C;rw[c,←G] at D;have hr:=run_append_grow (P:=P) w T ty e i K Y Z h3 ⟨g,0,none⟩ l.length cap _ C D J xs.length sc a m H (by omega) (by omega) (TG (by omega) (by rw[h5];exact X));have A:=t _ cap hrd (by omega);rw[c,←G] at A;refine⟨_,_,h.push (.cells ((cur.toList.take (l.length*i.size)).toArray++a.toArray++Builtin.zeroCells K.cells (grownCap w (l.length+xs.length) cap e-(l.length+xs.length))) e),λb=>b=h.size,hr,⟨?_,d.os,d.tape,d.out⟩,by simp,?_,λb n=> .inr (by subst n;simp),λb n _=>IL _ _ _ n⟩
   ·show(w.heap.push _)=_;rw[d.heap]
   ·rw[d.heap];exact A
def vA {α}{r:A5 α}{T e sz C:Nat}{z:List Value}{v s:Value}{l xs:List α}{sd:Addr}{sc:Nat}{y:List Value}{LL:Value→List HP}(g:Fr n a m) (hx:Bz m X=some v) (hy:Bz m Y=some s) (he:NH P T=some (e,sz,C,z)) (D:r.sz=sz)
  (H:s= .slice (some sd) xs.length sc) (hn:L5 S h r y xs) (hc:∀j u,y[j]? =some u→JN h (sd.add j)=some u)
  (I:l.length+xs.length≤maxLen) (J:L4 (l.length+xs.length) C) (hd:Nat.blt d n.1=true) (hw:Wd B h w) (A:St S L h) (rp:∀i,MR L (OS r e v l) (OS r e i (l++xs)) (LL i))
  (k:∀i a w h',Fr n a ((d,i)::m)→Wd B h' w→St S (LL i) h'→BF S h S h'→wpList P ops Q rest a w):
  wpList P ops Q (⟨some d,.call ⟨.builtin .append,#[X,Y],#[T,T]⟩,ty,pos,af,none⟩::rest) a w:=by
 refine wpList_plain rfl λK hK=>?_;unfold Oper.wp;obtain⟨M,p,_⟩:=(rp v).pick;obtain⟨F,g1,g2,_⟩:=Sp.pick p A.2;obtain⟨i,w',h',F',e1,e2,e3,e4,e5,e6⟩:=UR (ty:=ty) he D H hn hc I J hw g1 λb c=>⟨A.1 b c,λg=>(g2 b g).2 c⟩
 have U:(execOp a.eval ⟨some d,.call ⟨.builtin .append,#[X,Y],#[T,T]⟩,ty,pos,af,none⟩).run P w= .ok (.value i) w':=by
  simp [execOp,resolve,invoke,builtin,g.eval hx,g.eval hy,e1]
 rw[U];obtain⟨M,p,q⟩:=(rp i).pick;have V:St S (LL i) h'∧BF S h S h':=by
  obtain⟨G,ad,o,ae⟩:=Sp.pick p A.2;obtain⟨al,am,W,ag,Z,ah,t,ai,aa,ab⟩:=UR (ty:=ty) he D H hn hc I J hw ad λb c=>⟨A.1 b c,λg=>(o b g).2 c⟩
  rw[e1] at Z;injection Z with ev ew
  subst ev;subst ew;have hh:W=h':=by rw[←ah.heap,e2.heap]
  subst hh;have ac:∀b,S b→W[b]? =h[b]? :=λb c=>ab b (A.1 b c) λg=>(o b g).2 c;refine⟨⟨λb c=>Aa8 (A.1 b c) t,NZ q ⟨ag,ai,λb c=>?_,?_⟩⟩,λ_ x=>x,ac,t⟩
  ·rcases aa b c with g|⟨hl,hu⟩
   ·exact⟨Aa8 (o b g).1 t,(o b g).2⟩
   ·exact⟨hu,λaj=>absurd (A.1 b aj) (by omega)⟩
  ·refine Sp.ext ae (λ_ x=>x) (λb c=>?_) λb c=>⟨⟨Aa8 c.1.1 t,c.1.2⟩,λak=>?_⟩
   ·rcases c with c|c
    ·exact ac b c
    ·exact ab b c.1.1 c.2
   ·rcases aa b ak with g|⟨hl,_⟩
    ·exact c.2 g
    ·exact absurd c.1.1 (by omega)
 exact hK _ _ (k i _ w' h' (g.put hd _) e2 V.1 V.2)
def pH {α}{r:A5 α}{T e sz g:Nat}{z:List Value}{v:Value}{l xs:List α}{p A b sc:Nat}{c:List Value}{LL:Value→List HP}(C:Fr n a m) (D:Bz m X=some v) (G:Bz m Y=some (.slice (some ⟨p,0,none⟩) b sc)) (H:NH P T=some (e,sz,g,z)) (q:r.sz=sz)
  (I:Bx p A c∈L) (J:L5 S h r c xs) (s:b=xs.length)
  (t:l.length+xs.length≤maxLen) (x:L4 (l.length+xs.length) g) (hd:Nat.blt d n.1=true) (K:Wd B h w) (y:St S L h) (M:∀i,MR L (OS r e v l) (OS r e i (l++xs)) (LL i))
  (k:∀i a w h',Fr n a ((d,i)::m)→Wd B h' w→St S (LL i) h'→BF S h S h'→wpList P ops Q rest a w):
  wpList P ops Q (⟨some d,.call ⟨.builtin .append,#[X,Y],#[T,T]⟩,ty,pos,af,none⟩::rest) a w:=by
 obtain⟨F,U,_⟩:=y.get I;refine vA C D G H q (by rw[s]) J (λj u V=>?_) t x hd K y M k;have o:(⟨p,0,none⟩:Addr).add j=⟨p,j,none⟩:=by unfold Addr.add;split<;>simp_all
 rw[o,Bx.cell U];exact V
def UZ (e:Nat) (len:Nat):List (Nat×Nat):=(List.range len).map λi=>(i*e,e)
def yY {T e sz H len:Nat}{z cs:List Value}{g:Array (Nat×Operand)}{pv:List (Nat×Value)}(W:Fr n a m) (he:NH P T=some (e,sz,H,z)) (q:g.toList.mapM (Za m)=some pv)
  (X:MJ (UZ sz len) (List.replicate len z).flatten pv=some cs) (I:Nat.blt 0 len=true) (J:Nat.ble (len*sz) 16777216=true) (hd:Nat.blt d n.1=true) (Y:Wd B h w) (hs:St S L h)
  (o:∀p∈pv,p.1<len)
  (k:∀b a w h',Fr n a ((d,.slice (some ⟨b,0,none⟩) len len)::m)→Wd B h' w→St S (Bx b e cs::L) h'→BF S h S h'→wpList P ops Q rest a w):
  wpList P ops Q (⟨some d,.buildSlice T len g,ty,pos,af,none⟩::rest) a w:=by
 refine wpList_plain rfl λK hK=>?_;unfold Oper.wp;obtain⟨i,u,h1,h2,h3,G,h5,h6,h7,h8⟩:=L3 he;have M:(g.map λ(p:Nat×Operand)=>(p.1,a.eval p.2)).toList=pv:=by
  obtain⟨l⟩:=g;simp only at q;simp only[List.map_toArray];clear X o k
  induction l generalizing pv with
  |nil=>simp at q;subst q;rfl
  |cons x l U=>
   simp only[Adb,Adr,Acr,Za,Ab7] at q;obtain⟨y,⟨v,hv,rfl⟩,ys,V,A⟩:=q;simp only[Ads,Abr] at A;subst A;simp only[Abg,W.eval hv,U V]
 have C:0<len:=(by simpa [Nat.blt] using I:1≤len)
 have Z:len*sz≤16777216:=Adt J;have s:((Array.range (len*i.size)).map (u.cells[· %u.cells.size]!))=((List.replicate len z).flatten).toArray:=by
  have:=Mi z len (by omega);rw[h7] at this;rw[←this];simp only[madeCells,G,h6,Adx]
 have t:Instr.fill (λj=>some (j*i.size,i.size)) ((Array.range (len*i.size)).map (u.cells[· %u.cells.size]!)) pv=some cs.toArray:=by
  rw[s];have h0:=No (UZ sz len) pv _ _ X;have D:∀(pv:List (Nat×Value)) (c:Array Value),(∀p∈pv,p.1<len)→Instr.fill (λj=>some (j*i.size,i.size)) c pv=Instr.fill ((UZ sz len).toArray[·]?) c pv:=by
   intro pv
   induction pv with
   |nil=>intro c _;rfl
   |cons p pv U=>
    intro c o;obtain⟨j,v⟩:=p;have hj:j<len:=o (j,v) (by simp);have e1:(UZ sz len).toArray[j]? =some (j*i.size,i.size):=by simp [UZ,hj,G]
    simp only[Instr.fill,e1];split
    ·rfl
    ·exact U _ λp q=>o p (by simp [q])
  rw[D pv _ o];exact h0
 have hb:=run_buildSlice (P:=P) w T e len (g.map λ(p:Nat×Operand)=>(p.1,a.eval p.2)) cs.toArray i u h1 h2 h3 (by rw[G];omega) (by rw[G];exact Nat.ne_of_gt (Nat.mul_pos C h8)) (by rw[M];exact t);have F:(execOp a.eval ⟨some d,.buildSlice T len g,ty,pos,af,none⟩).run P w= .ok (.value (.slice (some ⟨w.heap.size,0,none⟩) len len)) (w.alloc (.cells cs.toArray e)):=by
  simp only[execOp,Sem.run_bind,hb];rfl
 rw[F];obtain⟨k1,k2⟩:=hs.push e cs;exact hK _ _ (k _ _ _ _ (W.put hd _) (Y.alloc _) (by rw[Y.heap];exact k1) k2)
def St.bxos {α}{r:A5 α}{b e:Nat}{cs:List Value}{l:List α}{M:List HP}(g:St S L h) (i:MR L (Bx b e cs) (OS r e (.slice (some ⟨b,0,none⟩) l.length l.length) l) M) (a:L5 S h r cs l) (c:l.length≤maxLen):St S M h:=
 (g.upd i (Aa7 _) λF d _=>⟨F,.inr ⟨b,l.length,cs.toArray,rfl,d.1,d.2,Aa7 _,c,by simpa using a.len,by
  have:=a.len;simp only[←this,Abu];exact a⟩,λ_ j=> .inl j,λ_ _ _=>rfl⟩).1
end
abbrev SM:=List (Nat×Value)
def QF (P:Program) (ops:Array Oper) (C:World→Prop) (Q:Act→Prop) (l:List Oper) (n:FN) (m:SM):Prop:=∀a,Fr n a m→wpQuiet P ops C Q l a
def LF (P:Program) (ops:Array Oper) (Q:Exit→Act→World→Prop) (l:List Oper) (B:World) (h:AO) (n:FN) (m:SM):Prop:=∀a w,Fr n a m→Wd B h w→wpList P ops Q l a w
def WF (P:Program) (ex:List (Nat×AP)) (R:AP) (cs:List Code) (N:AP) (B:World) (h:AO) (n:FN) (m:SM):Prop:=∀a w,Fr n a m→Wd B h w→W P ex R cs N a w
section
variable {P:Program}{ex:List (Nat×AP)}{R N:AP}{cs:List Code}{B:World}{h:AO}{n:FN}{m m':SM}{S:Nat→Prop}{L:List HP}
def RA (b:UH m m') (k:WF P ex R cs N B h n m'):WF P ex R cs N B h n m:=λa w c d=>k a w (c.sub b) d
def CO {x y:Code}(k:WF P ex R (x::y::cs) N B h n m):WF P ex R (.seq x y::cs) N B h n m:=λa w b c=>tS (k a w b c)
def D7 (k:WF P ex R cs N B h n m):WF P ex R (.skip::cs) N B h n m:=λa w b c=>nF (k a w b c)
def CI (k:∀a w,Fr n a m→Wd B h w→R a w):WF P ex R (.ret::cs) N B h n m:=λa w b c=>tT (k a w b c)
def BL {i:Nat}{K:AP}(b:pE ex i=some K) (k:∀a w,Fr n a m→Wd B h w→K a w):WF P ex R (.exit i::cs) N B h n m:=λa w c d=>Zl b (k a w c d)
def WF.nil (k:∀a w,Fr n a m→Wd B h w→N a w):WF P ex R [] N B h n m:=λa w b c=>k a w b c
def Hz {X b}{x y:Code}(g:Bz m X=some (.bool b)) (i:b=true→WF P ex R (x::cs) N B h n m) (j:b=false→WF P ex R (y::cs) N B h n m):WF P ex R (.cond X x y::cs) N B h n m:=
 λa w c d=>yJ c g (λe=>i e a w c d) λe=>j e a w c d
def J7 {X}{x y:Code}(c:Bz m X=some (.bool true)) (k:WF P ex R (x::cs) N B h n m):WF P ex R (.cond X x y::cs) N B h n m:=λa w b d=>tU b c (k a w b d)
def J8 {X}{x y:Code}(c:Bz m X=some (.bool false)) (k:WF P ex R (y::cs) N B h n m):WF P ex R (.cond X x y::cs) N B h n m:=λa w b d=>tV b c (k a w b d)
def A4 {i:Nat}{c:Code}(k:WF P ((i,W P ex R cs N)::ex) R [c] (W P ex R cs N) B h n m):WF P ex R (.block i c::cs) N B h n m:=λa w b d=>gB (k a w b d)
def IC {c:Code}(I:AP) (b:WF P ex R [c] I B h n m) (d:∀a w,I a w→W P ex R cs N a w):WF P ex R (c::cs) N B h n m:=λa w g i=>tW I (b a w g i) d
def jN {c:Code}(I:Nat→AP) (T d:Nat) (h0:∀a w,Fr n a m→Wd B h w→I d a w) (g:∀i a w,I i a w→i≤T)
  (b:∀i a w,I i a w→W P ex R [c] (I (i+1)) a w):WF P ex R (.loop c::cs) N B h n m:=λa w j k=>nH I T d (h0 a w j k) g b
def H7 {l:List Oper}{id:Nat}{b:Bool}(c:bK P l b) (k:QF P l.toArray (Wd B h) (λa=>∀w,Wd B h w→W P ex R cs N a w) l n m):WF P ex R (.region id l.toArray b::cs) N B h n m:=
 λa _ d g=>yG c g (k a d)
def CW {l:List Oper}{id:Nat}{b:Bool}(c:bK P l b) (d:St S L h) (k:QF P l.toArray (Cl B h) (λa=>∀w h',Wd B h' w→St S L h'→BF S h S h'→W P ex R cs N a w) l n m):WF P ex R (.region id l.toArray b::cs) N B h n m:=
 λa _ g i=>yI c i d (k a g)
def DK {l:List Oper}{id:Nat}(k:LF P l.toArray (Qx ex R (W P ex R cs N)) l B h n m):WF P ex R (.region id l.toArray false::cs) N B h n m:=
 λa w b c=>yH (k a w b c)
def Ey {ops:Array Oper}{C}(b:UH m m') (k:WF P ex R cs N B h n m'):QF P ops C (λa=>∀w,Wd B h w→W P ex R cs N a w) [] n m:=λa c w d=>k a w (c.sub b) d
def BW {ops:Array Oper}{C}(b:UH m m') (k:∀h',St S L h'→BF S h S h'→WF P ex R cs N B h' n m'):QF P ops C (λa=>∀w h',Wd B h' w→St S L h'→BF S h S h'→W P ex R cs N a w) [] n m:=
 λa c w h' d s e=>k h' s e a w (c.sub b) d
def LF.nil {ops:Array Oper}(b:UH m m') (k:WF P ex R cs N B h n m'):LF P ops (Qx ex R (W P ex R cs N)) [] B h n m:=λa w c d=>lV (k a w (c.sub b) d)
def AI {ops:Array Oper}{Q:Exit→Act→World→Prop}{l:List Oper}(j:Nat) (k:QF P ops (Wd B h) (λa=>∀w,Wd B h w→wpList P ops Q (l.drop j) a w) (l.take j) n m):LF P ops Q l B h n m:=λa _ b c=>l_q j c (k a b)
def AE {ops:Array Oper}{C}{Q:Exit→Act→World→Prop}{l:List Oper}(k:LF P ops Q l B h n m):QF P ops C (λa=>∀w,Wd B h w→wpList P ops Q l a w) [] n m:=λa b w c=>k a w b c
def CJ.go {f fn c l S h post}(n:Nat) (b:P.funcs[f]? =some fn) (d:fn.body=some c) (g:fn.ntmps=n) (i:Nat.ble l.length n=true)
  (k:∀B,WF P [] (Rt P fn B S h post) [c] (Rt P fn B S h post) B h (n,[]) (W6 0 l)):CJ P f l.toArray S h post:=
 CJ.intro n b d g (Adt i) λB w a j b=>k B a w b j
end
section
variable {P:Program}{ops:Array Oper}{C:World→Prop}{Q:Act→Prop}{n:FN}{m m':SM}{rest:List Oper}
variable {d:Nat}{ty:TypeId}{pos:String}{af:Array Edge}{X Y:Operand}{t t1 t2:TypeId}{x y:Int}{kd:IntKind}{v p:Value}
def QF.nil (k:∀a,Fr n a m→Q a):QF P ops C Q [] n m:=λa b=>k a b
def zM {l:List Oper}(b:UH m m') (k:QF P ops C Q l n m'):QF P ops C Q l n m:=λa c=>k a (c.sub b)
def Yd {o:Oper}{j e:Nat}{b:Bool}(d:o.guard=some (j,b)) (g:(ops[j]?).bind (·.dst)=some e) (i:lk m e=some (.bool b)) (k:QF P ops C Q ({ o with guard:=none}::rest) n m):QF P ops C Q (o::rest) n m:=
 λa c=>yR c d g i (k a c)
def QF.gn {o:Oper}{j e:Nat}{b:Bool}(a:o.guard=some (j,!b)) (c:(ops[j]?).bind (·.dst)=some e) (g:lk m e=some (.bool b)) (i:o.dst=some d) (hd:Nat.blt d n.1=true) (k:QF P ops C Q rest n ((d,undef)::m)):QF P ops C Q (o::rest) n m:=
 λ_ l=>yS l a c g i hd k
def sZ (j:Nat) (m':SM) {l:List Oper}(c:QF P ops C (λa=>Fr n a m') (l.take j) n m) (d:QF P ops C Q (l.drop j) n m'):QF P ops C Q l n m:=
 λa g=>Tq j (λa=>Fr n a m') (c a g) λi b=>d i b
def kF (b:UH m m'):QF P ops C (λa=>Fr n a m') [] n m:=λ_ c=>c.sub b
def mT (a:Bz m X=some v) (hd:Nat.blt d n.1=true) (k:QF P ops C Q rest n ((d,v)::m)):QF P ops C Q (⟨some d,.move X,ty,pos,af,none⟩::rest) n m:=λ_ b=>yP b a hd k
def fM (a:Bz m X=some v) (hd:Nat.blt d n.1=true) (k:QF P ops C Q rest n ((d,v)::m)):QF P ops C Q (⟨some d,.assign X,ty,pos,af,none⟩::rest) n m:=λ_ b=>yU b a hd k
def Ql {c X Y:Operand}{b:Bool}(a:Bz m c=some (.bool b)) (g:Bz m (if b then X else Y)=some v) (hd:Nat.blt d n.1=true) (k:QF P ops C Q rest n ((d,v)::m)):QF P ops C Q (⟨some d,.pick c X Y,ty,pos,af,none⟩::rest) n m:=λ_ i=>oV i a g hd k
def zQ (a:Bz m X=some (.int .i64 x)) (b:Bz m Y=some (.int .i64 y)) (hd:Nat.blt d n.1=true) (c:AA (x+y)) (k:QF P ops C Q rest n ((d,.int .i64 (x+y))::m)):QF P ops C Q (⟨some d,.binOp .add t1 X Y t2,ty,pos,af,none⟩::rest) n m:=λ_ g=>uX g a b hd c k
def zN (a:Bz m X=some (.int .i64 x)) (b:Bz m Y=some (.int .i64 y)) (hd:Nat.blt d n.1=true) (c:AA (x*y)) (k:QF P ops C Q rest n ((d,.int .i64 (x*y))::m)):QF P ops C Q (⟨some d,.binOp .mul t1 X Y t2,ty,pos,af,none⟩::rest) n m:=λ_ g=>uH g a b hd c k
def kL (a:Bz m X=some (.int .i64 x)) (b:Bz m Y=some (.int .i64 y)) (hd:Nat.blt d n.1=true) (k:QF P ops C Q rest n ((d,.int .i64 (BO (x+y)))::m)):QF P ops C Q (⟨some d,.binOp .add t1 X Y t2,ty,pos,af,none⟩::rest) n m:=λ_ c=>oY c a b hd k
def jS (a:Bz m X=some (.int .i64 x)) (b:Bz m Y=some (.int .i64 y)) (hd:Nat.blt d n.1=true) (k:QF P ops C Q rest n ((d,.int .i64 (BO (x-y)))::m)):QF P ops C Q (⟨some d,.binOp .sub t1 X Y t2,ty,pos,af,none⟩::rest) n m:=λ_ c=>oU c a b hd k
def fG (a:Bz m X=some (.int kd x)) (b:Bz m Y=some (.int kd y)) (hd:Nat.blt d n.1=true) (k:QF P ops C Q rest n ((d,.bool (decide (x<y)))::m)):QF P ops C Q (⟨some d,.binOp .lss t1 X Y t2,ty,pos,af,none⟩::rest) n m:=λ_ c=>uK c a b hd k
def sS (a:Bz m X=some (.int kd x)) (b:Bz m Y=some (.int kd y)) (hd:Nat.blt d n.1=true) (k:QF P ops C Q rest n ((d,.bool (decide (x≤y)))::m)):QF P ops C Q (⟨some d,.binOp .leq t1 X Y t2,ty,pos,af,none⟩::rest) n m:=λ_ c=>uL c a b hd k
def fI (a:Bz m X=some (.int kd x)) (b:Bz m Y=some (.int kd y)) (hd:Nat.blt d n.1=true) (k:QF P ops C Q rest n ((d,.bool (decide (y<x)))::m)):QF P ops C Q (⟨some d,.binOp .gtr t1 X Y t2,ty,pos,af,none⟩::rest) n m:=λ_ c=>uS c a b hd k
def fJ (a:Bz m X=some (.int kd x)) (b:Bz m Y=some (.int kd y)) (hd:Nat.blt d n.1=true) (k:QF P ops C Q rest n ((d,.bool (decide (y≤x)))::m)):QF P ops C Q (⟨some d,.binOp .geq t1 X Y t2,ty,pos,af,none⟩::rest) n m:=λ_ c=>uT c a b hd k
def fL (a:Bz m X=some (.int kd x)) (b:Bz m Y=some (.int kd y)) (hd:Nat.blt d n.1=true) (k:QF P ops C Q rest n ((d,.bool (decide (x=y)))::m)):QF P ops C Q (⟨some d,.binOp .eql t1 X Y t2,ty,pos,af,none⟩::rest) n m:=λ_ c=>uV c a b hd k
def fF (a:Bz m X=some (.int kd x)) (b:Bz m Y=some (.int kd y)) (hd:Nat.blt d n.1=true) (k:QF P ops C Q rest n ((d,.bool (decide (x≠y)))::m)):QF P ops C Q (⟨some d,.binOp .neq t1 X Y t2,ty,pos,af,none⟩::rest) n m:=λ_ c=>uG c a b hd k
def fE {b}(a:Bz m X=some (.bool b)) (hd:Nat.blt d n.1=true) (k:QF P ops C Q rest n ((d,.bool (!b))::m)):QF P ops C Q (⟨some d,.unOp .not t1 X,ty,pos,af,none⟩::rest) n m:=λ_ c=>uE c a hd k
def RI {aty}(a:Bz m X=some (.int kd x)) (b:Bz m Y=some (.int kd y)) (hd:Nat.blt d n.1=true) (k:QF P ops C Q rest n ((d,.int kd (Max.max x y))::m)):QF P ops C Q (⟨some d,.call ⟨.builtin .max,#[X,Y],#[t1,t2]⟩,aty,pos,af,none⟩::rest) n m:=λ_ c=>uJ c a b hd k
def XC {aty}(a:Bz m X=some (.int kd x)) (b:Bz m Y=some (.int kd y)) (hd:Nat.blt d n.1=true) (k:QF P ops C Q rest n ((d,.int kd (Min.min x y))::m)):QF P ops C Q (⟨some d,.call ⟨.builtin .min,#[X,Y],#[t1,t2]⟩,aty,pos,af,none⟩::rest) n m:=λ_ c=>uI c a b hd k
def Gs {T:TypeId}{a:Array (Nat×Operand)}{pl z pv cs}(b:SS P T=some (pl,z)) (c:a.toList.mapM (Za m)=some pv) (g:MJ pl z pv=some cs) (hd:Nat.blt d n.1=true) (k:QF P ops C Q rest n ((d,.agg cs.toArray)::m)):QF P ops C Q (⟨some d,.build T a,ty,pos,af,none⟩::rest) n m:=λ_ i=>uW i b c g hd k
def U4 {T:TypeId}{ks xs ys}(a:Bz m X=some (.agg xs)) (b:Bz m Y=some (.agg ys)) (c:fW P T=some ks) (g:xs.toList.map Mj=ks) (i:ys.toList.map Mj=ks) (j:QN xs.toList ys.toList=true) (hd:Nat.blt d n.1=true) (k:QF P ops C Q rest n ((d,.bool (!Ra xs.toList ys.toList))::m)):QF P ops C Q (⟨some d,.binOp .neq T X Y t2,ty,pos,af,none⟩::rest) n m:=λ_ l=>uF l a b c g i j hd k
def GM {b o j off}(a:Bz m X=some (.pointer (some ⟨b,o,none⟩))) (c:Zc P t j off=true) (hd:Nat.blt d n.1=true) (k:QF P ops C Q rest n ((d,.pointer (some ⟨b,o+off,none⟩))::m)):QF P ops C Q (⟨some d,.fieldAddr t X j,ty,pos,af,none⟩::rest) n m:=λ_ g=>uU g a c hd k
def PL {ad len cap aty e sz}(a:Bz m X=some (.slice ad len cap)) (b:OT P t e sz=true) (hd:Nat.blt d n.1=true) (k:QF P ops C Q rest n ((d,.int .i64 len)::m)):QF P ops C Q (⟨some d,.call ⟨.builtin .len,#[X],#[t]⟩,aty,pos,af,none⟩::rest) n m:=λ_ c=>oW c a b hd k
section
variable {A S:Nat→Prop}{L:List HP}{h:AO}
def LD {α}{r:A5 α}{x}(g:CK C h) (i:∀b,A b→b<h.size) (j:Bz m X=some p) (k0:Mv A S h r p x) (l:KQ P t r.sz r.ag=true) (o:r.ag=false→r.sz=1) (hd:Nat.blt d n.1=true)
  (k:∀v,Rd S h r v x→QF P ops C Q rest n ((d,v)::m)):QF P ops C Q (⟨some d,.load t X,ty,pos,af,none⟩::rest) n m:=λ_ c=>bP g i c j k0 l o hd λv a c q=>k v q a c
def Ez {x}(g:CK C h) (i:∀b,A b→b<h.size) (j:Bz m X=some p) (k0:Mv A S h AB p x) (l:KQ P t 1 false=true) (hd:Nat.blt d n.1=true)
  (k:AA x→QF P ops C Q rest n ((d,.int .i64 x)::m)):QF P ops C Q (⟨some d,.load t X,ty,pos,af,none⟩::rest) n m:=λ_ c=>uQ g i c j k0 l hd λa c o=>k o a c
def sT {x}(a:CK C h) (c:∀b,A b→b<h.size) (g:Bz m X=some p) (k0:Mv A S h A5.bool p x) (i:KQ P t 1 false=true) (hd:Nat.blt d n.1=true)
  (k:QF P ops C Q rest n ((d,.bool x)::m)):QF P ops C Q (⟨some d,.load t X,ty,pos,af,none⟩::rest) n m:=λ_ j=>uR a c j g k0 i hd k
def U5 {x}(g:CK C h) (i:∀b,A b→b<h.size) (j:Bz m X=some p) (k0:Mv A S h A5.str p x) (l:KQ P t 1 false=true) (hd:Nat.blt d n.1=true)
  (k:x.size≤maxLen→QF P ops C Q rest n ((d,.string x)::m)):QF P ops C Q (⟨some d,.load t X,ty,pos,af,none⟩::rest) n m:=λ_ c=>uN g i c j k0 l hd λa c o=>k o a c
def Hp {α}{r:A5 α}{x}(g:CK C h) (i:∀b,A b→b<h.size) (j:Bz m X=some p) (k0:Mv A S h r.sl p x) (l:KQ P t 1 false=true) (hd:Nat.blt d n.1=true)
  (k:∀v,Sl S h r v x→QF P ops C Q rest n ((d,v)::m)):QF P ops C Q (⟨some d,.load t X,ty,pos,af,none⟩::rest) n m:=λ_ c=>uP g i c j k0 l hd λv a c o=>k v o a c
def MK {α β}{r:A5 α}{r':A5 β}{f:α→β}{j off x}(c:Bz m X=some p) (k0:Mv A S h r p x) (g:Fd r off r' f) (i:Zc P t j off=true) (hd:Nat.blt d n.1=true)
  (k:∀q,Mv A S h r' q (f x)→QF P ops C Q rest n ((d,q)::m)):QF P ops C Q (⟨some d,.fieldAddr t X j,ty,pos,af,none⟩::rest) n m:=λ_ b=>yT b c k0 g i hd λq a b l=>k q l a b
def xH {α}{r:A5 α}{l:List α}{e i x}(c:Bz m X=some v) (g:Bz m Y=some (.int .i64 i)) (k0:Sl S h r v l) (j:OT P t e r.sz=true) (h0:0≤i) (o:l[i.toNat]? =some x) (hd:Nat.blt d n.1=true)
  (k:∀q,Pt S h r q x→QF P ops C Q rest n ((d,q)::m)):QF P ops C Q (⟨some d,.indexAddr t X Y,ty,pos,af,none⟩::rest) n m:=λ_ b=>yQ b c g k0 j h0 o hd λq a b p=>k q p a b
def sU {α}{r:A5 α}{l:List α}{T e i x}(p:St S L h) (s:OS r T v l∈L) (u:Bz m X=some v) (y:Bz m Y=some (.int .i64 i)) (z:OT P t e r.sz=true) (h0:0≤i) (o:l[i.toNat]? =some x) (hd:Nat.blt d n.1=true)
  (k:∀q,Mv (λb=>b<h.size) S h r q x→EP v (i.toNat*r.sz) q→QF P ops C Q rest n ((d,q)::m)):QF P ops C Q (⟨some d,.indexAddr t X Y,ty,pos,af,none⟩::rest) n m:=by
 obtain⟨g,cap,rfl,A⟩:=p.osAt s o;have B:i.toNat<l.length:=(Aa4.1 o).1;have c:(⟨g,0,none⟩:Addr).add (i.toNat*r.sz)=⟨g,i.toNat*r.sz,none⟩:=by unfold Addr.add;split<;>simp_all
 intro a j;refine Fu j hd (λw _=>by simp [execOp,j.eval u,j.eval y,Lq (P:=P) (w:=w) (cap:=cap) (a:=⟨g,0,none⟩) z h0 B,c]) (k _ A ⟨g,_,_,rfl,rfl⟩)
def Ji {α}{r:A5 α}{l:List α}{aty e}(c:Bz m X=some v) (k0:Sl S h r v l) (g:OT P t e r.sz=true) (hd:Nat.blt d n.1=true)
  (k:l.length≤maxLen→QF P ops C Q rest n ((d,.int .i64 l.length)::m)):QF P ops C Q (⟨some d,.call ⟨.builtin .len,#[X],#[t]⟩,aty,pos,af,none⟩::rest) n m:=λ_ b=>uM b c k0 g hd λa b i=>k i a b
def R9 {α}{r:A5 α}{l:List α}{T aty e sz}(b:St S L h) (c:OS r T v l∈L) (g:Bz m X=some v) (i:OT P t e sz=true) (hd:Nat.blt d n.1=true)
  (k:l.length≤maxLen→QF P ops C Q rest n ((d,.int .i64 l.length)::m)):QF P ops C Q (⟨some d,.call ⟨.builtin .len,#[X],#[t]⟩,aty,pos,af,none⟩::rest) n m:=by
 obtain⟨j,cap,rfl,a⟩:=b.oslen c;exact PL g i hd (k a)
def Fb {T b o sz:Nat}{ag:Bool}{cs vs:List Value}(a:CK C h) (c:St S L h) (g:Bz m X=some (.pointer (some ⟨b,o,none⟩))) (i:Bx b T cs∈L) (j:(cs.drop o).take sz=vs) (l:Nat.beq vs.length sz=true) (p:KQ P t sz ag=true) (q:(ag||Nat.beq sz 1)=true) (hd:Nat.blt d n.1=true)
  (k:QF P ops C Q rest n ((d,if ag then .agg vs.toArray else vs.headD undef)::m)):QF P ops C Q (⟨some d,.load t X,ty,pos,af,none⟩::rest) n m:=λ_ s=>uO a c s g i j l p q hd k
end
def kG {f:Nat}{xs:Array Operand}{c:Array TypeId}{a vs:List Value}{first cap:Array Value}{h B}
  (l:Bz m X=some (.func (.func f) first cap)) (g:xs.toList.mapM (Bz m)=some a) (i:first.toList++a++cap.toList=vs) (j:BD P f=true) (hd:Nat.blt d n.1=true)
  (o:∀h',EJ h h'→CJ P f vs.toArray (λb=>b<h'.size) h' (λu _ _=>u=v))
  (k:QF P ops (Cl B h) Q rest n ((d,v)::m)):QF P ops (Cl B h) Q (⟨some d,.call ⟨.value X,xs,c⟩,ty,pos,af,none⟩::rest) n m:=λ_ p=>oX p l g i j hd o k
end
section
variable {P:Program}{ops:Array Oper}{Q:Exit→Act→World→Prop}{n:FN}{m:SM}{rest:List Oper}
variable {d:Nat}{ty:TypeId}{pos:String}{af:Array Edge}{X Y:Operand}{B:World}{h:AO}{S:Nat→Prop}{L L2:List HP}{v:Value}
def NC {T:TypeId}{cs:List Value}(j:Bz m X=some v) (l:v.cells=cs.toArray) (hd:Nat.blt d n.1=true) (c:St S L h)
  (k:∀b h',St S (Bx b T cs::L) h'→BF S h S h'→LF P ops Q rest B h' n ((d,.pointer (some ⟨b,0,none⟩))::m)):LF P ops Q (⟨some d,.box T X,ty,pos,af,none⟩::rest) B h n m:=
 λ_ _ g i=>lW g j l hd i c λb a w h' g i c e=>k b h' c e a w g i
def Cn {T:TypeId}{α}{r:A5 α}{x:α}(i:Bz m X=some v) (j:Rd S h r v x) (l:r.ag=false→r.sz=1) (hd:Nat.blt d n.1=true) (b:St S L h)
  (k:∀p S' h',St S' L h'→BF S h S' h'→Pt S' h' r p x→LF P ops Q rest B h' n ((d,p)::m)):LF P ops Q (⟨some d,.box T X,ty,pos,af,none⟩::rest) B h n m:=
 λ_ _ c g=>pF c i j l hd g b λp a w S' h' c g b e kp=>k p S' h' b e kp a w c g
def Dp {T:TypeId}{cs:List Value}(j:FM P T=some cs) (hd:Nat.blt d n.1=true) (c:St S L h)
  (k:∀b h',St S (Bx b T cs::L) h'→BF S h S h'→LF P ops Q rest B h' n ((d,.pointer (some ⟨b,0,none⟩))::m)):LF P ops Q (⟨some d,.alloc T,ty,pos,af,none⟩::rest) B h n m:=
 λ_ _ g i=>yZ g j hd i c λb a w h' g i c e=>k b h' c e a w g i
def ML {T l:TypeId}{b o:Nat}{cs vs cs':List Value}{sz:Nat}{ag:Bool}(p:Bz m X=some (.pointer (some ⟨b,o,none⟩))) (q:Bz m Y=some v) (s:v.cells=vs.toArray) (t:∀u∈vs,u.oneCell'=true)
  (x:KQ P T sz ag=true) (d:vs.length=sz) (g:St S L h) (r:MR L (Bx b l cs) (Bx b l cs') L2) (c:Nat.ble (o+sz) cs.length=true) (y:Hq cs o vs=cs')
  (k:∀h',St S L2 h'→BF S h S h'→LF P ops Q rest B h' n m):LF P ops Q (⟨none,.store T X Y,ty,pos,af,none⟩::rest) B h n m:=
 λ_ _ i j=>yW i p q s t x d c y j g r λa w h' i j g e=>k h' g e a w i j
def xL {α}{r:A5 α}{T e sz b:Nat}{z:List Value}{zx:α}{len cap:Nat}{q s:IntKind}{U V:Operand}(t:NH P T=some (e,sz,b,z)) (c:r.sz=sz) (u:r.rd S h z zx)
  (x:Bz m U=some (.int q (len:Nat))) (y:Bz m V=some (.int s (cap:Nat))) (g:len≤cap) (i:b*cap≤281474976710656) (j:cap≤maxLen) (hd:Nat.blt d n.1=true) (l:St S L h)
  (k:∀v h',St S (OS r e v (List.replicate len zx)::L) h'→BF S h S h'→LF P ops Q rest B h' n ((d,v)::m)):LF P ops Q (⟨some d,.makeSlice T U V,ty,pos,af,none⟩::rest) B h n m:=
 λ_ _ o p=>yX o t c u x y g i j hd p l λv a w h' o p l e=>k v h' l e a w o p
def kT {α}{r:A5 α}{T e sz i:Nat}{z:List Value}{l xs:List α}{x y b sc:Nat}{c:List Value}{LL:Value→List HP}(A:Bz m X=some v) (C:Bz m Y=some (.slice (some ⟨x,0,none⟩) b sc)) (D:NH P T=some (e,sz,i,z)) (j:r.sz=sz)
  (F:Bx x y c∈L) (G:L5 S h r c xs) (o:b=xs.length) (p:l.length+xs.length≤maxLen) (q:L4 (l.length+xs.length) i) (hd:Nat.blt d n.1=true) (s:St S L h) (H:∀g,MR L (OS r e v l) (OS r e g (l++xs)) (LL g))
  (k:∀g h',St S (LL g) h'→BF S h S h'→LF P ops Q rest B h' n ((d,g)::m)):LF P ops Q (⟨some d,.call ⟨.builtin .append,#[X,Y],#[T,T]⟩,ty,pos,af,none⟩::rest) B h n m:=
 λ_ _ t u=>pH t A C D j F G o p q hd u s H λg a w h' t u s e=>k g h' s e a w t u
def fP {T e sz g len:Nat}{z cs:List Value}{c:Array (Nat×Operand)}{pv:List (Nat×Value)}(t:NH P T=some (e,sz,g,z)) (u:c.toList.mapM (Za m)=some pv)
  (v:MJ (UZ sz len) (List.replicate len z).flatten pv=some cs) (i:Nat.blt 0 len=true) (j:Nat.ble (len*sz) 16777216=true) (l:∀p∈pv,p.1<len) (hd:Nat.blt d n.1=true) (o:St S L h)
  (k:∀b h',St S (Bx b e cs::L) h'→BF S h S h'→LF P ops Q rest B h' n ((d,.slice (some ⟨b,0,none⟩) len len)::m)):LF P ops Q (⟨some d,.buildSlice T len c,ty,pos,af,none⟩::rest) B h n m:=
 λ_ _ q s=>yY q t u v i j hd s o l λb a w h' q s o e=>k b h' o e a w q s
def CG {f:Nat}{xs:Array Operand}{g:Array TypeId}{b vs:List Value}{first cap:Array Value}{c:Value→(Nat→Prop)→AO→Prop}
  (s:Bz m X=some (.func (.func f) first cap)) (i:xs.toList.mapM (Bz m)=some b) (j:first.toList++b++cap.toList=vs) (l:BD P f=true) (hd:Nat.blt d n.1=true) (t:CJ P f vs.toArray S h c)
  (k:∀v S' h',BF S h S' h'→c v S' h'→LF P ops Q rest B h' n ((d,v)::m)):LF P ops Q (⟨some d,.call ⟨.value X,xs,g⟩,ty,pos,af,none⟩::rest) B h n m:=
 λ_ _ o q=>cG o s i j l hd q t λv a w S' h' o q e p=>k v S' h' e p a w o q
end
end Go.Proofs.YtabonambpbofgaaGreat
