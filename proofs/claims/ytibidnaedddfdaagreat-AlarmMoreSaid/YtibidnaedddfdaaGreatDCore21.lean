import Derived.Test.YtibidnaedddfdaaGreatDCore18
import Derived.Maps.RangeRun
namespace Go.Proofs.YtibidnaedddfdaaGreat
set_option linter.all false
open Go.RowKit
def dQ:List Nat→SM→Option SM
 |[],_=>some []
 |k::a,m=>match lk m k with
  |some v=>match dQ a m with
   |some r=>some ((k,v)::r)
   |none=>none
  |none=>none
def kp:∀{m a:SM}(b:List Nat),dQ b m=some a→QC m a
 |m,a,[],h=>by cases h;trivial
 |m,a,k::b,h=>by
  simp only[dQ] at h
  split at h
  ·rename_i v c
   split at h
   ·rename_i r d
    cases h
    exact⟨c,kp b d⟩
   ·cases h
  ·cases h
def Yd {c:Type}(S:Nat→Prop) (h:BB) (r:B7 c) (T:TypeId) (l:List c) (v:Value) (a:BB):Prop:=∃d cap,v= .slice (some ⟨d,0,none⟩) l.length cap∧h.size≤d∧d<a.size∧(OS r T v l).holds S (λb=>b=d) a
def Yd.mono {q:Type}{S:Nat→Prop}{h a c:BB}{r:B7 q}{T:TypeId}{l:List q}{v:Value}(k:Yd S h r T l v a) (i:∀b,S b→b<h.size) (o:FW a c):Yd S h r T l v c:=by
 obtain⟨s,cap,j,m,d,n⟩:=k
 exact⟨s,cap,j,m,iY d o.siz,HP.loc _ n (λ_ x=>x) λb p=>o.same b (p.elim (λx=>by have:=i b x;omega) λx=>by subst x;exact d)⟩
def Yc {d:Type}{S:Nat→Prop}{h:BB}{r:B7 d}{T:TypeId}{l:List d}:Om (Yd S h r T l):=λv c ⟨i,_,a,_,b,_⟩=>⟨i,by rw[a];rfl,b⟩
def W9 {b:Type}{R:AR}{S:Nat→Prop}{h:BB}{r:B7 b}{a T:Nat}{l:List b}{is:List Nat}(e:R a=Yd S h r T l) (t:∀i,i∈is→Om (R i)):∀i,i∈a::is→Om (R i):=Sk (by rw[e];exact Yc) t
def U7 {u:Type}{S:Nat→Prop}{L:List HP}{h d:BB}{i:List Nat}{r:B7 u}{w T:Nat}{v:Value}{l:List u}(k:QE S h d i L) (j:h.size≤w) (m:w<d.size) (n:(OS r T v l).holds S (λb=>b=w) d) (o:w∉i):QE S h d (w::i) (OS r T v l::L):=by
 obtain⟨p,q,s,t⟩:=k
 refine⟨p,q,λc a=>?_,λc=>c=w,n,λc a=>by subst a;exact .inr (kI ..),t.mono λc a=>⟨a.imp_right (kS _),λe=>?_⟩⟩
 ·rcases iZ.1 a with rfl|a
  ·exact⟨j,m⟩
  ·exact s c a
 ·subst e
  rcases a with a|a
  ·have:=a.1;omega
  ·exact o a
def bN {α:Type}{P:Program}{q:Array Oper}{Q:Exit→Act→World→Prop}{n:FN}{m:SM}{p:List Oper}{d:Nat}{ty:TypeId}{s:String}{Y:Array Edge}{B:World}{S:Nat→Prop}{h0 h:BB}{r:B7 α}{T e sz g:Nat}{z:List Value}{zx:α}{len cap:Int}{Z kc:IntKind}{U V:Operand}(he:NI P T=some (e,sz,g,z)) (t:r.sz=sz) (hz:r.rd S h z zx)
  (hx:CE m U=some (.int Z len)) (hy:CE m V=some (.int kc cap)) (u:Kj len cap g=true) (y:Nat.blt 0 g=true) (hd:Nat.blt d n.1=true) (o:FW h0 h) (hS:∀b,S b→b<h0.size)
  (k:∀v h',FW h h'→Yd S h0 r e (List.replicate len.toNat zx) v h'→Qh h v→LF P q Q p B h' n ((d,v)::m)):LF P q Q (⟨some d,.makeSlice T U V,ty,s,Y,none⟩::p) B h n m:=by
 simp only[Kj,iQ,jG] at u
 obtain⟨⟨aa,ab⟩,I⟩:=u
 obtain⟨a,rfl⟩:∃a:Nat,len=a:=⟨len.toNat,by omega⟩
 obtain⟨c,rfl⟩:∃c:Nat,cap=c:=⟨cap.toNat,by omega⟩
 have ad:((g*c:Nat):Int)≤140737488355328:=by rw[lX];exact I
 have J:1≤g:=by simpa [Nat.blt] using y
 have ae:c≤g*c:=Nat.le_mul_of_pos_left _ J
 have A:a≤c:=by omega
 have C:c≤maxLen:=by unfold maxLen;omega
 intro ac w M hw
 refine wpList_plain rfl λK hK=>?_
 unfold Oper.wp
 obtain⟨i,zv,h1,h2,h3,h4,h5,h6,h7,h8⟩:=JU he
 have D:=run_make (P:=P) w T e i zv h1 h2 h3 Z kc (a:Int) (c:Int) (by omega) (by omega) (by rw[h5];omega) (by unfold maxLen at C;omega)
 simp only[Int.toNat_natCast,h6,h4] at D
 have F:(execOp ac.eval ⟨some d,.makeSlice T U V,ty,s,Y,none⟩).run P w= .ok (.value (.slice (some ⟨w.heap.size,0,none⟩) a c)) (w.alloc (.cells (madeCells z.toArray (c*sz)) e)):=by
  simp [execOp,M.eval hx,M.eval hy,D]
 rw[F]
 have W:∀b,S b→b<h.size:=λb G=>iY (hS b G) o.siz
 have l:(madeCells z.toArray (c*sz)).toList=(List.replicate c z).flatten:=by rw[←h7];exact Jy z c (by omega)
 have X:(OS r e (.slice (some ⟨h.size,0,none⟩) a c) (List.replicate a zx)).holds S (λb=>b=h.size) (h.push (.cells (madeCells z.toArray (c*sz)) e)):=by
  refine .inr ⟨h.size,c,madeCells z.toArray (c*sz),by simp,λ_=>Iff.rfl,Iq _ _,by simpa using A,C,by rw[size_madeCells,t],?_⟩
  rw[l]
  have:((List.replicate c z).flatten).take ((List.replicate a zx).length*r.sz)=(List.replicate a z).flatten:=by
   obtain⟨j,rfl⟩:=Nat.exists_eq_add_of_le A
   rw[←List.replicate_append_replicate,List.flatten_append,List.length_replicate,t,←h7]
   have:(List.replicate a z).flatten.length=a*z.length:=by simp
   rw[←this,lV]
  rw[this]
  exact(OX hz a).mono (λ_ x=>x) λb G=>Ft _ _ _ (W b G)
 have H:=hw.heap
 have:=k (.slice (some ⟨w.heap.size,0,none⟩) a c) (h.push (.cells (madeCells z.toArray (c*sz)) e)) ⟨by simp,λb G=>Ft _ _ _ G⟩ (by rw[H];exact⟨h.size,c,by simp,o.siz,by simp,by simpa using X⟩) ⟨h.size,by rw[H];rfl,jB _⟩
 exact hK _ _ (this _ _ (M.put hd _) (hw.alloc _))
def Yl:Rj Int:=λ_ _ vs x=>vs=[.int .i64 x]∧AD x
def Ri {a:Type}(r:B7 a):Rj (Int×List a):=λS h vs x=>∃v,vs=[.int .i64 x.1,v]∧AD x.1∧Sl S h r v x.2
def Yl.len {S:Nat→Prop}{h:BB}{vs:List Value}{x:Int}(k:Yl S h vs x):vs.length=1:=by rw[k.1];rfl
def Yl.mono {S S':Nat→Prop}{h h':BB}{vs:List Value}{x:Int}(k:Yl S h vs x) (_:Cm S h S' h'):Yl S' h' vs x:=k
def Ri.len {a:Type}{r:B7 a}{S:Nat→Prop}{h:BB}{vs:List Value}{x:Int×List a}(k:Ri r S h vs x):vs.length=2:=by obtain⟨v,e,_⟩:=k;rw[e];rfl
def Ri.mono {d:Type}{r:B7 d}{S S':Nat→Prop}{h h':BB}{vs:List Value}{x:Int×List d}(k:Ri r S h vs x) (e:Cm S h S' h'):Ri r S' h' vs x:=by obtain⟨v,a,b,c⟩:=k;exact⟨v,a,b,c.mono' e⟩
def Me {P:Program}{b:List (Nat×AP)}{R N:AP}{cs:List Code}:∀a w,¬Qx b R (W P b R cs N) .outgrown a w:=λ_ _ x=>x
def fG (a:Value) (l:List Value):(#[a]++l.toArray:Array Value)=(a::l).toArray:=by simp
end Go.Proofs.YtibidnaedddfdaaGreat
namespace Go.Proofs.YtibidnaedddfdaaGreat
set_option linter.all false
open Go.RowKit
open Go.ChangeMaps (setBlock)
section
variable {P:Program}{ops:Array Oper}{Q:Exit→Act→World→Prop}{n:FN}{m:SM}{rest:List Oper}
variable {d:Nat}{ty:TypeId}{pos:String}{af:Array Edge}{X:Operand}{B:World}{h:BB}{S:Nat→Prop}{L:List HP}{t kt et:TypeId}{b r:Nat}
variable {κ β:Type}{kv:κ→Value}{vv:β→Value}{l rem:List (κ×β)}
end
end Go.Proofs.YtibidnaedddfdaaGreat
namespace Go.Proofs.YtibidnaedddfdaaGreat
set_option linter.all false
open Go.RowKit
def Xl:List Nat→Nat→List HP→Option (List HP)
 |[],m,L=>some (L.drop m)
 |i::is,m,L=>match L[i]? with
  |some H=>match Xl is m (L.eraseIdx i) with
   |some r=>some (H::r)
   |none=>none
  |none=>none
def Tx:∀{L:List HP}{i:Nat}{H:HP},L[i]? =some H→Ml L H (L.eraseIdx i)
 |[],i,H,h=>by simp at h
 |K::L,0,H,h=>by
  simp only[lE,jU] at h
  subst h
  exact .head
 |K::L,i+1,H,h=>by
  simp only[lF] at h
  exact .tail (Tx h)
def Sp.dropn {S:Nat→Prop}{h:BB}:∀(m:Nat) {L:List HP}{A:Nat→Prop},Sp S L h A→Sp S (L.drop m) h A
 |0,L,A,k=>k
 |m+1,[],A,k=>k
 |m+1,H::L,A,⟨F,_,_,k⟩=>Sp.dropn m (k.mono λb a=>a.1)
def Sp.sel {S:Nat→Prop}{h:BB}:∀(is:List Nat) {m:Nat}{L a:List HP}{A:Nat→Prop},Xl is m L=some a→Sp S L h A→Sp S a h A
 |[],m,L,a,A,e,k=>by cases e;exact k.dropn m
 |i::is,m,L,a,A,e,k=>by
  simp only[Xl] at e
  split at e
  ·rename_i H b
   split at e
   ·rename_i r c
    cases e
    obtain⟨F,d,g,j⟩:=Sp.pick (Tx b) k
    exact⟨F,d,g,Sp.sel is c j⟩
   ·cases e
  ·cases e
def St.sel {S:Nat→Prop}{h:BB}{L a:List HP}(b:St S L h) (is:List Nat) (m:Nat) (e:Xl is m L=some a):St S a h:=⟨b.1,Sp.sel is e b.2⟩
abbrev IV (B:World) (S:Nat→Prop) (h:BB) (n:FN) (a:Act) (w:World) (m:SM) (L:List HP) (F:(Nat→Prop)→BB→Prop):Prop:=∃(S':Nat→Prop) (h':BB),Fr n a m∧Wd B h' w∧St S' L h'∧Cm S h S' h'∧F S' h'
def Tz {vs:List Value}(h:vs.all (·.oneCell')=true):∀u∈vs,u.oneCell'=true:=λu a=>iT.1 h u a
section
variable {P:Program}{ops:Array Oper}{Q:Exit→Act→World→Prop}{n:FN}{m:SM}{rest:List Oper}
variable {d:Nat}{ty:TypeId}{pos:String}{af:Array Edge}{X Y:Operand}{B:World}{h:BB}{S:Nat→Prop}{L L2:List HP}{v:Value}
def Jg {T d:TypeId}{b o:Nat}{cs vs cs':List Value}{sz:Nat}{ag:Bool}(g:CE m X=some (.pointer (some ⟨b,o,none⟩))) (i:CE m Y=some v) (j:v.cells=vs.toArray) (l:vs.all (·.oneCell')=true)
  (p:Hd P T sz ag=true) (c:vs.length=sz) (q:St S L h) (r:KA L (Bx b d cs) (Bx b d cs') L2) (a:Nat.ble (o+sz) cs.length=true) (s:Fs cs o vs=cs')
  (k:∀h',St S L2 h'→Cm S h S h'→LF P ops Q rest B h' n m):LF P ops Q (⟨none,.store T X Y,ty,pos,af,none⟩::rest) B h n m:=IR g i j (Tz l) p c q r a s k
def BU {T c:TypeId}{b:Nat}{cs vs:List Value}{sz:Nat}{ag:Bool}(d:CE m X=some (.pointer (some ⟨b,0,none⟩))) (g:CE m Y=some v) (i:v.cells=vs.toArray) (j:vs.all (·.oneCell')=true)
  (l:Hd P T sz ag=true) (a:Nat.beq vs.length sz=true) (o:St S L h) (r:KA L (Bx b c cs) (Bx b c vs) L2) (p:Nat.beq cs.length sz=true)
  (k:∀h',St S L2 h'→Cm S h S h'→LF P ops Q rest B h' n m):LF P ops Q (⟨none,.store T X Y,ty,pos,af,none⟩::rest) B h n m:=by
 have q:=iX a
 have s:=iX p
 refine IR d g i (Tz j) l q o r (by simp [s]) ?_ k
 unfold Fs
 rw[lG (by omega)]
 simp
end
section
variable {P:Program}{ops:Array Oper}{C:World→Prop}{Q:Act→Prop}{n:FN}{m:SM}{rest:List Oper}{v:Value}
variable {d:Nat}{ty:TypeId}{pos:String}{af:Array Edge}{X Y:Operand}{h:BB}{S:Nat→Prop}{L:List HP}{t:TypeId}
def AT {T b o:Nat}{cs:List Value}(g:CK C h) (i:St S L h) (j:CE m X=some (.pointer (some ⟨b,o,none⟩))) (l:Bx b T cs∈L) (c:cs[o]? =some v) (p:Hd P t 1 false=true) (hd:Nat.blt d n.1=true)
  (k:QF P ops C Q rest n ((d,v)::m)):QF P ops C Q (⟨some d,.load t X,ty,pos,af,none⟩::rest) n m:=by
 have e:(cs.drop o).take 1=[v]:=by
  have a:=(jF.1 c).1
  have q:=(jF.1 c).2
  rw[mT a,q]
  simp
 exact Cw (vs:=[v]) g i j l e rfl p rfl hd k
def bF {o:Oper}{j e:Nat}{b:Bool}{u:Value}(p:o.guard=some (j,b)) (q:(ops[j]?).bind (·.dst)=some e) (g:lk m e=some u) (s:yb u≠some b) (i:o.dst=some d) (hd:Nat.blt d n.1=true) (k:QF P ops C Q rest n ((d,undef)::m)):QF P ops C Q (o::rest) n m:=by
 intro a c
 have l:Region.wanted o (yielded ops a.tmps)=false:=by
  have:=c.at_ e _ g
  cases u<;>simp_all [Region.wanted,yielded,yb]
 unfold wpQuiet
 rw[iP (by rw[l];exact Bool.false_ne_true),i]
 exact k _ (c.put hd _)
def dM (a:Op) (m:SM):Option Value:=
 match a with
 | .pick c x y=>match CE m c with
  |some (.bool true)=>CE m x
  |some (.bool false)=>CE m y
  |_=>none
 |_=>none
def TF (ops:Array Oper) (k:Nat):List Oper→SM→Option SM
 |[],m=>some m
 |o::r,m=>match o.guard,o.dst with
  |some (j,b),some d=>match (ops[j]?).bind (·.dst) with
   |some e=>match lk m e with
    |some u=>match yb u,b with
     |some true,true=>match dM o.op m with
      |some v=>cond (Nat.blt d k) (TF ops k r ((d,v)::m)) none
      |none=>none
     |some false,false=>match dM o.op m with
      |some v=>cond (Nat.blt d k) (TF ops k r ((d,v)::m)) none
      |none=>none
     |_,_=>cond (Nat.blt d k) (TF ops k r ((d,undef)::m)) none
    |none=>none
   |none=>none
  |none,some d=>match dM o.op m with
   |some v=>cond (Nat.blt d k) (TF ops k r ((d,v)::m)) none
   |none=>none
  |_,none=>none
def MZ {a:Type}{c:Bool}{x:Option a}{y:a}(h:cond c x none=some y):c=true∧x=some y:=by cases c<;>simp_all
def Tj {u:Value}{b:Bool}(h:yb u=some b):u= .bool b:=by
 cases u<;>simp_all [yb]
def Td {o:Oper}{d:Nat}{v:Value}(c:o.guard=none) (hd:o.dst=some d) (a:dM o.op m=some v) (g:Nat.blt d n.1=true) (k:QF P ops C Q rest n ((d,v)::m)):QF P ops C Q (o::rest) n m:=by
 obtain⟨j,l,p,i,q,s⟩:=o
 simp only at c hd a
 subst c hd
 unfold dM at a
 split at a
 ·split at a
  ·rename_i b;exact RY b a g k
  ·rename_i b;exact RY b a g k
  ·cases a
 ·cases a
def Nv:∀{l:List Oper}{m p:SM},TF ops n.1 l m=some p→QF P ops C Q [] n p→QF P ops C Q l n m
 |[],m,p,h,k=>by cases h;exact k
 |o::r,m,p,h,k=>by
  simp only[TF] at h
  split at h
  ·rename_i j b d g hd
   split at h
   ·rename_i e s
    split at h
    ·rename_i u t
     split at h
     ·rename_i w
      split at h
      ·rename_i v i
       obtain⟨a,c⟩:=MZ h
       have:=Tj w
       subst this
       exact XL g s t (Td rfl hd i a (Nv c k))
      ·cases h
     ·rename_i w
      split at h
      ·rename_i v i
       obtain⟨a,c⟩:=MZ h
       have:=Tj w
       subst this
       exact XL g s t (Td rfl hd i a (Nv c k))
      ·cases h
     ·rename_i x y
      obtain⟨a,c⟩:=MZ h
      refine bF g s t (λz=>?_) hd a (Nv c k)
      generalize A:yb u=zz at*
      subst z
      revert x y
      intro x y
      exact Bool.rec (motive:=λq=>(some q=some true→q=true→False)→(some q=some false→q=false→False)→False) (λ_ h=>h rfl rfl) (λh _=>h rfl rfl) _ x y
    ·cases h
   ·cases h
  ·rename_i d g hd
   split at h
   ·rename_i v i
    obtain⟨a,c⟩:=MZ h
    exact Td g hd i a (Nv c k)
   ·cases h
  ·cases h
def AN {b:SM}(c:dQ (b.map (·.1)) m=some b):QF P ops C (λa=>Fr n a b) [] n m:=YY (kp _ c)
def AX {l:List Oper}{c b:SM}(h:TF ops n.1 l m=some c) (d:dQ (b.map (·.1)) c=some b):QF P ops C (λa=>Fr n a b) l n m:=Nv h (AN d)
end
section
variable {P:Program}{ops:Array Oper}{Q:Act→Prop}{n:FN}{m:SM}{rest:List Oper}{d:Nat}{ty:TypeId}{pos:String}{af:Array Edge}{X:Operand}{v:Value}{Ψ:Prop}{f:Nat}{xs:Array Operand}{tys:Array TypeId}{args vs:List Value}{first cap:Array Value}{h:BB}{B:World}{Z:(Nat→Prop)→BB→Prop}
def BL (i:CE m X=some (.func (.func f) first cap)) (a:xs.toList.mapM (CE m)=some args) (c:first.toList++args++cap.toList=vs) (g:Br P f=true) (hd:Nat.blt d n.1=true)
  (j:∀h',FW h h'→Ct P f vs.toArray (λb=>b<h'.size) h' (λu S' l=>u=v∧Z S' l))
  (k:QF P ops (Cl B h) Q rest n ((d,v)::m)):QF P ops (Cl B h) Q (⟨some d,.call ⟨.value X,xs,tys⟩,ty,pos,af,none⟩::rest) n m:=
 Hk (Ψ:=True) i a c g hd (λh' o=>(j h' o).mono λ_ _ _ _ p=>⟨p.1,trivial⟩) λ_=>k
def Bz (i:CE m X=some (.func (.func f) first cap)) (a:xs.toList.mapM (CE m)=some args) (c:first.toList++args++cap.toList=vs) (g:Br P f=true) (hd:Nat.blt d n.1=true)
  (j:∀h',FW h h'→Ct P f vs.toArray (λb=>b<h'.size) h' (λu S' l=>u=v∧Ψ∧Z S' l))
  (k:Ψ→QF P ops (Cl B h) Q rest n ((d,v)::m)):QF P ops (Cl B h) Q (⟨some d,.call ⟨.value X,xs,tys⟩,ty,pos,af,none⟩::rest) n m:=
 Hk i a c g hd (λh' o=>(j h' o).mono λ_ _ _ _ p=>⟨p.1,p.2.1⟩) k
end
def iq {n:Int}(h:(decide (-9223372036854775808≤n)&&decide (n≤9223372036854775807))=true):AD n:=by
 simp only[iQ,jG] at h
 exact h
def LW {n:Nat}(h:n≤maxLen):AD (n:Int):=by unfold maxLen at h;unfold AD;omega
section
variable {P:Program}{fn:Func}{B:World}{S S':Nat→Prop}{h h':BB}{post:Value→(Nat→Prop)→BB→Prop}{a:Act}{m:SM}{w:World}
def EU {k t:Nat}{v:Value}(b:Fr (k,[]) a m) (c:Wd B h' w) (d:fn.results= #[.tmp t]) (g:lk m t=some v) (e:Cm S h S' h') (kp:post v S' h'):Rt P fn B S h post a w:=rt1 b d g c e kp
end
end Go.Proofs.YtibidnaedddfdaaGreat
