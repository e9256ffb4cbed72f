import Derived.Test.YtblcgjadhemlbaaGreatWCore11
import Derived.MapKept
namespace Go.Proofs.YtblcgjadhemlbaaGreat
set_option linter.all false
open Go.RowKit
def jA {α}(S:Nat→Prop) (h:BM) (r:BZ α) (s:Value) (xs:List α):Prop:=
 (s= .slice none 0 0∧xs=[])∨∃(b:Addr) (sc:Nat) (a:List Value),s= .slice (some b) xs.length sc∧xs.length≤maxLen∧LG S h r a xs∧∀j u,a[j]? =some u→I5 h (b.add j)=some u
def Rw {α}{S:Nat→Prop}{h:BM}{r:BZ α}(b:Nat):∀(l:List α) (o:Nat),(∀i x,l[i]? =some x→Pt S h r (.pointer (some ⟨b,o+i*r.sz,none⟩)) x)→∃c,LG S h r c l∧∀j u,c[j]? =some u→I5 h ⟨b,o+j,none⟩=some u
 |[],_,_=>⟨[],rfl,λj u d=>by simp at d⟩
 |x::l,o,k=>by
  obtain⟨cs,⟨a,p,_,w,q⟩,n⟩:=k 0 x rfl
  obtain⟨c,s,t⟩:=Rw b l (o+r.sz) λi y v=>by
   have:=k (i+1) y (by simpa using v)
   rwa [sX,Nat.add_comm (i*r.sz),←Nat.add_assoc] at this
  have z:=r.len n
  refine⟨cs++c,⟨cs,c,rfl,n,s⟩,λj u d=>?_⟩
  have m:a=⟨b,o,none⟩:=by simpa using p.symm
  subst m
  by_cases g:j<cs.length
  ·rw[vK g] at d
   rw[←d];exact q j g
  ·rw[vL (by omega)] at d
   have:=t _ u d
   rw[show o+r.sz+(j-cs.length)=o+j by omega] at this
   exact this
def Sl.src {α}{S:Nat→Prop}{h:BM}{r:BZ α}{s:Value}{xs:List α}(k:Sl S h r s xs):jA S h r s xs:=by
 rcases k with k|⟨a,cap,h1,h4,h5,h6⟩
 ·exact .inl k
 ·cases xs with
  |nil=>exact .inr ⟨a,cap,[],h1,qW _,rfl,λj u l=>by simp at l⟩
  |cons x xs=>
   have c:=(h6 0 x rfl).1
   obtain⟨b,o,s⟩:=a
   simp only at c;subst c
   obtain⟨d,m,n⟩:=Rw b (x::xs) o λi y p=>(h6 i y p).2
   refine .inr ⟨_,cap,d,h1,sP h4 h5,m,λj u l=>?_⟩
   have g:(⟨b,o,none⟩:Addr).add j=⟨b,o+j,none⟩:=by unfold Addr.add;split<;>simp_all
   rw[g];exact n j u l
def St.src {α}{S:Nat→Prop}{h:BM}{r:BZ α}{T:Nat}{s:Value}{xs:List α}{L:List HP}(l:St S L h) (m:OS r T s xs∈L):jA S h r s xs:=by
 obtain⟨F,k,n⟩:=l.get m
 rcases k with ⟨⟨d,c⟩,k2,_⟩|⟨g,cap,cur,c,k2,k3,k4,k5,k6,k7⟩
 ·subst k2
  cases d with
  |none=>exact .inl ⟨c,rfl⟩
  |some d=>exact .inr ⟨d,0,[],c,qW _,rfl,λj u a=>by simp at a⟩
 ·refine .inr ⟨_,cap,_,c,sP k4 k5,k7,λj u a=>?_⟩
  have b:(⟨g,0,none⟩:Addr).add j=⟨g,j,none⟩:=by unfold Addr.add;split<;>simp_all
  have i:=(rB.1 a).1
  simp only[sV] at i
  rw[sR (by omega)] at a
  rw[b]
  simp only[I5,k3,uX,tW,if_false]
  simpa using a
section
variable {P:Program}{ops:Array Oper}{Q:Exit→Act→World→Prop}{n:FN}{m:SM}{rest:List Oper}
variable {d:Nat}{ty:TypeId}{pos:String}{af:Array Edge}{X Y:Operand}{B w:World}{h:BM}{S:Nat→Prop}{L L2:List HP}{v:Value}
def UA {α}{r:BZ α}{T ty e sz a:Nat}{z:List Value}{v s:Value}{l xs:List α}{F:Nat→Prop}(p:N3 P T=some (e,sz,a,z)) (j:r.sz=sz)
  (c:jA S h r s xs) (m:l.length+xs.length≤maxLen) (n:(l.length+xs.length)*a≤140737488355328) (q:Wd B h w) (k:(OS r e v l).holds S F h) (y:∀b,S b→b<h.size∧¬F b):
  ∃t w' h' u,(Builtin.append_ #[T,T] ty #[v,s]).run P w= .ok t w'∧Wd B h' w'∧h.size≤h'.size∧(OS r e t (l++xs)).holds S u h'∧(∀b,u b→F b∨(h.size≤b∧b<h'.size))∧∀b,b<h.size→¬F b→h'[b]? =h[b]? :=by
 rcases c with ⟨rfl,rfl⟩|⟨sd,sc,news,d,_,hn,hc⟩
 ·obtain⟨i,D,d,x,G,H,I,J,K,M⟩:=K1 p
  rw[sL]
  refine⟨v,w,h,F,?_,q,qX _,k,λb A=> .inl A,λ_ _ _=>rfl⟩
  rcases k with ⟨⟨C,rfl⟩,rfl,hF⟩|⟨g,cap,cur,rfl,hF,hg,hlc,hcm,hcs,hrd⟩
  ·cases C<;>simp [Builtin.append_,run_underlying d,sizeOf,typeInfo,x,Builtin.lenOf,Builtin.firstCells,loadCells,loadCellsFrom,storeCells]
  ·have o:l.length≤cap:=hlc
   simp [Builtin.append_,run_underlying d,sizeOf,typeInfo,x,Builtin.lenOf,Builtin.firstCells,loadCells,loadCellsFrom,storeCells,o]
 ·exact Se p j d hn hc m n q k y
def fN {α}{r:BZ α}{T e sz y:Nat}{z:List Value}{v s:Value}{l xs:List α}{LL:Value→List HP}{a:Act}(g:Fr n a m) (hx:Ca m X=some v) (hy:Ca m Y=some s) (he:N3 P T=some (e,sz,y,z)) (A:r.sz=sz)
  (t:jA S h r s xs) (C:l.length+xs.length≤maxLen) (D:(l.length+xs.length)*y≤140737488355328) (hd:Nat.blt d n.1=true) (hw:Wd B h w) (u:St S L h) (rp:∀i,MA L (OS r e v l) (OS r e i (l++xs)) (LL i))
  (k:∀i a w h',Fr n a ((d,i)::m)→Wd B h' w→St S (LL i) h'→C9 S h S h'→wpList P ops Q rest a w):
  wpList P ops Q (⟨some d,.call ⟨.builtin .append,#[X,Y],#[T,T]⟩,ty,pos,af,none⟩::rest) a w:=by
 refine wpList_plain rfl λK hK=>?_
 unfold Oper.wp
 obtain⟨M,p,_⟩:=(rp v).pick
 obtain⟨F,g1,g2,_⟩:=Sp.pick p u.2
 obtain⟨i,w',h',F',e1,e2,e3,e4,e5,e6⟩:=UA (ty:=ty) he A t C D hw g1 λb c=>⟨u.1 b c,λg=>(g2 b g).2 c⟩
 have H:(execOp a.eval ⟨some d,.call ⟨.builtin .append,#[X,Y],#[T,T]⟩,ty,pos,af,none⟩).run P w= .ok (.value i) w':=by
  simp [execOp,resolve,invoke,builtin,g.eval hx,g.eval hy,e1]
 rw[H]
 obtain⟨M,p,q⟩:=(rp i).pick
 have I:St S (LL i) h'∧C9 S h S h':=by
  obtain⟨G,aa,j,ab⟩:=Sp.pick p u.2
  obtain⟨ai,aj,J,ac,U,ad,o,ae,V,W⟩:=UA (ty:=ty) he A t C D hw aa λb c=>⟨u.1 b c,λg=>(j b g).2 c⟩
  rw[e1] at U
  injection U with ev ew
  subst ev;subst ew
  have hh:J=h':=by rw[←ad.heap,e2.heap]
  subst hh
  have Z:∀b,S b→J[b]? =h[b]? :=λb c=>W b (u.1 b c) λg=>(j b g).2 c
  refine⟨⟨λb c=>qZ (u.1 b c) o,MT q ⟨ac,ae,λb c=>?_,?_⟩⟩,λ_ x=>x,Z,o⟩
  ·rcases V b c with g|⟨hl,hu⟩
   ·exact⟨qZ (j b g).1 o,(j b g).2⟩
   ·exact⟨hu,λag=>absurd (u.1 b ag) (by omega)⟩
  ·refine Sp.ext ab (λ_ x=>x) (λb c=>?_) λb c=>⟨⟨qZ c.1.1 o,c.1.2⟩,λah=>?_⟩
   ·rcases c with c|c
    ·exact Z b c
    ·exact W b c.1.1 c.2
   ·rcases V b ah with g|⟨hl,_⟩
    ·exact c.2 g
    ·exact absurd c.1.1 (by omega)
 exact hK _ _ (k i _ w' h' (g.put hd _) e2 I.1 I.2)
def J3 {α}{r:BZ α}{T e sz b:Nat}{z:List Value}{v s:Value}{l xs:List α}{u:Value→List HP}(x:Ca m X=some v) (y:Ca m Y=some s) (A:N3 P T=some (e,sz,b,z)) (j:r.sz=sz)
  (g:jA S h r s xs) (i:Nat.blt 0 b=true) (o:room (l.length+xs.length) b=true) (hd:Nat.blt d n.1=true) (p:St S L h) (C:∀c,MA L (OS r e v l) (OS r e c (l++xs)) (u c))
  (k:∀c h',St S (u c) h'→C9 S h S h'→LF P ops Q rest B h' n ((d,c)::m)):LF P ops Q (⟨some d,.call ⟨.builtin .append,#[X,Y],#[T,T]⟩,ty,pos,af,none⟩::rest) B h n m:=λa w q t=>
 have D:1≤b:=by simpa [Nat.blt] using i
 have G:l.length+xs.length≤(l.length+xs.length)*b:=Nat.le_mul_of_pos_right _ D
 have F:=PM o
 fN q x y A j g (by unfold maxLen;omega) F hd t p C λc a w h' q t p e=>k c h' p e a w q t
end
def E5 (k:IntKind) (n:Int):k.has (k.wrap n):=by
 cases k<;>simp only[IntKind.has,IntKind.wrap,IntKind.min,IntKind.max,IntKind.bits,IntKind.signed]<;>simp<;>(try split)<;>omega
def QJ (k:IntKind) {n:Int}(h:k.has n) (j:Nat):k.has (n.fdiv (2^j)):=by
 have c:(0:Int)<2^j:=Int.pow_pos (by decide)
 have l:k.min≤0∧0≤k.max:=by cases k<;>decide
 have e:n.fdiv (2^j)=n/2^j:=Int.fdiv_eq_ediv_of_nonneg _ (Int.le_of_lt c)
 rw[e]
 obtain⟨a,b⟩:=h
 by_cases h0:0≤n
 ·have d:=Int.ediv_nonneg h0 (Int.le_of_lt c)
  have g:=Int.ediv_le_self (2^j) h0
  exact⟨by omega,by omega⟩
 ·have d:n/2^j≤0:=by
   have:=Int.ediv_le_ediv c (show n≤0 by omega)
   simpa using this
  have g:n≤n/2^j:=by
   have i:(1:Int)≤2^j:=c
   rw[Int.le_ediv_iff_mul_le c]
   have:=Int.mul_le_mul_of_nonpos_left (a:=n) (by omega) i
   simpa using this
  exact⟨by omega,by omega⟩
def aR (k:IntKind) {n m:Int}(h:k.has n):k.has (n.tmod m):=by
 have i:k.min≤0∧0≤k.max:=by cases k<;>decide
 obtain⟨a,b⟩:=h
 by_cases h0:0≤n
 ·have d:0≤n.tmod m:=Int.tmod_nonneg m h0
  have g:n.tmod m≤n:=by
   have e:=Int.natAbs_tmod n m
   have c:n.natAbs%m.natAbs≤n.natAbs:=Nat.mod_le _ _
   omega
  exact⟨by omega,by omega⟩
 ·have d:(-n).tmod m= -(n.tmod m):=Int.neg_tmod n m
  have g:0≤(-n).tmod m:=Int.tmod_nonneg m (by omega)
  have c:(-n).tmod m≤ -n:=by
   have e:=Int.natAbs_tmod (-n) m
   have c:(-n).natAbs%m.natAbs≤(-n).natAbs:=Nat.mod_le _ _
   omega
  exact⟨by omega,by omega⟩
def IF (o:BinOp) (k:IntKind) (x y:Int):Int:=
 let a:=BitVec.ofInt k.bits x
 let b:=BitVec.ofInt k.bits y
 k.wrap ((match o with| .and=>a&&&b| .or=>a|||b| .xor=>a ^^^ b|_=>a&&& ~~~b).toNat)
def P0 (k:IntKind) (x y:Int):Option Int:=if y=0 then none else some (k.wrap (x.tdiv y))
def Sg (x y:Int):Option Int:=if y=0 then none else some (x.tmod y)
def D4 (k:IntKind) (x:Int) (j:Nat):Int:=k.wrap (x*2^(min j k.bits))
def Ew (k:IntKind) (x:Int) (j:Nat):Int:=x.fdiv (2^(min j k.bits))
def OK (y:Int):Option Nat:=if y<0 then none else some y.toNat
def NE {k x y z}(h:P0 k x y=some z):k.has z:=by
 unfold P0 at h;split at h
 ·cases h
 ·cases h;exact E5 _ _
def YT {k:IntKind}{x y z}(a:k.has x) (h:Sg x y=some z):k.has z:=by
 unfold Sg at h;split at h
 ·cases h
 ·cases h;exact aR k a
def Wl (s:ByteArray) (i:Int):Option Int:=if i<0 then none else (s[i.toNat]?).map λb=>(b.toNat:Int)
def O5 {s i x}(h:Wl s i=some x):IntKind.u8.has x:=by
 unfold Wl at h;split at h
 ·cases h
 ·obtain⟨b,_,rfl⟩:=sW.1 h
  have:=b.toNat_lt
  simp [IntKind.has,IntKind.min,IntKind.max,IntKind.bits,IntKind.signed];omega
section
variable {P:Program}{ops:Array Oper}{C:World→Prop}{Q:Act→Prop}{n:FN}{m m':SM}{rest:List Oper}
variable {d:Nat}{ty:TypeId}{pos:String}{af:Array Edge}{X Y Z:Operand}{t t1 t2:TypeId}{x y z:Int}{kd kd2:IntKind}{v p:Value}{S:Nat→Prop}{L:List HP}{h:BM}
def OQ {a:BinOp}{u:Value}(b:Ca m X=some (.int kd x)) (c:Ca m Y=some (.int kd y)) (hd:Nat.blt d n.1=true) (g:∀w,(binOp a t1 (.int kd x) (.int kd y)).run P w= .ok u w)
  (k:QF P ops C Q rest n ((d,u)::m)):QF P ops C Q (⟨some d,.binOp a t1 X Y t2,ty,pos,af,none⟩::rest) n m:=λ_ i=>Mp i b c hd g k
def J2 (a:Ca m X=some (.int kd x)) (b:Ca m Y=some (.int kd y)) (hd:Nat.blt d n.1=true) (k:QF P ops C Q rest n ((d,.int kd (kd.wrap (x+y)))::m)):QF P ops C Q (⟨some d,.binOp .add t1 X Y t2,ty,pos,af,none⟩::rest) n m:=OQ a b hd (λw=>by simp [binOp,Op.intArith]) k
def Mn (a:Ca m X=some (.int kd x)) (b:Ca m Y=some (.int kd y)) (hd:Nat.blt d n.1=true) (k:QF P ops C Q rest n ((d,.int kd (kd.wrap (x-y)))::m)):QF P ops C Q (⟨some d,.binOp .sub t1 X Y t2,ty,pos,af,none⟩::rest) n m:=OQ a b hd (λw=>by simp [binOp,Op.intArith]) k
def Ic (a:Ca m X=some (.int kd x)) (b:Ca m Y=some (.int kd y)) (hd:Nat.blt d n.1=true) (k:QF P ops C Q rest n ((d,.int kd (kd.wrap (x*y)))::m)):QF P ops C Q (⟨some d,.binOp .mul t1 X Y t2,ty,pos,af,none⟩::rest) n m:=OQ a b hd (λw=>by simp [binOp,Op.intArith]) k
def PC (a:Ca m X=some (.int kd x)) (b:Ca m Y=some (.int kd y)) (hd:Nat.blt d n.1=true) (k:QF P ops C Q rest n ((d,.int kd (IF .and kd x y))::m)):QF P ops C Q (⟨some d,.binOp .and t1 X Y t2,ty,pos,af,none⟩::rest) n m:=OQ a b hd (λw=>by simp [binOp,Op.intBits,IF]) k
def iA (a:Ca m X=some (.int kd x)) (b:Ca m Y=some (.int kd y)) (hd:Nat.blt d n.1=true) (k:QF P ops C Q rest n ((d,.int kd (IF .or kd x y))::m)):QF P ops C Q (⟨some d,.binOp .or t1 X Y t2,ty,pos,af,none⟩::rest) n m:=OQ a b hd (λw=>by simp [binOp,Op.intBits,IF]) k
def TX (b:Ca m X=some (.int kd x)) (c:Ca m Y=some (.int kd y)) (hd:Nat.blt d n.1=true) (a:P0 kd x y=some z) (k:QF P ops C Q rest n ((d,.int kd z)::m)):QF P ops C Q (⟨some d,.binOp .quo t1 X Y t2,ty,pos,af,none⟩::rest) n m:=by
 unfold P0 at a
 split at a
 ·cases a
 ·rename_i h0;cases a;exact OQ b c hd (λw=>by simp [binOp,Op.intDiv,h0]) k
def bT (b:Ca m X=some (.int kd x)) (c:Ca m Y=some (.int kd y)) (hd:Nat.blt d n.1=true) (a:Sg x y=some z) (k:QF P ops C Q rest n ((d,.int kd z)::m)):QF P ops C Q (⟨some d,.binOp .rem t1 X Y t2,ty,pos,af,none⟩::rest) n m:=by
 unfold Sg at a
 split at a
 ·cases a
 ·rename_i h0;cases a;exact OQ b c hd (λw=>by simp [binOp,Op.intDiv,h0]) k
def Wv {b:BinOp}{u:Value}(g:Ca m X=some (.int kd x)) (i:Ca m Y=some (.int kd2 y)) (hd:Nat.blt d n.1=true) (j:∀w,(binOp b t1 (.int kd x) (.int kd2 y)).run P w= .ok u w)
  (k:QF P ops C Q rest n ((d,u)::m)):QF P ops C Q (⟨some d,.binOp b t1 X Y t2,ty,pos,af,none⟩::rest) n m:=λa c=>by
 refine Ge c hd (λw _=>?_) k
 have l:(eqGuard b t1 X Y (.int kd x) (.int kd2 y)).run P w= .ok () w:=by
  unfold eqGuard;cases b<;>simp
 simp [execOp,c.eval g,c.eval i,l,j]
def TW {j:Nat}(b:Ca m X=some (.int kd x)) (c:Ca m Y=some (.int kd2 y)) (hd:Nat.blt d n.1=true) (a:OK y=some j) (k:QF P ops C Q rest n ((d,.int kd (D4 kd x j))::m)):QF P ops C Q (⟨some d,.binOp .shl t1 X Y t2,ty,pos,af,none⟩::rest) n m:=by
 unfold OK at a
 split at a
 ·cases a
 ·rename_i h0;cases a;exact Wv b c hd (λw=>by simp [binOp,Op.shift,h0,D4]) k
def Jg {j:Nat}(b:Ca m X=some (.int kd x)) (c:Ca m Y=some (.int kd2 y)) (hd:Nat.blt d n.1=true) (a:OK y=some j) (k:QF P ops C Q rest n ((d,.int kd (Ew kd x j))::m)):QF P ops C Q (⟨some d,.binOp .shr t1 X Y t2,ty,pos,af,none⟩::rest) n m:=by
 unfold OK at a
 split at a
 ·cases a
 ·rename_i h0;cases a;exact Wv b c hd (λw=>by simp [binOp,Op.shift,h0,Ew]) k
def IU {b c:TypeId}{i:TypeDesc}(j:Ca m X=some (.int kd x)) (l:P.underlying b=some i) (o:P.underlying c=some (.int kd2)) (hd:Nat.blt d n.1=true) (k:QF P ops C Q rest n ((d,.int kd2 (kd2.wrap x))::m)):QF P ops C Q (⟨some d,.convert b c X,ty,pos,af,none⟩::rest) n m:=λa g=>
 Ge g hd (λw _=>by simp [execOp,g.eval j,convert,run_underlying l,run_underlying o,Conv.intToInt]) k
def PB {s:ByteArray}(i:Ca m X=some (.string s)) (j:Ca m Y=some (.int kd y)) (l:P.underlying t=some .string) (c:Wl s y=some z) (hd:Nat.blt d n.1=true) (k:QF P ops C Q rest n ((d,.int .u8 z)::m)):QF P ops C Q (⟨some d,.index t X Y,ty,pos,af,none⟩::rest) n m:=λa g=>by
 unfold Wl at c
 split at c
 ·cases c
 ·rename_i h0
  obtain⟨b,o,rfl⟩:=sW.1 c
  exact Ge g hd (λw _=>by simp [execOp,g.eval i,g.eval j,Instr.index,asIntOf,run_underlying l,show 0≤y by omega,o]) k
end
end Go.Proofs.YtblcgjadhemlbaaGreat
namespace Go.Proofs.YtblcgjadhemlbaaGreat
set_option linter.all false
open Go.RowKit
def bI {α}{p:α→Prop}:∀x∈([]:List α),p x:=λu h=>by cases h
def all_cons {α}{p:α→Prop}{x:α}{l:List α}(h:p x) (t:∀x∈l,p x):∀y∈x::l,p y:=λu a=>by
 rcases rG.1 a with rfl|a
 ·exact h
 ·exact t u a
def lG {α}{p:α→Prop}{l:List α}{i:Int}{z:α}(h:∀x∈l,p x) (a:ix l i=some z):p z:=h _ (sC (D0 a).2)
def Zd (b:Bool):b=false∨b=true:=by cases b<;>simp
def Es:∀u∈([]:List Value),u.oneCell'=true:=λu h=>by cases h
def AC {v:Value}{vs:List Value}(h:v.oneCell'=true) (t:∀u∈vs,u.oneCell'=true):∀u∈v::vs,u.oneCell'=true:=λu a=>by
 rcases rG.1 a with rfl|a
 ·exact h
 ·exact t u a
def MN:Value→Value→Bool
 | .agg a,.agg b=>ZP a.toList b.toList
 |a,b=>bE a b
def P1 {κ β}(kv:κ→Value) (m:List (κ×β)) (k:κ):Option β:=(m.find? λe=>MN (kv k) (kv e.1)).map (·.2)
def Sr {κ β}(kv:κ→Value):List (κ×β)→κ→β→List (κ×β)
 |[],k,x=>[(k,x)]
 |(a,y)::r,k,x=>if MN (kv k) (kv a) then (k,x)::r else (a,y)::Sr kv r k x
def Sz (p:Value→Bool):List MapEntry→Nat→Option (Nat×Value)
 |[],_=>none
 |e::es,i=>if p e.key then some (i,e.val) else Sz p es (i+1)
structure Nb {κ:Type}(P:Program) (T:TypeId) (kv:κ→Value):Prop where
 chk:∀k e w,(Instr.checkKey e 10000 T (kv k)).run P w= .ok () w
 find:∀k (es:List MapEntry) w,(∀e∈es,∃k',e.key=kv k')→(Instr.findKey T (kv k) es).run P w= .ok (Sz (MN (kv k)) es 0) w
 same:∀k k',MN (kv k) (kv k')=true→Instr.sameBits 10000 (kv k') (kv k)=true
def NL (a:TypeDesc) (k:Value) (p:Value→Bool):∀(es:List MapEntry) (i:Nat),(∀e∈es,Instr.sameNow a k e.key=some (p e.key))→Instr.findNow a k es i=some (Sz p es i)
 |[],_,_=>rfl
 |e::es,i,h=>by
  have b:=h e (by simp)
  have c:=NL a k p es (i+1) λe d=>h e (by simp [d])
  simp only[Instr.findNow,b,Sz]
  cases p e.key
  ·simpa using c
  ·rfl
def NM {P:Program}(T:TypeId) (k:Value) (p:Value→Bool) (w:World):∀(es:List MapEntry) (i:Nat),(∀e∈es,(Op.equal T k e.key).run P w= .ok (p e.key) w)→(Instr.findAsking T k es i).run P w= .ok (Sz p es i) w
 |[],_,_=>rfl
 |e::es,i,h=>by
  have a:=h e (by simp)
  have b:=NM T k p w es (i+1) λe c=>h e (by simp [c])
  simp only[Instr.findAsking,Sem.run_bind,a,Result.andThen_ok,Sz]
  cases p e.key
  ·simpa using b
  ·rfl
def TO {a b:ByteArray}:(a==b)=true↔a=b:=by
 obtain⟨a⟩:=a
 obtain⟨b⟩:=b
 rw[show ((⟨a⟩:ByteArray)==⟨b⟩)=(a==b) from rfl]
 simp
def Nb.str {P:Program}{T:TypeId}(b:P.underlying T=some .string) (c:∀(s:ByteArray) e w,(Instr.checkKey e 10000 T (.string s)).run P w= .ok () w):Nb P T Value.string where
 chk:=c
 find:=λk es w h=>by
  have:Instr.findNow .string (.string k) es 0=some (Sz (MN (.string k)) es 0):=NL _ _ _ es 0 λe d=>by obtain⟨a,g⟩:=h e d;rw[g];rfl
  simp [Instr.findKey,run_underlying b,this]
 same:=λk a h=>by
  have:k=a:=TO.1 (by simpa [MN,bE] using h)
  subst this
  simp [Instr.sameBits,TO.2]
def Nb.int {P:Program}{T:TypeId}{kd:IntKind}(b:P.underlying T=some (.int kd)) (c:∀(s:Int) e w,(Instr.checkKey e 10000 T (.int kd s)).run P w= .ok () w):Nb P T (Value.int kd) where
 chk:=c
 find:=λk es w h=>by
  have:Instr.findNow (.int kd) (.int kd k) es 0=some (Sz (MN (.int kd k)) es 0):=NL _ _ _ es 0 λe d=>by
   obtain⟨a,g⟩:=h e d;rw[g];simp [Instr.sameNow,MN,bE,QH]
  simp [Instr.findKey,run_underlying b,this]
 same:=λk a h=>by
  have:k=a:=by simpa [MN,bE] using h
  subst this
  simp [Instr.sameBits]
def Nb.agg {κ:Type}{P:Program}{T:TypeId}{f:κ→List Value}{l:List Nat}{i:Array _}(m:P.underlying T=some (.struct i)) (o:fV P T=some l) (n:∀k,(f k).map Ld=l) (p:∀a b,Oe (f a) (f b)=true)
  (q:∀k e w,(Instr.checkKey e 10000 T (.agg (f k).toArray)).run P w= .ok () w) (s:∀a b,ZP (f a) (f b)=true→f a=f b) (t:∀a,Instr.sameBits 10000 (.agg (f a).toArray) (.agg (f a).toArray)=true):Nb P T (λk=>Value.agg (f k).toArray) where
 chk:=q
 find:=λk es w h=>by
  have d:(Instr.findAsking T (.agg (f k).toArray) es).run P w= .ok (Sz (MN (.agg (f k).toArray)) es 0) w:=NM T _ _ w es 0 λe u=>by
   obtain⟨c,v⟩:=h e u
   rw[v]
   have:=(UT (w:=w) o (n k) (n c) (p k c)).1
   simpa [Op.equal,Op.maxDepth,MN] using this
  have g:Instr.findNow (.struct i) (.agg (f k).toArray) es 0=some (Sz (MN (.agg (f k).toArray)) es 0)∨Instr.findNow (.struct i) (.agg (f k).toArray) es 0=none:=by
   cases es with
   |nil=>exact .inl rfl
   |cons e es=>exact .inr rfl
  rcases g with j|j
  ·simp [Instr.findKey,run_underlying m,j]
  ·simp [Instr.findKey,run_underlying m,j,d]
 same:=λk c h=>by
  have h':ZP (f k) (f c)=true:=by simpa [MN] using h
  have:=s k c h'
  simp only[this]
  exact t c
def Nc (es:List MapEntry) (c:Nat):Prop:=(es.map (·.born)).Nodup∧∀x,x∈es→x.born<c
def Nc.push {es:List MapEntry}{c:Nat}(k:Nc es c) (e:MapEntry) (l:e.born=c):Nc (es++[e]) (c+1):=by
 refine⟨?_,λx d=>?_⟩
 ·rw[tS,List.nodup_append]
  refine⟨k.1,by simp,λa g b i=>?_⟩
  simp only[sM,List.map_nil,tA] at i
  obtain⟨y,j,rfl⟩:=rX.1 g
  have:=k.2 y j
  omega
 ·rcases sN.1 d with d|d
  ·have:=k.2 x d;omega
  ·simp only[tA] at d;subst d;omega
def Nc.of {es a:List MapEntry}{c:Nat}(k:Nc es c) (h:a.map (·.born)=es.map (·.born)):Nc a c:=by
 refine⟨by rw[h];exact k.1,λx b=>?_⟩
 have:x.born∈es.map (·.born):=by rw[←h];exact rX.2 ⟨x,b,rfl⟩
 obtain⟨y,d,e⟩:=rX.1 this
 have:=k.2 y d
 omega
def UG (es:List MapEntry) (j:Nat) (f:MapEntry→MapEntry) (a:∀e,(f e).born=e.born):(es.modify j f).map (·.born)=es.map (·.born):=by
 apply sK
 intro i
 simp only[sQ,List.getElem?_modify]
 by_cases e:j=i
 ·subst e;cases es[j]? <;>simp [a]
 ·simp [e]
def MP {κ β:Type}(kv:κ→Value) (vv:β→Value) (b:Nat) (m:List (κ×β)):HP where
 holds:=λ_ F h=>(∀c,F c↔c=b)∧∃es a,h[b]? =some (.map es a)∧es.toList.map (λe=>(e.key,e.val))=(m.map λe=>(kv e.1,vv e.2))∧Nc es.toList a
 loc:=λ⟨d,es,c,g,i⟩ _ e=>⟨d,es,c,(e _ (.inr ((d _).2 rfl))).trans g,i⟩
def MP.flat {κ β}{kv:κ→Value}{vv:β→Value}{b m}:(MP kv vv b m).Flat:=λ{_ _ _ _} k=>k
section
variable {κ β:Type}{kv:κ→Value}{vv:β→Value}
def Q4:∀{es:List MapEntry}{m:List (κ×β)},es.map (λe=>(e.key,e.val))=m.map (λe=>(kv e.1,vv e.2))→∀e∈es,∃b,e.key=kv b
 |[],_,_,_,a=>by cases a
 |x::es,[],h,_,_=>by simp at h
 |x::es,y::m,h,e,a=>by
  simp only[sM,List.cons.injEq,uH] at h
  rcases rG.1 a with rfl|a
  ·exact⟨_,h.1.1⟩
  ·exact Q4 h.2 e a
def WQ (k:κ):∀{es:List MapEntry}{m:List (κ×β)}(i:Nat),es.map (λe=>(e.key,e.val))=m.map (λe=>(kv e.1,vv e.2))→(Sz (MN (kv k)) es i).map (·.2)=(P1 kv m k).map vv
 |[],[],_,_=>rfl
 |[],_::_,_,h=>by simp at h
 |x::es,[],_,h=>by simp at h
 |x::es,y::m,i,h=>by
  simp only[sM,List.cons.injEq,uH] at h
  have a:=WQ k (i+1) h.2
  simp only[Sz,h.1.1,P1,List.find?_cons] at a ⊢
  cases MN (kv k) (kv y.1)
  ·simpa using a
  ·simp [h.1.2]
def US (k:κ):∀{es:List MapEntry}{m:List (κ×β)}(i:Nat) (x:β),es.map (λe=>(e.key,e.val))=m.map (λe=>(kv e.1,vv e.2))→Sz (MN (kv k)) es i=none→Sr kv m k x=m++[(k,x)]
 |[],[],_,_,_,_=>rfl
 |[],_::_,_,_,h,_=>by simp at h
 |x::es,[],_,_,h,_=>by simp at h
 |x::es,y::m,i,z,h,a=>by
  simp only[sM,List.cons.injEq,uH] at h
  simp only[Sz,h.1.1] at a
  split at a
  ·cases a
  ·rename_i b
   simp only[Sr,b,tW,if_false,US k (i+1) z h.2 a,rW]
def UR (k:κ) (u:Value):∀{es:List MapEntry}{m:List (κ×β)}(i j:Nat) (v:Value) (x:β),es.map (λe=>(e.key,e.val))=m.map (λe=>(kv e.1,vv e.2))→Sz (MN (kv k)) es i=some (j,v)→
  i≤j∧j-i<es.length∧(∃a,(es[j-i]?).map (·.key)=some (kv a)∧MN (kv k) (kv a)=true)∧(es.modify (j-i) λe=>{ e with key:=kv k,val:=vv x}).map (λe=>(e.key,e.val))=(Sr kv m k x).map λe=>(kv e.1,vv e.2)
 |[],_,_,_,_,_,_,h=>by simp [Sz] at h
 |x::es,[],_,_,_,_,h,_=>by simp at h
 |x::es,y::m,i,j,v,z,h,b=>by
  simp only[sM,List.cons.injEq,uH] at h
  simp only[Sz,h.1.1] at b
  split at b
  ·rename_i c
   obtain⟨rfl,rfl⟩:i=j∧x.val=v:=by simpa using b
   refine⟨qX _,by simp,⟨y.1,by simp [h.1.1],c⟩,?_⟩
   simp [Sr,c,h.2]
  ·rename_i c
   obtain⟨o,d,⟨a,g,l⟩,n⟩:=UR k u (i+1) j v z h.2 b
   have e:j-i=(j-(i+1))+1:=by omega
   refine⟨by omega,by rw[e];simpa using d,⟨a,by rw[e];simpa using g,l⟩,?_⟩
   rw[e]
   simp only[List.modify_succ_cons,sM,Sr,c,tW,if_false,n,h.1.1,h.1.2]
end
section
variable {P:Program}{ops:Array Oper}{C:World→Prop}{Q:Act→Prop}{n:FN}{m m':SM}{rest:List Oper}
variable {d:Nat}{ty:TypeId}{pos:String}{af:Array Edge}{X Y Z:Operand}{t t1 t2:TypeId}{v p u:Value}{S:Nat→Prop}{L L2:List HP}{h:BM}{b:Nat}
variable {κ β:Type}{kv:κ→Value}{vv:β→Value}{l:List (κ×β)}{k0:κ}{z:β}{kt et:TypeId}
def VC {w:World}{j:Bool}(k:P.underlying t=some (.map kt et)) (g:Nb P kt kv) (q:∀w,(zeroValue et).run P w= .ok (vv z) w) {es:Array MapEntry}{c:Nat}(m:w.heap[b]? =some (.map es c)) (n:es.toList.map (λe=>(e.key,e.val))=l.map λe=>(kv e.1,vv e.2)):
  (Instr.lookup t (.map (some b)) (kv k0) j).run P w= .ok (if j then .tuple #[vv ((P1 kv l k0).getD z),.bool (P1 kv l k0).isSome] else vv ((P1 kv l k0).getD z)) w:=by
 have a:=g.find k0 es.toList w (Q4 n)
 have d:=WQ (kv:=kv) (vv:=vv) k0 0 n
 have s:=q w
 cases o:Sz (MN (kv k0)) es.toList 0 with
 |none=>
  rw[o] at a d
  have i:P1 kv l k0=none:=by simpa using d.symm
  simp [Instr.lookup,run_underlying k,MapKept.run_getObj_map m,g.chk,a,s,i]
 |some r=>
  rw[o] at a d
  obtain⟨y,i,p⟩:∃y,P1 kv l k0=some y∧vv y=r.2:=sW.1 (by simpa using d.symm)
  obtain⟨u,v⟩:=r
  simp only at p
  subst p
  simp [Instr.lookup,run_underlying k,MapKept.run_getObj_map m,g.chk,a,i]
def iF {j:Bool}(o:CK C h) (p:St S L h) (q:MP kv vv b l∈L) (s:Ca m X=some (.map (some b))) (v:Ca m Y=some (kv k0)) (x:P.underlying t=some (.map kt et)) (y:Nb P kt kv) (A:∀w,(zeroValue et).run P w= .ok (vv z) w) (hd:Nat.blt d n.1=true)
  (B:(if j then .tuple #[vv ((P1 kv l k0).getD z),.bool (P1 kv l k0).isSome] else vv ((P1 kv l k0).getD z))=u)
  (k:QF P ops C Q rest n ((d,u)::m)):QF P ops C Q (⟨some d,.lookup t X Y j,ty,pos,af,none⟩::rest) n m:=λa g=>by
 refine Ge g hd (λw D=>?_) k
 obtain⟨F,⟨G,es,c,H,I,_⟩,i⟩:=p.get q
 have J:w.heap[b]? =some (.map es c):=(o w D b (i b ((G b).2 rfl)).1).trans H
 simp [execOp,g.eval s,g.eval v,VC x y A J I,B]
end
section
variable {P:Program}{ops:Array Oper}{Q:Exit→Act→World→Prop}{n:FN}{m:SM}{rest:List Oper}
variable {d:Nat}{ty:TypeId}{pos:String}{af:Array Edge}{X Y Z:Operand}{B w:World}{h:BM}{S:Nat→Prop}{L L2:List HP}{v:Value}{t kt et:TypeId}{b:Nat}
variable {κ β:Type}{kv:κ→Value}{vv:β→Value}{l:List (κ×β)}{k0:κ}{x:β}
def iV (hs:St S L h) (rp:MA L (MP kv vv b l) (MP kv vv b (Sr kv l k0 x)) L2) (hx:Ca m X=some (.map (some b))) (hy:Ca m Y=some (kv k0)) (hz:Ca m Z=some (vv x)) (hT:P.underlying t=some (.map kt et)) (G:Nb P kt kv)
  (k:∀h',St S L2 h'→C9 S h S h'→LF P ops Q rest B h' n m):LF P ops Q (⟨none,.mapUpdate t X Y Z,ty,pos,af,none⟩::rest) B h n m:=by
 intro a w q u
 refine wpList_plain rfl λK v=>?_
 unfold Oper.wp
 obtain⟨M,p,_⟩:=rp.pick
 obtain⟨F,⟨g1,es,c,g2,H,g4⟩,hF,_⟩:=Sp.pick p hs.2
 have y:w.heap[b]? =some (.map es c):=by rw[u.heap];exact g2
 have I:=G.find k0 es.toList w (Q4 H)
 have z:∀(o:Obj) (h0:w.heap=h),(∀c',c'≠b→(w.heap.setIfInBounds b o)[c']? =h[c']?)∧(w.heap.setIfInBounds b o)[b]? =some o∧(w.heap.setIfInBounds b o).size=h.size:=λo h0=>by
  have J:b<w.heap.size:=(rM.1 y).1
  refine⟨λc' A=>by rw[Array.getElem?_setIfInBounds_ne (Ne.symm A),h0],?_,by simp [h0]⟩
  rw[Array.getElem?_setIfInBounds_self];simp [J]
 have C:∀(d:Array MapEntry) (c':Nat),d.toList.map (λe=>(e.key,e.val))=(Sr kv l k0 x).map (λe=>(kv e.1,vv e.2))→Nc d.toList c'→wpList P ops Q rest a { w with heap:=w.heap.setIfInBounds b (.map d c')}:=λd c' he U=>by
  obtain⟨s1,s2,s3⟩:=z (.map d c') u.heap
  have V:Wd B (w.heap.setIfInBounds b (.map d c')) { w with heap:=w.heap.setIfInBounds b (.map d c')}:=⟨rfl,u.os,u.tape,u.out⟩
  obtain⟨u1,u2⟩:=hs.upd (h':=w.heap.setIfInBounds b (.map d c')) rp (by omega) λF k1 k2=>⟨F,⟨k1.1,d,c',s2,he,U⟩,λc A=> .inl A,λc _ A=>s1 c λe=>A ((k1.1 c).2 e)⟩
  exact k _ u1 u2 a _ q V
 cases i:Sz (MN (kv k0)) es.toList 0 with
 |none=>
  rw[i] at I
  have g:(execOp a.eval ⟨none,.mapUpdate t X Y Z,ty,pos,af,none⟩).run P w= .ok .skip { w with heap:=w.heap.setIfInBounds b (.map (es.push { key:=kv k0,val:=vv x,born:=c}) (c+1))}:=by
   simp [execOp,q.eval hx,q.eval hy,q.eval hz,Instr.mapUpdate,run_underlying hT,MapKept.run_getObj_map y,G.chk,I,MapKept.run_setObj_map _ y]
  rw[g]
  refine v _ _ (C _ _ ?_ (by rw[Array.toList_push];exact g4.push _ rfl))
  rw[US k0 0 x H i]
  simp [H]
 |some r=>
  obtain⟨j,r2⟩:=r
  rw[i] at I
  obtain⟨_,q2,⟨W,q3,q4⟩,q5⟩:=UR k0 (vv x) 0 j r2 x H i
  have D:((es[j]?).map (·.key)).getD (kv k0)=kv W:=by
   have:(es[j]?).map (·.key)=some (kv W):=by simpa using q3
   simp [this]
  have s:(Instr.keyThatStays (kv W) (kv k0)).run P w= .ok (kv k0) w:=by simp [Instr.keyThatStays,G.same _ _ q4]
  have g:(execOp a.eval ⟨none,.mapUpdate t X Y Z,ty,pos,af,none⟩).run P w= .ok .skip { w with heap:=w.heap.setIfInBounds b (.map (es.modify j λe=>{ e with key:=kv k0,val:=vv x}) c)}:=by
   simp [execOp,q.eval hx,q.eval hy,q.eval hz,Instr.mapUpdate,run_underlying hT,MapKept.run_getObj_map y,G.chk,I,D,s,MapKept.run_setObj_map _ y]
  rw[g]
  refine v _ _ (C _ _ ?_ (by rw[Array.toList_modify];exact g4.of (UG _ _ _ λ_=>rfl)))
  simpa using q5
def iW {K E:TypeId}(hd:Nat.blt d n.1=true) (o:St S L h) (kv:κ→Value) (vv:β→Value)
  (k:∀b h',St S (MP kv vv b []::L) h'→C9 S h S h'→LF P ops Q rest B h' n ((d,.map (some b))::m)):LF P ops Q (⟨some d,.makeMap t none,ty,pos,af,none⟩::rest) B h n m:=by
 intro a w p l
 refine wpList_plain rfl λK g=>?_
 unfold Oper.wp
 have c:(execOp a.eval ⟨some d,.makeMap t none,ty,pos,af,none⟩).run P w= .ok (.value (.map (some w.heap.size))) (w.alloc (.map #[] 0)):=by
  first|rfl|(simp [execOp,Instr.makeMap,newObj,Sem.run])
 rw[c]
 obtain⟨q,s⟩:=o.add (h':=h.push (.map #[] 0)) (H':=MP kv vv h.size []) (by simp) (λb i=>If _ _ _ i) ⟨λb=>b=h.size,⟨λ_=>Iff.rfl,#[],0,La _ _,rfl,List.nodup_nil,λx u=>by cases u⟩,λb i=>by subst i;simp⟩
 have j:=l.heap
 exact g _ _ (k w.heap.size _ (by rw[j];exact q) s _ _ (p.put hd _) (l.alloc _))
end
def oJ (P:Program) (T:TypeId):Option (List (Nat×Nat)×List Value):=
 match P.underlying T,FK P T with
 |some (.array n e),some z=>(P.info? e).map λi=>((List.range n).map λk=>(k*i.size,i.size),z)
 |_,_=>none
def pL (P:Program) (t len sz:Nat):Bool:=
 match P.underlying t with
 |some (.array n e)=>Nat.beq n len&&(match P.info? e with|some i=>Nat.beq i.size sz|none=>false)
 |_=>false
def SB {p q:Nat→Option (Nat×Nat)}(h:∀i x,p i=some x→q i=some x):∀(b:List (Nat×Value)) (cs cs':Array Value),Instr.fill p cs b=some cs'→Instr.fill q cs b=some cs'
 |[],_,_,e=>e
 |(i,v)::r,cs,cs',e=>by
  simp only[Instr.fill] at e ⊢
  cases a:p i with
  |none=>rw[a] at e;cases e
  |some x=>
   obtain⟨o,s⟩:=x
   rw[a] at e
   rw[h i _ a]
   simp only at e ⊢
   split at e
   ·cases e
   ·rename_i c
    rw[qP c]
    exact SB h r _ _ e
def Zc {P:Program}{T:TypeId}{pl z pv cs}(h:oJ P T=some (pl,z)) (o:Lt pl z pv=some cs):P.built T pv=some cs.toArray:=by
 unfold oJ at h
 split at h
 ·rename_i n e p s a
  simp only[sW,uH] at h
  obtain⟨g,b,rfl,rfl⟩:=h
  unfold FK at a
  simp only[sW,tN] at a
  obtain⟨w,⟨i,t,c⟩,d⟩:=a
  simp only[Program.built,t,s,c,b]
  have l:=Me _ pv p cs o
  rw[←d] at l
  have u:=SB (q:=λi=>some (i*g.size,g.size)) (λj x m=>by
   rw[List.getElem?_toArray,sQ] at m
   obtain⟨k,v,rfl⟩:=sW.1 m
   obtain⟨_,rfl⟩:=rB.1 v
   simp) pv _ _ l
  simpa using u
 ·cases h
section
variable {P:Program}{ops:Array Oper}{C:World→Prop}{Q:Act→Prop}{n:FN}{m m':SM}{rest:List Oper}
variable {d:Nat}{ty:TypeId}{pos:String}{af:Array Edge}{X Y Z:Operand}{t:TypeId}{S:Nat→Prop}{L:List HP}{h:BM}{i:Int}{kd:IntKind}
def cA {T:TypeId}{b:Array (Nat×Operand)}{pl z pv cs}(s:oJ P T=some (pl,z)) (c:b.toList.mapM (aI m)=some pv) (o:Lt pl z pv=some cs) (hd:Nat.blt d n.1=true) (k:QF P ops C Q rest n ((d,.agg cs.toArray)::m)):QF P ops C Q (⟨some d,.build T b,ty,pos,af,none⟩::rest) n m:=λa q=>by
 refine Ge q hd (λw _=>?_) k
 have i:(b.map λ(p:Nat×Operand)=>(p.1,a.eval p.2)).toList=pv:=by
  obtain⟨l⟩:=b
  simp only at c
  simp only[List.map_toArray]
  clear o k
  induction l generalizing pv with
  |nil=>simp at c;subst c;rfl
  |cons x l t=>
   simp only[uG,uW,tN,aI,sW] at c
   obtain⟨y,⟨v,u,rfl⟩,A,j,g⟩:=c
   simp only[Option.pure_def,sD] at g
   subst g
   simp only[sM,q.eval u,t j]
 have:=run_build (P:=P) w T (b.map λ(p:Nat×Operand)=>(p.1,a.eval p.2)) cs.toArray (by rw[i];exact Zc s o)
 simp only[execOp,Sem.run_bind,this]
 rfl
def iJ {b o len sz:Nat}(u:Ca m X=some (.pointer (some ⟨b,o,none⟩))) (v:Ca m Y=some (.int kd i)) (c:pL P t len sz=true) (h0:0≤i) (x:i<len) (hd:Nat.blt d n.1=true)
  (k:QF P ops C Q rest n ((d,.pointer (some ⟨b,o+i.toNat*sz,none⟩))::m)):QF P ops C Q (⟨some d,.indexAddr t X Y,ty,pos,af,none⟩::rest) n m:=λa l=>by
 unfold pL at c
 split at c
 ·rename_i z e y
  simp only[qT] at c
  obtain⟨p,g⟩:=c
  have p:=rA p
  subst p
  split at g
  ·rename_i s q
   have g:=rA g
   subst g
   have j:(⟨b,o,none⟩:Addr).add (i.toNat*s.size)=⟨b,o+i.toNat*s.size,none⟩:=by unfold Addr.add;split<;>simp_all
   exact Ge l hd (λw _=>by simp [execOp,l.eval u,l.eval v,Instr.indexAt,asIntOf,run_underlying y,Instr.sureAddr,h0,x,PL q,j]) k
  ·cases g
 ·cases c
def bX {B:Type}{T b o:Nat}{cs:List Value}{l:List B}{z:B}(f:B→Value) (p:CK C h) (q:St S L h) (s:Ca m X=some (.pointer (some ⟨b,o+i.toNat*1,none⟩))) (u:Bx b T cs∈L) (v:(cs.drop o).take l.length=l.map f) (w:Go.Proofs.YtblcgjadhemlbaaGreat.ix l i=some z) (x:JF P t 1 false=true) (hd:Nat.blt d n.1=true)
  (k:QF P ops C Q rest n ((d,f z)::m)):QF P ops C Q (⟨some d,.load t X,ty,pos,af,none⟩::rest) n m:=by
 obtain⟨h0,g⟩:=D0 w
 have y:(cs.drop (o+i.toNat*1)).take 1=[f z]:=by
  have j:((cs.drop o).take l.length)[i.toNat]? =some (f z):=by rw[v,sQ,g];rfl
  have c:i.toNat<l.length:=(rB.1 g).1
  rw[sR c,uF] at j
  rw[uD]
  obtain⟨a,A⟩:=rB.1 j
  rw[uJ a,A]
  rfl
 exact ES (vs:=[f z]) p q s u y rfl x rfl hd k
end
def Zy (h:BM) (T:TypeId) (cs:List Value) (v:Value) (a:BM):Prop:=∃b,v= .pointer (some ⟨b,0,none⟩)∧h.size≤b∧b<a.size∧a[b]? =some (.cells cs.toArray T (0,0))
def Zy.mono {h a c:BM}{T cs v}(k:Zy h T cs v a) (o:GD a c):Zy h T cs v c:=by
 obtain⟨b,e,g,d,i⟩:=k
 exact⟨b,e,g,qZ d o.siz,(o.same b d).trans i⟩
def Zy.st {h g:BM}{T cs v}{S:Nat→Prop}{L:List HP}(k:Zy h T cs v g) (d:St S L h) (o:GD h g):∃b,v= .pointer (some ⟨b,0,none⟩)∧St S (Bx b T cs::L) g:=by
 obtain⟨b,e,m,i,j⟩:=k
 refine⟨b,e,λc a=>qZ (d.1 c a) o.siz,λc=>c=b,⟨λ_=>Iff.rfl,j⟩,λc a=>by subst a;exact⟨i,λl=>absurd (d.1 c l) (by omega)⟩,?_⟩
 refine Sp.ext d.2 (λ_ x=>x) (λc a=>o.same c (a.elim (d.1 c) (·.1))) λc a=>⟨⟨qZ a.1 o.siz,a.2⟩,λe=>by have:=a.1;omega⟩
def Zs {P:Program}{ops:Array Oper}{Q:Exit→Act→World→Prop}{n:FN}{m:SM}{rest:List Oper}{d:Nat}{ty:TypeId}{pos:String}{af:Array Edge}{B:World}{h j:BM}{T:TypeId}{cs:List Value}(o:GD h j) (c:FK P T=some cs) (hd:Nat.blt d n.1=true)
  (k:∀v h',GD j h'→Zy h T cs v h'→LF P ops Q rest B h' n ((d,v)::m)):LF P ops Q (⟨some d,.alloc T,ty,pos,af,none⟩::rest) B j n m:=by
 intro a w s q
 refine wpList_plain rfl λK t=>?_
 unfold Oper.wp
 unfold FK at c
 simp only[sW,tN] at c
 obtain⟨z,⟨i,u,c⟩,l⟩:=c
 have x:z.cells=cs.toArray:=by rw[←l]
 have g:(execOp a.eval ⟨some d,.alloc T,ty,pos,af,none⟩).run P w= .ok (.value (.pointer (some ⟨w.heap.size,0,none⟩))) (w.alloc (.cells cs.toArray T)):=by
  simp [execOp,Instr.alloc,newVar,newRow,zeroValue,typeInfo,u,c,x]
 rw[g]
 have p:=q.heap
 exact t _ _ (k _ _ ⟨by simp,λb y=>If _ _ _ y⟩ ⟨j.size,by rw[p],o.siz,by simp,La _ _⟩ _ _ (s.put hd _) (q.alloc _))
end Go.Proofs.YtblcgjadhemlbaaGreat
