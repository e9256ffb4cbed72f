import Derived.Test.YtibidnaedddfdaaGreatDCore11
namespace Go.Proofs.YtibidnaedddfdaaGreat
set_option linter.all false
open Go.RowKit
def aX {α}(S:Nat→Prop) (h:BB) (r:B7 α) (s:Value) (xs:List α):Prop:=
 (s= .slice none 0 0∧xs=[])∨∃(a:Addr) (sc:Nat) (news:List Value),s= .slice (some a) xs.length sc∧xs.length≤maxLen∧Jd S h r news xs∧∀j u,news[j]? =some u→Gt h (a.add j)=some u
def QO {α}{S:Nat→Prop}{h:BB}{r:B7 α}(b:Nat):∀(l:List α) (o:Nat),(∀i x,l[i]? =some x→Pt S h r (.pointer (some ⟨b,o+i*r.sz,none⟩)) x)→∃news,Jd S h r news l∧∀j u,news[j]? =some u→Gt h ⟨b,o+j,none⟩=some u
 |[],_,_=>⟨[],rfl,λj u c=>by simp at c⟩
 |x::l,o,k=>by
  obtain⟨cs,⟨a,n,_,v,p⟩,m⟩:=k 0 x rfl
  obtain⟨news,q,s⟩:=QO b l (o+r.sz) λi y t=>by
   have:=k (i+1) y (by simpa using t)
   rwa [kQ,Nat.add_comm (i*r.sz),←lS] at this
  have w:=r.len m
  refine⟨cs++news,⟨cs,news,rfl,m,q⟩,λj u c=>?_⟩
  have g:a=⟨b,o,none⟩:=by simpa using n.symm
  subst g
  by_cases d:j<cs.length
  ·rw[List.getElem?_append_left d] at c
   rw[←c];exact p j d
  ·rw[List.getElem?_append_right (by omega)] at c
   have:=s _ u c
   rw[show o+r.sz+(j-cs.length)=o+j by omega] at this
   exact this
def Sl.src {α}{S:Nat→Prop}{h:BB}{r:B7 α}{s:Value}{xs:List α}(k:Sl S h r s xs):aX S h r s xs:=by
 rcases k with k|⟨a,cap,h1,h4,h5,h6⟩
 ·exact .inl k
 ·cases xs with
  |nil=>exact .inr ⟨a,cap,[],h1,iU _,rfl,λj u g=>by simp at g⟩
  |cons x xs=>
   have c:=(h6 0 x rfl).1
   obtain⟨b,o,s⟩:=a
   simp only at c;subst c
   obtain⟨news,l,m⟩:=QO b (x::xs) o λi y n=>(h6 i y n).2
   refine .inr ⟨_,cap,news,h1,kO h4 h5,l,λj u g=>?_⟩
   have d:(⟨b,o,none⟩:Addr).add j=⟨b,o+j,none⟩:=by unfold Addr.add;split<;>simp_all
   rw[d];exact m j u g
def St.src {α}{S:Nat→Prop}{h:BB}{r:B7 α}{T:Nat}{s:Value}{xs:List α}{L:List HP}(l:St S L h) (m:OS r T s xs∈L):aX S h r s xs:=by
 obtain⟨F,k,n⟩:=l.get m
 rcases k with ⟨⟨d,c⟩,k2,_⟩|⟨g,cap,cur,c,k2,k3,k4,k5,k6,k7⟩
 ·subst k2
  cases d with
  |none=>exact .inl ⟨c,rfl⟩
  |some d=>exact .inr ⟨d,0,[],c,iU _,rfl,λj u a=>by simp at a⟩
 ·refine .inr ⟨_,cap,_,c,kO k4 k5,k7,λj u a=>?_⟩
  have b:(⟨g,0,none⟩:Addr).add j=⟨g,j,none⟩:=by unfold Addr.add;split<;>simp_all
  have i:=(jF.1 a).1
  simp only[kH] at i
  rw[kP (by omega)] at a
  rw[b]
  simp only[Gt,k3,Option.isSome_none,kW,if_false]
  simpa using a
section
variable {P:Program}{ops:Array Oper}{Q:Exit→Act→World→Prop}{n:FN}{m:SM}{rest:List Oper}
variable {d:Nat}{ty:TypeId}{pos:String}{af:Array Edge}{X Y:Operand}{B w:World}{h:BB}{S:Nat→Prop}{L L2:List HP}{v:Value}
def R4 {α}{r:B7 α}{T ty e sz a:Nat}{z:List Value}{v s:Value}{l xs:List α}{F:Nat→Prop}(p:NI P T=some (e,sz,a,z)) (j:r.sz=sz)
  (c:aX S h r s xs) (m:l.length+xs.length≤maxLen) (n:I4 (l.length+xs.length) a) (q:Wd B h w) (k:(OS r e v l).holds S F h) (A:∀b,S b→b<h.size∧¬F b):
  ∃t u h' x,(Builtin.append_ #[T,T] ty #[v,s]).run P w= .ok t u∧Wd B h' u∧h.size≤h'.size∧(OS r e t (l++xs)).holds S x h'∧(∀b,x b→F b∨(h.size≤b∧b<h'.size))∧∀b,b<h.size→¬F b→h'[b]? =h[b]? :=by
 rcases c with ⟨rfl,rfl⟩|⟨sd,sc,news,d,_,hn,hc⟩
 ·obtain⟨i,G,d,y,H,I,J,K,M,Q⟩:=JU p
  rw[jW]
  refine⟨v,w,h,F,?_,q,jB _,k,λb C=> .inl C,λ_ _ _=>rfl⟩
  rcases k with ⟨⟨D,rfl⟩,rfl,hF⟩|⟨g,cap,cur,rfl,hF,hg,hlc,hcm,hcs,hrd⟩
  ·cases D<;>simp [Builtin.append_,run_underlying d,sizeOf,typeInfo,y,Builtin.lenOf,Builtin.firstCells,loadCells,loadCellsFrom,storeCells]
  ·have o:l.length≤cap:=hlc
   simp [Builtin.append_,run_underlying d,sizeOf,typeInfo,y,Builtin.lenOf,Builtin.firstCells,loadCells,loadCellsFrom,storeCells,o]
 ·exact Qu p j d hn hc m n q k A
def Zn {α}{r:B7 α}{T e sz y:Nat}{z:List Value}{v s:Value}{l xs:List α}{LL:Value→List HP}{a:Act}(g:Fr n a m) (hx:CE m X=some v) (hy:CE m Y=some s) (he:NI P T=some (e,sz,y,z)) (A:r.sz=sz)
  (t:aX S h r s xs) (C:l.length+xs.length≤maxLen) (D:I4 (l.length+xs.length) y) (hd:Nat.blt d n.1=true) (hw:Wd B h w) (u:St S L h) (rp:∀i,KA L (OS r e v l) (OS r e i (l++xs)) (LL i))
  (k:∀i a w h',Fr n a ((d,i)::m)→Wd B h' w→St S (LL i) h'→Cm S h S h'→wpList P ops Q rest a w):
  wpList P ops Q (⟨some d,.call ⟨.builtin .append,#[X,Y],#[T,T]⟩,ty,pos,af,none⟩::rest) a w:=by
 refine wpList_plain rfl λK hK=>?_
 unfold Oper.wp
 obtain⟨M,p,_⟩:=(rp v).pick
 obtain⟨F,g1,g2,_⟩:=Sp.pick p u.2
 obtain⟨i,w',h',F',e1,e2,e3,e4,e5,e6⟩:=R4 (ty:=ty) he A t C D hw g1 λb c=>⟨u.1 b c,λg=>(g2 b g).2 c⟩
 have H:(execOp a.eval ⟨some d,.call ⟨.builtin .append,#[X,Y],#[T,T]⟩,ty,pos,af,none⟩).run P w= .ok (.value i) w':=by
  simp [execOp,resolve,invoke,builtin,g.eval hx,g.eval hy,e1]
 rw[H]
 obtain⟨M,p,q⟩:=(rp i).pick
 have I:St S (LL i) h'∧Cm S h S h':=by
  obtain⟨G,aa,j,ab⟩:=Sp.pick p u.2
  obtain⟨ai,aj,J,ac,U,ad,o,ae,V,W⟩:=R4 (ty:=ty) he A t C D hw aa λb c=>⟨u.1 b c,λg=>(j b g).2 c⟩
  rw[e1] at U
  injection U with ev ew
  subst ev;subst ew
  have hh:J=h':=by rw[←ad.heap,e2.heap]
  subst hh
  have Z:∀b,S b→J[b]? =h[b]? :=λb c=>W b (u.1 b c) λg=>(j b g).2 c
  refine⟨⟨λb c=>iY (u.1 b c) o,Mb q ⟨ac,ae,λb c=>?_,?_⟩⟩,λ_ x=>x,Z,o⟩
  ·rcases V b c with g|⟨hl,hu⟩
   ·exact⟨iY (j b g).1 o,(j b g).2⟩
   ·exact⟨hu,λag=>absurd (u.1 b ag) (by omega)⟩
  ·refine Sp.ext ab (λ_ x=>x) (λb c=>?_) λb c=>⟨⟨iY c.1.1 o,c.1.2⟩,λah=>?_⟩
   ·rcases c with c|c
    ·exact Z b c
    ·exact W b c.1.1 c.2
   ·rcases V b ah with g|⟨hl,_⟩
    ·exact c.2 g
    ·exact absurd c.1.1 (by omega)
 exact hK _ _ (k i _ w' h' (g.put hd _) e2 I.1 I.2)
def Rf {α}{r:B7 α}{T e sz b:Nat}{z:List Value}{v s:Value}{l xs:List α}{u:Value→List HP}(y:CE m X=some v) (A:CE m Y=some s) (C:NI P T=some (e,sz,b,z)) (j:r.sz=sz)
  (g:aX S h r s xs) (i:Nat.blt 0 b=true) (o:room (l.length+xs.length) b=true) (hd:Nat.blt d n.1=true) (p:St S L h) (D:∀c,KA L (OS r e v l) (OS r e c (l++xs)) (u c))
  (k:∀c h',St S (u c) h'→Cm S h S h'→LF P ops Q rest B h' n ((d,c)::m)):LF P ops Q (⟨some d,.call ⟨.builtin .append,#[X,Y],#[T,T]⟩,ty,pos,af,none⟩::rest) B h n m:=λa w q t=>
 have F:1≤b:=by simpa [Nat.blt] using i
 have G:l.length+xs.length≤(l.length+xs.length)*b:=Nat.le_mul_of_pos_right _ F
 have x:=OC o
 have H:=x.le
 Zn q y A C j g (by unfold maxLen;omega) x hd t p D λc a w h' q t p e=>k c h' p e a w q t
end
def EN (k:IntKind) (n:Int):k.has (k.wrap n):=by
 cases k<;>simp only[IntKind.has,IntKind.wrap,IntKind.min,IntKind.max,IntKind.bits,IntKind.signed]<;>simp<;>(try split)<;>omega
def Ow (k:IntKind) {n:Int}(h:k.has n) (j:Nat):k.has (n.fdiv (2^j)):=by
 have c:(0:Int)<2^j:=Int.pow_pos (by decide)
 have l:k.min≤0∧0≤k.max:=by cases k<;>decide
 have e:n.fdiv (2^j)=n/2^j:=Int.fdiv_eq_ediv_of_nonneg _ (Int.le_of_lt c)
 rw[e]
 obtain⟨a,b⟩:=h
 by_cases h0:0≤n
 ·have d:=Int.ediv_nonneg h0 (Int.le_of_lt c)
  have g:=Int.ediv_le_self (2^j) h0
  exact⟨by omega,by omega⟩
 ·have d:n/2^j≤0:=by
   have:=Int.ediv_le_ediv c (show n≤0 by omega)
   simpa using this
  have g:n≤n/2^j:=by
   have i:(1:Int)≤2^j:=c
   rw[Int.le_ediv_iff_mul_le c]
   have:=Int.mul_le_mul_of_nonpos_left (a:=n) (by omega) i
   simpa using this
  exact⟨by omega,by omega⟩
def X3 (k:IntKind) {n m:Int}(h:k.has n):k.has (n.tmod m):=by
 have i:k.min≤0∧0≤k.max:=by cases k<;>decide
 obtain⟨a,b⟩:=h
 by_cases h0:0≤n
 ·have d:0≤n.tmod m:=Int.tmod_nonneg m h0
  have g:n.tmod m≤n:=by
   have e:=Int.natAbs_tmod n m
   have c:n.natAbs%m.natAbs≤n.natAbs:=Nat.mod_le _ _
   omega
  exact⟨by omega,by omega⟩
 ·have d:(-n).tmod m= -(n.tmod m):=Int.neg_tmod n m
  have g:0≤(-n).tmod m:=Int.tmod_nonneg m (by omega)
  have c:(-n).tmod m≤ -n:=by
   have e:=Int.natAbs_tmod (-n) m
   have c:(-n).natAbs%m.natAbs≤(-n).natAbs:=Nat.mod_le _ _
   omega
  exact⟨by omega,by omega⟩
def Gj (o:BinOp) (k:IntKind) (x y:Int):Int:=
 let a:=BitVec.ofInt k.bits x
 let b:=BitVec.ofInt k.bits y
 k.wrap ((match o with| .and=>a&&&b| .or=>a|||b| .xor=>a ^^^ b|_=>a&&& ~~~b).toNat)
def Od (k:IntKind) (x y:Int):Option Int:=if y=0 then none else some (k.wrap (x.tdiv y))
def Qv (x y:Int):Option Int:=if y=0 then none else some (x.tmod y)
def DV (k:IntKind) (x:Int) (j:Nat):Int:=k.wrap (x*2^(min j k.bits))
def Du (k:IntKind) (x:Int) (j:Nat):Int:=x.fdiv (2^(min j k.bits))
def M8 (y:Int):Option Nat:=if y<0 then none else some y.toNat
def Lt {k x y z}(h:Od k x y=some z):k.has z:=by
 unfold Od at h;split at h
 ·cases h
 ·cases h;exact EN _ _
def Vo {k:IntKind}{x y z}(a:k.has x) (h:Qv x y=some z):k.has z:=by
 unfold Qv at h;split at h
 ·cases h
 ·cases h;exact X3 k a
def UQ (s:ByteArray) (i:Int):Option Int:=if i<0 then none else (s[i.toNat]?).map λb=>(b.toNat:Int)
def Ns {s i x}(h:UQ s i=some x):IntKind.u8.has x:=by
 unfold UQ at h;split at h
 ·cases h
 ·obtain⟨b,_,rfl⟩:=kL.1 h
  have:=b.toNat_lt
  simp [IntKind.has,IntKind.min,IntKind.max,IntKind.bits,IntKind.signed];omega
section
variable {P:Program}{ops:Array Oper}{C:World→Prop}{Q:Act→Prop}{n:FN}{m m':SM}{rest:List Oper}
variable {d:Nat}{ty:TypeId}{pos:String}{af:Array Edge}{X Y Z:Operand}{t t1 t2:TypeId}{x y z:Int}{kd kd2:IntKind}{v p:Value}{S:Nat→Prop}{L:List HP}{h:BB}
def NH {a:BinOp}{u:Value}(b:CE m X=some (.int kd x)) (c:CE m Y=some (.int kd y)) (hd:Nat.blt d n.1=true) (g:∀w,(binOp a t1 (.int kd x) (.int kd y)).run P w= .ok u w)
  (k:QF P ops C Q rest n ((d,u)::m)):QF P ops C Q (⟨some d,.binOp a t1 X Y t2,ty,pos,af,none⟩::rest) n m:=λ_ i=>LO i b c hd g k
def Id (a:CE m X=some (.int kd x)) (b:CE m Y=some (.int kd y)) (hd:Nat.blt d n.1=true) (k:QF P ops C Q rest n ((d,.int kd (kd.wrap (x+y)))::m)):QF P ops C Q (⟨some d,.binOp .add t1 X Y t2,ty,pos,af,none⟩::rest) n m:=NH a b hd (λw=>by simp [binOp,Op.intArith]) k
def LD (a:CE m X=some (.int kd x)) (b:CE m Y=some (.int kd y)) (hd:Nat.blt d n.1=true) (k:QF P ops C Q rest n ((d,.int kd (kd.wrap (x-y)))::m)):QF P ops C Q (⟨some d,.binOp .sub t1 X Y t2,ty,pos,af,none⟩::rest) n m:=NH a b hd (λw=>by simp [binOp,Op.intArith]) k
def HB (a:CE m X=some (.int kd x)) (b:CE m Y=some (.int kd y)) (hd:Nat.blt d n.1=true) (k:QF P ops C Q rest n ((d,.int kd (kd.wrap (x*y)))::m)):QF P ops C Q (⟨some d,.binOp .mul t1 X Y t2,ty,pos,af,none⟩::rest) n m:=NH a b hd (λw=>by simp [binOp,Op.intArith]) k
def Nz (a:CE m X=some (.int kd x)) (b:CE m Y=some (.int kd y)) (hd:Nat.blt d n.1=true) (k:QF P ops C Q rest n ((d,.int kd (Gj .and kd x y))::m)):QF P ops C Q (⟨some d,.binOp .and t1 X Y t2,ty,pos,af,none⟩::rest) n m:=NH a b hd (λw=>by simp [binOp,Op.intBits,Gj]) k
def aY (a:CE m X=some (.int kd x)) (b:CE m Y=some (.int kd y)) (hd:Nat.blt d n.1=true) (k:QF P ops C Q rest n ((d,.int kd (Gj .or kd x y))::m)):QF P ops C Q (⟨some d,.binOp .or t1 X Y t2,ty,pos,af,none⟩::rest) n m:=NH a b hd (λw=>by simp [binOp,Op.intBits,Gj]) k
def RX (b:CE m X=some (.int kd x)) (c:CE m Y=some (.int kd y)) (hd:Nat.blt d n.1=true) (a:Od kd x y=some z) (k:QF P ops C Q rest n ((d,.int kd z)::m)):QF P ops C Q (⟨some d,.binOp .quo t1 X Y t2,ty,pos,af,none⟩::rest) n m:=by
 unfold Od at a
 split at a
 ·cases a
 ·rename_i h0;cases a;exact NH b c hd (λw=>by simp [binOp,Op.intDiv,h0]) k
def YV (b:CE m X=some (.int kd x)) (c:CE m Y=some (.int kd y)) (hd:Nat.blt d n.1=true) (a:Qv x y=some z) (k:QF P ops C Q rest n ((d,.int kd z)::m)):QF P ops C Q (⟨some d,.binOp .rem t1 X Y t2,ty,pos,af,none⟩::rest) n m:=by
 unfold Qv at a
 split at a
 ·cases a
 ·rename_i h0;cases a;exact NH b c hd (λw=>by simp [binOp,Op.intDiv,h0]) k
def Uc {b:BinOp}{u:Value}(g:CE m X=some (.int kd x)) (i:CE m Y=some (.int kd2 y)) (hd:Nat.blt d n.1=true) (j:∀w,(binOp b t1 (.int kd x) (.int kd2 y)).run P w= .ok u w)
  (k:QF P ops C Q rest n ((d,u)::m)):QF P ops C Q (⟨some d,.binOp b t1 X Y t2,ty,pos,af,none⟩::rest) n m:=λa c=>by
 refine Fo c hd (λw _=>?_) k
 have l:(eqGuard b t1 X Y (.int kd x) (.int kd2 y)).run P w= .ok () w:=by
  unfold eqGuard;cases b<;>simp
 simp [execOp,c.eval g,c.eval i,l,j]
def RW {j:Nat}(b:CE m X=some (.int kd x)) (c:CE m Y=some (.int kd2 y)) (hd:Nat.blt d n.1=true) (a:M8 y=some j) (k:QF P ops C Q rest n ((d,.int kd (DV kd x j))::m)):QF P ops C Q (⟨some d,.binOp .shl t1 X Y t2,ty,pos,af,none⟩::rest) n m:=by
 unfold M8 at a
 split at a
 ·cases a
 ·rename_i h0;cases a;exact Uc b c hd (λw=>by simp [binOp,Op.shift,h0,DV]) k
def Hw {j:Nat}(b:CE m X=some (.int kd x)) (c:CE m Y=some (.int kd2 y)) (hd:Nat.blt d n.1=true) (a:M8 y=some j) (k:QF P ops C Q rest n ((d,.int kd (Du kd x j))::m)):QF P ops C Q (⟨some d,.binOp .shr t1 X Y t2,ty,pos,af,none⟩::rest) n m:=by
 unfold M8 at a
 split at a
 ·cases a
 ·rename_i h0;cases a;exact Uc b c hd (λw=>by simp [binOp,Op.shift,h0,Du]) k
def GI {b c:TypeId}{ds:TypeDesc}(i:CE m X=some (.int kd x)) (j:P.underlying b=some ds) (l:P.underlying c=some (.int kd2)) (hd:Nat.blt d n.1=true) (k:QF P ops C Q rest n ((d,.int kd2 (kd2.wrap x))::m)):QF P ops C Q (⟨some d,.convert b c X,ty,pos,af,none⟩::rest) n m:=λa g=>
 Fo g hd (λw _=>by simp [execOp,g.eval i,convert,run_underlying j,run_underlying l,Conv.intToInt]) k
def Ny {s:ByteArray}(i:CE m X=some (.string s)) (j:CE m Y=some (.int kd y)) (l:P.underlying t=some .string) (c:UQ s y=some z) (hd:Nat.blt d n.1=true) (k:QF P ops C Q rest n ((d,.int .u8 z)::m)):QF P ops C Q (⟨some d,.index t X Y,ty,pos,af,none⟩::rest) n m:=λa g=>by
 unfold UQ at c
 split at c
 ·cases c
 ·rename_i h0
  obtain⟨b,o,rfl⟩:=kL.1 c
  exact Fo g hd (λw _=>by simp [execOp,g.eval i,g.eval j,Instr.index,asIntOf,run_underlying l,show 0≤y by omega,o]) k
end
end Go.Proofs.YtibidnaedddfdaaGreat
