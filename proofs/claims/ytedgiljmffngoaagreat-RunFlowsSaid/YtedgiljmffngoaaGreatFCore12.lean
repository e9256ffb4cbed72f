import Derived.Test.YtedgiljmffngoaaGreatFCore11
namespace Go.Proofs.YtedgiljmffngoaaGreat
set_option linter.all false
open Go.RowKit
def aW {α}(S:Nat→Prop) (h:AT) (r:BB α) (s:Value) (xs:List α):Prop:=
 (s= .slice none 0 0∧xs=[])∨∃(b:Addr) (sc:Nat) (a:List Value),s= .slice (some b) xs.length sc∧xs.length≤maxLen∧KW S h r a xs∧∀j c,a[j]? =some c→Gk h (b.add j)=some c
def RX {α}{S:Nat→Prop}{h:AT}{r:BB α}(b:Nat):∀(l:List α) (o:Nat),(∀i x,l[i]? =some x→Pt S h r (.pointer (some ⟨b,o+i*r.sz,none⟩)) x)→∃c,KW S h r c l∧∀j A,c[j]? =some A→Gk h ⟨b,o+j,none⟩=some A
 |[],_,_=>⟨[],rfl,λj A d=>by simp at d⟩
 |x::l,o,k=>by
  obtain⟨cs,⟨a,p,_,w,q⟩,n⟩:=k 0 x rfl;obtain⟨c,s,t⟩:=RX b l (o+r.sz) λi y v=>by
   have:=k (i+1) y (by simpa using v);rwa [iT,Nat.add_comm (i*r.sz),←Nat.add_assoc] at this
  have z:=r.len n;refine⟨cs++c,⟨cs,c,rfl,n,s⟩,λj A d=>?_⟩;have m:a=⟨b,o,none⟩:=by simpa using p.symm
  subst m;by_cases g:j<cs.length
  ·rw[List.getElem?_append_left g] at d;rw[←d];exact q j g
  ·rw[List.getElem?_append_right (by omega)] at d;have:=t _ A d;rw[show o+r.sz+(j-cs.length)=o+j by omega] at this;exact this
def Sl.src {α}{S:Nat→Prop}{h:AT}{r:BB α}{s:Value}{xs:List α}(k:Sl S h r s xs):aW S h r s xs:=by
 rcases k with k|⟨a,cap,h1,h4,h5,h6⟩
 ·exact .inl k
 ·cases xs with
  |nil=>exact .inr ⟨a,cap,[],h1,jH _,rfl,λj q l=>by simp at l⟩
  |cons x xs=>
   have c:=(h6 0 x rfl).1;obtain⟨b,o,s⟩:=a;simp only at c;subst c;obtain⟨d,m,n⟩:=RX b (x::xs) o λi y p=>(h6 i y p).2;refine .inr ⟨_,cap,d,h1,iK h4 h5,m,λj q l=>?_⟩;have g:(⟨b,o,none⟩:Addr).add j=⟨b,o+j,none⟩:=by unfold Addr.add;split<;>simp_all
   rw[g];exact n j q l
def St.src {α}{S:Nat→Prop}{h:AT}{r:BB α}{T:Nat}{s:Value}{xs:List α}{L:List HP}(l:St S L h) (m:OS r T s xs∈L):aW S h r s xs:=by
 obtain⟨F,k,n⟩:=l.get m;rcases k with ⟨⟨d,c⟩,k2,_⟩|⟨g,cap,cur,c,k2,k3,k4,k5,k6,k7⟩
 ·subst k2;cases d with
  |none=>exact .inl ⟨c,rfl⟩
  |some d=>exact .inr ⟨d,0,[],c,jH _,rfl,λj o a=>by simp at a⟩
 ·refine .inr ⟨_,cap,_,c,iK k4 k5,k7,λj o a=>?_⟩;have b:(⟨g,0,none⟩:Addr).add j=⟨g,j,none⟩:=by unfold Addr.add;split<;>simp_all
  have i:=(hJ.1 a).1;simp only[iL] at i;rw[iG (by omega)] at a;rw[b];simp only[Gk,k3,jQ,iR,iS];simpa using a
section
variable {P:Program}{ops:Array Oper}{Q:Exit→Act→World→Prop}{n:FN}{m:SM}{rest:List Oper}
variable {d:Nat}{ty:TypeId}{pos:String}{af:Array Edge}{X Y:Operand}{B w:World}{h:AT}{S:Nat→Prop}{L L2:List HP}{v:Value}
def Sj {α}{r:BB α}{T ty e sz a:Nat}{z:List Value}{v s:Value}{l xs:List α}{F:Nat→Prop}(p:M3 P T=some (e,sz,a,z)) (j:r.sz=sz)
  (c:aW S h r s xs) (m:l.length+xs.length≤maxLen) (n:Ic (l.length+xs.length) a) (q:Wd B h w) (k:(OS r e v l).holds S F h) (A:∀b,S b→b<h.size∧¬F b):
  ∃t u h' x,(Builtin.append_ #[T,T] ty #[v,s]).run P w= .ok t u∧Wd B h' u∧h.size≤h'.size∧(OS r e t (l++xs)).holds S x h'∧(∀b,x b→F b∨(h.size≤b∧b<h'.size))∧∀b,b<h.size→¬F b→h'[b]? =h[b]? :=by
 rcases c with ⟨rfl,rfl⟩|⟨sd,sc,news,d,_,hn,hc⟩
 ·obtain⟨i,G,d,y,H,I,J,K,M,Q⟩:=KF p;rw[iD];refine⟨v,w,h,F,?_,q,gN _,k,λb C=> .inl C,λ_ _ _=>rfl⟩;rcases k with ⟨⟨D,rfl⟩,rfl,hF⟩|⟨g,cap,cur,rfl,hF,hg,hlc,hcm,hcs,hrd⟩
  ·cases D<;>simp [Builtin.append_,run_underlying d,sizeOf,typeInfo,y,Builtin.lenOf,Builtin.firstCells,loadCells,loadCellsFrom,storeCells]
  ·have o:l.length≤cap:=hlc;simp [Builtin.append_,run_underlying d,sizeOf,typeInfo,y,Builtin.lenOf,Builtin.firstCells,loadCells,loadCellsFrom,storeCells,o]
 ·exact Rp p j d hn hc m n q k A
def Yt {α}{r:BB α}{T e sz y:Nat}{z:List Value}{v s:Value}{l xs:List α}{LL:Value→List HP}{a:Act}(g:Fr n a m) (hx:BU m X=some v) (hy:BU m Y=some s) (he:M3 P T=some (e,sz,y,z)) (A:r.sz=sz)
  (t:aW S h r s xs) (C:l.length+xs.length≤maxLen) (D:Ic (l.length+xs.length) y) (hd:Nat.blt d n.1=true) (hw:Wd B h w) (u:St S L h) (rp:∀i,Lb L (OS r e v l) (OS r e i (l++xs)) (LL i))
  (k:∀i a w h',Fr n a ((d,i)::m)→Wd B h' w→St S (LL i) h'→B6 S h S h'→wpList P ops Q rest a w):
  wpList P ops Q (⟨some d,.call ⟨.builtin .append,#[X,Y],#[T,T]⟩,ty,pos,af,none⟩::rest) a w:=by
 refine wpList_plain rfl λK hK=>?_;unfold Oper.wp;obtain⟨M,p,_⟩:=(rp v).pick;obtain⟨F,g1,g2,_⟩:=Sp.pick p u.2;obtain⟨i,w',h',F',e1,e2,e3,e4,e5,e6⟩:=Sj (ty:=ty) he A t C D hw g1 λb c=>⟨u.1 b c,λg=>(g2 b g).2 c⟩
 have H:(execOp a.eval ⟨some d,.call ⟨.builtin .append,#[X,Y],#[T,T]⟩,ty,pos,af,none⟩).run P w= .ok (.value i) w':=by
  simp [execOp,resolve,invoke,builtin,g.eval hx,g.eval hy,e1]
 rw[H];obtain⟨M,p,q⟩:=(rp i).pick;have I:St S (LL i) h'∧B6 S h S h':=by
  obtain⟨G,aa,j,ab⟩:=Sp.pick p u.2;obtain⟨ai,aj,J,ac,U,ad,o,ae,V,W⟩:=Sj (ty:=ty) he A t C D hw aa λb c=>⟨u.1 b c,λg=>(j b g).2 c⟩
  rw[e1] at U;injection U with ev ew
  subst ev;subst ew;have hh:J=h':=by rw[←ad.heap,e2.heap]
  subst hh;have Z:∀b,S b→J[b]? =h[b]? :=λb c=>W b (u.1 b c) λg=>(j b g).2 c;refine⟨⟨λb c=>gJ (u.1 b c) o,LD q ⟨ac,ae,λb c=>?_,?_⟩⟩,λ_ x=>x,Z,o⟩
  ·rcases V b c with g|⟨hl,hu⟩
   ·exact⟨gJ (j b g).1 o,(j b g).2⟩
   ·exact⟨hu,λag=>absurd (u.1 b ag) (by omega)⟩
  ·refine Sp.ext ab (λ_ x=>x) (λb c=>?_) λb c=>⟨⟨gJ c.1.1 o,c.1.2⟩,λah=>?_⟩
   ·rcases c with c|c
    ·exact Z b c
    ·exact W b c.1.1 c.2
   ·rcases V b ah with g|⟨hl,_⟩
    ·exact c.2 g
    ·exact absurd c.1.1 (by omega)
 exact hK _ _ (k i _ w' h' (g.put hd _) e2 I.1 I.2)
def IJ {α}{r:BB α}{T e sz b:Nat}{z:List Value}{v s:Value}{l xs:List α}{LL:Value→List HP}(x:BU m X=some v) (y:BU m Y=some s) (A:M3 P T=some (e,sz,b,z)) (j:r.sz=sz)
  (g:aW S h r s xs) (i:Nat.blt 0 b=true) (o:Hn (l.length+xs.length) b=true) (hd:Nat.blt d n.1=true) (p:St S L h) (C:∀c,Lb L (OS r e v l) (OS r e c (l++xs)) (LL c))
  (k:∀c h',St S (LL c) h'→B6 S h S h'→LF P ops Q rest B h' n ((d,c)::m)):LF P ops Q (⟨some d,.call ⟨.builtin .append,#[X,Y],#[T,T]⟩,ty,pos,af,none⟩::rest) B h n m:=λa w q t=>
 have D:1≤b:=by simpa [Nat.blt] using i
 have F:l.length+xs.length≤(l.length+xs.length)*b:=Nat.le_mul_of_pos_right _ D;have u:=LC o;have G:=u.le
 Yt q x y A j g (by unfold maxLen;omega) u hd t p C λc a w h' q t p e=>k c h' p e a w q t
end
def CT (k:IntKind) (n:Int):k.has (k.wrap n):=by
 cases k<;>simp only[IntKind.has,IntKind.wrap,IntKind.min,IntKind.max,IntKind.bits,IntKind.signed]<;>simp<;>(try split)<;>omega
def O1 (k:IntKind) {n:Int}(h:k.has n) (j:Nat):k.has (n.fdiv (2^j)):=by
 have c:(0:Int)<2^j:=Int.pow_pos (by decide);have l:k.min≤0∧0≤k.max:=by cases k<;>decide
 have e:n.fdiv (2^j)=n/2^j:=Int.fdiv_eq_ediv_of_nonneg _ (Int.le_of_lt c);rw[e];obtain⟨a,b⟩:=h;by_cases h0:0≤n
 ·have d:=Int.ediv_nonneg h0 (Int.le_of_lt c);have g:=Int.ediv_le_self (2^j) h0;exact⟨by omega,by omega⟩
 ·have d:n/2^j≤0:=by
   have:=Int.ediv_le_ediv c (show n≤0 by omega);simpa using this
  have g:n≤n/2^j:=by
   have i:(1:Int)≤2^j:=c;rw[Int.le_ediv_iff_mul_le c];have:=Int.mul_le_mul_of_nonpos_left (a:=n) (by omega) i;simpa using this
  exact⟨by omega,by omega⟩
def W5 (k:IntKind) {n m:Int}(h:k.has n):k.has (n.tmod m):=by
 have i:k.min≤0∧0≤k.max:=by cases k<;>decide
 obtain⟨a,b⟩:=h;by_cases h0:0≤n
 ·have d:0≤n.tmod m:=Int.tmod_nonneg m h0;have g:n.tmod m≤n:=by
   have e:=Int.natAbs_tmod n m;have c:n.natAbs%m.natAbs≤n.natAbs:=Nat.mod_le _ _;omega
  exact⟨by omega,by omega⟩
 ·have d:(-n).tmod m= -(n.tmod m):=Int.neg_tmod n m;have g:0≤(-n).tmod m:=Int.tmod_nonneg m (by omega);have c:(-n).tmod m≤ -n:=by
   have e:=Int.natAbs_tmod (-n) m;have c:(-n).natAbs%m.natAbs≤(-n).natAbs:=Nat.mod_le _ _;omega
  exact⟨by omega,by omega⟩
def BB.intk (k:IntKind):BB Int where
 sz:=1
 ag:=false
 rd:=λ_ _ cs x=>cs=[.int k x]∧k.has x
 len:=λ⟨h,_⟩=>by rw[h];rfl
 one:=λ⟨h,_⟩ v a=>by rw[h] at a;simp at a;rw[a];rfl
 mono:=λh _ _=>h
def Rd.intk {S h v k x}(q:Rd S h (BB.intk k) v x):v= .int k x∧k.has x:=by obtain⟨_,rfl,rfl,h⟩:=q;exact⟨rfl,h⟩
def EH (o:BinOp) (k:IntKind) (x y:Int):Int:=
 let a:=BitVec.ofInt k.bits x
 let b:=BitVec.ofInt k.bits y
 k.wrap ((match o with| .and=>a&&&b| .or=>a|||b| .xor=>a ^^^ b|_=>a&&& ~~~b).toNat)
def TX (k:IntKind) (x y:Int):Option Int:=if y=0 then none else some (k.wrap (x.tdiv y))
def VY (x y:Int):Option Int:=if y=0 then none else some (x.tmod y)
def ED (k:IntKind) (x:Int) (j:Nat):Int:=k.wrap (x*2^(min j k.bits))
def Dn (k:IntKind) (x:Int) (j:Nat):Int:=x.fdiv (2^(min j k.bits))
def R4 (y:Int):Option Nat:=if y<0 then none else some y.toNat
def QP {k x y z}(h:TX k x y=some z):k.has z:=by
 unfold TX at h;split at h
 ·cases h
 ·cases h;exact CT _ _
def VX {k:IntKind}{x y z}(a:k.has x) (h:VY x y=some z):k.has z:=by
 unfold VY at h;split at h
 ·cases h
 ·cases h;exact W5 k a
def UG (s:ByteArray) (i:Int):Option Int:=if i<0 then none else (s[i.toNat]?).map λb=>(b.toNat:Int)
def Kj {s i x}(h:UG s i=some x):IntKind.u8.has x:=by
 unfold UG at h;split at h
 ·cases h
 ·obtain⟨b,_,rfl⟩:=iH.1 h;have:=b.toNat_lt;simp [IntKind.has,IntKind.min,IntKind.max,IntKind.bits,IntKind.signed];omega
section
variable {P:Program}{ops:Array Oper}{C:World→Prop}{Q:Act→Prop}{n:FN}{m m':SM}{rest:List Oper}
variable {d:Nat}{ty:TypeId}{pos:String}{af:Array Edge}{X Y Z:Operand}{t t1 t2:TypeId}{x y z:Int}{kd kd2:IntKind}{v p:Value}{S:Nat→Prop}{L:List HP}{h:AT}
def Nl {a:BinOp}{j:Value}(b:BU m X=some (.int kd x)) (c:BU m Y=some (.int kd y)) (hd:Nat.blt d n.1=true) (g:∀w,(binOp a t1 (.int kd x) (.int kd y)).run P w= .ok j w)
  (k:QF P ops C Q rest n ((d,j)::m)):QF P ops C Q (⟨some d,.binOp a t1 X Y t2,ty,pos,af,none⟩::rest) n m:=λ_ i=>NK i b c hd g k
def Xb (a:BU m X=some (.int kd x)) (b:BU m Y=some (.int kd y)) (hd:Nat.blt d n.1=true) (k:QF P ops C Q rest n ((d,.int kd (kd.wrap (x+y)))::m)):QF P ops C Q (⟨some d,.binOp .add t1 X Y t2,ty,pos,af,none⟩::rest) n m:=Nl a b hd (λw=>by simp [binOp,Op.intArith]) k
def XJ (a:BU m X=some (.int kd x)) (b:BU m Y=some (.int kd y)) (hd:Nat.blt d n.1=true) (k:QF P ops C Q rest n ((d,.int kd (kd.wrap (x-y)))::m)):QF P ops C Q (⟨some d,.binOp .sub t1 X Y t2,ty,pos,af,none⟩::rest) n m:=Nl a b hd (λw=>by simp [binOp,Op.intArith]) k
def XQ (a:BU m X=some (.int kd x)) (b:BU m Y=some (.int kd y)) (hd:Nat.blt d n.1=true) (k:QF P ops C Q rest n ((d,.int kd (kd.wrap (x*y)))::m)):QF P ops C Q (⟨some d,.binOp .mul t1 X Y t2,ty,pos,af,none⟩::rest) n m:=Nl a b hd (λw=>by simp [binOp,Op.intArith]) k
def XZ (a:BU m X=some (.int kd x)) (b:BU m Y=some (.int kd y)) (hd:Nat.blt d n.1=true) (k:QF P ops C Q rest n ((d,.int kd (EH .and kd x y))::m)):QF P ops C Q (⟨some d,.binOp .and t1 X Y t2,ty,pos,af,none⟩::rest) n m:=Nl a b hd (λw=>by simp [binOp,Op.intBits,EH]) k
def WM (a:BU m X=some (.int kd x)) (b:BU m Y=some (.int kd y)) (hd:Nat.blt d n.1=true) (k:QF P ops C Q rest n ((d,.int kd (EH .or kd x y))::m)):QF P ops C Q (⟨some d,.binOp .or t1 X Y t2,ty,pos,af,none⟩::rest) n m:=Nl a b hd (λw=>by simp [binOp,Op.intBits,EH]) k
def UU (a:BU m X=some (.int kd x)) (b:BU m Y=some (.int kd y)) (hd:Nat.blt d n.1=true) (k:QF P ops C Q rest n ((d,.int kd (EH .xor kd x y))::m)):QF P ops C Q (⟨some d,.binOp .xor t1 X Y t2,ty,pos,af,none⟩::rest) n m:=Nl a b hd (λw=>by simp [binOp,Op.intBits,EH]) k
def SD (b:BU m X=some (.int kd x)) (c:BU m Y=some (.int kd y)) (hd:Nat.blt d n.1=true) (a:TX kd x y=some z) (k:QF P ops C Q rest n ((d,.int kd z)::m)):QF P ops C Q (⟨some d,.binOp .quo t1 X Y t2,ty,pos,af,none⟩::rest) n m:=by
 unfold TX at a;split at a
 ·cases a
 ·rename_i h0;cases a;exact Nl b c hd (λw=>by simp [binOp,Op.intDiv,h0]) k
def XP (b:BU m X=some (.int kd x)) (c:BU m Y=some (.int kd y)) (hd:Nat.blt d n.1=true) (a:VY x y=some z) (k:QF P ops C Q rest n ((d,.int kd z)::m)):QF P ops C Q (⟨some d,.binOp .rem t1 X Y t2,ty,pos,af,none⟩::rest) n m:=by
 unfold VY at a;split at a
 ·cases a
 ·rename_i h0;cases a;exact Nl b c hd (λw=>by simp [binOp,Op.intDiv,h0]) k
def Ue {b:BinOp}{o:Value}(g:BU m X=some (.int kd x)) (i:BU m Y=some (.int kd2 y)) (hd:Nat.blt d n.1=true) (j:∀w,(binOp b t1 (.int kd x) (.int kd2 y)).run P w= .ok o w)
  (k:QF P ops C Q rest n ((d,o)::m)):QF P ops C Q (⟨some d,.binOp b t1 X Y t2,ty,pos,af,none⟩::rest) n m:=λa c=>by
 refine Cu c hd (λw _=>?_) k;have l:(eqGuard b t1 X Y (.int kd x) (.int kd2 y)).run P w= .ok () w:=by
  unfold eqGuard;cases b<;>simp
 simp [execOp,c.eval g,c.eval i,l,j]
def P7 {j:Nat}(b:BU m X=some (.int kd x)) (c:BU m Y=some (.int kd2 y)) (hd:Nat.blt d n.1=true) (a:R4 y=some j) (k:QF P ops C Q rest n ((d,.int kd (ED kd x j))::m)):QF P ops C Q (⟨some d,.binOp .shl t1 X Y t2,ty,pos,af,none⟩::rest) n m:=by
 unfold R4 at a;split at a
 ·cases a
 ·rename_i h0;cases a;exact Ue b c hd (λw=>by simp [binOp,Op.shift,h0,ED]) k
def HH {j:Nat}(b:BU m X=some (.int kd x)) (c:BU m Y=some (.int kd2 y)) (hd:Nat.blt d n.1=true) (a:R4 y=some j) (k:QF P ops C Q rest n ((d,.int kd (Dn kd x j))::m)):QF P ops C Q (⟨some d,.binOp .shr t1 X Y t2,ty,pos,af,none⟩::rest) n m:=by
 unfold R4 at a;split at a
 ·cases a
 ·rename_i h0;cases a;exact Ue b c hd (λw=>by simp [binOp,Op.shift,h0,Dn]) k
def Ca {src dst:TypeId}{c:TypeDesc}(g:BU m X=some (.int kd x)) (i:P.underlying src=some c) (j:P.underlying dst=some (.int kd2)) (hd:Nat.blt d n.1=true) (k:QF P ops C Q rest n ((d,.int kd2 (kd2.wrap x))::m)):QF P ops C Q (⟨some d,.convert src dst X,ty,pos,af,none⟩::rest) n m:=λa b=>
 Cu b hd (λw _=>by simp [execOp,b.eval g,convert,run_underlying i,run_underlying j,Conv.intToInt]) k
def Kl {s:ByteArray}(i:BU m X=some (.string s)) (j:BU m Y=some (.int kd y)) (l:P.underlying t=some .string) (c:UG s y=some z) (hd:Nat.blt d n.1=true) (k:QF P ops C Q rest n ((d,.int .u8 z)::m)):QF P ops C Q (⟨some d,.index t X Y,ty,pos,af,none⟩::rest) n m:=λa g=>by
 unfold UG at c;split at c
 ·cases c
 ·rename_i h0;obtain⟨b,o,rfl⟩:=iH.1 c;exact Cu g hd (λw _=>by simp [execOp,g.eval i,g.eval j,Instr.index,asIntOf,run_underlying l,show 0≤y by omega,o]) k
def SH {A:Nat→Prop}(g:CK C h) (i:∀b,A b→b<h.size) (j:BU m X=some p) (k0:K4 A S h (BB.intk kd) p x) (l:Ie P t 1 false=true) (hd:Nat.blt d n.1=true)
  (k:kd.has x→QF P ops C Q rest n ((d,.int kd x)::m)):QF P ops C Q (⟨some d,.load t X,ty,pos,af,none⟩::rest) n m:=λa o=>
 Ur g i o j k0 l (λ_=>rfl) hd λv q c s=>by obtain⟨rfl,u⟩:=s.intk;exact k u q c
end
end Go.Proofs.YtedgiljmffngoaaGreat
