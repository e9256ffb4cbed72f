import Derived.Test.YtibidnaedddfdaaGreatECore11
import Derived.MapKept
namespace Go.Proofs.YtibidnaedddfdaaGreat
set_option linter.all false
open Go.RowKit
def mJ {α}(S:Nat→Prop) (h:AX) (r:BU α) (s:Value) (xs:List α):Prop:=
 (s= .slice none 0 0∧xs=[])∨∃(a:Addr) (sc:Nat) (news:List Value),s= .slice (some a) xs.length sc∧xs.length≤maxLen∧MX S h r news xs∧∀j u,news[j]? =some u→JT h (a.add j)=some u
def T5 {α}{S:Nat→Prop}{h:AX}{r:BU α}(b:Nat):∀(l:List α) (o:Nat),(∀i x,l[i]? =some x→Pt S h r (.pointer (some ⟨b,o+i*r.sz,none⟩)) x)→∃news,MX S h r news l∧∀j u,news[j]? =some u→JT h ⟨b,o+j,none⟩=some u
 |[],_,_=>⟨[],rfl,λj u c=>by simp at c⟩
 |x::l,o,k=>by
  obtain⟨cs,⟨a,n,_,v,p⟩,m⟩:=k 0 x rfl;obtain⟨news,q,s⟩:=T5 b l (o+r.sz) λi y t=>by
   have:=k (i+1) y (by simpa using t);rwa [wY,Nat.add_comm (i*r.sz),←Nat.add_assoc] at this
  have w:=r.len m;refine⟨cs++news,⟨cs,news,rfl,m,q⟩,λj u c=>?_⟩;have g:a=⟨b,o,none⟩:=by simpa using n.symm
  subst g;by_cases d:j<cs.length
  ·rw[List.getElem?_append_left d] at c;rw[←c];exact p j d
  ·rw[List.getElem?_append_right (by omega)] at c;have:=s _ u c;rw[show o+r.sz+(j-cs.length)=o+j by omega] at this;exact this
def Sl.src {α}{S:Nat→Prop}{h:AX}{r:BU α}{s:Value}{xs:List α}(k:Sl S h r s xs):mJ S h r s xs:=by
 rcases k with k|⟨a,cap,h1,h4,h5,h6⟩
 ·exact .inl k
 ·cases xs with
  |nil=>exact .inr ⟨a,cap,[],h1,uO _,rfl,λj u g=>by simp at g⟩
  |cons x xs=>
   have c:=(h6 0 x rfl).1;obtain⟨b,o,s⟩:=a;simp only at c;subst c;obtain⟨news,l,m⟩:=T5 b (x::xs) o λi y n=>(h6 i y n).2;refine .inr ⟨_,cap,news,h1,wP h4 h5,l,λj u g=>?_⟩;have d:(⟨b,o,none⟩:Addr).add j=⟨b,o+j,none⟩:=by unfold Addr.add;split<;>simp_all
   rw[d];exact m j u g
def St.src {α}{S:Nat→Prop}{h:AX}{r:BU α}{T:Nat}{s:Value}{xs:List α}{L:List HP}(l:St S L h) (m:OS r T s xs∈L):mJ S h r s xs:=by
 obtain⟨F,k,n⟩:=l.get m;rcases k with ⟨⟨d,c⟩,k2,_⟩|⟨g,cap,cur,c,k2,k3,k4,k5,k6,k7⟩
 ·subst k2;cases d with
  |none=>exact .inl ⟨c,rfl⟩
  |some d=>exact .inr ⟨d,0,[],c,uO _,rfl,λj u a=>by simp at a⟩
 ·refine .inr ⟨_,cap,_,c,wP k4 k5,k7,λj u a=>?_⟩;have b:(⟨g,0,none⟩:Addr).add j=⟨g,j,none⟩:=by unfold Addr.add;split<;>simp_all
  have i:=(uV.1 a).1;simp only[vV] at i;rw[wU (by omega)] at a;rw[b];simp only[JT,k3,Option.isSome_none,wS,if_false];simpa using a
section
variable {P:Program}{ops:Array Oper}{Q:Exit→Act→World→Prop}{n:FN}{m:SM}{rest:List Oper}
variable {d:Nat}{ty:TypeId}{pos:String}{af:Array Edge}{X Y:Operand}{B w:World}{h:AX}{S:Nat→Prop}{L L2:List HP}{v:Value}
def Vb {α}{r:BU α}{T ty e sz a:Nat}{z:List Value}{v s:Value}{l xs:List α}{F:Nat→Prop}(p:QY P T=some (e,sz,a,z)) (j:r.sz=sz)
  (c:mJ S h r s xs) (m:l.length+xs.length≤maxLen) (n:L0 (l.length+xs.length) a) (q:Wd B h w) (k:(OS r e v l).holds S F h) (A:∀b,S b→b<h.size∧¬F b):
  ∃t u h' x,(Builtin.append_ #[T,T] ty #[v,s]).run P w= .ok t u∧Wd B h' u∧h.size≤h'.size∧(OS r e t (l++xs)).holds S x h'∧(∀b,x b→F b∨(h.size≤b∧b<h'.size))∧∀b,b<h.size→¬F b→h'[b]? =h[b]? :=by
 rcases c with ⟨rfl,rfl⟩|⟨sd,sc,news,d,_,hn,hc⟩
 ·obtain⟨i,G,d,y,H,I,J,K,M,Q⟩:=MK p;rw[vR];refine⟨v,w,h,F,?_,q,uW _,k,λb C=> .inl C,λ_ _ _=>rfl⟩;rcases k with ⟨⟨D,rfl⟩,rfl,hF⟩|⟨g,cap,cur,rfl,hF,hg,hlc,hcm,hcs,hrd⟩
  ·cases D<;>simp [Builtin.append_,run_underlying d,sizeOf,typeInfo,y,Builtin.lenOf,Builtin.firstCells,loadCells,loadCellsFrom,storeCells]
  ·have o:l.length≤cap:=hlc;simp [Builtin.append_,run_underlying d,sizeOf,typeInfo,y,Builtin.lenOf,Builtin.firstCells,loadCells,loadCellsFrom,storeCells,o]
 ·exact Ub p j d hn hc m n q k A
def jX {α}{r:BU α}{T e sz y:Nat}{z:List Value}{v s:Value}{l xs:List α}{LL:Value→List HP}{a:Act}(g:Fr n a m) (hx:CL m X=some v) (hy:CL m Y=some s) (he:QY P T=some (e,sz,y,z)) (A:r.sz=sz)
  (t:mJ S h r s xs) (C:l.length+xs.length≤maxLen) (D:L0 (l.length+xs.length) y) (hd:Nat.blt d n.1=true) (hw:Wd B h w) (u:St S L h) (rp:∀i,Mp L (OS r e v l) (OS r e i (l++xs)) (LL i))
  (k:∀i a w h',Fr n a ((d,i)::m)→Wd B h' w→St S (LL i) h'→Cc S h S h'→wpList P ops Q rest a w):
  wpList P ops Q (⟨some d,.call ⟨.builtin .append,#[X,Y],#[T,T]⟩,ty,pos,af,none⟩::rest) a w:=by
 refine wpList_plain rfl λK hK=>?_;unfold Oper.wp;obtain⟨M,p,_⟩:=(rp v).pick;obtain⟨F,g1,g2,_⟩:=Sp.pick p u.2;obtain⟨i,w',h',F',e1,e2,e3,e4,e5,e6⟩:=Vb (ty:=ty) he A t C D hw g1 λb c=>⟨u.1 b c,λg=>(g2 b g).2 c⟩
 have H:(execOp a.eval ⟨some d,.call ⟨.builtin .append,#[X,Y],#[T,T]⟩,ty,pos,af,none⟩).run P w= .ok (.value i) w':=by
  simp [execOp,resolve,invoke,builtin,g.eval hx,g.eval hy,e1]
 rw[H];obtain⟨M,p,q⟩:=(rp i).pick;have I:St S (LL i) h'∧Cc S h S h':=by
  obtain⟨G,aa,j,ab⟩:=Sp.pick p u.2;obtain⟨ai,aj,J,ac,U,ad,o,ae,V,W⟩:=Vb (ty:=ty) he A t C D hw aa λb c=>⟨u.1 b c,λg=>(j b g).2 c⟩
  rw[e1] at U;injection U with ev ew
  subst ev;subst ew;have hh:J=h':=by rw[←ad.heap,e2.heap]
  subst hh;have Z:∀b,S b→J[b]? =h[b]? :=λb c=>W b (u.1 b c) λg=>(j b g).2 c;refine⟨⟨λb c=>vB (u.1 b c) o,Pp q ⟨ac,ae,λb c=>?_,?_⟩⟩,λ_ x=>x,Z,o⟩
  ·rcases V b c with g|⟨hl,hu⟩
   ·exact⟨vB (j b g).1 o,(j b g).2⟩
   ·exact⟨hu,λag=>absurd (u.1 b ag) (by omega)⟩
  ·refine Sp.ext ab (λ_ x=>x) (λb c=>?_) λb c=>⟨⟨vB c.1.1 o,c.1.2⟩,λah=>?_⟩
   ·rcases c with c|c
    ·exact Z b c
    ·exact W b c.1.1 c.2
   ·rcases V b ah with g|⟨hl,_⟩
    ·exact c.2 g
    ·exact absurd c.1.1 (by omega)
 exact hK _ _ (k i _ w' h' (g.put hd _) e2 I.1 I.2)
def OL {α}{r:BU α}{T e sz b:Nat}{z:List Value}{v s:Value}{l xs:List α}{u:Value→List HP}(y:CL m X=some v) (A:CL m Y=some s) (C:QY P T=some (e,sz,b,z)) (j:r.sz=sz)
  (g:mJ S h r s xs) (i:Nat.blt 0 b=true) (o:room (l.length+xs.length) b=true) (hd:Nat.blt d n.1=true) (p:St S L h) (D:∀c,Mp L (OS r e v l) (OS r e c (l++xs)) (u c))
  (k:∀c h',St S (u c) h'→Cc S h S h'→LF P ops Q rest B h' n ((d,c)::m)):LF P ops Q (⟨some d,.call ⟨.builtin .append,#[X,Y],#[T,T]⟩,ty,pos,af,none⟩::rest) B h n m:=λa w q t=>
 have F:1≤b:=by simpa [Nat.blt] using i
 have G:l.length+xs.length≤(l.length+xs.length)*b:=Nat.le_mul_of_pos_right _ F;have x:=Rc o;have H:=x.le
 jX q y A C j g (by unfold maxLen;omega) x hd t p D λc a w h' q t p e=>k c h' p e a w q t
end
def Fw (k:IntKind) (n:Int):k.has (k.wrap n):=by
 cases k<;>simp only[IntKind.has,IntKind.wrap,IntKind.min,IntKind.max,IntKind.bits,IntKind.signed]<;>simp<;>(try split)<;>omega
def Sd (k:IntKind) {n:Int}(h:k.has n) (j:Nat):k.has (n.fdiv (2^j)):=by
 have c:(0:Int)<2^j:=Int.pow_pos (by decide);have l:k.min≤0∧0≤k.max:=by cases k<;>decide
 have e:n.fdiv (2^j)=n/2^j:=Int.fdiv_eq_ediv_of_nonneg _ (Int.le_of_lt c);rw[e];obtain⟨a,b⟩:=h;by_cases h0:0≤n
 ·have d:=Int.ediv_nonneg h0 (Int.le_of_lt c);have g:=Int.ediv_le_self (2^j) h0;exact⟨by omega,by omega⟩
 ·have d:n/2^j≤0:=by
   have:=Int.ediv_le_ediv c (show n≤0 by omega);simpa using this
  have g:n≤n/2^j:=by
   have i:(1:Int)≤2^j:=c;rw[Int.le_ediv_iff_mul_le c];have:=Int.mul_le_mul_of_nonpos_left (a:=n) (by omega) i;simpa using this
  exact⟨by omega,by omega⟩
def eA (k:IntKind) {n m:Int}(h:k.has n):k.has (n.tmod m):=by
 have i:k.min≤0∧0≤k.max:=by cases k<;>decide
 obtain⟨a,b⟩:=h;by_cases h0:0≤n
 ·have d:0≤n.tmod m:=Int.tmod_nonneg m h0;have g:n.tmod m≤n:=by
   have e:=Int.natAbs_tmod n m;have c:n.natAbs%m.natAbs≤n.natAbs:=Nat.mod_le _ _;omega
  exact⟨by omega,by omega⟩
 ·have d:(-n).tmod m= -(n.tmod m):=Int.neg_tmod n m;have g:0≤(-n).tmod m:=Int.tmod_nonneg m (by omega);have c:(-n).tmod m≤ -n:=by
   have e:=Int.natAbs_tmod (-n) m;have c:(-n).natAbs%m.natAbs≤(-n).natAbs:=Nat.mod_le _ _;omega
  exact⟨by omega,by omega⟩
def Qz {n:Int}:IntKind.i64.has n↔AA n:=by
 simp [IntKind.has,IntKind.min,IntKind.max,IntKind.bits,IntKind.signed,AA]
def Ja (o:BinOp) (k:IntKind) (x y:Int):Int:=
 let a:=BitVec.ofInt k.bits x
 let b:=BitVec.ofInt k.bits y
 k.wrap ((match o with| .and=>a&&&b| .or=>a|||b| .xor=>a ^^^ b|_=>a&&& ~~~b).toNat)
def PC (k:IntKind) (x y:Int):Option Int:=if y=0 then none else some (k.wrap (x.tdiv y))
def Tm (x y:Int):Option Int:=if y=0 then none else some (x.tmod y)
def En (k:IntKind) (x:Int) (j:Nat):Int:=k.wrap (x*2^(min j k.bits))
def FI (k:IntKind) (x:Int) (j:Nat):Int:=x.fdiv (2^(min j k.bits))
def QZ (y:Int):Option Nat:=if y<0 then none else some y.toNat
def MF {k x y z}(h:PC k x y=some z):k.has z:=by
 unfold PC at h;split at h
 ·cases h
 ·cases h;exact Fw _ _
def Vf {k:IntKind}{x y z}(a:k.has x) (h:Tm x y=some z):k.has z:=by
 unfold Tm at h;split at h
 ·cases h
 ·cases h;exact eA k a
def Xs (s:ByteArray) (i:Int):Option Int:=if i<0 then none else (s[i.toNat]?).map λb=>(b.toNat:Int)
def Q8 {s i x}(h:Xs s i=some x):IntKind.u8.has x:=by
 unfold Xs at h;split at h
 ·cases h
 ·obtain⟨b,_,rfl⟩:=wV.1 h;have:=b.toNat_lt;simp [IntKind.has,IntKind.min,IntKind.max,IntKind.bits,IntKind.signed];omega
section
variable {P:Program}{ops:Array Oper}{C:World→Prop}{Q:Act→Prop}{n:FN}{m m':SM}{rest:List Oper}
variable {d:Nat}{ty:TypeId}{pos:String}{af:Array Edge}{X Y Z:Operand}{t t1 t2:TypeId}{x y z:Int}{kd kd2:IntKind}{v p:Value}{S:Nat→Prop}{L:List HP}{h:AX}
def Qg {a:BinOp}{u:Value}(b:CL m X=some (.int kd x)) (c:CL m Y=some (.int kd y)) (hd:Nat.blt d n.1=true) (g:∀w,(binOp a t1 (.int kd x) (.int kd y)).run P w= .ok u w)
  (k:QF P ops C Q rest n ((d,u)::m)):QF P ops C Q (⟨some d,.binOp a t1 X Y t2,ty,pos,af,none⟩::rest) n m:=λ_ i=>PD i b c hd g k
def fG (a:CL m X=some (.int kd x)) (b:CL m Y=some (.int kd y)) (hd:Nat.blt d n.1=true) (k:QF P ops C Q rest n ((d,.int kd (kd.wrap (x+y)))::m)):QF P ops C Q (⟨some d,.binOp .add t1 X Y t2,ty,pos,af,none⟩::rest) n m:=Qg a b hd (λw=>by simp [binOp,Op.intArith]) k
def eQ (a:CL m X=some (.int kd x)) (b:CL m Y=some (.int kd y)) (hd:Nat.blt d n.1=true) (k:QF P ops C Q rest n ((d,.int kd (kd.wrap (x-y)))::m)):QF P ops C Q (⟨some d,.binOp .sub t1 X Y t2,ty,pos,af,none⟩::rest) n m:=Qg a b hd (λw=>by simp [binOp,Op.intArith]) k
def eU (a:CL m X=some (.int kd x)) (b:CL m Y=some (.int kd y)) (hd:Nat.blt d n.1=true) (k:QF P ops C Q rest n ((d,.int kd (kd.wrap (x*y)))::m)):QF P ops C Q (⟨some d,.binOp .mul t1 X Y t2,ty,pos,af,none⟩::rest) n m:=Qg a b hd (λw=>by simp [binOp,Op.intArith]) k
def fF (a:CL m X=some (.int kd x)) (b:CL m Y=some (.int kd y)) (hd:Nat.blt d n.1=true) (k:QF P ops C Q rest n ((d,.int kd (Ja .and kd x y))::m)):QF P ops C Q (⟨some d,.binOp .and t1 X Y t2,ty,pos,af,none⟩::rest) n m:=Qg a b hd (λw=>by simp [binOp,Op.intBits,Ja]) k
def mP (a:CL m X=some (.int kd x)) (b:CL m Y=some (.int kd y)) (hd:Nat.blt d n.1=true) (k:QF P ops C Q rest n ((d,.int kd (Ja .or kd x y))::m)):QF P ops C Q (⟨some d,.binOp .or t1 X Y t2,ty,pos,af,none⟩::rest) n m:=Qg a b hd (λw=>by simp [binOp,Op.intBits,Ja]) k
def Ps (b:CL m X=some (.int kd x)) (c:CL m Y=some (.int kd y)) (hd:Nat.blt d n.1=true) (a:PC kd x y=some z) (k:QF P ops C Q rest n ((d,.int kd z)::m)):QF P ops C Q (⟨some d,.binOp .quo t1 X Y t2,ty,pos,af,none⟩::rest) n m:=by
 unfold PC at a;split at a
 ·cases a
 ·rename_i h0;cases a;exact Qg b c hd (λw=>by simp [binOp,Op.intDiv,h0]) k
def YE (b:CL m X=some (.int kd x)) (c:CL m Y=some (.int kd y)) (hd:Nat.blt d n.1=true) (a:Tm x y=some z) (k:QF P ops C Q rest n ((d,.int kd z)::m)):QF P ops C Q (⟨some d,.binOp .rem t1 X Y t2,ty,pos,af,none⟩::rest) n m:=by
 unfold Tm at a;split at a
 ·cases a
 ·rename_i h0;cases a;exact Qg b c hd (λw=>by simp [binOp,Op.intDiv,h0]) k
def YI {b:BinOp}{u:Value}(g:CL m X=some (.int kd x)) (i:CL m Y=some (.int kd2 y)) (hd:Nat.blt d n.1=true) (j:∀w,(binOp b t1 (.int kd x) (.int kd2 y)).run P w= .ok u w)
  (k:QF P ops C Q rest n ((d,u)::m)):QF P ops C Q (⟨some d,.binOp b t1 X Y t2,ty,pos,af,none⟩::rest) n m:=λa c=>by
 refine Hf c hd (λw _=>?_) k;have l:(eqGuard b t1 X Y (.int kd x) (.int kd2 y)).run P w= .ok () w:=by
  unfold eqGuard;cases b<;>simp
 simp [execOp,c.eval g,c.eval i,l,j]
def U5 {j:Nat}(b:CL m X=some (.int kd x)) (c:CL m Y=some (.int kd2 y)) (hd:Nat.blt d n.1=true) (a:QZ y=some j) (k:QF P ops C Q rest n ((d,.int kd (En kd x j))::m)):QF P ops C Q (⟨some d,.binOp .shl t1 X Y t2,ty,pos,af,none⟩::rest) n m:=by
 unfold QZ at a;split at a
 ·cases a
 ·rename_i h0;cases a;exact YI b c hd (λw=>by simp [binOp,Op.shift,h0,En]) k
def Kf {j:Nat}(b:CL m X=some (.int kd x)) (c:CL m Y=some (.int kd2 y)) (hd:Nat.blt d n.1=true) (a:QZ y=some j) (k:QF P ops C Q rest n ((d,.int kd (FI kd x j))::m)):QF P ops C Q (⟨some d,.binOp .shr t1 X Y t2,ty,pos,af,none⟩::rest) n m:=by
 unfold QZ at a;split at a
 ·cases a
 ·rename_i h0;cases a;exact YI b c hd (λw=>by simp [binOp,Op.shift,h0,FI]) k
def Iy {b c:TypeId}{ds:TypeDesc}(i:CL m X=some (.int kd x)) (j:P.underlying b=some ds) (l:P.underlying c=some (.int kd2)) (hd:Nat.blt d n.1=true) (k:QF P ops C Q rest n ((d,.int kd2 (kd2.wrap x))::m)):QF P ops C Q (⟨some d,.convert b c X,ty,pos,af,none⟩::rest) n m:=λa g=>
 Hf g hd (λw _=>by simp [execOp,g.eval i,convert,run_underlying j,run_underlying l,Conv.intToInt]) k
def RJ {s:ByteArray}(i:CL m X=some (.string s)) (j:CL m Y=some (.int kd y)) (l:P.underlying t=some .string) (c:Xs s y=some z) (hd:Nat.blt d n.1=true) (k:QF P ops C Q rest n ((d,.int .u8 z)::m)):QF P ops C Q (⟨some d,.index t X Y,ty,pos,af,none⟩::rest) n m:=λa g=>by
 unfold Xs at c;split at c
 ·cases c
 ·rename_i h0;obtain⟨b,o,rfl⟩:=wV.1 c;exact Hf g hd (λw _=>by simp [execOp,g.eval i,g.eval j,Instr.index,asIntOf,run_underlying l,show 0≤y by omega,o]) k
end
def eJ {α}{p:α→Prop}:∀x∈([]:List α),p x:=λu h=>by cases h
def all_cons {α}{p:α→Prop}{x:α}{l:List α}(h:p x) (t:∀x∈l,p x):∀y∈x::l,p y:=λu a=>by
 rcases uS.1 a with rfl|a
 ·exact h
 ·exact t u a
def pK {α}{p:α→Prop}{l:List α}{i:Int}{z:α}(h:∀x∈l,p x) (a:ix l i=some z):p z:=h _ (wO (LK a).2)
def Ug:∀u∈([]:List Value),u.oneCell'=true:=λu h=>by cases h
def K9 {v:Value}{vs:List Value}(h:v.oneCell'=true) (t:∀u∈vs,u.oneCell'=true):∀u∈v::vs,u.oneCell'=true:=λu a=>by
 rcases uS.1 a with rfl|a
 ·exact h
 ·exact t u a
def St.osone {α}{r:BU α}{T:Nat}{v:Value}{l:List α}{S:Nat→Prop}{L:List HP}{h:AX}(a:St S L h) (b:OS r T v l∈L):v.oneCell'=true:=(a.oslAll b).one
def MT:Value→Value→Bool
 | .agg a,.agg b=>R6 a.toList b.toList
 |a,b=>Y4 a b
def Oc {κ β}(kv:κ→Value) (m:List (κ×β)) (k:κ):Option β:=(m.find? λe=>MT (kv k) (kv e.1)).map (·.2)
def Nq {κ β}(kv:κ→Value):List (κ×β)→κ→β→List (κ×β)
 |[],k,x=>[(k,x)]
 |(a,y)::r,k,x=>if MT (kv k) (kv a) then (k,x)::r else (a,y)::Nq kv r k x
def Un (p:Value→Bool):List MapEntry→Nat→Option (Nat×Value)
 |[],_=>none
 |e::a,i=>if p e.key then some (i,e.val) else Un p a (i+1)
structure Pb {κ:Type}(P:Program) (T:TypeId) (kv:κ→Value):Prop where
 chk:∀k e w,(Instr.checkKey e 10000 T (kv k)).run P w= .ok () w
 find:∀k (es:List MapEntry) w,(∀e∈es,∃k',e.key=kv k')→(Instr.findKey T (kv k) es).run P w= .ok (Un (MT (kv k)) es 0) w
 same:∀k k',MT (kv k) (kv k')=true→Instr.sameBits 10000 (kv k') (kv k)=true
def PK (a:TypeDesc) (k:Value) (p:Value→Bool):∀(b:List MapEntry) (i:Nat),(∀e∈b,Instr.sameNow a k e.key=some (p e.key))→Instr.findNow a k b i=some (Un p b i)
 |[],_,_=>rfl
 |e::b,i,h=>by
  have c:=h e (by simp);have d:=PK a k p b (i+1) λe g=>h e (by simp [g]);simp only[Instr.findNow,c,Un];cases p e.key
  ·simpa using d
  ·rfl
def PL {P:Program}(T:TypeId) (k:Value) (p:Value→Bool) (w:World):∀(a:List MapEntry) (i:Nat),(∀e∈a,(Op.equal T k e.key).run P w= .ok (p e.key) w)→(Instr.findAsking T k a i).run P w= .ok (Un p a i) w
 |[],_,_=>rfl
 |e::a,i,h=>by
  have b:=h e (by simp);have c:=PL T k p w a (i+1) λe d=>h e (by simp [d]);simp only[Instr.findAsking,Sem.run_bind,b,Result.andThen_ok,Un];cases p e.key
  ·simpa using c
  ·rfl
def U0 {a b:ByteArray}:(a==b)=true↔a=b:=by
 obtain⟨a⟩:=a;obtain⟨b⟩:=b;rw[show ((⟨a⟩:ByteArray)==⟨b⟩)=(a==b) from rfl];simp
def Pb.str {P:Program}{T:TypeId}(c:P.underlying T=some .string) (d:∀(s:ByteArray) e w,(Instr.checkKey e 10000 T (.string s)).run P w= .ok () w):Pb P T Value.string where
 chk:=d
 find:=λk a w h=>by
  have:Instr.findNow .string (.string k) a 0=some (Un (MT (.string k)) a 0):=PK _ _ _ a 0 λe g=>by obtain⟨b,i⟩:=h e g;rw[i];rfl
  simp [Instr.findKey,run_underlying c,this]
 same:=λk b h=>by
  have:k=b:=U0.1 (by simpa [MT,Y4] using h);subst this;simp [Instr.sameBits,U0.2]
def Pb.int {P:Program}{T:TypeId}{kd:IntKind}(c:P.underlying T=some (.int kd)) (d:∀(s:Int) e w,(Instr.checkKey e 10000 T (.int kd s)).run P w= .ok () w):Pb P T (Value.int kd) where
 chk:=d
 find:=λk a w h=>by
  have:Instr.findNow (.int kd) (.int kd k) a 0=some (Un (MT (.int kd k)) a 0):=PK _ _ _ a 0 λe g=>by
   obtain⟨b,i⟩:=h e g;rw[i];simp [Instr.sameNow,MT,Y4,Sc]
  simp [Instr.findKey,run_underlying c,this]
 same:=λk b h=>by
  have:k=b:=by simpa [MT,Y4] using h
  subst this;simp [Instr.sameBits]
def Pb.agg {κ:Type}{P:Program}{T:TypeId}{f:κ→List Value}{m:List Nat}{j:Array _}(n:P.underlying T=some (.struct j)) (p:gI P T=some m) (o:∀k,(f k).map M1=m) (q:∀a b,Qq (f a) (f b)=true)
  (s:∀k e w,(Instr.checkKey e 10000 T (.agg (f k).toArray)).run P w= .ok () w) (t:∀a b,R6 (f a) (f b)=true→f a=f b) (u:∀a,Instr.sameBits 10000 (.agg (f a).toArray) (.agg (f a).toArray)=true):Pb P T (λk=>Value.agg (f k).toArray) where
 chk:=s
 find:=λk c w h=>by
  have g:(Instr.findAsking T (.agg (f k).toArray) c).run P w= .ok (Un (MT (.agg (f k).toArray)) c 0) w:=PL T _ _ w c 0 λe v=>by
   obtain⟨d,x⟩:=h e v;rw[x];have:=(Vy (w:=w) p (o k) (o d) (q k d)).1;simpa [Op.equal,Op.maxDepth,MT] using this
  have i:Instr.findNow (.struct j) (.agg (f k).toArray) c 0=some (Un (MT (.agg (f k).toArray)) c 0)∨Instr.findNow (.struct j) (.agg (f k).toArray) c 0=none:=by
   cases c with
   |nil=>exact .inl rfl
   |cons e c=>exact .inr rfl
  rcases i with l|l
  ·simp [Instr.findKey,run_underlying n,l]
  ·simp [Instr.findKey,run_underlying n,l,g]
 same:=λk d h=>by
  have h':R6 (f k) (f d)=true:=by simpa [MT] using h
  have:=t k d h';simp only[this];exact u d
def Pd (a:List MapEntry) (c:Nat):Prop:=(a.map (·.born)).Nodup∧∀x,x∈a→x.born<c
def Pd.push {g:List MapEntry}{c:Nat}(k:Pd g c) (e:MapEntry) (m:e.born=c):Pd (g++[e]) (c+1):=by
 refine⟨?_,λx d=>?_⟩
 ·rw[xX,List.nodup_append];refine⟨k.1,by simp,λa i b j=>?_⟩;simp only[wA,List.map_nil,wI] at j;obtain⟨y,l,rfl⟩:=wN.1 i;have:=k.2 y l;omega
 ·rcases wF.1 d with d|d
  ·have:=k.2 x d;omega
  ·simp only[wI] at d;subst d;omega
def Pd.of {b a:List MapEntry}{c:Nat}(k:Pd b c) (h:a.map (·.born)=b.map (·.born)):Pd a c:=by
 refine⟨by rw[h];exact k.1,λx d=>?_⟩;have:x.born∈b.map (·.born):=by rw[←h];exact wN.2 ⟨x,d,rfl⟩
 obtain⟨y,g,e⟩:=wN.1 this;have:=k.2 y g;omega
def Vn (a:List MapEntry) (j:Nat) (f:MapEntry→MapEntry) (b:∀e,(f e).born=e.born):(a.modify j f).map (·.born)=a.map (·.born):=by
 apply zE;intro i;simp only[xG,List.getElem?_modify];by_cases e:j=i
 ·subst e;cases a[j]? <;>simp [b]
 ·simp [e]
def MP {κ β:Type}(kv:κ→Value) (vv:β→Value) (b:Nat) (m:List (κ×β)):HP where
 holds:=λ_ F h=>(∀c,F c↔c=b)∧∃d a,h[b]? =some (.map d a)∧d.toList.map (λe=>(e.key,e.val))=(m.map λe=>(kv e.1,vv e.2))∧Pd d.toList a
 loc:=λ⟨g,d,c,i,j⟩ _ e=>⟨g,d,c,(e _ (.inr ((g _).2 rfl))).trans i,j⟩
def MP.flat {κ β}{kv:κ→Value}{vv:β→Value}{b m}:(MP kv vv b m).Flat:=λ{_ _ _ _} k=>k
section
variable {κ β:Type}{kv:κ→Value}{vv:β→Value}
def TI:∀{b:List MapEntry}{m:List (κ×β)},b.map (λe=>(e.key,e.val))=m.map (λe=>(kv e.1,vv e.2))→∀e∈b,∃c,e.key=kv c
 |[],_,_,_,a=>by cases a
 |x::b,[],h,_,_=>by simp at h
 |x::b,y::m,h,e,a=>by
  simp only[wA,List.cons.injEq,yR] at h;rcases uS.1 a with rfl|a
  ·exact⟨_,h.1.1⟩
  ·exact TI h.2 e a
def Xj (k:κ):∀{a:List MapEntry}{m:List (κ×β)}(i:Nat),a.map (λe=>(e.key,e.val))=m.map (λe=>(kv e.1,vv e.2))→(Un (MT (kv k)) a i).map (·.2)=(Oc kv m k).map vv
 |[],[],_,_=>rfl
 |[],_::_,_,h=>by simp at h
 |x::a,[],_,h=>by simp at h
 |x::a,y::m,i,h=>by
  simp only[wA,List.cons.injEq,yR] at h;have b:=Xj k (i+1) h.2;simp only[Un,h.1.1,Oc,List.find?_cons] at b ⊢;cases MT (kv k) (kv y.1)
  ·simpa using b
  ·simp [h.1.2]
def Vw (k:κ):∀{a:List MapEntry}{m:List (κ×β)}(i:Nat) (x:β),a.map (λe=>(e.key,e.val))=m.map (λe=>(kv e.1,vv e.2))→Un (MT (kv k)) a i=none→Nq kv m k x=m++[(k,x)]
 |[],[],_,_,_,_=>rfl
 |[],_::_,_,_,h,_=>by simp at h
 |x::a,[],_,_,h,_=>by simp at h
 |x::a,y::m,i,z,h,b=>by
  simp only[wA,List.cons.injEq,yR] at h;simp only[Un,h.1.1] at b;split at b
  ·cases b
  ·rename_i c;simp only[Nq,c,wS,if_false,Vw k (i+1) z h.2 b,wZ]
def Vv (k:κ) (u:Value):∀{a:List MapEntry}{m:List (κ×β)}(i j:Nat) (v:Value) (x:β),a.map (λe=>(e.key,e.val))=m.map (λe=>(kv e.1,vv e.2))→Un (MT (kv k)) a i=some (j,v)→
  i≤j∧j-i<a.length∧(∃b,(a[j-i]?).map (·.key)=some (kv b)∧MT (kv k) (kv b)=true)∧(a.modify (j-i) λe=>{ e with key:=kv k,val:=vv x}).map (λe=>(e.key,e.val))=(Nq kv m k x).map λe=>(kv e.1,vv e.2)
 |[],_,_,_,_,_,_,h=>by simp [Un] at h
 |x::a,[],_,_,_,_,h,_=>by simp at h
 |x::a,y::m,i,j,v,z,h,c=>by
  simp only[wA,List.cons.injEq,yR] at h;simp only[Un,h.1.1] at c;split at c
  ·rename_i d;obtain⟨rfl,rfl⟩:i=j∧x.val=v:=by simpa using c
   refine⟨uW _,by simp,⟨y.1,by simp [h.1.1],d⟩,?_⟩;simp [Nq,d,h.2]
  ·rename_i d;obtain⟨p,g,⟨b,l,n⟩,o⟩:=Vv k u (i+1) j v z h.2 c;have e:j-i=(j-(i+1))+1:=by omega
   refine⟨by omega,by rw[e];simpa using g,⟨b,by rw[e];simpa using l,n⟩,?_⟩;rw[e];simp only[List.modify_succ_cons,wA,Nq,d,wS,if_false,o,h.1.1,h.1.2]
end
section
variable {P:Program}{ops:Array Oper}{C:World→Prop}{Q:Act→Prop}{n:FN}{m m':SM}{rest:List Oper}
variable {d:Nat}{ty:TypeId}{pos:String}{af:Array Edge}{X Y Z:Operand}{t t1 t2:TypeId}{v p u:Value}{S:Nat→Prop}{L L2:List HP}{h:AX}{b:Nat}
variable {κ β:Type}{kv:κ→Value}{vv:β→Value}{l:List (κ×β)}{k0:κ}{z:β}{kt et:TypeId}
def WW {w:World}{k:Bool}(m:P.underlying t=some (.map kt et)) (i:Pb P kt kv) (s:∀w,(zeroValue et).run P w= .ok (vv z) w) {a:Array MapEntry}{c:Nat}(n:w.heap[b]? =some (.map a c)) (o:a.toList.map (λe=>(e.key,e.val))=l.map λe=>(kv e.1,vv e.2)):
  (Instr.lookup t (.map (some b)) (kv k0) k).run P w= .ok (if k then .tuple #[vv ((Oc kv l k0).getD z),.bool (Oc kv l k0).isSome] else vv ((Oc kv l k0).getD z)) w:=by
 have d:=i.find k0 a.toList w (TI o);have g:=Xj (kv:=kv) (vv:=vv) k0 0 o;have u:=s w;cases p:Un (MT (kv k0)) a.toList 0 with
 |none=>
  rw[p] at d g;have j:Oc kv l k0=none:=by simpa using g.symm
  simp [Instr.lookup,run_underlying m,MapKept.run_getObj_map n,i.chk,d,u,j]
 |some r=>
  rw[p] at d g;obtain⟨y,j,q⟩:∃y,Oc kv l k0=some y∧vv y=r.2:=wV.1 (by simpa using g.symm);obtain⟨v,x⟩:=r;simp only at q;subst q;simp [Instr.lookup,run_underlying m,MapKept.run_getObj_map n,i.chk,d,j]
def mQ {j:Bool}(o:CK C h) (p:St S L h) (q:MP kv vv b l∈L) (s:CL m X=some (.map (some b))) (v:CL m Y=some (kv k0)) (x:P.underlying t=some (.map kt et)) (y:Pb P kt kv) (A:∀w,(zeroValue et).run P w= .ok (vv z) w) (hd:Nat.blt d n.1=true)
  (B:(if j then .tuple #[vv ((Oc kv l k0).getD z),.bool (Oc kv l k0).isSome] else vv ((Oc kv l k0).getD z))=u)
  (k:QF P ops C Q rest n ((d,u)::m)):QF P ops C Q (⟨some d,.lookup t X Y j,ty,pos,af,none⟩::rest) n m:=λa g=>by
 refine Hf g hd (λw D=>?_) k;obtain⟨F,⟨G,H,c,I,J,_⟩,i⟩:=p.get q;have K:w.heap[b]? =some (.map H c):=(o w D b (i b ((G b).2 rfl)).1).trans I;simp [execOp,g.eval s,g.eval v,WW x y A K J,B]
end
section
variable {P:Program}{ops:Array Oper}{Q:Exit→Act→World→Prop}{n:FN}{m:SM}{rest:List Oper}
variable {d:Nat}{ty:TypeId}{pos:String}{af:Array Edge}{X Y Z:Operand}{B w:World}{h:AX}{S:Nat→Prop}{L L2:List HP}{v:Value}{t kt et:TypeId}{b:Nat}
variable {κ β:Type}{kv:κ→Value}{vv:β→Value}{l:List (κ×β)}{k0:κ}{x:β}
def nC (hs:St S L h) (rp:Mp L (MP kv vv b l) (MP kv vv b (Nq kv l k0 x)) L2) (hx:CL m X=some (.map (some b))) (hy:CL m Y=some (kv k0)) (hz:CL m Z=some (vv x)) (hT:P.underlying t=some (.map kt et)) (H:Pb P kt kv)
  (k:∀h',St S L2 h'→Cc S h S h'→LF P ops Q rest B h' n m):LF P ops Q (⟨none,.mapUpdate t X Y Z,ty,pos,af,none⟩::rest) B h n m:=by
 intro a w q v;refine wpList_plain rfl λK y=>?_;unfold Oper.wp;obtain⟨M,p,_⟩:=rp.pick;obtain⟨F,⟨g1,s,c,g2,I,g4⟩,hF,_⟩:=Sp.pick p hs.2;have z:w.heap[b]? =some (.map s c):=by rw[v.heap];exact g2
 have J:=H.find k0 s.toList w (TI I);have A:∀(o:Obj) (h0:w.heap=h),(∀c',c'≠b→(w.heap.setIfInBounds b o)[c']? =h[c']?)∧(w.heap.setIfInBounds b o)[b]? =some o∧(w.heap.setIfInBounds b o).size=h.size:=λo h0=>by
  have U:b<w.heap.size:=(vJ.1 z).1;refine⟨λc' C=>by rw[Array.getElem?_setIfInBounds_ne (Ne.symm C),h0],?_,by simp [h0]⟩;rw[Array.getElem?_setIfInBounds_self];simp [U]
 have D:∀(d:Array MapEntry) (c':Nat),d.toList.map (λe=>(e.key,e.val))=(Nq kv l k0 x).map (λe=>(kv e.1,vv e.2))→Pd d.toList c'→wpList P ops Q rest a { w with heap:=w.heap.setIfInBounds b (.map d c')}:=λd c' he V=>by
  obtain⟨s1,s2,s3⟩:=A (.map d c') v.heap;have W:Wd B (w.heap.setIfInBounds b (.map d c')) { w with heap:=w.heap.setIfInBounds b (.map d c')}:=⟨rfl,v.os,v.tape,v.out⟩
  obtain⟨u1,u2⟩:=hs.upd (h':=w.heap.setIfInBounds b (.map d c')) rp (by omega) λF k1 k2=>⟨F,⟨k1.1,d,c',s2,he,V⟩,λc C=> .inl C,λc _ C=>s1 c λe=>C ((k1.1 c).2 e)⟩
  exact k _ u1 u2 a _ q W
 cases i:Un (MT (kv k0)) s.toList 0 with
 |none=>
  rw[i] at J;have g:(execOp a.eval ⟨none,.mapUpdate t X Y Z,ty,pos,af,none⟩).run P w= .ok .skip { w with heap:=w.heap.setIfInBounds b (.map (s.push { key:=kv k0,val:=vv x,born:=c}) (c+1))}:=by
   simp [execOp,q.eval hx,q.eval hy,q.eval hz,Instr.mapUpdate,run_underlying hT,MapKept.run_getObj_map z,H.chk,J,MapKept.run_setObj_map _ z]
  rw[g];refine y _ _ (D _ _ ?_ (by rw[Array.toList_push];exact g4.push _ rfl));rw[Vw k0 0 x I i];simp [I]
 |some r=>
  obtain⟨j,r2⟩:=r;rw[i] at J;obtain⟨_,q2,⟨k',q3,q4⟩,q5⟩:=Vv k0 (vv x) 0 j r2 x I i;have G:((s[j]?).map (·.key)).getD (kv k0)=kv k':=by
   have:(s[j]?).map (·.key)=some (kv k'):=by simpa using q3
   simp [this]
  have u:(Instr.keyThatStays (kv k') (kv k0)).run P w= .ok (kv k0) w:=by simp [Instr.keyThatStays,H.same _ _ q4]
  have g:(execOp a.eval ⟨none,.mapUpdate t X Y Z,ty,pos,af,none⟩).run P w= .ok .skip { w with heap:=w.heap.setIfInBounds b (.map (s.modify j λe=>{ e with key:=kv k0,val:=vv x}) c)}:=by
   simp [execOp,q.eval hx,q.eval hy,q.eval hz,Instr.mapUpdate,run_underlying hT,MapKept.run_getObj_map z,H.chk,J,G,u,MapKept.run_setObj_map _ z]
  rw[g];refine y _ _ (D _ _ ?_ (by rw[Array.toList_modify];exact g4.of (Vn _ _ _ λ_=>rfl)));simpa using q5
def nD {K E:TypeId}(hd:Nat.blt d n.1=true) (o:St S L h) (kv:κ→Value) (vv:β→Value)
  (k:∀b h',St S (MP kv vv b []::L) h'→Cc S h S h'→LF P ops Q rest B h' n ((d,.map (some b))::m)):LF P ops Q (⟨some d,.makeMap t none,ty,pos,af,none⟩::rest) B h n m:=by
 intro a w p l;refine wpList_plain rfl λK g=>?_;unfold Oper.wp;have c:(execOp a.eval ⟨some d,.makeMap t none,ty,pos,af,none⟩).run P w= .ok (.value (.map (some w.heap.size))) (w.alloc (.map #[] 0)):=by
  first|rfl|(simp [execOp,Instr.makeMap,newObj,Sem.run])
 rw[c];obtain⟨q,s⟩:=o.add (h':=h.push (.map #[] 0)) (H':=MP kv vv h.size []) (by simp) (λb i=>IE _ _ _ i) ⟨λb=>b=h.size,⟨λ_=>Iff.rfl,#[],0,Le _ _,rfl,List.nodup_nil,λx u=>by cases u⟩,λb i=>by subst i;simp⟩;have j:=l.heap;exact g _ _ (k w.heap.size _ (by rw[j];exact q) s _ _ (p.put hd _) (l.alloc _))
end
def sH (P:Program) (T:TypeId):Option (List (Nat×Nat)×List Value):=
 match P.underlying T,FG P T with
 |some (.array n e),some z=>(P.info? e).map λi=>((List.range n).map λk=>(k*i.size,i.size),z)
 |_,_=>none
def tN (P:Program) (t len sz:Nat):Bool:=
 match P.underlying t with
 |some (.array n e)=>Nat.beq n len&&(match P.info? e with|some i=>Nat.beq i.size sz|none=>false)
 |_=>false
def UD {p q:Nat→Option (Nat×Nat)}(h:∀i x,p i=some x→q i=some x):∀(b:List (Nat×Value)) (cs cs':Array Value),Instr.fill p cs b=some cs'→Instr.fill q cs b=some cs'
 |[],_,_,e=>e
 |(i,v)::r,cs,cs',e=>by
  simp only[Instr.fill] at e ⊢;cases a:p i with
  |none=>rw[a] at e;cases e
  |some x=>
   obtain⟨o,s⟩:=x;rw[a] at e;rw[h i _ a];simp only at e ⊢;split at e
   ·cases e
   ·rename_i c;rw[uI c];exact UD h r _ _ e
def bN {P:Program}{T:TypeId}{pl z pv cs}(h:sH P T=some (pl,z)) (o:NV pl z pv=some cs):P.built T pv=some cs.toArray:=by
 unfold sH at h;split at h
 ·rename_i n e p s a;simp only[wV,yR] at h;obtain⟨g,b,rfl,rfl⟩:=h;unfold FG at a;simp only[wV,xK] at a;obtain⟨w,⟨i,t,c⟩,d⟩:=a;simp only[Program.built,t,s,c,b];have l:=N8 _ pv p cs o;rw[←d] at l;have u:=UD (q:=λi=>some (i*g.size,g.size)) (λj x m=>by
   rw[List.getElem?_toArray,xG] at m;obtain⟨k,v,rfl⟩:=wV.1 m;obtain⟨_,rfl⟩:=uV.1 v;simp) pv _ _ l
  simpa using u
 ·cases h
section
variable {P:Program}{ops:Array Oper}{C:World→Prop}{Q:Act→Prop}{n:FN}{m m':SM}{rest:List Oper}
variable {d:Nat}{ty:TypeId}{pos:String}{af:Array Edge}{X Y Z:Operand}{t:TypeId}{S:Nat→Prop}{L:List HP}{h:AX}{i:Int}{kd:IntKind}
def fD {T:TypeId}{b:Array (Nat×Operand)}{pl z pv cs}(s:sH P T=some (pl,z)) (c:b.toList.mapM (dM m)=some pv) (o:NV pl z pv=some cs) (hd:Nat.blt d n.1=true) (k:QF P ops C Q rest n ((d,.agg cs.toArray)::m)):QF P ops C Q (⟨some d,.build T b,ty,pos,af,none⟩::rest) n m:=λa q=>by
 refine Hf q hd (λw _=>?_) k;have i:(b.map λ(p:Nat×Operand)=>(p.1,a.eval p.2)).toList=pv:=by
  obtain⟨l⟩:=b;simp only at c;simp only[List.map_toArray];clear o k
  induction l generalizing pv with
  |nil=>simp at c;subst c;rfl
  |cons x l t=>
   simp only[yP,zP,xK,dM,wV] at c;obtain⟨y,⟨v,u,rfl⟩,A,j,g⟩:=c;simp only[Option.pure_def,vU] at g;subst g;simp only[wA,q.eval u,t j]
 have:=run_build (P:=P) w T (b.map λ(p:Nat×Operand)=>(p.1,a.eval p.2)) cs.toArray (by rw[i];exact bN s o);simp only[execOp,Sem.run_bind,this];rfl
def mU {b o len sz:Nat}(u:CL m X=some (.pointer (some ⟨b,o,none⟩))) (v:CL m Y=some (.int kd i)) (c:tN P t len sz=true) (h0:0≤i) (x:i<len) (hd:Nat.blt d n.1=true)
  (k:QF P ops C Q rest n ((d,.pointer (some ⟨b,o+i.toNat*sz,none⟩))::m)):QF P ops C Q (⟨some d,.indexAddr t X Y,ty,pos,af,none⟩::rest) n m:=λa l=>by
 unfold tN at c;split at c
 ·rename_i z e y;simp only[uL] at c;obtain⟨p,g⟩:=c;have p:=uR p;subst p;split at g
  ·rename_i s q;have g:=uR g;subst g;have j:(⟨b,o,none⟩:Addr).add (i.toNat*s.size)=⟨b,o+i.toNat*s.size,none⟩:=by unfold Addr.add;split<;>simp_all
   exact Hf l hd (λw _=>by simp [execOp,l.eval u,l.eval v,Instr.indexAt,asIntOf,run_underlying y,Instr.sureAddr,h0,x,Rb q,j]) k
  ·cases g
 ·cases c
def eX {B:Type}{T b o:Nat}{cs:List Value}{l:List B}{z:B}(f:B→Value) (p:CK C h) (q:St S L h) (s:CL m X=some (.pointer (some ⟨b,o+i.toNat*1,none⟩))) (u:Bx b T cs∈L) (v:(cs.drop o).take l.length=l.map f) (w:Go.Proofs.YtibidnaedddfdaaGreat.ix l i=some z) (x:LV P t 1 false=true) (hd:Nat.blt d n.1=true)
  (k:QF P ops C Q rest n ((d,f z)::m)):QF P ops C Q (⟨some d,.load t X,ty,pos,af,none⟩::rest) n m:=by
 obtain⟨h0,g⟩:=LK w;have y:(cs.drop (o+i.toNat*1)).take 1=[f z]:=by
  have j:((cs.drop o).take l.length)[i.toNat]? =some (f z):=by rw[v,xG,g];rfl
  have c:i.toNat<l.length:=(uV.1 g).1;rw[wU c,wX] at j;rw[Nat.mul_one];obtain⟨a,A⟩:=uV.1 j;rw[yI a,A];rfl
 exact Mb (vs:=[f z]) p q s u y rfl x rfl hd k
end
def RP (h:AX) (T:TypeId) (cs:List Value) (v:Value) (a:AX):Prop:=∃b,v= .pointer (some ⟨b,0,none⟩)∧h.size≤b∧b<a.size∧a[b]? =some (.cells cs.toArray T (0,0))
def RP.mono {h a c:AX}{T cs v}(k:RP h T cs v a) (o:Gf a c):RP h T cs v c:=by
 obtain⟨b,e,g,d,i⟩:=k;exact⟨b,e,g,vB d o.siz,(o.same b d).trans i⟩
def RP.st {h g:AX}{T cs v}{S:Nat→Prop}{L:List HP}(k:RP h T cs v g) (d:St S L h) (o:Gf h g):∃b,v= .pointer (some ⟨b,0,none⟩)∧St S (Bx b T cs::L) g:=by
 obtain⟨b,e,m,i,j⟩:=k;refine⟨b,e,λc a=>vB (d.1 c a) o.siz,λc=>c=b,⟨λ_=>Iff.rfl,j⟩,λc a=>by subst a;exact⟨i,λl=>absurd (d.1 c l) (by omega)⟩,?_⟩;refine Sp.ext d.2 (λ_ x=>x) (λc a=>o.same c (a.elim (d.1 c) (·.1))) λc a=>⟨⟨vB a.1 o.siz,a.2⟩,λe=>by have:=a.1;omega⟩
def Nk {P:Program}{ops:Array Oper}{Q:Exit→Act→World→Prop}{n:FN}{m:SM}{rest:List Oper}{d:Nat}{ty:TypeId}{pos:String}{af:Array Edge}{B:World}{h j:AX}{T:TypeId}{cs:List Value}(o:Gf h j) (c:FG P T=some cs) (hd:Nat.blt d n.1=true)
  (k:∀v h',Gf j h'→RP h T cs v h'→LF P ops Q rest B h' n ((d,v)::m)):LF P ops Q (⟨some d,.alloc T,ty,pos,af,none⟩::rest) B j n m:=by
 intro a w s q;refine wpList_plain rfl λK t=>?_;unfold Oper.wp;unfold FG at c;simp only[wV,xK] at c;obtain⟨z,⟨i,u,c⟩,l⟩:=c;have x:z.cells=cs.toArray:=by rw[←l]
 have g:(execOp a.eval ⟨some d,.alloc T,ty,pos,af,none⟩).run P w= .ok (.value (.pointer (some ⟨w.heap.size,0,none⟩))) (w.alloc (.cells cs.toArray T)):=by
  simp [execOp,Instr.alloc,newVar,newRow,zeroValue,typeInfo,u,c,x]
 rw[g];have p:=q.heap;exact t _ _ (k _ _ ⟨by simp,λb y=>IE _ _ _ y⟩ ⟨j.size,by rw[p],o.siz,by simp,Le _ _⟩ _ _ (s.put hd _) (q.alloc _))
end Go.Proofs.YtibidnaedddfdaaGreat
