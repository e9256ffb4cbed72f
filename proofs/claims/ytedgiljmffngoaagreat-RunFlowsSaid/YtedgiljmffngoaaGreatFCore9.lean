import Derived.Test.YtedgiljmffngoaaGreatFForms
import Derived.Test.YtedgiljmffngoaaGreatFCore8
import Derived.ProofKit
import Derived.OpenShut
import Derived.JoinedCond
import Derived.Deep.Slices
namespace Go.Proofs.YtedgiljmffngoaaGreat
set_option linter.all false
open Go.RowKit
def w1 (k:Nat) (a:k<4611686018427387904):BG ((k:Int)+1)=((k+1:Nat):Int):=by rw[JZ (by unfold AA;omega)];omega
def W4 {α}{l:List α}{i:Nat}(a:i<l.length):ix l (i:Int)=some l[i]:=by simp [ix,a]
def eB {q t:Type}(L:Nat) (f:Nat→Int→q→Option t) (c:q→Option t) (I:Nat→q→Prop) (a:∀n (k:Nat) s,L≤k→f (n+1) (k:Int) s=c s) (b:∀n (k:Nat) s,I k s→k<L→∃s',I (k+1) s'∧f (n+1) (k:Int) s=f n ((k+1:Nat):Int) s'):
  ∀n (k:Nat) s,I k s→L<n+k→k≤L→∃s',I L s'∧f n (k:Int) s=c s'
 |0,k,s,_,g,i=>by omega
 |n+1,k,s,u,g,i=>by
  by_cases d:k<L
  ·obtain⟨s',j,l⟩:=b n k s u d;obtain⟨m,o,p⟩:=eB L f c I a b n (k+1) s' j (by omega) d;exact⟨m,o,l.trans p⟩
  ·have e:k=L:=by omega
   subst e;exact⟨s,u,a n k s (gN _)⟩
def fV {o p:Type}(L:Nat) (f:Nat→Int→o→Option p) (c:o→Option p) (d:Option p) (I:Nat→o→Prop) (a:∀n (k:Nat) s,L≤k→f (n+1) (k:Int) s=c s) (b:∀n (k:Nat) s,I k s→k<L→f (n+1) (k:Int) s=d∨∃s',I (k+1) s'∧f (n+1) (k:Int) s=f n ((k+1:Nat):Int) s'):
  ∀n (k:Nat) s,I k s→L<n+k→k≤L→f n (k:Int) s=d∨∃s',I L s'∧f n (k:Int) s=c s'
 |0,k,s,_,l,m=>by omega
 |n+1,k,s,q,l,m=>by
  by_cases j:k<L
  ·rcases b n k s q j with g|⟨s',g,h4⟩
   ·exact .inl g
   ·rcases fV L f c d I a b n (k+1) s' g (by omega) j with i|⟨s2,i,h6⟩
    ·exact .inl (h4.trans i)
    ·exact .inr ⟨s2,i,h4.trans h6⟩
  ·have e:k=L:=by omega
   subst e;exact .inr ⟨s,q,a n k s (gN _)⟩
def Kv {p:Prop}[Decidable p] (a:p):decide p=true:=decide_eq_true a
def Jo {p:Prop}[Decidable p] (a:¬p):decide p=false:=decide_eq_false a
def dQ (N:Nat) {a b:Int}(c:0≤a) (d:a≤4611686018427387903) (g:0≤b) (i:b≤4611686018427387903):Ej N a b=some (a+b):=by
 unfold Ej;rw[JZ (n:=9223372036854775807-b) (by unfold AA;omega),JZ (n:=a+b) (by unfold AA;omega)];rw[Jo (show ¬(9223372036854775807-b<a) by omega),Jo (show ¬(b<0) by omega)];simp
def eO (N:Nat) {a b:Int}(c:0≤a) (d:a≤4611686018427387903) (g:0≤b) (i:b≤4611686018427387903):F9 N a b=some (a-b):=by
 unfold F9;rw[JZ (n:=(-9223372036854775808)+b) (by unfold AA;omega),JZ (n:=a-b) (by unfold AA;omega)];rw[Jo (show ¬(a<(-9223372036854775808)+b) by omega),Jo (show ¬(b<0) by omega)];simp
def Xe (m:AX):Prop:=(∀x∈m.R,0≤x∧x≤1099511627776)∧m.R.length≤20
def cG {p:List Int}(g:∀x∈p,0≤x∧x≤1099511627776):0≤p.sum∧p.sum≤p.length*1099511627776:=by
 induction p with
 |nil=>simp
 |cons x p a=>
  have c:=g x (by simp);have d:=a λy b=>g y (by simp [b]);simp only[List.sum_cons,jA];omega
def Xe.tot {m:AX}(a:Xe m):0≤m.R.sum∧m.R.sum≤21990232555520:=by
 have:=cG a.1;have:=a.2;omega
def bG {N:Nat}(o:1000<N) {p:List Int}(u:∀x∈p,0≤x∧x≤1099511627776) (q:p.length≤20):Cc N p=some p.sum:=by
 unfold Cc;obtain⟨s',b,c⟩:=eB p.length (λn k (s:Int)=>Dz N p (Ei N) n s k) (Ei N) (λk s=>s=(p.take k).sum) (λn k s a=>by
  simp only[Dz];rw[Jo (by omega)];rfl) (λn k s d a=>by
  have g:=u p[k] (kB a);have i:∀y∈p.take k,0≤y∧y≤1099511627776:=λy j=>u y (List.mem_of_mem_take j);have t:=cG i;have l:(p.take k).length≤20:=by rw[iL];omega
  refine⟨s+p[k],by rw[d,jP a,List.sum_append];simp,?_⟩;simp only[Dz];rw[Kv (by omega),iC,W4 a,gW,dQ N (by omega) (by omega) g.1 (by omega),gW,w1 k (by omega)]) N 0 0 (by simp) (by omega) (by omega)
 have m:Dz N p (Ei N) N 0 0=Ei N s':=c;rw[m,b,jT];rfl
def gF (p a:Int) (ms:List AX):Int:=((ms.filter λm=>decide (m.D=p)&&decide (m.A=a)).map λm=>m.R.sum).sum
def sF (p a b:Int) (ms:List AX):Int:=((ms.filter λm=>(decide (m.D=p)&&decide (a≤m.A))&&decide (m.A<b)).map λm=>m.R.sum).sum
def P6 (p c:Int) (m:AX) (ms:List AX):gF p c (m::ms)=(if m.D=p∧m.A=c then m.R.sum else 0)+gF p c ms:=by
 unfold gF;by_cases a:m.D=p<;>by_cases b:m.A=c<;>simp [List.filter_cons,a,b]
def Rm (p a b:Int) (m:AX) (ms:List AX):sF p a b (m::ms)=(if m.D=p∧a≤m.A∧m.A<b then m.R.sum else 0)+sF p a b ms:=by
 unfold sF;by_cases c:m.D=p<;>by_cases d:a≤m.A<;>by_cases g:m.A<b<;>simp [List.filter_cons,c,d,g]
def Vk (p a:Int) (x y:List AX):gF p a (x++y)=gF p a x+gF p a y:=by simp [gF,List.filter_append,List.sum_append]
def Ye (p a b:Int) (x y:List AX):sF p a b (x++y)=sF p a b x+sF p a b y:=by simp [sF,List.filter_append,List.sum_append]
def Vj (p g:Int):∀{ms:List AX},(∀m∈ms,Xe m)→0≤gF p g ms∧gF p g ms≤ms.length*21990232555520
 |[],_=>by simp [gF]
 |m::ms,a=>by
  have c:=(a m (by simp)).tot;have d:=Vj p g λx b=>a x (hE _ b);rw[P6];simp only[jA];split<;>omega
def Xt (p a b:Int):∀{ms:List AX},(∀m∈ms,Xe m)→0≤sF p a b ms∧sF p a b ms≤ms.length*21990232555520
 |[],_=>by simp [sF]
 |m::ms,c=>by
  have g:=(c m (by simp)).tot;have i:=Xt p a b λx d=>c x (hE _ d);rw[Rm];simp only[jA];split<;>omega
def fl (p a:Int) (n:Nat) (ms:List AX):List Int:=(List.range n).map λk:Nat=>gF p (a+k) ms
def KT (p a:Int) (n:Nat) (ms:List AX):(fl p a n ms).length=n:=by simp [fl]
def PR (p a:Int) (n:Nat) (ms:List AX) {k:Nat}(b:k<(fl p a n ms).length):(fl p a n ms)[k]=gF p (a+k) ms:=by simp [fl]
def Vn (p a:Int) (n:Nat):fl p a n []=List.replicate n 0:=by
 apply List.ext_getElem
 ·simp [fl]
 ·intro k b c;simp [fl,gF]
def Yw (p a:Int) (b c:Nat) (ms:List AX):fl p a (b+c) ms=fl p a b ms++fl p (a+b) c ms:=by
 unfold fl;rw[List.range_add,jM,List.map_map];congr 1;apply jZ;intro k _;simp only[Function.comp];congr 1;omega
def T7 (a:Int) (m:AX) (p:Int):∀n:Nat,((List.range n).map λk:Nat=>if m.D=p∧m.A=a+k then m.R.sum else 0).sum=if m.D=p∧a≤m.A∧m.A<a+n then m.R.sum else 0
 |0=>by
  simp only[List.range_zero,List.map_nil,List.sum_nil];rw[gL (by omega)]
 |n+1=>by
  rw[List.range_succ,jM,List.sum_append,T7 a m p n];simp only[iF,List.map_nil,List.sum_cons,List.sum_nil];by_cases b:m.D=p
  ·by_cases c:m.A=a+n
   ·rw[gL (by omega),gO ⟨b,c⟩,gO (by omega)];omega
   ·rw[gL (show ¬(m.D=p∧m.A=a+n) from λg=>c g.2)];by_cases d:a≤m.A∧m.A<a+n
    ·rw[gO ⟨b,d⟩,gO (by omega)];omega
    ·rw[gL (λg=>d g.2),gL (by omega)];omega
  ·rw[gL (λg=>b g.1),gL (λg=>b g.1),gL (λg=>b g.1)];rfl
def T9 (f g:Nat→Int):∀l:List Nat,(l.map λk=>f k+g k).sum=(l.map f).sum+(l.map g).sum
 |[]=>rfl
 |x::l=>by simp only[iF,List.sum_cons,T9 f g l];omega
def Vm (p a:Int) (n:Nat):∀ms:List AX,(fl p a n ms).sum=sF p a (a+n) ms
 |[]=>by rw[Vn];simp [sF]
 |m::ms=>by
  rw[Rm,←Vm p a n ms,←T7 a m p n];unfold fl;rw[←T9];congr 1;apply jZ;intro k _;exact P6 p (a+k) m ms
def O2 {N:Nat}(F:1000<N) {ms:List AX}(y:∀m∈ms,Xe m) (V:ms.length≤400) (p:Int) {a b:Int}(W:0≤a∧a≤16777216) (X:0≤b∧b≤16777216) (Y:b-a≤200):G9 N ms p a b=some (fl p a (b-a).toNat ms):=by
 unfold G9;rw[eO N (by omega) (by omega) (by omega) (by omega),gW];by_cases h0:b≤a
 ·rw[Kv h0,Bool.true_or,iC];have:(b-a).toNat=0:=by omega
  rw[this];rfl
 ·rw[Jo h0,Jo (by omega),iN,gU];have l:KM (b-a) (b-a) 8=true:=by unfold KM;rw[Kv (by omega),Kv (by omega),Kv (by omega)];rfl
  rw[l];show DZ N ms p a b (EI N) N 0 (List.replicate (b-a).toNat 0)=_
  obtain⟨s',c,G⟩:=eB ms.length (λn k (s:List Int)=>DZ N ms p a b (EI N) n k s) (EI N) (λk s=>s=fl p a (b-a).toNat (ms.take k)) (λn k s d=>by
   simp only[DZ];rw[Jo (by omega)];rfl) (λn k s g d=>by
   have o:=y ms[k] (kB d);have q:=o.tot;have t:∀m∈ms.take k,Xe m:=λm h=>y m (List.mem_of_mem_take h);simp only[DZ];rw[Kv (by omega),iC,W4 d,gW];refine⟨fl p a (b-a).toNat (ms.take (k+1)),rfl,?_⟩;by_cases z:ms[k].D=p∧a≤ms[k].A∧ms[k].A<b
   ·obtain⟨B,H,I⟩:=z;rw[Kv B,Kv H,Kv I,Bool.true_and,Bool.true_and,iC];have J:BG (ms[k].A-a)=((ms[k].A-a).toNat:Int):=by rw[JZ (by unfold AA;omega)];omega
    have u:(ms[k].A-a).toNat<s.length:=by rw[g,KT];omega
    have Z:=Vj p (a+(ms[k].A-a).toNat) t;have K:(ms.take k).length≤400:=by rw[iL];omega
    have v:s[(ms[k].A-a).toNat]=gF p (a+(ms[k].A-a).toNat) (ms.take k):=by subst g;exact PR _ _ _ _ _
    rw[J,W4 u,gW,gW,bG F o.1 o.2,gW,dQ N (by rw[v];omega) (by rw[v];omega) q.1 (by omega),gW,gW,gW];unfold H5;rw[w1 k (by omega)];congr 1;rw[jP d];apply List.ext_getElem
    ·simp [upd,KT,g]
    ·intro i j M;rw[PR,Vk];simp only[upd,Int.toNat_natCast,List.getElem_set];have Q:i<s.length:=by simpa [upd] using j
     have w:s[i]=gF p (a+i) (ms.take k):=by subst g;exact PR _ _ _ _ _
     have c:gF p (a+i) [ms[k]]=if ms[k].D=p∧ms[k].A=a+i then ms[k].R.sum else 0:=by rw[P6];simp [gF]
     rw[c];by_cases C:(ms[k].A-a).toNat=i
     ·subst C;rw[gO rfl,v,gO ⟨B,by omega⟩]
     ·rw[gL C,w,gL (by omega)];omega
   ·have x:((decide (ms[k].D=p)&&decide (a≤ms[k].A))&&decide (ms[k].A<b))=false:=by
     rw[Bool.and_assoc,←Bool.decide_and,←Bool.decide_and];exact Jo z
    rw[x,gU];unfold H5;rw[w1 k (by omega)];congr 1;rw[jP d,g];apply List.ext_getElem
    ·simp [KT]
    ·intro i j M;have Q:i<(b-a).toNat:=by rw[KT] at j;exact j
     rw[PR,PR,Vk];have c:gF p (a+i) [ms[k]]=if ms[k].D=p∧ms[k].A=a+i then ms[k].R.sum else 0:=by rw[P6];simp [gF]
     rw[c,gL (by omega)];omega) N 0 _ (by rw[List.take_zero,Vn]) (by omega) (by omega)
  have U:DZ N ms p a b (EI N) N 0 (List.replicate (b-a).toNat 0)=EI N s':=G;rw[U,c,jT];rfl
def bK {x:Int}(a:0≤x∧x≤9223372036854775807):Dn .i64 x 63=0:=by
 have:(2:Int)^(min 63 (IntKind.bits .i64))=9223372036854775808:=by decide
 unfold Dn;rw[this,Int.fdiv_eq_ediv_of_nonneg _ (by decide)];omega
def wu {x:Int}(a:0≤x∧x≤9223372036854775807):IntKind.wrap .u64 x=x:=Ty (TM.2 (by omega))
def cJ {l:List Int}{c:Int}(i:∀x∈l,0≤x∧x≤c):0≤l.sum∧l.sum≤l.length*c:=by
 induction l with
 |nil=>simp
 |cons x l a=>
  have d:=i x (by simp);have g:=a λy b=>i y (by simp [b]);simp only[List.sum_cons,jA];have:((l.length+1:Nat):Int)*c=l.length*c+c:=by rw[Int.natCast_add,Int.add_mul];simp
  rw[this];omega
def fG {N:Nat}(q:1000<N) {l:List Int}(t:l.length≤200) (z:∀x∈l,0≤x∧x≤9007199254740992):Ko N l=some (l.sum,true):=by
 unfold Ko;obtain⟨s',b,d⟩:=eB l.length (λn k (s:Int×Int)=>EK N l (EL N) n s.1 s.2 k) (λs=>EL N s.1 s.2) (λk s=>s=(0,(l.take k).sum)) (λn k s a=>by
  simp only[EK];rw[Jo (by omega)];rfl) (λn k s g a=>by
  have u:=z l[k] (kB a);have v:=cJ (c:=9007199254740992) (l:=l.take k) λy i=>z y (List.mem_of_mem_take i);have j:(l.take k).length≤200:=by rw[iL];omega
  refine⟨(0,(l.take (k+1)).sum),rfl,?_⟩;simp only[EK];rw[Kv (by omega),iC,W4 a,gW,w1 k (by omega),g];rw[bK (by omega),wu (show 0≤l[k]∧l[k]≤9223372036854775807 by omega),wu (show(0:Int)≤0∧(0:Int)≤9223372036854775807 by omega)];have m:GG (l.take k).sum l[k] 0=((l.take (k+1)).sum,0):=by
   rw[jP a,List.sum_append];unfold GG;simp only[List.sum_cons,List.sum_nil,jF];omega
  have o:GG 0 0 0=(0,0):=by decide
  simp only[m,o]) N 0 (0,0) (by simp) (by omega) (by omega)
 have p:EK N l (EL N) N 0 0 0=EL N s'.1 s'.2:=d;have w:=cJ z;rw[p,b,jT];unfold EL;simp only;rw[JZ (by unfold AA;omega),bK (by omega),wu (by omega),Jo (by simp)];rfl
def cP (N:Nat) {ms:List AX}(c:ms.length≤400):∀n (k:Nat),ms.length<n+k→k≤ms.length→∃v,DX N ms (FW N) n (k:Int)=some v∧(v=true→∀m∈ms.drop k,m.R.length≤20)
 |0,k,d,g=>by omega
 |n+1,k,d,g=>by
  rw[DX];by_cases o:k<ms.length
  ·rw[Kv (by omega),iC,W4 o,gW];by_cases b:20<(ms[k].R.length:Int)
   ·exact⟨false,by rw[Kv b];rfl,by simp⟩
   ·obtain⟨v,i,j⟩:=cP N c n (k+1) (by omega) (by omega);refine⟨v,by rw[Jo b,gU,w1 k (by omega)];exact i,λl m a=>?_⟩;rw[jX o] at a;rcases gK.1 a with rfl|a
    ·omega
    ·exact j l m a
  ·rw[Jo (by omega),gU];exact⟨true,rfl,λ_ m a=>by rw[jC (by omega)] at a;cases a⟩
def Y1 {N:Nat}(g:1000<N) (ms:List AX):∃v,G0 N ⟨0,[],[],[],[],[],[]⟩ ms=some v∧(v=true→ms.length≤400∧∀m∈ms,m.R.length≤20):=by
 obtain⟨M,rfl⟩:∃M,N=M+1:=⟨N-1,by omega⟩
 unfold G0;by_cases i:(400:Int)<ms.length
 ·refine⟨false,?_,by simp⟩;rw[Kv i];simp
 ·obtain⟨v,a,b⟩:=cP (M+1) (ms:=ms) (by omega) (M+1) 0 (by omega) (by omega);refine⟨v,?_,λc=>⟨by omega,λm d=>b c m (by simpa using d)⟩⟩;rw[Jo i];simp only[List.length_nil,Bool.or_false];rw[Jo (by decide),Jo (by decide)];simp only[Bool.or_false,gU];simp only[D9,List.length_nil,Int.natCast_zero,Int.lt_irrefl,decide_false,gU,FY,D8,FX];exact a
def Xw {N:Nat}(x:AX) (g:x.R.length≤20) (b:Option Bool):∀n (k:Nat),x.R.length<n+k→k≤x.R.length→CQ N true x b n (k:Int)=some true∨((∀y∈x.R.drop k,0≤y∧y≤1099511627776)∧CQ N true x b n (k:Int)=b)
 |0,k,i,j=>by omega
 |n+1,k,i,j=>by
  rw[CQ];by_cases l:k<x.R.length
  ·rw[Kv (by omega),iC,W4 l,gW,gW];by_cases c:x.R[k]<0
   ·left;rw[Kv c];rfl
   ·by_cases d:1099511627776<x.R[k]
    ·left;rw[Jo c,Kv d];rfl
    ·rw[Jo c,Jo d,gU,gW,gU,w1 k (by omega)];rcases Xw (N:=N) x g b n (k+1) (by omega) (by omega) with e|⟨e1,e2⟩
     ·exact .inl e
     ·refine .inr ⟨λy a=>?_,e2⟩;rw[jX l] at a;rcases gK.1 a with rfl|a
      ·omega
      ·exact e1 y a
  ·rw[Jo (by omega),gU];exact .inr ⟨λy a=>(by rw[jC (by omega)] at a;cases a),rfl⟩
def Xs (N:Nat) {l:List Int}(a:l.length≤1000):∀n (k:Nat),l.length<n+k→k≤l.length→DI N l l (Ep N) n (k:Int)=some true
 |0,k,b,c=>by omega
 |n+1,k,b,c=>by
  rw[DI];by_cases d:k<l.length
  ·rw[Kv (by omega),iC,W4 d,gW,gW,Jo (by simp),gU,w1 k (by omega)];exact Xs N a n (k+1) (by omega) (by omega)
  ·rw[Jo (by omega),gU];rfl
def Ww {N:Nat}(a:1000<N) {l:List Int}(b:l.length≤900):E0 N l l=some true:=by
 unfold E0;rw[Jo (by simp),gU];exact Xs N (by omega) N 0 (by omega) (by omega)
def Xv {N:Nat}(g:1000<N) {ms:List AX}(i:∀m∈ms,Xe m) (j:ms.length≤400) (p:Int) {a:Int}(l:0≤a) {c:Nat}(o:c≤200) (b:a+c≤16777216) (d:Option Bool):∀n (k:Nat),c<n+k→k≤c→CW N ms p a (fl p a c ms) d n (k:Int)=d
 |0,k,q,s=>by omega
 |n+1,k,q,s=>by
  rw[CW,KT];by_cases z:k<c
  ·have t:BG (a+(k:Int))=a+k:=JZ (by unfold AA;omega);have u:BG (a+(k:Int)+1)=a+k+1:=JZ (by unfold AA;omega);have v:(a+(k:Int)+1-(a+k)).toNat=1:=by omega
   have w:k<(fl p a c ms).length:=by rw[KT];exact z
   have x:fl p (a+(k:Int)) 1 ms=[gF p (a+k) ms]:=by simp [fl]
   rw[Kv (by omega),iC,t,u,O2 g i j p (by omega) (by omega) (by omega),gW,v,x,Jo (by simp),gU];have y:ix [gF p (a+(k:Int)) ms] 0=some (gF p (a+k) ms):=rfl;rw[y,gW,gW,W4 w,gW,gW,PR,Jo (by simp),gW,gU,w1 k (by omega)];exact Xv g i j p l o b d n (k+1) (by omega) (by omega)
  ·rw[Jo (by omega),gU]
def Sf {N:Nat}(g:1000<N) (w:DG N=some true) (ms:List AX) (p a c b:Int):EQ N ms p a c b=some true:=by
 unfold EQ;obtain⟨v,F,G⟩:=Y1 g ms;rw[w,gW,F,gW];cases i:((((((!v)||(decide (a<0)))||(decide (c<a)))||(decide (b<c)))||(decide ((BG (a+200))<b)))||(decide (16777216<b)))
 case true=>rfl
 rw[gU];simp only[Bool.or_eq_false_iff,Bool.not_eq_false',decide_eq_false_iff_not] at i;obtain⟨⟨⟨⟨⟨y,ha⟩,H⟩,I⟩,z⟩,hb⟩:=i;obtain⟨l,J⟩:=G y;rw[JZ (by unfold AA;omega)] at z;rcases fV ms.length (λn k (s:Int)=>Bw N ms p a b true (By N ms p a c b true) n s k) (By N ms p a c b true) (some true) (λk s=>s=sF p a b (ms.take k)∧∀m∈ms.take k,Xe m) (λn k s o=>by
  simp only[Bw];rw[Jo (by omega)];rfl) (λn k s t o=>by
  obtain⟨rfl,t⟩:=t;simp only[Bw];rw[Kv (by omega),iC,W4 o,gW];have q:=J ms[k] (kB o);rcases Xw (N:=N) ms[k] q (C3 N p a b (sF p a b (ms.take k)) ms[k] (Ch N k (Bw N ms p a b true (By N ms p a c b true) n))) N 0 (by omega) (by omega) with e|⟨e1,e2⟩
  ·exact .inl e
  ·right;have j:Xe ms[k]:=⟨by simpa using e1,q⟩
   have K:=j.tot;have M:=Xt p a b t;have Q:(ms.take k).length≤400:=by rw[iL];omega
   have B:CQ N true ms[k] _ N 0=_:=e2;refine⟨sF p a b (ms.take (k+1)),⟨rfl,λm d=>?_⟩,?_⟩
   ·rw[jP o] at d;rcases jI.1 d with d|d
    ·exact t m d
    ·rw[kG.1 d];exact j
   ·rw[B,jP o,Ye];have u:sF p a b [ms[k]]=if ms[k].D=p∧a≤ms[k].A∧ms[k].A<b then ms[k].R.sum else 0:=by rw[Rm];simp [sF]
    rw[u];unfold C3 Ch;by_cases i:ms[k].D=p∧a≤ms[k].A∧ms[k].A<b
    ·rw[gO i,Kv i.1,Kv i.2.1,Kv i.2.2,Bool.true_and,Bool.true_and,iC,bG g j.1 j.2,gW,JZ (n:=sF p a b (ms.take k)+ms[k].R.sum) (by unfold AA;omega),w1 k (by omega)]
    ·have C:((decide (ms[k].D=p)&&decide (a≤ms[k].A))&&decide (ms[k].A<b))=false:=by
      rw[Bool.and_assoc,←Bool.decide_and,←Bool.decide_and];exact Jo i
     rw[gL i,C,gU,w1 k (by omega),Int.add_zero]) N 0 0 ⟨by simp [sF],by simp⟩ (by omega) (by omega) with e|⟨s',⟨u,d⟩,h2⟩
 ·exact e
 ·have U:Bw N ms p a b true (By N ms p a c b true) N 0 0=By N ms p a c b true s':=h2;rw[U];rw[jT] at u d;unfold By;rw[O2 g d l p (by omega) (by omega) (by omega),gW,O2 g d l p (by omega) (by omega) (by omega),gW,O2 g d l p (by omega) (by omega) (by omega),gW];have V:∀x∈fl p a (b-a).toNat ms,0≤x∧x≤9007199254740992:=λx j=>by
   obtain⟨k,_,rfl⟩:=iJ.1 j;have:=Vj p (a+k) d;omega
  rw[fG g (by rw[KT];omega) V,gW,JZ (n:=b-a) (by unfold AA;omega),Jo (by rw[KT];omega),gU];have W:Hn (([]:List Int).length+(fl p a (c-a).toNat ms).length) 8=true:=by rw[KT];unfold Hn;rw[Kv (by simp;omega)];rfl
  have X:Hn ((([]:List Int)++fl p a (c-a).toNat ms).length+(fl p c (b-c).toNat ms).length) 8=true:=by rw[gQ,KT,KT];unfold Hn;rw[Kv (by omega)];rfl
  rw[W,X];show(E0 N (fl p a (b-a).toNat ms) (([]++fl p a (c-a).toNat ms)++fl p c (b-c).toNat ms)).bind _=_
  have Y:([]++fl p a (c-a).toNat ms)++fl p c (b-c).toNat ms=fl p a (b-a).toNat ms:=by
   rw[gQ,show(b-a).toNat=(c-a).toNat+(b-c).toNat by omega,Yw];congr 2;omega
  have Z:(fl p a (b-a).toNat ms).sum=s':=by rw[Vm,u];congr 1;omega
  rw[Y,Ww g (by rw[KT];omega),gW,Z,Jo (by simp)];show C2 N ms p a b true (fl p a (b-a).toNat ms) false=_
  unfold C2;rw[gU];have:=Xv g d l p (a:=a) (by omega) (c:=(b-a).toNat) (by omega) (by omega) (Cg N ms p a b true) N 0 (by omega) (by omega);have h7:CW N ms p a (fl p a (b-a).toNat ms) (Cg N ms p a b true) N 0=_:=this;rw[h7];unfold Cg;rw[iC,O2 g d l p (a:=b) (b:=a) (by omega) (by omega) (by omega),gW,KT,Kv (by omega)];rfl
def BN:Nat:=36893488147419103232
def T0:DG BN=some true:=by decide +kernel
def QI (ms:List AX) (p a c b:Int):EQ BN ms p a c b=some true:=Sf (by decide) T0 ms p a c b
open Go.ChangeShapes Go.WideShapes Go.ChangeAt Go.RowKit Go.Deep
def O9 {α}(P:Program) (t:TypeId) (r:BB α):Prop:=
 P.cellsOf t=r.sz∧∀{H:Type} {enc:TypeId×Value→H} {w:World} {c:Nat} {a:Nat→Bool} {d:Bool} {g:Nat} {cs:List Value} {x:DataW H×List MemPlace},
  DataW.trod enc P w c a d g t cs=some x→∃y,r.rd (λb=>b<w.heap.size) w.heap cs y
def W3 {n:Int}(a:(Lit.int .i64 n).wf=true):AA n:=by
 simpa [Lit.wf,IntKind.min,IntKind.max,IntKind.signed,IntKind.bits,AA] using a
def Ut {P:Program}{t:TypeId}(i:P.cellsOf t=1) (j:P.underlying t=some (.int .i64)):O9 P t AB:=by
 refine⟨i,λ{H enc w d b g a cs x} o=>?_⟩;cases a with
 |zero=>simp [DataW.trod] at o
 |succ n=>
  unfold DataW.trod at o;simp only[j] at o;split at o<;>simp_all;rename_i k l m;obtain⟨⟨rfl,c⟩,_⟩:=o;subst m;exact⟨l,rfl,W3 c⟩
def Ph {α}{p:Nat→α→Prop}:∀n,(∀i,i<n→∃x,p i x)→∃l:List α,l.length=n∧∀i x,l[i]? =some x→p i x
 |0,_=>⟨[],rfl,λi x j=>by simp at j⟩
 |n+1,j=>by
  obtain⟨l,b,c⟩:=Ph n λi d=>j i (by omega);obtain⟨x,g⟩:=j n (by omega);refine⟨l++[x],by simp [b],λi y a=>?_⟩;rw[List.getElem?_append] at a;split at a
  ·exact c i y a
  ·rename_i d;have:i-l.length=0:=by
    have:=(hJ.1 a).1;simp at this;omega
   rw[this] at a;simp at a;subst a;have:i=n:=by omega
   subst this;exact g
def Sr {P:Program}{t e:TypeId}{α}{r:BB α}(Q:P.cellsOf t=1) (U:P.underlying t=some (.slice e)) (A:O9 P e r) (V:Nat.blt 0 r.sz=true):O9 P t (BB.sl r):=by
 refine⟨Q,λ{H enc w J B K M cs x} h=>?_⟩;have k:0<r.sz:=(by simpa [Nat.blt] using V:1≤r.sz)
 rcases open_slice U h with ⟨rfl,_⟩|⟨a,len,cap,m,n,D,Pl,rfl,hb,hlc,hcm,hm,_,hel⟩
 ·exact⟨[],_,rfl,.inl ⟨rfl,rfl⟩⟩
 ·have W:len≤m:=by rw[hm];split<;>omega
  obtain⟨l,X,C⟩:=Ph (p:=λi x=>a.spot=none∧Pt (λb=>b<w.heap.size) w.heap r (.pointer (some ⟨a.block,a.off+i*r.sz,none⟩)) x) len λi hi=>by
   obtain⟨cs',F,G⟩:=hel i (by omega);obtain⟨y,Y⟩:=A.2 G;obtain⟨_,q,Gk⟩:=World.cells?_some F;rw[A.1] at q Gk;have u:a.spot=none:=by
    obtain⟨v,I,_⟩:=hel 0 (by omega);obtain⟨_,g,c⟩:=World.cells?_some I;rw[A.1] at g c;have h0:=c 0 k;have Z:(a.add (0*r.sz)).add 0=a:=by simp [Addr.add]
    rw[Z] at h0;cases hs:a.spot with
    |none=>rfl
    |some s=>
     have:w.cell? a=none:=by
      unfold World.cell?;split
      ·simp [hs]
      ·rfl
     rw[this] at h0;have:v[0]? =some (v[0]'(by omega)):=kE (by omega);rw[this] at h0;cases h0
   obtain⟨b,o,s⟩:=a;simp only at u;subst u;have d:∀j,((⟨b,o,none⟩:Addr).add (i*r.sz)).add j=⟨b,o+i*r.sz+j,none⟩:=by
    intro j;have e1:(⟨b,o,none⟩:Addr).add (i*r.sz)=⟨b,o+i*r.sz,none⟩:=by unfold Addr.add;split<;>simp_all
    rw[e1];unfold Addr.add;split<;>simp_all
   have z:b<w.heap.size:=by
    have h0:=Gk 0 k;rw[d] at h0;have:cs'[0]? =some (cs'[0]'(by omega)):=kE (by omega);rw[this] at h0;exact World.block_lt_of_cell? w _ h0
   refine⟨y,rfl,cs',⟨⟨b,o+i*r.sz,none⟩,rfl,rfl,z,λj hj=>?_⟩,Y⟩;have:=Gk j (by omega);rw[d] at this;exact this
  exact⟨l,_,rfl,.inr ⟨a,cap,by rw[X],by omega,hcm,C⟩⟩
def Ss {P:Program}{t:TypeId}{l:Array Field}(q:P.underlying t=some (.struct l)) {H:Type}{enc:TypeId×Value→H}{w:World}{c:Nat}{a:Nat→Bool}{d:Bool}{g:Nat}{cs:List Value}{x:DataW H×List MemPlace}
  (v:DataW.trod enc P w c a d g t cs=some x):cs.length=P.cellsOf t∧∀(j:Nat) (f:Field) {z} (r:BB z),l[j]? =some f→O9 P f.type r→∃y,r.rd (λb=>b<w.heap.size) w.heap ((cs.drop f.offset).take r.sz) y:=by
 obtain⟨xs,n,_,_,s,i,u⟩:=DataW.trod_struct q v;refine⟨s,λj f z r m o=>?_⟩;have p:=u j f m;have k:j<xs.length:=by rw[i];exact(gR.1 m).1
 rw[kE k,o.1] at p;exact o.2 p
def U1 {v:Value}{c:Value}(b:v.cells.toList=[c]) (a:c.oneCell'=true):v=c∨∃cs,v= .agg cs:=by
 cases v<;>first|(right;exact⟨_,rfl⟩)|(left;simpa [Value.cells] using b)
def O4 {P:Program}{t:TypeId}{α}{r:BB α}(u:O9 P t r) (m:r.ag=false) (n:r.sz=1) {H:Type}{enc:TypeId×Value→H}{w:World}{g:Nat}{a:Nat→Bool}{i:Bool}{v:Value}{z:DataW H}{p:List MemPlace}
  (o:∀cs,v≠ .agg cs) (A:DataW.Trod enc P w g a i t v z p):∃y,Rd (λb=>b<w.heap.size) w.heap r v y:=by
 obtain⟨q,x⟩:=A;obtain⟨y,l⟩:=u.2 x;have s:=r.len l;rw[n] at s
 match j:v.cells.toList,s with
 |[c],_=>
  rw[j] at l;have k:=r.one l c (by simp);rcases U1 j k with rfl|⟨cs,rfl⟩
  ·exact⟨y,[v],by simp [BB.val,m],l⟩
  ·exact absurd rfl (o cs)
def Vc {P:Program}{t e:TypeId}(b:P.underlying t=some (.slice e)) {w:World}{a:Reach}{c:Nat}{v:Value}(d:Value.okWide P w a c t v):∀cs,v≠ .agg cs:=by
 rintro cs rfl;simp [Value.okWide,b,Cell.okWide,Cell.ok] at d
def Rw {P:Program}{t:TypeId}{k:IntKind}(b:P.underlying t=some (.int k)) {w:World}{a:Reach}{c:Nat}{v:Value}(d:Value.okWide P w a c t v):∀cs,v≠ .agg cs:=by
 rintro cs rfl;simp [Value.okWide,b,Cell.okWide,Cell.ok] at d
def OD {H:Type}{enc:TypeId×Value→H}{P:Program}(m:laidOutB P=true) {W n:World}(o:Below W.heap.size W n):
  ∀{j:List TypeId} {vs:List Value} {k:List (DataW H)} {b:List MemPlace},(∀t∈j,P.readableRec t=true∧t<P.types.size)→DataW.TrodAll enc P W 0 (λ_=>true) true j vs k b→(∀x∈b,x.block<W.heap.size)→
   ∀c:Nat→Bool,(∀x∈b,c x.block=true)→DataW.TrodAll enc P n 0 c true j vs k b
 |[],vs,k,b,_,C,_,c,_=>by
  obtain⟨rfl,rfl,rfl⟩:=trodAll_nil C;exact rfl
 |t::j,vs,k,b,s,C,g,c,i=>by
  obtain⟨v,u,D,w,p,q,rfl,rfl,rfl,y,z⟩:=trodAll_cons C;obtain⟨A,B⟩:=s t (by simp);refine⟨p,q,WideElems.Trod_stays m A B y (λx a=>o.same (g x (by simp [a]))) (λx a=>i x (by simp [a])),?_,rfl⟩;exact OD m o (λt l=>s t (by simp [l])) z (λx a=>g x (by simp [a])) c λx a=>i x (by simp [a])
def Vf {H:Type}{enc:TypeId×Value→H}{P:Program}{f:Func}{s:ChangeSpec}{W l:World}{c:Array Value}{d i:List (DataW H)}{a:List MemPlace}{tb:TypeId}
  (q:laidOutB P=true) (j:f.params.toList.all (λt=>P.readableRec t&&decide (t<P.types.size))=true) (k:DataW.Whole enc P f.params.toList s.vars false W c.toList d i a)
  (u:f.resultTypes= #[tb]) (v:P.underlying tb=some .bool) (b:s.vars=[]) (w:(s.fn H (d++i)).results=[.lit (.bool true)]) (y:(s.fn H (d++i)).args=d) (z:(s.fn H (d++i)).vars=[])
  (m:Below W.heap.size W l):s.post enc P f false true false false W c (.bool true) l:=by
 have g:∀p∈a,p.block<W.heap.size:=λp A=>k.lt p A;obtain⟨n,pv,B,o,rfl,F,G⟩:=id k;rw[b] at o;obtain⟨rfl,rfl⟩:=trodVars_none o;simp only[iD] at*;refine⟨d,[],n,[],n,[],by simpa using k,?_,?_,?_,?_,λI=>by cases I⟩
 ·simp only[iD];rw[w,u];exact trodAll_mk1 (shut_bool v true)
 ·simp only[iD];rw[y];refine OD q m (λt C=>?_) B g _ λx D=>by simpa using g x D
  have:=gE.1 j t C;simpa using this
 ·simp only[iD];rw[z,b];exact rfl
 ·exact m.frame _
def Uw {P:Program}{f:FuncId}{a:Array Value}{W:World}{L:(Nat→Prop)→AT→Prop}(k:B0 P f a (λb=>b<W.heap.size) W.heap (λv S' h'=>v= .bool true∧L S' h')):
  Calls P f a W λe d=>e= .returned (.bool true)∧Below W.heap.size W d:=
 (k W W ⟨rfl,rfl,rfl,rfl⟩).mono λe d ⟨v,S',h',i,c,g,j,_⟩=>by
  subst i;subst j;exact⟨rfl,c.os,c.tape,c.out,by rw[c.heap];exact g.siz,λb l=>by rw[c.heap];exact g.same b l⟩
end Go.Proofs.YtedgiljmffngoaaGreat
