import Derived.Test.YtedgiljmffngoaaGreatHCore31
import Derived.Lib.AppendStr
import Derived.Lib.UnsafeStr
import Derived.Lib.Builder
import Derived.Laws.Strings3
import Derived.Laws.BytesArg
import Derived.Laws.Externs
import Derived.Test.YtedgiljmffngoaaGreatRows
namespace Go.Proofs.YtedgiljmffngoaaGreat
set_option linter.all false
open Go.RowKit
def yX (d:Nat):Nat→List Oper→Option (Nat×Nat)
 |_,[]=>none
 |j,o::r=>match o.op with
  | .pick (.tmp x) _ _=>cond (Nat.beq x d) (match o.dst with|some t=>some (j+1,t)|none=>none) (yX d (j+1) r)
  |_=>yX d (j+1) r
def yC (ops:Array Oper) (l:List Oper):Option (Nat×Nat×Nat×Bool):=match l with
 |[]=>none
 |o::_=>match o.guard with
  |none=>none
  |some (g,b)=>match (ops[g]?).bind (·.dst) with
   |none=>none
   |some d=>match yX d 0 l with
    |none=>none
    |some (j,t)=>some (j,t,d,b)
def iG (m1 m:SM):Bool:=(m1.take (m1.length-(m.length+1))).all λp=> !(m.any λq=>Nat.beq p.1 q.1)
def dF:∀{m:SM}{i:Nat}{u:Value},lk m i=some u→(m.any λq=>Nat.beq i q.1)=true
 |(j,v)::r,i,u,h=>by
  rw[List.any_cons];simp only[lk] at h;cases e:Nat.beq j i with
  |true=>
   have:=Aa8 e;subst this;rw[show Nat.beq j j=true by simp,Bool.true_or]
  |false=>
   rw[e,Aa0] at h;rw[dF h,Bool.or_true]
def dD:∀{m:SM}{i:Nat},(∀p∈m,Nat.beq p.1 i=false)→lk m i=none
 |[],_,_=>rfl
 |(j,v)::r,i,h=>by
  simp only[lk];rw[h (j,v) Abn,Aa0];exact dD λp a=>h p (Abt _ a)
def mZ {n:FN}{a:Act}{m m1:SM}{d t:Nat}{b:Bool}{v:Value}(g:Fr n a m1) (l:lk m1 t=some v) (j:iG m1 m=true) (o:m1.drop (m1.length-(m.length+1))=(d,.bool b)::m) (hd:lk m d=some (.bool b)):Fr n a ((t,v)::m):=by
 refine⟨g.dfr,g.siz,λi u c=>?_⟩;simp only[lk] at c;cases e:Nat.beq t i with
 |true=>
  rw[e,Aax] at c;cases c;have:=Aa8 e;subst this;exact g.at_ _ _ l
 |false=>
  rw[e,Aa0] at c;refine g.at_ _ _ ?_;rw[←Aed (m1.length-(m.length+1)) m1,o,MX];have q:lk (m1.take (m1.length-(m.length+1))) i=none:=dD λp s=>by
   unfold iG at j;rw[Aa6] at j;have:=j p s;cases k:Nat.beq p.1 i with
   |false=>rfl
   |true=>
    have w:=Aa8 k;rw[w,dF c] at this;cases this
  rw[q,Option.none_or];simp only[lk];cases k:Nat.beq d i with
  |true=>
   have:=Aa8 k;subst this;rw[hd] at c;exact c
  |false=>exact c
def PS (n:FN) (m:SM) (d:Nat) (b:Bool) (t:Nat) (v:Bool) (a:Act):Prop:=∃m1,Fr n a m1∧lk m1 t=some (.bool v)∧iG m1 m=true∧m1.drop (m1.length-(m.length+1))=(d,.bool b)::m
section
variable {P:Program}{ops:Array Oper}{C:World→Prop}{Q:Act→Prop}{n:FN}{m m1 m2:SM}{l:List Oper}
def tQ {d t:Nat}{b v:Bool}(c:lk m1 t=some (.bool v)) (g:iG m1 m=true) (i:m1.drop (m1.length-(m.length+1))=(d,.bool b)::m):QF P ops C (PS n m d b t v) [] n m1:=QF.nil λa j=>⟨m1,j,c,g,i⟩
def Fr.lit {n:FN}{a:Act}{m:SM}{d:Nat}{v:Value}(c:Fr n a m) (h:lk m d=some v):Fr n a ((d,v)::m):=⟨c.dfr,c.siz,λi u b=>by
 simp only[lk] at b;cases e:Nat.beq d i with
 |true=>
  have:=Aa8 e;subst this;rw[e,Aax] at b;cases b;exact c.at_ _ _ h
 |false=>
  rw[e,Aa0] at b;exact c.at_ _ _ b⟩
def gH {c v:Bool}(b:Bool) {j t d:Nat}(k:lk m d=some (.bool c)) (q:QF P ops C (PS n m d b t v) (l.take j) n ((d,.bool b)::m))
  (s:RN ops n.1 (l.take j) ((d,.bool (!b))::m)=some m2) (u:lk m2 t=some (.bool (!b))) (w:iG m2 m=true) (hd:m2.drop (m2.length-(m.length+1))=(d,.bool (!b))::m) (p:QF P ops C Q (l.drop j) n ((t,.bool (cond b (c&&v) (c||v)))::m)):QF P ops C Q l n m:=by
 by_cases e:c=b
 ·subst e;intro a o;refine UG j (PS n m d c t v) (q a (o.lit k)) λi ⟨m1,x,y,z,A⟩=>p i ?_;have:=mZ x y z A k;cases c<;>exact this
 ·have e:c= !b:=by cases c<;>cases b<;>first|rfl|exact absurd rfl e
  subst e;intro a o;refine UG j (λi=>Fr n i m2) (OD s (QF.nil λi g=>g) a (o.lit k)) λi g=>p i ?_;have:=mZ g u w hd k;cases b<;>exact this
def tR {c v:Bool}{j t d:Nat}(e:yC ops l=some (j,t,d,true)) (a:lk m d=some (.bool c)) (b:QF P ops C (PS n m d true t v) (l.take j) n ((d,.bool true)::m))
  (g:RN ops n.1 (l.take j) ((d,.bool false)::m)=some m2) (i:lk m2 t=some (.bool false)) (k:iG m2 m=true) (hd:m2.drop (m2.length-(m.length+1))=(d,.bool false)::m) (o:QF P ops C Q (l.drop j) n ((t,.bool (c&&v))::m)):QF P ops C Q l n m:=gH true a b g i k hd o
def tP {c v:Bool}{j t d:Nat}(e:yC ops l=some (j,t,d,false)) (a:lk m d=some (.bool c)) (b:QF P ops C (PS n m d false t v) (l.take j) n ((d,.bool false)::m))
  (g:RN ops n.1 (l.take j) ((d,.bool true)::m)=some m2) (i:lk m2 t=some (.bool true)) (k:iG m2 m=true) (hd:m2.drop (m2.length-(m.length+1))=(d,.bool true)::m) (o:QF P ops C Q (l.drop j) n ((t,.bool (c||v))::m)):QF P ops C Q l n m:=gH false a b g i k hd o
def tS {b:List (Nat×AP)}{R N:AP}{cs:List Code}{B:World}{h:AV}(k:WF P b R cs N B h n m):QF P ops C (λa=>∀w,Wd B h w→W P b R cs N a w) [] n m:=λa c w d=>k a w c d
def uD {b:List (Nat×AP)}{R N:AP}{cs:List Code}{B:World}{h:AV}(k:WF P b R cs N B h n m):LF P ops (Qx b R (W P b R cs N)) [] B h n m:=λa w c d=>mV (k a w c d)
end
def yD:IntKind→Nat
 | .i8=>0| .i16=>1| .i32=>2| .i64=>3| .u8=>4| .u16=>5| .u32=>6| .u64=>7
def qF {a b:IntKind}(h:Nat.beq (yD a) (yD b)=true):a=b:=by cases a<;>cases b<;>first|rfl|cases h
def binI (o:BinOp) (k:IntKind) (x y:Int):Option Value:=match o with
 | .lss=>some (.bool (decide (x<y)))
 | .leq=>some (.bool (decide (x≤y)))
 | .gtr=>some (.bool (decide (y<x)))
 | .geq=>some (.bool (decide (y≤x)))
 | .eql=>some (.bool (decide (x=y)))
 | .neq=>some (.bool (decide (x≠y)))
 | .add=>some (.int k (k.wrap (x+y)))
 | .sub=>some (.int k (k.wrap (x-y)))
 | .mul=>some (.int k (k.wrap (x*y)))
 | .and=>some (.int k (FX .and k x y))
 |_=>none
def zF (a:Op) (m:SM):Option Value:=match a with
 | .move X=>BR m X
 | .assign X=>BR m X
 | .pick c x y=>match BR m c with
  |some (.bool true)=>BR m x
  |some (.bool false)=>BR m y
  |_=>none
 | .extract X i=>match BR m X with
  |some (.tuple xs)=>xs[i]?
  |_=>none
 | .nilCheck X=>match BR m X with
  |some (.pointer (some d))=>some (.pointer (some d))
  |_=>none
 | .unOp .not _ X=>match BR m X with
  |some (.bool b)=>some (.bool (!b))
  |_=>none
 | .binOp o _ X Y _=>match BR m X with
  |some (.int k x)=>match BR m Y with
   |some (.int g y)=>cond (Nat.beq (yD k) (yD g)) (binI o k x y) none
   |_=>none
  |_=>none
 |_=>none
section
variable {P:Program}{ops:Array Oper}{C:World→Prop}{Q:Act→Prop}{n:FN}{m:SM}{rest:List Oper}
def lP {d:Nat}{ty:TypeId}{pos:String}{af:Array Edge}{o:BinOp}{t1 t2:TypeId}{X Y:Operand}{k:IntKind}{x y:Int}{v:Value}(a:BR m X=some (.int k x)) (b:BR m Y=some (.int k y)) (hd:Nat.blt d n.1=true) (e:Go.Proofs.YtedgiljmffngoaaGreat.binI o k x y=some v) (c:QF P ops C Q rest n ((d,v)::m)):QF P ops C Q (⟨some d,.binOp o t1 X Y t2,ty,pos,af,none⟩::rest) n m:=by
 cases o<;>cases e
 ·exact lS a b hd c
 ·exact kY a b hd c
 ·exact lG a b hd c
 ·exact lQ a b hd c
 ·exact gW a b hd c
 ·exact gN a b hd c
 ·exact gO a b hd c
 ·exact gP a b hd c
 ·exact gT a b hd c
 ·exact tX a b hd c
def tT {d:Nat}{a:Op}{ty:TypeId}{pos:String}{af:Array Edge}{v:Value}(e:zF a m=some v) (hd:Nat.blt d n.1=true) (k:QF P ops C Q rest n ((d,v)::m)):QF P ops C Q (⟨some d,a,ty,pos,af,none⟩::rest) n m:=by
 unfold zF at e;split at e
 ·exact LE e hd k
 ·exact Mw e hd k
 ·split at e
  ·rename_i h;exact Q8 h e hd k
  ·rename_i h;exact Q8 h e hd k
  ·cases e
 ·split at e
  ·rename_i h;exact gU h e hd k
  ·cases e
 ·split at e
  ·rename_i h;cases e;exact Kl h hd k
  ·cases e
 ·split at e
  ·rename_i h;cases e;exact gJ h hd k
  ·cases e
 ·split at e
  ·rename_i b;split at e
   ·rename_i c;obtain⟨g,i⟩:=Nk e;have:=qF g;subst this;exact lP b c hd i k
   ·cases e
  ·cases e
 ·cases e
end
structure QJ (P:Program) (ops:Array Oper) (C:World→Prop) (Q:Act→Prop) (l:List Oper) (n:FN) (m:SM):Prop where out:QF P ops C Q l n m
structure LJ (P:Program) (ops:Array Oper) (Q:Exit→Act→World→Prop) (l:List Oper) (B:World) (h:AV) (n:FN) (m:SM):Prop where out:LF P ops Q l B h n m
structure WJ (P:Program) (ex:List (Nat×AP)) (R:AP) (cs:List Code) (N:AP) (B:World) (h:AV) (n:FN) (m:SM):Prop where out:WF P ex R cs N B h n m
def padd:Value→Nat→Value
 | .pointer (some a),k=> .pointer (some (a.add k))
 |v,_=>v
def My.fl {α β A S h}{r:A4 α}{r':A4 β}{o f p x}(k:My A S h r p x) (b:F9 r o r' f):My A S h r' (padd p o) (f x):=by
 obtain⟨a,rfl,c⟩:=k.fld b;exact c
def My.i {A S h p}{x:Int}(k:My A S h AC p x):AB x:=by
 obtain⟨cs,_,_,h⟩:=k;exact h
def Sl.le {α S h}{r:A4 α}{v}{l:List α}(k:Sl S h r v l):l.length≤maxLen:=by
 obtain⟨_,_,_,h⟩:=k.len;exact h
def Ud (h:AV) (p:Value) (j:Nat):Value:=match p with
 | .pointer (some a)=>(IZ h ⟨a.block,a.off+j,none⟩).getD undef
 |_=>undef
def OU.at_ {A h p cs}(k:OU A h p cs) {j:Nat}(b:j<cs.length):cs[j]? =some (Ud h p j):=by
 obtain⟨a,rfl,_,_,c⟩:=k;have:=c j b;show cs[j]? =some ((IZ h ⟨a.block,a.off+j,none⟩).getD undef)
 rw[this,Abf b];rfl
def OU.map {A h p cs}(k:OU A h p cs):(List.range cs.length).map (Ud h p)=cs:=by
 apply Acc;intro j;rw[Acx];by_cases a:j<cs.length
 ·rw[k.at_ a,List.getElem?_range a];rfl
 ·rw[Abv (by simpa using a),Abv (by simpa using a)];rfl
def kQ (h:AV) (p:Value) (n:Nat):Value:= .agg ((List.range n).map (Ud h p)).toArray
 class Fc (p:Prop):Prop where out:p
 class Gg (P:Program) (t j:Nat) (off:outParam Nat):Prop where out:Zz P t j off=true
 class R7 (P:Program) (t:Nat) (e sz:outParam Nat):Prop where out:Na P t e sz=true
 class LA {α:Type} (r:A4 α) (o:Nat) {β:outParam Type} (r':outParam (A4 β)) (f:outParam (α→β)):Prop where out:F9 r o r' f
 class iI (C:World→Prop) (h:outParam AV):Prop where out:CK C h
instance {B:World}{h:AV}:iI (Wd B h) h:=⟨LD⟩
instance {B:World}{h:AV}:iI (Cl B h) h:=⟨PF⟩
 class Q7 (P:Program) (t:Nat) (sz:outParam Nat):Prop where out:Jw P t sz true=true
structure Vl (A:Nat→Prop) (h:AV) (ag:Bool) (sz:Nat) (p v:Value):Prop where out:∃cs,OU A h p cs∧cs.length=sz∧v=if ag then .agg cs.toArray else cs.headD undef
def My.lv {α A S h}{r:A4 α}{p x}(k:My A S h r p x):∃v,Vl A h r.ag r.sz p v∧Rd S h r v x:=by
 obtain⟨cs,b,a⟩:=k;exact⟨_,⟨cs,b,r.len a,rfl⟩,cs,rfl,a⟩
def My.ll {α A S h}{r:A4 α}{p x}(k:My A S h r.sl p x):∃v,Vl A h false 1 p v∧Sl S h r v x:=by
 obtain⟨v,a,b⟩:=k.lv;exact⟨v,a,b.sl⟩
def My.sz {A S h p}{x:ByteArray}(k:My A S h A4.str p x):x.size≤maxLen:=by
 obtain⟨cs,_,_,h⟩:=k;exact h
def qB (o:Oper):Bool:=match o.op with
 | .move _| .assign _| .pick _ _ _| .build _ _| .load _ _| .nilCheck _| .binOp _ _ _ _ _| .unOp _ _ _| .convert _ _ _| .makeFunc _ _ _| .fieldAddr _ _ _| .field _ _ _| .indexAddr _ _ _| .index _ _ _| .extract _ _=>true
 | .call ⟨.builtin .len,_,_⟩| .call ⟨.builtin .min,_,_⟩| .call ⟨.builtin .max,_,_⟩=>true
 |_=>false
def fB (o:Oper):Bool:=match o.op with
 | .call ⟨.value _,_,_⟩=>true
 |_=>false
def qN:List Oper→Nat
 |[]=>0
 |o::r=>cond (qB o) (qN r+1) 0
section
variable {P:Program}{ops:Array Oper}{Q:Act→Prop}{n:FN}{m m1 m2:SM}{rest l:List Oper}{B:World}{S:Nat→Prop}{L:List HP}{h:AV}
variable {d:Nat}{ty:TypeId}{pos:String}{af:Array Edge}{X Y:Operand}{t t1:TypeId}{v p:Value}
def nR {C}{a:Op}(e:(zF a m,Nat.blt d n.1)=(some v,true)) (k:QJ P ops C Q rest n ((d,v)::m)):QJ P ops C Q (⟨some d,a,ty,pos,af,none⟩::rest) n m:=
 ⟨tT (Aaz (λz=>z.1) e) (Aaz (λz=>z.2) e) k.1⟩
def xR {C}{a:Op}{j e:Nat}{b:Bool}(q:((ops[j]?).bind (·.dst),lk m e)=(some e,some (.bool b))) (k:QJ P ops C Q (⟨some d,a,ty,pos,af,none⟩::rest) n m):QJ P ops C Q (⟨some d,a,ty,pos,af,some (j,b)⟩::rest) n m:=
 ⟨Yy rfl (Aaz (λz=>z.1) q) (Aaz (λz=>z.2) q) k.1⟩
def QJ.scA {C}{c v:Bool}{j t d:Nat}(e:yC ops l=some (j,t,d,true)) (a:lk m d=some (.bool c)) (b:QJ P ops C (PS n m d true t v) (l.take j) n ((d,.bool true)::m))
  (g:RN ops n.1 (l.take j) ((d,.bool false)::m)=some m2) (i:lk m2 t=some (.bool false)) (k:iG m2 m=true) (hd:m2.drop (m2.length-(m.length+1))=(d,.bool false)::m) (o:QJ P ops C Q (l.drop j) n ((t,.bool (c&&v))::m)):QJ P ops C Q l n m:=⟨tR e a b.1 g i k hd o.1⟩
def QJ.scO {C}{c v:Bool}{j t d:Nat}(e:yC ops l=some (j,t,d,false)) (a:lk m d=some (.bool c)) (b:QJ P ops C (PS n m d false t v) (l.take j) n ((d,.bool false)::m))
  (g:RN ops n.1 (l.take j) ((d,.bool true)::m)=some m2) (i:lk m2 t=some (.bool true)) (k:iG m2 m=true) (hd:m2.drop (m2.length-(m.length+1))=(d,.bool true)::m) (o:QJ P ops C Q (l.drop j) n ((t,.bool (c||v))::m)):QJ P ops C Q l n m:=⟨tP e a b.1 g i k hd o.1⟩
def QJ.scE {C}{d t:Nat}{b v:Bool}(a:lk m1 t=some (.bool v)) (c:iG m1 m=true) (g:m1.drop (m1.length-(m.length+1))=(d,.bool b)::m):QJ P ops C (PS n m d b t v) [] n m1:=⟨tQ a c g⟩
def QJ.rp {C}{b:List (Nat×AP)}{R N:AP}{cs:List Code}(k:WJ P b R cs N B h n m):QJ P ops C (λa=>∀w,Wd B h w→W P b R cs N a w) [] n m:=⟨tS k.1⟩
def QJ.ln {C}{Q:Exit→Act→World→Prop}(k:LJ P ops Q l B h n m):QJ P ops C (λa=>∀w,Wd B h w→wpList P ops Q l a w) [] n m:=⟨K5 k.1⟩
def QJ.fao {C}{b o j off}[ht:Gg P t j off] (e:(BR m X,Nat.blt d n.1)=(some (.pointer (some ⟨b,o,none⟩)),true)) (k:QJ P ops C Q rest n ((d,.pointer (some ⟨b,o+off,none⟩))::m)):QJ P ops C Q (⟨some d,.fieldAddr t X j,ty,pos,af,none⟩::rest) n m:=
 ⟨Im (Aaz (λz=>z.1) e) ht.out (Aaz (λz=>z.2) e) k.1⟩
def tZ {C}{α}{A:Nat→Prop}{r:A4 α}{x j off}(c:BR m X=some p) (k0:My A S h r p x) (g:Zz P t j off=true) (hd:Nat.blt d n.1=true) (k:QF P ops C Q rest n ((d,padd p off)::m)):QF P ops C Q (⟨some d,.fieldAddr t X j,ty,pos,af,none⟩::rest) n m:=λa b=>by
 obtain⟨cs,⟨i,rfl,_⟩,_⟩:=k0;exact Du b hd (λw _=>by simp [execOp,b.eval c,Lo g,padd]) k
def QJ.fax {C}{α}{A:Nat→Prop}{r:A4 α}{x j off}(e:(BR m X,Nat.blt d n.1)=(some p,true)) (k0:My A S h r p x) [ht:Gg P t j off] (k:QJ P ops C Q rest n ((d,padd p off)::m)):QJ P ops C Q (⟨some d,.fieldAddr t X j,ty,pos,af,none⟩::rest) n m:=
 ⟨tZ (Aaz (λz=>z.1) e) k0 ht.out (Aaz (λz=>z.2) e) k.1⟩
def QJ.ld1 {T b o:Nat}{cs:List Value}(a:St S L h) (e:(BR m X,Nat.blt d n.1)=(some (.pointer (some ⟨b,o,none⟩)),true)) (c:Bx b T cs∈L) (g:cs[o]? =some v) [ht:Fc (Jw P t 1 false=true)] (k:QJ P ops (Wd B h) Q rest n ((d,v)::m)):QJ P ops (Wd B h) Q (⟨some d,.load t X,ty,pos,af,none⟩::rest) n m:=
 ⟨OF LD a (Aaz (λz=>z.1) e) c g ht.out (Aaz (λz=>z.2) e) k.1⟩
def Yt {T b o:Nat}{cs:List Value}(a:St S L h) (e:(BR m X,Nat.blt d n.1)=(some (.pointer (some ⟨b,o,none⟩)),true)) (c:Bx b T cs∈L) (g:cs[o]? =some v) [ht:Fc (Jw P t 1 false=true)] (k:QJ P ops (Cl B h) Q rest n ((d,v)::m)):QJ P ops (Cl B h) Q (⟨some d,.load t X,ty,pos,af,none⟩::rest) n m:=
 ⟨OF PF a (Aaz (λz=>z.1) e) c g ht.out (Aaz (λz=>z.2) e) k.1⟩
def QJ.ldi {x:Int}(a:St S L h) (e:(BR m X,Nat.blt d n.1)=(some p,true)) (k0:Pt S h AC p x) [ht:Fc (Jw P t 1 false=true)] (k:QJ P ops (Wd B h) Q rest n ((d,.int .i64 x)::m)):QJ P ops (Wd B h) Q (⟨some d,.load t X,ty,pos,af,none⟩::rest) n m:=
 ⟨Gf LD a.1 (Aaz (λz=>z.1) e) k0 ht.out (Aaz (λz=>z.2) e) λ_=>k.1⟩
def QJ.len {C}{α}{S:Nat→Prop}{h:AV}{r:A4 α}{x:List α}{aty e sz}(q:(BR m X,Nat.blt d n.1)=(some v,true)) (k0:Sl S h r v x) [ht:R7 P t e sz] (a:r.sz=sz) (k:QJ P ops C Q rest n ((d,.int .i64 x.length)::m)):QJ P ops C Q (⟨some d,.call ⟨.builtin .len,#[X],#[t]⟩,aty,pos,af,none⟩::rest) n m:=
 ⟨NR (Aaz (λz=>z.1) q) k0 (by rw[a];exact ht.out) (Aaz (λz=>z.2) q) λ_=>k.1⟩
def gC {C}{α β}{A S:Nat→Prop}{r:A4 α}{r':A4 β}{f:α→β}{x j off}(e:(BR m X,Nat.blt d n.1)=(some p,true)) (k0:My A S h r p x) [ht:Gg P t j off] [hf:LA r off r' f] (k:My A S h r' (padd p off) (f x)→QJ P ops C Q rest n ((d,padd p off)::m)):QJ P ops C Q (⟨some d,.fieldAddr t X j,ty,pos,af,none⟩::rest) n m:=QJ.fax e k0 (k (k0.fl hf.out))
def VU {C ag sz}(b:St S L h) (e:(BR m X,Nat.blt d n.1)=(some p,true)) (k0:Vl S h ag sz p v) [ck:iI C h] (c:Jw P t sz ag=true) (g:(ag||Nat.beq sz 1)=true) (k:QJ P ops C Q rest n ((d,v)::m)):QJ P ops C Q (⟨some d,.load t X,ty,pos,af,none⟩::rest) n m:=by
 obtain⟨cs,i,j,rfl⟩:=k0.out;refine⟨λa l=>mQ ck.out b.1 l (Aaz (λz=>z.1) e) i j c (λh=>?_) (Aaz (λz=>z.2) e) k.1⟩;subst h;exact Aa8 g
def Yr {C}{x:Int}(a:St S L h) (e:(BR m X,Nat.blt d n.1)=(some p,true)) (k0:Pt S h AC p x) [ck:iI C h] [ht:Fc (Jw P t 1 false=true)] (k:QJ P ops C Q rest n ((d,.int .i64 x)::m)):QJ P ops C Q (⟨some d,.load t X,ty,pos,af,none⟩::rest) n m:=
 ⟨Gf ck.out a.1 (Aaz (λz=>z.1) e) k0 ht.out (Aaz (λz=>z.2) e) λ_=>k.1⟩
def Ys {C}{x:Bool}(a:St S L h) (e:(BR m X,Nat.blt d n.1)=(some p,true)) (k0:Pt S h A4.bool p x) [ck:iI C h] [ht:Fc (Jw P t 1 false=true)] (k:QJ P ops C Q rest n ((d,.bool x)::m)):QJ P ops C Q (⟨some d,.load t X,ty,pos,af,none⟩::rest) n m:=
 ⟨gR ck.out a.1 (Aaz (λz=>z.1) e) k0 ht.out (Aaz (λz=>z.2) e) k.1⟩
def Ym {C}{x:ByteArray}(a:St S L h) (e:(BR m X,Nat.blt d n.1)=(some p,true)) (k0:Pt S h A4.str p x) [ck:iI C h] [ht:Fc (Jw P t 1 false=true)] (k:QJ P ops C Q rest n ((d,.string x)::m)):QJ P ops C Q (⟨some d,.load t X,ty,pos,af,none⟩::rest) n m:=
 ⟨Te ck.out a.1 (Aaz (λz=>z.1) e) k0 ht.out (Aaz (λz=>z.2) e) λ_=>k.1⟩
def Yq {C}{α}{r:A4 α}{x}(b:St S L h) (e:(BR m X,Nat.blt d n.1)=(some p,true)) (k0:Pt S h r.sl p x) [ck:iI C h] [ht:Fc (Jw P t 1 false=true)] (k:Sl S h r (Ud h p 0) x→QJ P ops C Q rest n ((d,Ud h p 0)::m)):QJ P ops C Q (⟨some d,.load t X,ty,pos,af,none⟩::rest) n m:=by
 obtain⟨cs,a,v,rfl,c⟩:=k0;have g:v=Ud h p 0:=by have:=a.at_ (j:=0) (by simp);simpa using this
 subst g;exact VU (ag:=false) (sz:=1) b e ⟨_,a,rfl,rfl⟩ ht.out rfl (k c)
def Yn {C}{α}{r:A4 α}{x sz}(j:St S L h) (e:(BR m X,Nat.blt d n.1)=(some p,true)) (k0:Pt S h r p x) [ck:iI C h] [ht:Q7 P t sz] (a:(r.sz,r.ag)=(sz,true)) (k:Rd S h r (kQ h p sz) x→QJ P ops C Q rest n ((d,kQ h p sz)::m)):QJ P ops C Q (⟨some d,.load t X,ty,pos,af,none⟩::rest) n m:=by
 obtain⟨cs,b,c⟩:=k0;have l:r.sz=sz:=Aaz (λz=>z.1) a;have o:r.ag=true:=Aaz (λz=>z.2) a;have g:cs.length=sz:=by rw[←l];exact r.len c
 have i:kQ h p sz= .agg cs.toArray:=by unfold kQ;rw[←g,b.map]
 exact VU (ag:=true) (sz:=sz) j e ⟨cs,b,g,by rw[i];rfl⟩ ht.out rfl (k ⟨cs,by rw[i];unfold A4.val;rw[o];rfl,c⟩)
def Yp {C}{T b sz:Nat}{cs:List Value}(c:St S L h) (e:(BR m X,Nat.blt d n.1)=(some (.pointer (some ⟨b,0,none⟩)),true)) (g:Bx b T cs∈L) [ck:iI C h] [ht:Q7 P t sz] (a:Nat.beq cs.length sz=true) (k:QJ P ops C Q rest n ((d,.agg cs.toArray)::m)):QJ P ops C Q (⟨some d,.load t X,ty,pos,af,none⟩::rest) n m:=
 ⟨OE ck.out c (Aaz (λz=>z.1) e) g (by rw[List.drop_zero,←Aa8 a,Abo]) a ht.out rfl (Aaz (λz=>z.2) e) k.1⟩
def Yo {C}{T b o sz:Nat}{cs:List Value}(a:St S L h) (e:(BR m X,Nat.blt d n.1)=(some (.pointer (some ⟨b,o,none⟩)),true)) (c:Bx b T cs∈L) [ck:iI C h] [ht:Q7 P t sz] (g:Nat.ble (o+sz) cs.length=true) (k:QJ P ops C Q rest n ((d,.agg ((cs.drop o).take sz).toArray)::m)):QJ P ops C Q (⟨some d,.load t X,ty,pos,af,none⟩::rest) n m:=
 ⟨OE ck.out a (Aaz (λz=>z.1) e) c rfl (by have:=Adl g;simp;omega) ht.out rfl (Aaz (λz=>z.2) e) k.1⟩
def QJ.leno {C}{α}{r:A4 α}{l:List α}{T aty e sz}(a:St S L h) (q:(BR m X,Nat.blt d n.1)=(some v,true)) (b:OS r T v l∈L) [ht:R7 P t e sz] (k:QJ P ops C Q rest n ((d,.int .i64 l.length)::m)):QJ P ops C Q (⟨some d,.call ⟨.builtin .len,#[X],#[t]⟩,aty,pos,af,none⟩::rest) n m:=
 ⟨lK a b (Aaz (λz=>z.1) q) ht.out (Aaz (λz=>z.2) q) λ_=>k.1⟩
def QJ.lens {C}{s:ByteArray}{aty}(q:(BR m X,Nat.blt d n.1)=(some (.string s),true)) [ht:Fc (P.underlying t=some .string)] (k:QJ P ops C Q rest n ((d,.int .i64 s.size)::m)):QJ P ops C Q (⟨some d,.call ⟨.builtin .len,#[X],#[t]⟩,aty,pos,af,none⟩::rest) n m:=
 ⟨MU (Aaz (λz=>z.1) q) ht.out (Aaz (λz=>z.2) q) k.1⟩
def LJ.q {Q:Exit→Act→World→Prop}{o:Oper}(e:qB o=true) (k:QJ P ops (Wd B h) (λa=>∀w,Wd B h w→wpList P ops Q ((o::l).drop (qN (o::l))) a w) ((o::l).take (qN (o::l))) n m):LJ P ops Q (o::l) B h n m:=⟨LU _ k.1⟩
def LJ.nil {a:List (Nat×AP)}{R N:AP}{cs:List Code}(k:WJ P a R cs N B h n m):LJ P ops (Qx a R (W P a R cs N)) [] B h n m:=⟨uD k.1⟩
def WJ.seq {a:List (Nat×AP)}{R N:AP}{cs:List Code}{x y:Code}(k:WJ P a R (x::y::cs) N B h n m):WJ P a R (.seq x y::cs) N B h n m:=⟨C9 k.1⟩
def WJ.skip {a:List (Nat×AP)}{R N:AP}{cs:List Code}(k:WJ P a R cs N B h n m):WJ P a R (.skip::cs) N B h n m:=⟨GG k.1⟩
def WJ.rp {b:List (Nat×AP)}{R N:AP}{cs:List Code}{id:Nat}(e:l.all qB=true) (k:QJ P l.toArray (Wd B h) (λa=>∀w,Wd B h w→W P b R cs N a w) l n m):WJ P b R (.region id l.toArray false::cs) N B h n m:=⟨JO (.inl rfl) k.1⟩
def WJ.rl {a:List (Nat×AP)}{R N:AP}{cs:List Code}{id:Nat}(e:(l.all qB||l.any fB)=false) (k:LJ P l.toArray (Qx a R (W P a R cs N)) l B h n m):WJ P a R (.region id l.toArray false::cs) N B h n m:=⟨Bv k.1⟩
end
def SC {A:Prop}(e:A:=by
 repeat' (first
  |refine nR rfl ?_
  |refine xR rfl ?_
  |refine QJ.fao rfl ?_
  |refine QJ.ld1 (by assumption) rfl (by repeat (first|exact mh|refine mt ?_)) (by rfl) ?_
  |(refine gC rfl (by assumption) ?_;intro _)
  |refine QJ.fax rfl (by assumption) ?_
  |refine Yr (by assumption) rfl (by assumption) ?_
  |refine VU (by assumption) rfl (by assumption) (by first|exact Fc.out|exact Q7.out) rfl ?_
  |(refine Yq (by assumption) rfl (by assumption) ?_;intro _)
  |refine Ys (by assumption) rfl (by assumption) ?_
  |refine QJ.len rfl (by assumption) (by rfl) ?_
  |refine QJ.lens rfl ?_
  |refine QJ.leno (by assumption) rfl (by repeat (first|exact mh|refine mt ?_)) ?_
  |refine Ym (by assumption) rfl (by assumption) ?_
  |(refine Yn (by assumption) rfl (by assumption) rfl ?_;intro _)
  |refine Yp (by assumption) rfl (by repeat (first|exact mh|refine mt ?_)) rfl ?_
  |refine Yo (by assumption) rfl (by repeat (first|exact mh|refine mt ?_)) rfl ?_
  |refine Yt (by assumption) rfl (by repeat (first|exact mh|refine mt ?_)) (by rfl) ?_
  |exact QJ.scE rfl (by kernel_rfl) (by kernel_rfl)
  |(apply QJ.scA rfl rfl ?_ rfl (by kernel_rfl) (by kernel_rfl) (by kernel_rfl) ?_;rotate_left)
  |(apply QJ.scO rfl rfl ?_ rfl (by kernel_rfl) (by kernel_rfl) (by kernel_rfl) ?_;rotate_left))
 first|done|fail):A:=e
structure Hd (A:Prop):Prop where out:A
def AU {A B:Prop}(k:A) (f:Hd A→B:=by
 intro k
 first
  |with_reducible refine QJ.out ?_
  |with_reducible refine LJ.out ?_
  |with_reducible refine WJ.out ?_
  |refine LJ.out ?_
 repeat (first
  |refine nR rfl ?_
  |refine xR rfl ?_
  |refine QJ.fao rfl ?_
  |refine QJ.ld1 (by assumption) rfl (by repeat (first|exact mh|refine mt ?_)) (by rfl) ?_
  |(refine gC rfl (by assumption) ?_;intro _)
  |refine QJ.fax rfl (by assumption) ?_
  |refine Yr (by assumption) rfl (by assumption) ?_
  |refine VU (by assumption) rfl (by assumption) (by first|exact Fc.out|exact Q7.out) rfl ?_
  |(refine Yq (by assumption) rfl (by assumption) ?_;intro _)
  |refine Ys (by assumption) rfl (by assumption) ?_
  |refine QJ.len rfl (by assumption) (by rfl) ?_
  |refine QJ.lens rfl ?_
  |refine QJ.leno (by assumption) rfl (by repeat (first|exact mh|refine mt ?_)) ?_
  |refine Ym (by assumption) rfl (by assumption) ?_
  |(refine Yn (by assumption) rfl (by assumption) rfl ?_;intro _)
  |refine Yp (by assumption) rfl (by repeat (first|exact mh|refine mt ?_)) rfl ?_
  |refine Yo (by assumption) rfl (by repeat (first|exact mh|refine mt ?_)) rfl ?_
  |refine Yt (by assumption) rfl (by repeat (first|exact mh|refine mt ?_)) (by rfl) ?_
  |refine QJ.ln ?_
  |refine QJ.rp ?_
  |refine LJ.q rfl ?_
  |refine LJ.nil ?_
  |refine WJ.seq ?_
  |refine WJ.skip ?_
  |refine WJ.rp rfl ?_
  |refine WJ.rl rfl ?_
  |(apply QJ.scA rfl rfl ?_ rfl (by kernel_rfl) (by kernel_rfl) (by kernel_rfl) ?_;rotate_left;exact SC)
  |(apply QJ.scO rfl rfl ?_ rfl (by kernel_rfl) (by kernel_rfl) (by kernel_rfl) ?_;rotate_left;exact SC)
  |fail)
 first
  |exact QJ.mk k.out
  |exact LJ.mk k.out
  |exact WJ.mk k.out):B:=f ⟨k⟩
def St.lt {S:Nat→Prop}{L:List HP}{h:AV}(k:St S L h):∀b,S b→b<h.size:=k.1
def EX {A:Prop}(e:A:=by
 first
  |assumption
  |exact B9.refl _ _
  |repeat (first
    |assumption
    |refine B9.trans ?_ (by assumption)
    |exact DX.ext (by assumption) (St.lt (by assumption))
    |exact SN.ext (St.lt (by assumption)) (by assumption)
    |exact SX.ext (St.lt (by assumption)) (by assumption) (by assumption)
    |refine B9.trans ?_ (DX.ext (by assumption) (St.lt (by assumption)))
    |refine B9.trans ?_ (SN.ext (St.lt (by assumption)) (by assumption))
    |refine B9.trans ?_ (SX.ext (St.lt (by assumption)) (by assumption) (by assumption)))):A:=e
def Rd.nw {b:Type}{S S':Nat→Prop}{h h':AV}{r:A4 b}{v:Value}{x:b}{L:List HP}(k:Rd S h r v x) (a:St S' L h':=by assumption) (e:B9 S h S' h':=by exact EX):Rd S' h' r v x:=k.mono e
def Sl.nw {b:Type}{S S':Nat→Prop}{h h':AV}{r:A4 b}{v:Value}{l:List b}{L:List HP}(k:Sl S h r v l) (a:St S' L h':=by assumption) (e:B9 S h S' h':=by exact EX):Sl S' h' r v l:=k.mono' e
def My.nw {b:Type}{S S':Nat→Prop}{h h':AV}{r:A4 b}{v:Value}{x:b}{L:List HP}(k:Pt S h r v x) (a:St S' L h':=by assumption) (e:B9 S h S' h':=by exact EX):Pt S' h' r v x:=My.mono k e
def et {S S' S2:Nat→Prop}{h h' c:AV}(b:B9 S' h' S2 c) (a:B9 S h S' h':=by exact EX):B9 S h S2 c:=a.trans b
inductive Dl:List HP→List HP→Prop
 |refl {L:List HP}:Dl L L
 |keep {H:HP} {L1 L2:List HP}:Dl L1 L2→Dl (H::L1) (H::L2)
 |drop {H:HP} {L1 L2:List HP}:Dl L1 L2→Dl L1 (H::L2)
def Sp.dl {S:Nat→Prop}{h:AV}{g i:List HP}(d:Dl g i):∀{A:Nat→Prop},Sp S i h A→Sp S g h A:=by
 induction d with
 |refl=>exact λk=>k
 |keep _ a=>exact λ⟨F,l,j,c⟩=>⟨F,l,j,a c⟩
 |drop _ a=>exact λ⟨F,_,j,c⟩=>a (Sp.mono c λb m=>m.1)
def St.dl {S:Nat→Prop}{h:AV}{a b:List HP}(k:St S b h) (d:Dl a b):St S a h:=⟨k.1,k.2.dl d⟩
def DR {A:Prop}(e:A:=by
 first
  |assumption
  |refine St.dl (by assumption) ?_
   repeat (first|exact Dl.refl|refine Dl.keep ?_|refine Dl.drop ?_)):A:=e
section
variable {P:Program}{fn:Func}{B:World}{S S':Nat→Prop}{h h':AV}{ex:List (Nat×AP)}{N:AP}{cs:List Code}{m:SM}{post:Value→(Nat→Prop)→AV→Prop}{k t:Nat}{v:Value}
def Kk (kp:post v S' h') (b:fn.results= #[.tmp t]) (c:lk m t=some v) (e:B9 S h S' h'):WF P ex (Rt P fn B S h post) (.ret::cs) N B h' (k,[]) m:=Bu λa w d g=>UE d g b c e kp
end
def CE {p:Prop}(e:true=false):p:=by cases e
section
variable {P:Program}{ops:Array Oper}{n:FN}{m:SM}{rest:List Oper}{d:Nat}{ty:TypeId}{pos:String}{af:Array Edge}{X Y:Operand}{f:Nat}{xs:Array Operand}{tys:Array TypeId}{args vs:List Value}{first cap:Array Value}{h:AV}{B:World}{S:Nat→Prop}{L:List HP}
variable {β ρ:Type}{F:Option β}{K:β→Option ρ}{r:ρ}
def A8 {Q:Act→Prop}{v:β→Value}{Z:β→(Nat→Prop)→AV→Prop}(E:F.bind K=some r) (i:BR m X=some (.func (.func f) first cap)) (a:xs.toList.mapM (BR m)=some args) (c:first.toList++args++cap.toList=vs) (g:BK P f=true) (hd:Nat.blt d n.1=true)
  (j:∀y,F=some y→∀h',DX h h'→B3 P f vs.toArray (λb=>b<h'.size) h' (λu S' l=>u=v y∧Z y S' l))
  (k:∀y,K y=some r→QF P ops (Cl B h) Q rest n ((d,v y)::m)):QF P ops (Cl B h) Q (⟨some d,.call ⟨.value X,xs,tys⟩,ty,pos,af,none⟩::rest) n m:=by
 obtain⟨y,o,E⟩:=bd E;exact Jt i a c g hd (j y o) (k y E)
def B7 {Q:Act→Prop}{v:β→Value}{Ψ:β→Prop}{Z:β→(Nat→Prop)→AV→Prop}(E:F.bind K=some r) (i:BR m X=some (.func (.func f) first cap)) (a:xs.toList.mapM (BR m)=some args) (c:first.toList++args++cap.toList=vs) (g:BK P f=true) (hd:Nat.blt d n.1=true)
  (j:∀y,F=some y→∀h',DX h h'→B3 P f vs.toArray (λb=>b<h'.size) h' (λu S' l=>u=v y∧Ψ y∧Z y S' l))
  (k:∀y,K y=some r→Ψ y→QF P ops (Cl B h) Q rest n ((d,v y)::m)):QF P ops (Cl B h) Q (⟨some d,.call ⟨.value X,xs,tys⟩,ty,pos,af,none⟩::rest) n m:=by
 obtain⟨y,o,E⟩:=bd E;exact QZ i a c g hd (j y o) (k y E)
def BQ {Q:Exit→Act→World→Prop}{a:β→Value→(Nat→Prop)→AV→Prop}(E:F.bind K=some r) (i:BR m X=some (.func (.func f) first cap)) (b:xs.toList.mapM (BR m)=some args) (c:first.toList++args++cap.toList=vs) (g:BK P f=true) (hd:Nat.blt d n.1=true) (j:∀y,F=some y→B3 P f vs.toArray S h (a y))
  (k:∀y,K y=some r→∀v S' h',B9 S h S' h'→a y v S' h'→LF P ops Q rest B h' n ((d,v)::m)):LF P ops Q (⟨some d,.call ⟨.value X,xs,tys⟩,ty,pos,af,none⟩::rest) B h n m:=by
 obtain⟨y,l,E⟩:=bd E;exact EQ i b c g hd (j y l) (k y E)
def CQ {Q:Exit→Act→World→Prop}{a:β→Value→(Nat→Prop)→AV→Prop}(E:F.bind K=some r) (j:BR m X=some (.func (.func f) first cap)) (c:xs.toList.mapM (BR m)=some args) (g:first.toList++args++cap.toList=vs) (i:BK P f=true) (hd:Nat.blt d n.1=true) (l:St S L h) (o:∀y,F=some y→B3 P f vs.toArray (λb=>b<h.size) h (a y))
  (k:∀y,K y=some r→∀v S' h',St S L h'→B9 S h S h'→B9 (λb=>b<h.size) h S' h'→a y v S' h'→LF P ops Q rest B h' n ((d,v)::m)):LF P ops Q (⟨some d,.call ⟨.value X,xs,tys⟩,ty,pos,af,none⟩::rest) B h n m:=by
 obtain⟨y,p,E⟩:=bd E;exact FA j c g i hd l (o y p) (k y E)
def A6 {o:Type}{C:World→Prop}{Q:Act→Prop}{a:A4 o}{l:List o}{K:o→Option ρ}{t e:Nat}{v:Value}{i:Int}(E:(Go.Proofs.YtedgiljmffngoaaGreat.ix l i).bind K=some r) (c:BR m X=some v) (g:BR m Y=some (.int .i64 i)) (k0:Sl S h a v l) (j:Na P t e a.sz=true) (hd:Nat.blt d n.1=true)
  (k:∀x,K x=some r→∀q,Pt S h a q x→QF P ops C Q rest n ((d,q)::m)):QF P ops C Q (⟨some d,.indexAddr t X Y,ty,pos,af,none⟩::rest) n m:=by
 obtain⟨x,b,E⟩:=bd E;exact K6 c g k0 j b hd (k x E)
end
def DL {P:Program}{ops:Array Oper}{n:FN}{m:SM}{rest:List Oper}{ty:TypeId}{pos:String}{af:Array Edge}{X Y:Operand}{h:AV}{B:World}{S:Nat→Prop}{L c:List HP}{Q:Exit→Act→World→Prop}{v:Value}{T d:TypeId}{b:Nat}{cs vs:List Value}{sz:Nat}{ag:Bool}(i:BR m X=some (.pointer (some ⟨b,0,none⟩))) (j:BR m Y=some v) (l:v.cells=vs.toArray) (o:∀u∈vs,u.oneCell'=true)
  (p:Jw P T sz ag=true) (a:vs.length=sz) (q:St S L h) (r:Mu L (Bx b d cs) (Bx b d vs) c) (s:Nat.beq cs.length sz=true)
  (k:∀h',St S c h'→B9 S h S h'→LF P ops Q rest B h' n m):LF P ops Q (⟨none,.store T X Y,ty,pos,af,none⟩::rest) B h n m:=by
 have g:=Aa8 s;refine Th i j l o p a q r (by simp [g]) ?_ k;unfold Ii;simp [g,a]
def ON {A:Prop}(e:A:=by
 repeat (first
  |exact NB
  |refine CG rfl ?_
  |refine CG (Sl.one (by assumption)) ?_)):A:=e
def PA.i {R:AR}{h:AV}{K:SM→Prop}{j d:Nat}{a:List (Nat×Nat)}{fr:SM}(k:∀u,R j u h→PA R h K a ((d,u)::fr)):PA R h K ((j,d)::a) fr:=k
def zZ {R:AR}{h:AV}{K:SM→Prop}{fr:SM}(k:K fr):PA R h K [] fr:=k
def uG {a b:Prop}(k:a∧b):a∧b:=k
def D8 {A:Prop}(e:A:=by
 intro b c o;have a:=DX.st o (by assumption)
 repeat (refine PA.i (λu f=>?_);first|(obtain ⟨rfl,_⟩:=uG f)|cases f)
 refine zZ ?_;refine AU ?_
 first
  |exact A9 (DX.refl _) rfl
  |exact A9 (DX.refl _) ⟨rfl,(by first|assumption|exact iq rfl|exact BH _)⟩):A:=e
def St.ea {S:Nat→Prop}{L:List HP}{h:AV}(k:St S L h):B9 S h (λb=>b<h.size) h:=⟨λb a=>k.1 b a,λ_ _=>rfl,Abd _⟩
def A5 {P:Program}{ops:Array Oper}{Q:Exit→Act→World→Prop}{B:World}{n:FN}{d:Nat}{R:Value→AV→Prop}{h:AV}{m:SM}{v:Value}(r:R v h):LF P ops (Exit.then (KS B n d R h m) Q) [] B h n ((d,v)::m):=A9 (DX.refl _) r
def Rd.sn {d:Type}{S:Nat→Prop}(h0:AV) {a:AV}{r:A4 d}{v:Value}{x:d}(k:Rd S a r v x):Rd (SN S h0 a) a r v x:=k.mono ⟨λb c=> .inl c,λ_ _=>rfl,Abd _⟩
def Sl.sn {d:Type}{S:Nat→Prop}(h0:AV) {a:AV}{r:A4 d}{v:Value}{x:List d}(k:Sl S a r v x):Sl (SN S h0 a) a r v x:=k.mono' ⟨λb c=> .inl c,λ_ _=>rfl,Abd _⟩
def pR {S:Nat→Prop}{L:List HP}{h a c:AV}(k:St S L h) (d:DX h a) (g:DX a c):B9 S a S c:=g.ext λb i=>Aa9 (k.1 b i) d.siz
def MO {A:Prop}(e:A:=by
 intro i v d g c b a
 repeat (first
  |exact False.elim a
  |(rcases i with _|i;focus first
   |exact a
   |exact My.mono a (pR (by assumption) c b)
   |exact Sl.mono' a (pR (by assumption) c b)
   |exact Rd.mono a (pR (by assumption) c b)
   |exact⟨Sl.mono' a.1 (SN.mono (St.lt (by assumption)) c b),a.2⟩
   |exact a.mono b
   |exact Sl.mono' a (SN.mono (St.lt (by assumption)) c b)
   |exact Rd.mono a (SN.mono (St.lt (by assumption)) c b)))):A:=e
def RT {A:Prop}(e:A:=by
 refine AU ?_;cases E
 first
  |exact Kk ⟨rfl,DR⟩ rfl rfl EX
  |exact Kk ⟨rfl,(by first|assumption|exact iq rfl|exact BH _),DR⟩ rfl rfl EX):A:=e
def subD (s:ByteArray) (i:Int):Option ByteArray:=if 0≤i∧i≤s.size then some (s.extract i.toNat s.size) else none
def Xs {s t:ByteArray}{i:Int}(h:subD s i=some t):t.size≤s.size:=by
 unfold subD at h;split at h
 ·cases h;simp only[ByteArray.size_extract];omega
 ·cases h
def uI (l:List Int):Option ByteArray:=if l.length≤maxLen then some (strOfNums l) else none
def cB {l:List Int}{s:ByteArray}(h:uI l=some s):s.size≤maxLen:=by
 unfold uI at h;split at h
 ·cases h;rw[strOfNums_size];assumption
 ·cases h
def SS {k:IntKind}{x:Int}(h:k.has x):k.wrap x=x:=by
 have:=Cw k x;cases k<;>simp only[IntKind.has,IntKind.min,IntKind.max,IntKind.signed,IntKind.bits,IntKind.wrap] at* <;>simp at* <;>omega
def yF:(0:Int)≤0∧(0:Int)≤1:=⟨by decide,by decide⟩
section
variable {P:Program}{ops:Array Oper}{C:World→Prop}{Q:Act→Prop}{n:FN}{m:SM}{rest:List Oper}
variable {d:Nat}{ty:TypeId}{pos:String}{af:Array Edge}{X Y:Operand}{t t1 t2:TypeId}{v:Value}{S:Nat→Prop}{L:List HP}{h:AV}{B:World}
def QF.subD {s u:ByteArray}{i:Int}{kd:IntKind}(j:BR m X=some (.string s)) (l:BR m Y=some (.int kd i)) (g:P.underlying t=some .string) (b:subD s i=some u) (hd:Nat.blt d n.1=true) (k:QF P ops C Q rest n ((d,.string u)::m)):
  QF P ops C Q (⟨some d,.slice t X (some Y) none none,ty,pos,af,none⟩::rest) n m:=λa c=>by
 unfold Proofs.YtedgiljmffngoaaGreat.subD at b;split at b
 ·rename_i h0;cases b;exact Du c hd (λw _=>by simp [execOp,c.eval j,c.eval l,run_sliceAt_string w t _ _ _ _ g,run_slice_string_from_if w t s kd i g,h0,Result.andThen]) k
 ·cases b
def gY {A:Nat→Prop}{l:List Int}{s:ByteArray}{e:TypeId}(G:CK C h) (H:∀b,A b→b<h.size) (g:BR m X=some v) (k0:Sl A h (A4.intk .u8) v l) (t:P.underlying t1=some (.slice e)) (y:P.underlying e=some (.int .u8)) (z:P.underlying t2=some .string) (i:uI l=some s) (hd:Nat.blt d n.1=true)
  (k:QF P ops C Q rest n ((d,.string s)::m)):QF P ops C Q (⟨some d,.convert t1 t2 X,ty,pos,af,none⟩::rest) n m:=λa o=>by
 unfold uI at i;split at i
 ·cases i;rcases k0 with ⟨rfl,rfl⟩|⟨ad,cap,rfl,h4,h5,h6⟩
  ·exact Du o hd (λw _=>by simp [execOp,o.eval g,run_convert_bytes_nil w t1 e t y 0 0 t2 z];rfl) k
  ·refine Du o hd (λw I=>?_) k;have J:(loadCells ad l.length).run P w= .ok (l.map (Value.int .u8)).toArray w:=by
    have:=run_loadCells_list (P:=P) w ad (l.map (Value.int .u8)) (λj u K=>by
     obtain⟨x,g,rfl⟩:=by simpa using K
     obtain⟨B,cs,⟨W,M,Y,D,U⟩,rfl,Z⟩:=h6 j x g;cases M;have F:=U 0 (by simp);rw[I7];obtain⟨p,q,ss⟩:=ad;simp only at B;subst B;have c:(⟨p,q,none⟩:Addr).add j=⟨p,q+j,none⟩:=by unfold Addr.add;split<;>simp_all
     rw[c];have V:j*(A4.intk IntKind.u8).sz=j:=Acr j;simp only[Nat.add_zero,V] at D F;rw[P2 (a:=⟨p,q+j,none⟩) (G w I _ (H _ D))];exact F)
    simpa using this
   have hq:ByteArray.empty.data++(l.map λn=>UInt8.ofNat n.toNat).toArray=(l.map λn=>UInt8.ofNat n.toNat).toArray:=by simp
   simp [execOp,o.eval g,run_convert_bytes_string w t1 t2 e (some ad) l.length cap t y z,run_bytesToString w ad l.length cap l J,foldl_push_bytes];rfl
 ·cases i
def VW {α}{r:A4 α}{p:Value}{x:α}(c:BR m X=some p) (k0:Pt S h r p x) (hd:Nat.blt d n.1=true) (k:QF P ops C Q rest n ((d,p)::m)):QF P ops C Q (⟨some d,.nilCheck X,ty,pos,af,none⟩::rest) n m:=by
 obtain⟨cs,⟨g,rfl,_⟩,_⟩:=k0;exact λa b=>Du b hd (λw _=>by simp [execOp,b.eval c]) k
def pE {a:Act}{w:World}{d:Option Nat}{f:Nat}{xs:Array Operand}{c:Array TypeId}
  {b:List Value} (i:Fr n a m) (j:BR m X=some (.func (.func f) #[] #[])) (g:xs.toList.mapM (BR m)=some b) (k:(callFunc f b.toArray).run P w= .ok (.value v) w):
  (execOp a.eval ⟨d,.call ⟨.value X,xs,c⟩,ty,pos,af,none⟩).run P w= .ok (.value v) w:=by
 simp only[execOp,resolve,i.eval j,Deferred.ofValue,WY i g];simp [invoke,k]
def gE {f:Nat}{xs:Array Operand}{c:Array TypeId}{b:List Value}(j:BR m X=some (.func (.func f) #[] #[])) (g:xs.toList.mapM (BR m)=some b) (l:∀w,(callFunc f b.toArray).run P w= .ok (.value v) w) (hd:Nat.blt d n.1=true)
  (k:QF P ops C Q rest n ((d,v)::m)):QF P ops C Q (⟨some d,.call ⟨.value X,xs,c⟩,ty,pos,af,none⟩::rest) n m:=λa i=>
 Du i hd (λw _=>pE i j g (l w)) k
end
def Kn (x y c:Int):Int×Int:=((x+y+c)%18446744073709551616,(x+y+c)/18446744073709551616)
def Km (x y c:Int):Int×Int:=((x-y-c)%18446744073709551616,if x<y+c then 1 else 0)
def Uo {x:Int}:IntKind.has .u64 x↔0≤x∧x≤18446744073709551615:=by simp [IntKind.has,IntKind.min,IntKind.max,IntKind.signed,IntKind.bits]
def aE {x y c:Int}(a:IntKind.has .u64 x) (b:IntKind.has .u64 y) (d:0≤c∧c≤1):IntKind.has .u64 (Kn x y c).1∧IntKind.has .u64 (Kn x y c).2∧0≤(Kn x y c).2∧(Kn x y c).2≤1:=by
 rw[Uo] at *;unfold Kn;simp only;rw[Uo];omega
def aD {x y c:Int}(a:IntKind.has .u64 x) (b:IntKind.has .u64 y) (d:0≤c∧c≤1):IntKind.has .u64 (Km x y c).1∧IntKind.has .u64 (Km x y c).2∧0≤(Km x y c).2∧(Km x y c).2≤1:=by
 rw[Uo] at *;unfold Km;simp only;rw[Uo];split<;>omega
def xO:Array Value→Sem Value:=λa=>do
 let (x,y,c) ←Extern.MathBitsCarry.three "Add64" a
 pure (Extern.MathBitsCarry.pair ((x+y+c)%Extern.MathBitsCarry.m64) ((x+y+c)/Extern.MathBitsCarry.m64))
def vA:Array Value→Sem Value:=λa=>do
 let (x,y,b) ←Extern.MathBitsCarry.three "Sub64" a
 pure (Extern.MathBitsCarry.pair ((x+Extern.MathBitsCarry.m64-y-b)%Extern.MathBitsCarry.m64) (if x<y+b then 1 else 0))
def cD {P:Program}(x y c:Nat) (a:c≤1) (w:World):(xO #[.int .u64 x,.int .u64 y,.int .u64 c]).run P w= .ok (.tuple #[.int .u64 (((x+y+c)%18446744073709551616:Nat):Int),.int .u64 (((x+y+c)/18446744073709551616:Nat):Int)]) w:=by
 have:c=0∨c=1:=by omega
 rcases this with rfl|rfl<;>rfl
def cC {P:Program}(x y c:Nat) (a:c≤1) (w:World):(vA #[.int .u64 x,.int .u64 y,.int .u64 c]).run P w= .ok (.tuple #[.int .u64 (((x+18446744073709551616-y-c)%18446744073709551616:Nat):Int),.int .u64 ((if x<y+c then 1 else 0:Nat):Int)]) w:=by
 have:c=0∨c=1:=by omega
 rcases this with rfl|rfl<;>rfl
section
variable {P:Program}{f:Nat}{fn:Func}
def Vs (d:P.funcs[f]? =some fn) (g:(fn.name== "runtime.NumGoroutine")=false) (i:fn.body.isNone=true) (j:Extern.findNext fn=none) (k:Extern.find fn=some xO):
  ∀x y c:Int,IntKind.has .u64 x→IntKind.has .u64 y→(0≤c∧c≤1)→∀w,(callFunc f #[.int .u64 x,.int .u64 y,.int .u64 c]).run P w= .ok (.value (.tuple #[.int .u64 (Kn x y c).1,.int .u64 (Kn x y c).2])) w:=λx y c a b l w=>by
 rw[Uo] at a b;obtain⟨x,rfl⟩:=Ad7 a.1;obtain⟨y,rfl⟩:=Ad7 b.1;obtain⟨c,rfl⟩:=Ad7 l.1;rw[run_callFunc_extern d g i j k,cD x y c (by omega)];simp only[Result.andThen,Kn];congr 5<;>omega
def Vr (d:P.funcs[f]? =some fn) (g:(fn.name== "runtime.NumGoroutine")=false) (i:fn.body.isNone=true) (j:Extern.findNext fn=none) (k:Extern.find fn=some vA):
  ∀x y c:Int,IntKind.has .u64 x→IntKind.has .u64 y→(0≤c∧c≤1)→∀w,(callFunc f #[.int .u64 x,.int .u64 y,.int .u64 c]).run P w= .ok (.value (.tuple #[.int .u64 (Km x y c).1,.int .u64 (Km x y c).2])) w:=λx y c a b l w=>by
 rw[Uo] at a b;obtain⟨x,rfl⟩:=Ad7 a.1;obtain⟨y,rfl⟩:=Ad7 b.1;obtain⟨c,rfl⟩:=Ad7 l.1;rw[run_callFunc_extern d g i j k,cC x y c (by omega)];simp only[Result.andThen,Km];have m:(((x+18446744073709551616-y-c)%18446744073709551616:Nat):Int)=((x:Int)-y-c)%18446744073709551616:=by omega
 have n:((if x<y+c then 1 else 0:Nat):Int)=if (x:Int)<y+c then 1 else 0:=by split<;>split<;>omega
 rw[m,n]
end
section
variable {P:Program}{ex:List (Nat×AP)}{RR N:AP}{cs:List Code}{B:World}{h:AV}{n:FN}{m m0:SM}
end
def mM {α}(l:List α) (i:Int):Option (List α):=if 0≤i∧i≤l.length then some (l.take i.toNat) else none
def mN {α}(l:List α) (i:Int):Option (List α):=if 0≤i∧i≤l.length then some (l.drop i.toNat) else none
section
variable {P:Program}{ops:Array Oper}{C:World→Prop}{Q:Act→Prop}{n:FN}{m:SM}{rest:List Oper}{a:Act}
variable {d:Nat}{ty:TypeId}{pos:String}{af:Array Edge}{X Y:Operand}{t t1 t2:TypeId}{kd:IntKind}{v:Value}{S:Nat→Prop}{h:AV}
def X3 {α}{r:A4 α}{e:TypeId}{l k:List α}{y:Int}(k0:Sl S h r v l) (n:Na P t e r.sz=true) (c:mM l y=some k):∃u,(∀w,(Instr.sliceAt t v none (some (.int kd y)) none).run P w= .ok u w)∧Sl S h r u k:=by
 unfold mM at c;split at c
 ·rename_i d;cases c;obtain⟨g,m⟩:=Lm n;rcases k0 with ⟨rfl,rfl⟩|⟨⟨b,o,sp⟩,cap,rfl,h4,h5,h6⟩
  ·have h0:y=0:=by have:=d.1;have:=d.2;simp at this;omega
   subst h0;exact⟨.slice none 0 0,λw=>by simp [run_sliceAt_slice _ _ _ _ _ _ g,run_slice_h w t _ 0 0 g kd 0 (by omega) (by omega),m,sliced],.inl ⟨rfl,rfl⟩⟩
  ·refine⟨.slice (if cap=0 then some ⟨b,o,sp⟩ else some ((⟨b,o,sp⟩:Addr).add 0)) y.toNat cap,λw=>by simp [run_sliceAt_slice _ _ _ _ _ _ g,run_slice_h w t _ l.length cap g kd y d.1 (by omega),m,sliced],?_⟩;have j:(if cap=0 then some (⟨b,o,sp⟩:Addr) else some ((⟨b,o,sp⟩:Addr).add 0))=some ⟨b,o,sp⟩∨l=[]:=by
    by_cases h0:l=[]
    ·exact .inr h0
    ·have p:0<l.length:=List.length_pos_iff.2 h0;have:=(h6 0 l[0] (by simp [p])).1;simp only at this;subst this;left;split
     ·rfl
     ·rw[PQ];rfl
   rcases j with j|rfl
   ·rw[j];refine .inr ⟨⟨b,o,sp⟩,cap,by rw[Aca,Ady (by omega)],by rw[Aca];omega,h5,λi x a=>?_⟩;rw[Ada] at a;split at a
    ·exact h6 i x a
    ·cases a
   ·have h0:y.toNat=0:=by have:=d.2;simp at this;omega
    rw[h0];split
    ·exact .inr ⟨_,cap,rfl,by simp,h5,λi x a=>by simp at a⟩
    ·exact .inr ⟨_,cap,rfl,by simp,h5,λi x a=>by simp at a⟩
 ·cases c
def X4 {α}{r:A4 α}{e:TypeId}{l j:List α}{y:Int}(k0:Sl S h r v l) (m:Na P t e r.sz=true) (c:mN l y=some j):∃u,(∀w,(Instr.sliceAt t v (some (.int kd y)) none none).run P w= .ok u w)∧Sl S h r u j:=by
 unfold mN at c;split at c
 ·rename_i g;cases c;obtain⟨d,k⟩:=Lm m;rcases k0 with ⟨rfl,rfl⟩|⟨⟨b,o,sp⟩,cap,rfl,h4,h5,h6⟩
  ·have h0:y=0:=by have:=g.1;have:=g.2;simp at this;omega
   subst h0;exact⟨.slice none 0 0,λw=>by simp [run_sliceAt_slice _ _ _ _ _ _ d,run_slice_l w t _ 0 0 d kd 0 (by omega) (by omega),k,sliced],.inl ⟨rfl,rfl⟩⟩
  ·refine⟨.slice (if cap=y.toNat then some ⟨b,o,sp⟩ else some ((⟨b,o,sp⟩:Addr).add (y.toNat*r.sz))) (l.length-y.toNat) (cap-y.toNat),λw=>by simp [run_sliceAt_slice _ _ _ _ _ _ d,run_slice_l w t _ l.length cap d kd y g.1 (by omega),k,sliced],?_⟩;by_cases h0:y.toNat<l.length
   ·have:=(h6 0 l[0] (by simp [show 0<l.length by omega])).1;simp only at this;subst this;rw[Aaw (by omega),PQ];refine .inr ⟨_,_,by rw[Aco],by rw[Aco];omega,by omega,λi x a=>⟨rfl,?_⟩⟩;rw[Add] at a;have:=(h6 _ x a).2;simp only[Acg,←Adj] at this;exact this
   ·have n:l.drop y.toNat=[]:=Ads (by omega);have p:l.length-y.toNat=0:=by omega
    rw[n,p];split
    ·exact .inr ⟨_,_,rfl,by simp,by omega,λi x a=>by simp at a⟩
    ·exact .inr ⟨_,_,rfl,by simp,by omega,λi x a=>by simp at a⟩
 ·cases c
def kZ {α}{r:A4 α}{e:TypeId}{l c:List α}{y:Int}(g:BR m X=some v) (i:BR m Y=some (.int kd y)) (k0:Sl S h r v l) (j:Na P t e r.sz=true) (o:mM l y=some c) (hd:Nat.blt d n.1=true)
  (k:∀u,Sl S h r u c→QF P ops C Q rest n ((d,u)::m)):QF P ops C Q (⟨some d,.slice t X none (some Y) none,ty,pos,af,none⟩::rest) n m:=by
 obtain⟨u,p,q⟩:=X3 (kd:=kd) k0 j o;exact λa b=>Du b hd (λw _=>by simp [execOp,b.eval g,b.eval i,p]) (k u q)
def lB {α}{r:A4 α}{e:TypeId}{l c:List α}{y:Int}(g:BR m X=some v) (i:BR m Y=some (.int kd y)) (k0:Sl S h r v l) (j:Na P t e r.sz=true) (o:mN l y=some c) (hd:Nat.blt d n.1=true)
  (k:∀u,Sl S h r u c→QF P ops C Q rest n ((d,u)::m)):QF P ops C Q (⟨some d,.slice t X (some Y) none none,ty,pos,af,none⟩::rest) n m:=by
 obtain⟨u,p,q⟩:=X4 (kd:=kd) k0 j o;exact λa b=>Du b hd (λw _=>by simp [execOp,b.eval g,b.eval i,p]) (k u q)
def ZG {x y:Int}(b:Fr n a m) (c:BR m X=some (.int .i64 x)) (g:BR m Y=some (.int .i64 y)):Yields P ops ⟨some d,.binOp .add t1 X Y t2,ty,pos,af,none⟩ (.int .i64 (BC (x+y))) a:=
 .inl ⟨by simp [Region.wanted],λw=>by
  have i:(eqGuard .add t1 X Y (.int .i64 x) (.int .i64 y)).run P w= .ok () w:=by unfold eqGuard;simp
  simp [execOp,b.eval c,b.eval g,i,binOp,Op.intArith,BC]⟩
def Wv {α}{r:A4 α}{e:TypeId}{l b:List α}{y:Int}(g:BR m X=some v) (i:BR m Y=some (.int kd y)) (k0:Sl S h r v l) (j:Na P t e r.sz=true) (k:mN l y=some b):
  ∃u,Sl S h r u b∧∀a,Fr n a m→Yields P ops ⟨some d,.slice t X (some Y) none none,ty,pos,af,none⟩ u a:=by
 obtain⟨u,o,p⟩:=X4 (kd:=kd) k0 j k;exact⟨u,p,λa c=> .inl ⟨by simp [Region.wanted],λw=>by simp [execOp,c.eval g,c.eval i,o]⟩⟩
def Wu {α}{r:A4 α}{e:TypeId}{l b:List α}{y:Int}(g:BR m X=some v) (i:BR m Y=some (.int kd y)) (k0:Sl S h r v l) (j:Na P t e r.sz=true) (k:mM l y=some b):
  ∃u,Sl S h r u b∧∀a,Fr n a m→Yields P ops ⟨some d,.slice t X none (some Y) none,ty,pos,af,none⟩ u a:=by
 obtain⟨u,o,p⟩:=X3 (kd:=kd) k0 j k;exact⟨u,p,λa c=> .inl ⟨by simp [Region.wanted],λw=>by simp [execOp,c.eval g,c.eval i,o]⟩⟩
end
def bL (s:ByteArray):List Int:=s.data.toList.map λb=>(b.toNat:Int)
def Mr (s:ByteArray):(bL s).length=s.size:=by simp [bL]
def nO (g j:Nat):(⟨g,0,none⟩:Addr).add j=⟨g,j,none⟩:=by unfold Addr.add;split<;>simp_all
def tF (s t:ByteArray):bL (s++t)=bL s++bL t:=by simp [bL,ByteArray.data_append]
def kM (s:ByteArray) (c:Int) (h:IntKind.has .u8 c):bL (s.push (UInt8.ofNat c.toNat))=bL s++[c]:=by
 have:0≤c∧c≤255:=by simpa [IntKind.has,IntKind.min,IntKind.max,IntKind.signed,IntKind.bits] using h
 have e:(((UInt8.ofNat c.toNat).toNat:Nat):Int)=c:=by rw[UInt8.toNat_ofNat'];omega
 simp only[bL,ByteArray.push,Array.toList_push,Ack,Abl,List.map_nil,e]
abbrev RB:A4 Int:=A4.intk .u8
def UF {S:Nat→Prop}{h:AV}:∀l:List UInt8,LS S h RB (l.map λb=>Value.int .u8 b.toNat) (l.map λb=>(b.toNat:Int))
 |[]=>rfl
 |b::l=>⟨[.int .u8 b.toNat],l.map λb=>Value.int .u8 b.toNat,rfl,⟨rfl,by have:=b.toNat_lt;simp [IntKind.has,IntKind.min,IntKind.max,IntKind.signed,IntKind.bits];omega⟩,UF l⟩
def X7 {S:Nat→Prop}{h:AV}(t:ByteArray):LS S h RB (Lib.strCells t) (bL t):=UF t.data.toList
section
variable {P:Program}{ops:Array Oper}{Q:Exit→Act→World→Prop}{n:FN}{m:SM}{rest:List Oper}{a:Act}
variable {d:Nat}{ty:TypeId}{pos:String}{af:Array Edge}{X Y:Operand}{B w:World}{h:AV}{S:Nat→Prop}{L L2:List HP}{v:Value}
def WB {T U e H:Nat}{z:List Value}{l:List Int}{t:ByteArray}{F:Nat→Prop}(he:OY P T=some (e,1,H,z)) (p:P.underlying U=some .string)
  (M:l.length+t.size≤maxLen) (Q:Js (l.length+t.size) H) (c:Wd B h w) (k:(OS RB e v l).holds S F h) (hS:∀b,S b→b<h.size∧¬F b):
  ∃v' w' h' F',(Builtin.append_ #[T,U] ty #[v,.string t]).run P w= .ok v' w'∧Wd B h' w'∧h.size≤h'.size∧(OS RB e v' (l++bL t)).holds S F' h'∧(∀b,F' b→F b∨(h.size≤b∧b<h'.size))∧(∀b,b<h.size→¬F b→h'[b]? =h[b]?)∧(v= .slice none 0 0→t.size=0→v'= .slice none 0 0):=by
 obtain⟨i,D,V,W,h3,h4,h5,h6,h7,h8⟩:=K1 he;have X:l.length+t.size≤9223372036854775807:=by unfold maxLen at M;omega
 have ac:D.cells.size=1:=by rw[h6];simpa using h7
 have d:(bL t).length=t.size:=Mr t;have q:(Lib.strCells t).length=t.size:=Lib.strCells_length t;have s:∀(m:List Value) (o:Nat),LS S h RB m l→o<l.length+t.size→
   (OS RB e (.slice (some ⟨h.size,0,none⟩) (l.length+t.size) (grownCap w (l.length+t.size) o e)) (l++bL t)).holds S (λb=>b=h.size)
    (h.push (.cells (m.toArray++(Lib.strCells t).toArray++Builtin.zeroCells D.cells (grownCap w (l.length+t.size) o e-(l.length+t.size))) e)):=by
  intro m o ho ag;have ae:=grownCap_ge w (l.length+t.size) o e;refine .inr ⟨h.size,_,_,by rw[Abi,d],λ_=>Acp,Kq _ _,by rw[Abi,d];exact ae,grownCap_le_maxLen w _ o e M,?_,?_⟩
  ·have:=ho.len;simp only[Array.size_append,Adp,size_zeroCells,ac,this,q];show l.length*1+t.size+_*1=_*1
   omega
  ·have y:(l++bL t).length*RB.sz=(m++Lib.strCells t).length:=by
    rw[Abi,Abi,ho.len,q,d];show(l.length+t.size)*1=l.length*1+t.size;omega
   rw[y];simp only[Array.toList_append];rw[Adn];exact(ho.append (X7 t)).mono (λ_ x=>x) λb a=>Gw _ _ _ (hS b a).1
 rcases k with ⟨⟨I,rfl⟩,rfl,hF⟩|⟨g,cap,cur,rfl,hF,hg,hlc,hcm,hcs,hrd⟩
 ·by_cases Y:t.size=0
  ·have hn:Lib.strCells t=[]:=Ad5 (by rw[q];exact Y);have a:bL t=[]:=Ad5 (by rw[d];exact Y);refine⟨.slice I 0 0,w,h,F,?_,c,Abd _,.inl ⟨⟨I,rfl⟩,by rw[a];rfl,hF⟩,λb a=> .inl a,λ_ _ _=>rfl,λe _=>e⟩;have hf:=Lib.run_firstCells_string (P:=P) w 1 t;rw[Y,hn] at hf;cases I<;>simp [Builtin.append_,run_underlying V,run_underlying p,sizeOf,typeInfo,W,h4,Builtin.lenOf,Y,hf,storeCells]
  ·have G:Js t.size H:=by simpa using Q
   have ah:=G.le;have e1:(t.data.map λb=>Value.int .u8 b.toNat)=(Lib.strCells t).toArray:=by
    apply Array.ext';simp [Lib.strCells]
   have Z:(Builtin.append_ #[T,U] ty #[.slice I 0 0,.string t]).run P w= .ok (.slice (some ⟨w.heap.size,0,none⟩) t.size (grownCap w t.size 0 e)) (w.drew.alloc (.cells ((Lib.strCells t).toArray++Builtin.zeroCells D.cells (grownCap w t.size 0 e-t.size)) e)):=by
    cases I with
    |none=>
     have:=run_append_nil_string (P:=P) w T U ty e i D V p W h3 t (by omega) (by simp at X;omega) (by rw[h5];omega);rw[e1] at this;exact this
    |some I=>
     have hq:=Lib.run_append_grow_string (P:=P) w T U ty e i D V p W h3 I 0 0 [] (by simp) (λj u p=>by simp at p) t (by omega) (by omega) (OB (by omega) (by rw[h5];simpa using G));simpa using hq
   have C:=s [] 0 rfl (by simp;omega);simp only[List.length_nil,Abz,Abj,Array.empty_append] at C;refine⟨_,_,h.push (.cells ((Lib.strCells t).toArray++Builtin.zeroCells D.cells (grownCap w t.size 0 e-t.size)) e),λb=>b=h.size,Z,⟨?_,c.os,c.tape,c.out⟩,by simp,?_,λb a=> .inr (by subst a;simp),λb a _=>Gw _ _ _ a,λ_ e=>absurd e Y⟩
   ·show(w.heap.push _)=_;rw[c.heap]
   ·rw[c.heap];exact C
 ·have aa:w.heap[g]? =some (.cells cur e (0,0)):=by rw[c.heap];exact hg
  have af:cur.size=cap:=by have:cur.size=cap*1:=hcs;omega
  have n:LS S h RB (cur.toList.take l.length) l:=by have:=hrd;rwa [show l.length*RB.sz=l.length from Acr _] at this
  by_cases A:l.length+t.size≤cap
  ·have Z:=Lib.run_append_room_string (P:=P) w T U ty e i V p W h4 g l.length cap cur aa t A (by omega);obtain⟨h',e1,e2,e3,e4⟩:=Qj w g cur (c':=(cur.toList.take l.length++Lib.strCells t++cur.toList.drop (l.length+t.size)).toArray) e aa;rw[c.heap] at e2 e4;refine⟨_,_,h',F,Z,⟨e1,c.os,c.tape,c.out⟩,by omega,.inr ⟨g,cap,_,by rw[Abi,d],hF,e3,by rw[Abi,d];exact A,hcm,?_,?_⟩,λb a=> .inl a,λb _ a=>e4 b λe=>a ((hF b).2 e),λe=>by cases e⟩
   ·simp only[Adp,Abi,Aca,Aco,Aec,q];show _=cap*1
    omega
   ·have J:=n.len;have ab:(cur.toList.take l.length).length=l.length:=by rw[J];exact Acr _
    have y:(l++bL t).length*RB.sz=(cur.toList.take l.length++Lib.strCells t).length:=by
     rw[Abi,Abi,ab,q,d];exact Acr _
    rw[y,Adn];exact(n.append (X7 t)).mono (λ_ x=>x) λb a=>e4 b λe=>(hS b a).2 ((hF b).2 e)
  ·have K:∀j u,(cur.toList.take l.length)[j]? =some u→w.cell? ((⟨g,0,none⟩:Addr).add j)=some u:=λj u p=>by
    rw[nO,I7,c.heap];have hj:j<l.length:=by
     have:=(Aba.1 p).1;simp at this;omega
    rw[Aci hj] at p;simp only[IZ,hg,Adw,Acz,Ac0];simpa using p
   have J:=n.len;have Z:=Lib.run_append_grow_string (P:=P) w T U ty e i D V p W h3 ⟨g,0,none⟩ l.length cap _ (by rw[h4];exact J) K t (by omega) (by omega) (OB (by omega) (by rw[h5];exact Q));have C:=s _ cap n (by omega);refine⟨_,_,h.push (.cells ((cur.toList.take l.length).toArray++(Lib.strCells t).toArray++Builtin.zeroCells D.cells (grownCap w (l.length+t.size) cap e-(l.length+t.size))) e),λb=>b=h.size,Z,⟨?_,c.os,c.tape,c.out⟩,by simp,?_,λb a=> .inr (by subst a;simp),λb a _=>Gw _ _ _ a,λe=>by cases e⟩
   ·show(w.heap.push _)=_;rw[c.heap]
   ·rw[c.heap];exact C
def mA {T U e u:Nat}{z:List Value}{l:List Int}{t:ByteArray}{LL:Value→List HP}(hx:BR m X=some v) (hy:BR m Y=some (.string t)) (he:OY P T=some (e,1,u,z)) (Z:P.underlying U=some .string)
  (y:l.length+t.size≤maxLen) (A:Js (l.length+t.size) u) (hd:Nat.blt d n.1=true) (s:St S L h) (rp:∀i,Mu L (OS RB e v l) (OS RB e i (l++bL t)) (LL i))
  (k:∀i h',St S (LL i) h'→B9 S h S h'→(v= .slice none 0 0→t.size=0→i= .slice none 0 0)→LF P ops Q rest B h' n ((d,i)::m)):
  LF P ops Q (⟨some d,.call ⟨.builtin .append,#[X,Y],#[T,U]⟩,ty,pos,af,none⟩::rest) B h n m:=by
 intro a w g hw;refine wpList_plain rfl λK hK=>?_;unfold Oper.wp;obtain⟨M,p,_⟩:=(rp v).pick;obtain⟨F,g1,g2,_⟩:=Sp.pick p s.2;obtain⟨i,w',h',F',e1,e2,e3,e4,e5,e6,e7⟩:=WB (ty:=ty) he Z y A hw g1 λb c=>⟨s.1 b c,λg=>(g2 b g).2 c⟩
 have C:(execOp a.eval ⟨some d,.call ⟨.builtin .append,#[X,Y],#[T,U]⟩,ty,pos,af,none⟩).run P w= .ok (.value i) w':=by
  simp [execOp,resolve,invoke,builtin,g.eval hx,g.eval hy,e1]
 rw[C];obtain⟨M,p,q⟩:=(rp i).pick;have D:St S (LL i) h'∧B9 S h S h':=by
  obtain⟨G,aa,j,ab⟩:=Sp.pick p s.2;obtain⟨ai,aj,H,ac,I,ad,o,ae,J,V,_⟩:=WB (ty:=ty) he Z y A hw aa λb c=>⟨s.1 b c,λg=>(j b g).2 c⟩
  rw[e1] at I;injection I with ev ew
  subst ev;subst ew;have hh:H=h':=by rw[←ad.heap,e2.heap]
  subst hh;have W:∀b,S b→H[b]? =h[b]? :=λb c=>V b (s.1 b c) λg=>(j b g).2 c;refine⟨⟨λb c=>Aa9 (s.1 b c) o,MZ q ⟨ac,ae,λb c=>?_,?_⟩⟩,λ_ x=>x,W,o⟩
  ·rcases J b c with g|⟨hl,Z⟩
   ·exact⟨Aa9 (j b g).1 o,(j b g).2⟩
   ·exact⟨Z,λag=>absurd (s.1 b ag) (by omega)⟩
  ·refine Sp.ext ab (λ_ x=>x) (λb c=>?_) λb c=>⟨⟨Aa9 c.1.1 o,c.1.2⟩,λah=>?_⟩
   ·rcases c with c|c
    ·exact W b c
    ·exact V b c.1.1 c.2
   ·rcases J b ah with g|⟨hl,_⟩
    ·exact c.2 g
    ·exact absurd c.1.1 (by omega)
 exact hK _ _ (k i h' D.1 D.2 e7 _ w' (g.put hd _) e2)
end
def Vn (b T E:Nat) (s:ByteArray):HP where
 holds:=λS F h=>∃p v a d,(p= .pointer none∨p= .pointer (some ⟨b,0,none⟩))∧(s.size=0→v= .slice none 0 0)∧(Bx b T [p,v]).holds S a h∧(OS RB E v (bL s)).holds S d h∧(∀c,a c→F c)∧(∀c,d c→F c∧¬a c)
 loc:=by
  rintro S S' F h h' ⟨p,v,a,d,m,n,o,q,i,j⟩ k l;exact⟨p,v,a,d,m,n,HP.loc _ o k λb g=>l b (g.imp_right (i b)),HP.loc _ q k λb g=>l b (g.imp_right λx=>(j b x).1),i,j⟩
section
variable {P:Program}{ops:Array Oper}{Q:Exit→Act→World→Prop}{n:FN}{m:SM}{rest:List Oper}
variable {d:Nat}{ty:TypeId}{pos:String}{af:Array Edge}{X Y:Operand}{B w:World}{h:AV}{S:Nat→Prop}{L L2:List HP}{p v:Value}{b T E:Nat}{s:ByteArray}
def St.bldO (j:St S (Vn b T E s::L) h):∃p v,(p= .pointer none∨p= .pointer (some ⟨b,0,none⟩))∧(s.size=0→v= .slice none 0 0)∧St S (Bx b T [p,v]::OS RB E v (bL s)::L) h:=by
 obtain⟨k,F,⟨p,v,l,m,n,o,q,t,g,d⟩,i,u⟩:=j;exact⟨p,v,n,o,k,l,q,λc a=>i c (g c a),m,t,λc a=>⟨i c (d c a).1,(d c a).2⟩,Sp.mono u λc a=>⟨⟨a.1,λx=>a.2 (g c x)⟩,λx=>a.2 (d c x).1⟩⟩
def VS (j:p= .pointer none∨p= .pointer (some ⟨b,0,none⟩)) (k:s.size=0→v= .slice none 0 0) (l:St S (Bx b T [p,v]::OS RB E v (bL s)::L) h):St S (Vn b T E s::L) h:=by
 obtain⟨m,d,n,o,g,q,i,t⟩:=l;exact⟨m,λc=>d c∨g c,⟨p,v,d,g,j,k,n,q,λc x=> .inl x,λc x=>⟨.inr x,(i c x).2⟩⟩,λc x=>x.elim (o c) λx=>(i c x).1,Sp.mono t λc a=>⟨a.1.1,λx=>x.elim a.1.2 a.2⟩⟩
def iA (c:EB P T=some [.pointer none,.slice none 0 0]) (E:Nat) (hd:Nat.blt d n.1=true) (g:St S L h) (k:∀b h',St S (Vn b T E ByteArray.empty::L) h'→B9 S h S h'→LF P ops Q rest B h' n ((d,.pointer (some ⟨b,0,none⟩))::m)):LF P ops Q (⟨some d,.alloc T,ty,pos,af,none⟩::rest) B h n m:=
 CF c hd (g.nil RB E) λb h' a e=>k b h' (VS (.inl rfl) (λ_=>rfl) a) e
def Y0 {C:World→Prop}{Q:Act→Prop}{o:Option Addr}{t t2 c:TypeId}{k0:Nat}(g:BR m X=some (.pointer o)) (i:BR m Y=some (.pointer none)) (l:P.underlying t=some (.pointer c)) (p:(P.info? c).map (·.size)=some k0) (hd:Nat.blt d n.1=true) (k:QF P ops C Q rest n ((d,.bool o.isNone)::m)):
  QF P ops C Q (⟨some d,.binOp .eql t X Y t2,ty,pos,af,none⟩::rest) n m:=λa b=>Du b hd (λw _=>by
 obtain⟨j,s,_⟩:=Acf.1 p;have e:∀q:Nat,(Op.equalIn (q+1) t (.pointer o) (.pointer none)).run P w= .ok o.isNone w:=λq=>by
  cases o<;>simp [Op.equalIn,run_underlying l,sizeOf,typeInfo,s,sameAddr]
 have y:=e 9999;have u:∀w,(eqGuard .eql t X Y (.pointer o) (.pointer none)).run P w= .ok () w:=λw=>by cases o<;>(unfold eqGuard;simp)
 have v:(binOp .eql t (.pointer o) (.pointer none)).run P w= .ok (.bool o.isNone) w:=by
  simp only[binOp];have x:(Op.equalIn Op.maxDepth t (.pointer o) (.pointer none)).run P w= .ok o.isNone w:=e (Op.maxDepth-1);simp [Op.equal,x]
 simp [execOp,b.eval g,b.eval i,u,v]) k
def gL {C:World→Prop}{Q:Act→Prop}{o:Addr}{t t2 c:TypeId}{k0:Nat}(g:BR m X=some (.pointer (some o))) (i:BR m Y=some (.pointer (some o))) (l:P.underlying t=some (.pointer c)) (p:(P.info? c).map (·.size)=some k0) (hd:Nat.blt d n.1=true) (k:QF P ops C Q rest n ((d,.bool false)::m)):
  QF P ops C Q (⟨some d,.binOp .neq t X Y t2,ty,pos,af,none⟩::rest) n m:=λa b=>Du b hd (λw _=>by
 obtain⟨j,q,_⟩:=Acf.1 p;have:=Lib.run_neq_ptr_same (P:=P) w o l q;have s:∀w,(eqGuard .neq t X Y (.pointer (some o)) (.pointer (some o))).run P w= .ok () w:=λw=>by unfold eqGuard;simp
 simp [execOp,b.eval g,b.eval i,s,this]) k
def Aae {cs:List Value}(a:St S L h) (c:Bx b T cs∈L) (d:Wd B h w):w.shape? b=some (T,cs.length):=by
 have:=a.bxW c d;simp [World.shape?,this]
def tK {Q:Act→Prop}{cs:List Value}{c t2:TypeId}{k0:Nat}(i:St S L h) (l:Bx b T cs∈L) (o:BR m X=some (.pointer (some ⟨b,0,none⟩))) (p:P.underlying c=some (.pointer T)) (q:P.underlying t2=some .unsafePointer) (s:(P.info? T).map (·.size)=some (k0+1)) (t:Nat.blt 0 cs.length=true) (hd:Nat.blt d n.1=true)
  (k:QF P ops (Wd B h) Q rest n ((d,.pointer (some ⟨b,0,none⟩))::m)):QF P ops (Wd B h) Q (⟨some d,.convert c t2 X,ty,pos,af,none⟩::rest) n m:=λa g=>Du g hd (λw u=>by
 obtain⟨j,v,x⟩:=Acf.1 s;have:=Lib.run_to_unsafe (P:=P) w (src:=c) (dst:=t2) ⟨b,0,none⟩ p q v (by omega) (Aae i l u) (Adl t);simp [execOp,g.eval o,this]) k
def tY {Q:Act→Prop}{cs:List Value}{c t2:TypeId}{k0:Nat}(i:St S L h) (l:Bx b T cs∈L) (o:BR m X=some (.pointer (some ⟨b,0,none⟩))) (p:P.underlying c=some .unsafePointer) (q:P.underlying t2=some (.pointer T)) (s:(P.info? T).map (·.size)=some k0) (t:liesAt P P.depth T (cs.length/P.cellsOf T) 0 T 1=true) (hd:Nat.blt d n.1=true)
  (k:QF P ops (Wd B h) Q rest n ((d,.pointer (some ⟨b,0,none⟩))::m)):QF P ops (Wd B h) Q (⟨some d,.convert c t2 X,ty,pos,af,none⟩::rest) n m:=λa g=>Du g hd (λw u=>by
 obtain⟨j,v,x⟩:=Acf.1 s;have:=Lib.run_from_unsafe (P:=P) w (src:=c) (dst:=t2) ⟨b,0,none⟩ p q v (Aae i l u) t;simp [execOp,g.eval o,this]) k
def wK {f:Nat}{a:Func}(b:P.funcs[f]? =some a) (c:(a.name== "runtime.NumGoroutine")=false) (d:a.body.isNone=true) (g:Extern.findNext a=none) (i:Extern.find a=some Extern.AbiNoEscape.same) (x:Value) (w:World):
  (callFunc f #[x]).run P w= .ok (.value x) w:=by
 rw[run_callFunc_extern b c d g i,Lib.run_noEscape];rfl
def zT {C:World→Prop}{Q:Act→Prop}{o:Option Addr}{l c:Nat}{t:TypeId}(g:BR m X=some (.slice o l c)) (h0:o.isSome=true→c≠0) (hd:Nat.blt d n.1=true) (k:QF P ops C Q rest n ((d,.pointer o)::m)):
  QF P ops C Q (⟨some d,.call ⟨.builtin .unsafeSliceData,#[X],#[t]⟩,ty,pos,af,none⟩::rest) n m:=λa b=>Du b hd (λw _=>by
 have e:(Builtin.unsafeSliceData_ #[t] ty #[.slice o l c]).run P w= .ok (.pointer o) w:=by
  cases o with
  |none=>exact Lib.run_unsafeSliceData_nil w _ _ _ _
  |some a=>exact Lib.run_unsafeSliceData_row w _ _ _ _ _ (h0 rfl)
 simp [execOp,resolve,invoke,builtin,b.eval g,e]) k
def gZ {c t2:TypeId}{o:Option Addr}(i:BR m X=some (.pointer o)) (j:BR m Y=some (.int .i64 0)) (hd:Nat.blt d n.1=true) (k:LF P ops Q rest B h n ((d,.string ByteArray.empty)::m)):
  LF P ops Q (⟨some d,.call ⟨.builtin .unsafeString,#[X,Y],#[c,t2]⟩,ty,pos,af,none⟩::rest) B h n m:=λa w g l=>by
 refine wpList_plain rfl λK p=>?_;unfold Oper.wp;have e:(Builtin.unsafeString_ #[c,t2] ty #[.pointer o,.int .i64 0]).run P w= .ok (.string ByteArray.empty) w:=Lib.run_unsafeString_none w _ _ _ _;have b:(execOp a.eval ⟨some d,.call ⟨.builtin .unsafeString,#[X,Y],#[c,t2]⟩,ty,pos,af,none⟩).run P w= .ok (.value (.string ByteArray.empty)) w:=by
  simp [execOp,resolve,invoke,builtin,g.eval i,g.eval j,e]
 rw[b];exact p _ _ (k _ w (g.put hd _) l)
def lW {q t2:TypeId}{g cap:Nat}(J:BR m X=some (.pointer (some ⟨g,0,none⟩))) (M:BR m Y=some (.int .i64 s.size)) (U:St S (OS RB E (.slice (some ⟨g,0,none⟩) s.size cap) (bL s)::L) h) (h0:s.size≠0) (V:P.underlying q=some (.pointer E)) (W:P.cellsOf E=1) (hd:Nat.blt d n.1=true)
  (k:∀h',St S L h'→B9 S h S h'→LF P ops Q rest B h' n ((d,.string s)::m)):
  LF P ops Q (⟨some d,.call ⟨.builtin .unsafeString,#[X,Y],#[q,t2]⟩,ty,pos,af,none⟩::rest) B h n m:=λa w A o=>by
 refine wpList_plain rfl λK Z=>?_;unfold Oper.wp;obtain⟨h1,F,kO,hF,hL⟩:=U;rcases kO with ⟨_,z,_⟩|⟨g',cap',cur,k1,z,k3,k4,k5,k6,k7⟩
 ·exact absurd (by rw[←Mr,z];rfl) h0
 ·rw[Mr] at k1 k4;injection k1 with t q2 q3
  injection t with t
  injection t with t
  subst t;subst q3;have i:s.data.toList.length=s.size:=by simp
  have C:w.heap[g]? =some (.cells cur E (0,0)):=by rw[o.heap];exact k3
  have aa:cur.size=cap:=by have:cur.size=cap*1:=k6;omega
  have e:(Builtin.unsafeString_ #[q,t2] ty #[.pointer (some ⟨g,0,none⟩),.int .i64 s.data.toList.length]).run P w= .ok (.string ⟨s.data.toList.toArray⟩) (w.freeze ⟨g,0,none⟩ s.data.toList.length):=by
   refine Lib.run_unsafeString_row w q t2 ty E V W g cur.size (by simp [World.shape?,C]) s.data.toList (λe0=>h0 (by rw[←i,e0];rfl)) (by rw[i];omega) (by rw[i];unfold maxLen at k5;omega) ?_;intro j x H;have hr:LS S h RB (cur.toList.take s.size) (bL s):=by have:=k7;rwa [show (bL s).length*RB.sz=s.size by rw[Mr];exact Acr _] at this
   have c:(bL s)[j]? =some (x.toNat:Int):=by simp [bL,H]
   have D:j<s.size:=by rw[←i];exact(Aba.1 H).1
   have h9:=(hr.at_ c).1;have I:(cur.toList.take s.size)[j]? =some (.int .u8 x.toNat):=by
    have u:((cur.toList.take s.size).drop (j*RB.sz)).take RB.sz=[.int .u8 x.toNat]:=h9;rw[show j*RB.sz=j from Acr j] at u;have G:(((cur.toList.take s.size).drop j).take 1)[0]? =some (.int .u8 x.toNat):=by rw[show (1:Nat)=RB.sz from rfl,u];rfl
    simpa using G
   rw[nO,I7,o.heap];simp only[IZ,k3,Adw,Acz,Ac0];rw[Aci D] at I;simpa using I
  rw[i] at e;have v:(execOp a.eval ⟨some d,.call ⟨.builtin .unsafeString,#[X,Y],#[q,t2]⟩,ty,pos,af,none⟩).run P w= .ok (.value (.string s)) (w.freeze ⟨g,0,none⟩ s.size):=by
   simp [execOp,resolve,invoke,builtin,A.eval J,A.eval M,e]
  rw[v];have l:∀b,b≠g→(w.freeze ⟨g,0,none⟩ s.size).heap[b]? =h[b]? :=λb c=>by
   rw[←o.heap];simp only[World.freeze];split
   ·rfl
   ·rw[Array.getElem?_modify,Aaw (λe=>c e.symm)]
  have p:(w.freeze ⟨g,0,none⟩ s.size).heap.size=h.size:=by
   rw[←o.heap];simp only[World.freeze];split<;>simp
  have y:∀b,S b→b≠g:=λb c e=>(hF g ((z g).2 rfl)).2 (e▸c);refine Z _ _ (k (w.freeze ⟨g,0,none⟩ s.size).heap ⟨λb c=>by rw[p];exact h1 b c,?_⟩ ⟨λ_ x=>x,λb c=>l b (y b c),by rw[p];exact Abd _⟩ _ _ (A.put hd _) ⟨rfl,?_,?_,?_⟩)
  ·refine Sp.ext hL (λ_ x=>x) (λb c=>l b ?_) λb c=>⟨by rw[p];exact c.1.1,c.1.2⟩
   rcases c with c|c
   ·exact y b c
   ·exact λe=>c.2 ((z b).2 e)
  ·rw[←o.os];simp only[World.freeze];split<;>rfl
  ·rw[←o.tape];simp only[World.freeze];split<;>rfl
  ·rw[←o.out];simp only[World.freeze];split<;>rfl
end
def Pv (N:Nat) (b s:ByteArray):Option ByteArray:=chk (Ih (b.size+s.size) 1) <| some (b++s)
def tE (N:Nat) (b:ByteArray) (c:Int):Option ByteArray:=chk (Ih (b.size+1) 1) <| some (b.push (UInt8.ofNat c.toNat))
def tD (N:Nat) (b:ByteArray):Option ByteArray:=some b
def mP {n:Nat}(h:Ih n 1=true):n≤maxLen:=by have:=MV h;unfold Js at this;unfold maxLen;omega
def xM {b s:ByteArray}{v a:Value}(c:b.size=0→v= .slice none 0 0) (d:v= .slice none 0 0→s.size=0→a= .slice none 0 0) (h:(b++s).size=0):a= .slice none 0 0:=by
 rw[ByteArray.size_append] at h;exact d (c (by omega)) (by omega)
def St.oscell {α}{r:A4 α}{T:Nat}{v:Value}{l:List α}{S:Nat→Prop}{L:List HP}{h:AV}(a:St S L h) (b:OS r T v l∈L):v.cells=[v].toArray:=by
 obtain⟨c,cap,rfl,_⟩:=a.oslen b;rfl
def St.osrow {α}{r:A4 α}{T:Nat}{v:Value}{l:List α}{S:Nat→Prop}{L:List HP}{h:AV}(a:St S L h) (b:OS r T v l∈L) (h0:l.length≠0):∃g cap,v= .slice (some ⟨g,0,none⟩) l.length cap∧l.length≤cap:=by
 obtain⟨F,k,_⟩:=a.get b;rcases k with ⟨_,c,_⟩|⟨g,cap,cur,h1,_,_,h4,_⟩
 ·subst c;exact absurd rfl h0
 ·exact⟨g,cap,h1,h4⟩
section
variable {P:Program}{ex:List (Nat×AP)}{RR N:AP}{cs:List Code}{B:World}{h:AV}{n:FN}{m m':SM}{S:Nat→Prop}{L:List HP}{C:World→Prop}{l:List Oper}{fuel:Nat}{listed:Array Bool}
variable {d:Nat}{ty:TypeId}{pos:String}{af:Array Edge}{X Y:Operand}{t:TypeId}{v:Value}
def ZA (i:Nat) {b:Addr}(g:l[i]? =some ⟨some d,.nilCheck X,ty,pos,af,none⟩) (c:iF l listed i=true) (j:∀w,Wd B h w→C w) (o:BR m X=some (.pointer (some b))) (hd:Nat.blt d n.1=true) (k:HF P l (QW P ex RR cs N) C fuel (listed.setIfInBounds i true) B h n ((d,.pointer (some b))::m)):HF P l (QW P ex RR cs N) C (fuel+1) listed B h n m:=
 PZ i g c j hd (λa w p _=>by simp [execOp,p.eval o]) k
def iC (i:Nat) {o:Option Addr}{q z:Nat}(b:l[i]? =some ⟨some d,.call ⟨.builtin .unsafeSliceData,#[X],#[t]⟩,ty,pos,af,none⟩) (c:iF l listed i=true) (g:∀w,Wd B h w→C w) (j:BR m X=some (.slice o q z)) (h0:o.isSome=true→z≠0) (hd:Nat.blt d n.1=true) (k:HF P l (QW P ex RR cs N) C fuel (listed.setIfInBounds i true) B h n ((d,.pointer o)::m)):HF P l (QW P ex RR cs N) C (fuel+1) listed B h n m:=
 PZ i b c g hd (λa w p _=>by
  have e:(Builtin.unsafeSliceData_ #[t] ty #[.slice o q z]).run P w= .ok (.pointer o) w:=by
   cases o with
   |none=>exact Lib.run_unsafeSliceData_nil w _ _ _ _
   |some a=>exact Lib.run_unsafeSliceData_row w _ _ _ _ _ (h0 rfl)
  simp [execOp,resolve,invoke,builtin,p.eval j,e]) k
def ZC (i:Nat) {o:Option Addr}{q z e sz:Nat}(b:l[i]? =some ⟨some d,.call ⟨.builtin .len,#[X],#[t]⟩,ty,pos,af,none⟩) (c:iF l listed i=true) (g:∀w,Wd B h w→C w) (j:BR m X=some (.slice o q z)) (p:Na P t e sz=true) (hd:Nat.blt d n.1=true) (k:HF P l (QW P ex RR cs N) C fuel (listed.setIfInBounds i true) B h n ((d,.int .i64 q)::m)):HF P l (QW P ex RR cs N) C (fuel+1) listed B h n m:=
 PZ i b c g hd (λa w s _=>by
  obtain⟨i,u,_⟩:=Me p;simp [execOp,resolve,invoke,builtin,Builtin.len_,s.eval j,run_underlying u,goInt]) k
end
def W3 {P:Program}{ops:Array Oper}{Q:Exit→Act→World→Prop}(hb:PO ops=true) {f g:Nat}{d:List Nat}{of n:Oper}{o:List Oper}{c:Nat}{b:Array Bool}{a:Act}{w:World}(hu:T8 b=c) (hs:b.size=ops.size)
  (K:∀i,i<ops.size→i∉f::g::d→b.getD i true=true) (q:∀t,t∈f::g::d→t<ops.size∧b.getD t true=false) (s:L8 ops (f::d)) (M:L8 ops (g::d)) (U:(f::g::d).Nodup)
  (hf:ops[f]? =some of) (ho:ops[g]? =some n) (V:(d.filterMap λt=>ops[t]?)=o)
  (hA:wpList P ops Q (of::n::o) a w) (hB:wpList P ops Q (n::of::o) a w):wpAny P .any ops Q c b a w:=by
 obtain⟨u,k⟩:=q f (by simp);obtain⟨aj,v⟩:=q g (by simp);have ak:0<T8 b:=by have:=MH k;omega
 obtain⟨c,rfl⟩:∃f,c=f+1:=⟨c-1,by omega⟩
 obtain⟨n1,n2⟩:=Ac5.1 U;obtain⟨n3,n4⟩:=Ac5.1 n2;have A:f≠g:=λh=>n1 (h▸Abn);have B:f∉d:=λh=>n1 (Abt _ h);have only:∀j,j∈Region.ready .any ops b→j=f∨j=g:=λj W=>by
  obtain⟨H,oj,C,D⟩:=mem_ready.1 W;have X:=(Ab5.1 C).1;by_cases F:j∈f::g::d
  ·rcases Aa5.1 F with rfl|hjr
   ·exact .inl rfl
   ·rcases Aa5.1 hjr with rfl|hjr
    ·exact .inr rfl
    ·obtain⟨p,Y,l⟩:=Mq s j hjr;obtain⟨o',Z,e',aa,ab,ac⟩:=Region.waitsFor_spec l;have:o'=oj:=Aa1 (Z.symm.trans C);subst this;have g3:=D e' aa ab;have ad:p∈f::g::d:=by
      rcases Aa5.1 Y with rfl|Y
      ·simp
      ·simp [Y]
     rw[ac,getD_both (q p ad).2] at g3;cases g3
  ·rw[K j X F] at H;cases H
 obtain⟨i,_,q2,_⟩:=NA hb hs u k;refine⟨λh0=>absurd (h0▸q2) (by simp),λj W=>?_⟩;have step:∀(x y:Nat) (ox I:Oper),ops[x]? =some ox→ops[y]? =some I→x≠y→x∉d→y∉d→b.getD x true=false→b.getD y true=false→(∀i,i<ops.size→i∉x::y::d→b.getD i true=true)→(∀t,t∈x::y::d→t<ops.size∧b.getD t true=false)→L8 ops (y::d)→wpList P ops Q (ox::I::o) a w→wpOp P ops Q x (wpAny P .any ops Q c (b.setIfInBounds x true)) a w:=by
  intro x y ox I hx hy ae af ag ah al H g2 hc l;have ih:=λa w=>Jg (P:=P) (Q:=Q) hb (y::d) c (b.setIfInBounds x true) a w (by have:=MH ah;omega) (by simpa using hs)
   (λi hi ai=>by
    by_cases e:i=x
    ·subst e;have:i<b.size:=by omega
     simp [Acu,Acn,this]
    ·rw[getD_set_ne true (λz=>e z.symm)];exact H i hi (λh=>(Aa5.1 h).elim e ai))
   (λt J=>by
    obtain⟨z1,z2⟩:=g2 t (Abt _ J);refine⟨z1,?_⟩;rw[getD_set_ne true (λz:x=t=>?_)]
    ·exact z2
    ·subst z;rcases Aa5.1 J with e|e
     ·exact ae e
     ·exact af e)
   hc (Ac5.2 ⟨ag,n4⟩)
  have G:((y::d).filterMap λt=>ops[t]?)=I::o:=by rw[Aef,hy];simp only;rw[V]
  unfold wpOp;simp only[hx];unfold wpList at l;split
  ·rename_i m;rw[Aay m] at l;exact l.imp (Oper.wp_mono λa w h=>ih a w (by rw[G];exact h)) id
  ·rename_i m;rw[Aaw m] at l;exact ih _ w (by rw[G];exact l)
 rcases only j W with rfl|rfl
 ·exact step j g of n hf ho A B n3 k v K q M hA
 ·refine step j f n of ho hf (λe=>A e.symm) n3 B v k (λi hi hn=>K i hi λh=>hn ?_) (λt J=>q t ?_) s hB
  ·rcases Aa5.1 h with e|h
   ·simp [e]
   ·rcases Aa5.1 h with e|h
    ·simp [e]
    ·simp [h]
  ·rcases Aa5.1 J with e|h
   ·simp [e]
   ·rcases Aa5.1 h with e|h
    ·simp [e]
    ·simp [h]
section
variable {P:Program}{ops:Array Oper}{n:FN}{m:SM}{d:Nat}{ty:TypeId}{pos:String}{af:Array Edge}{X Y:Operand}{t:TypeId}{kd:IntKind}{v:Value}{S:Nat→Prop}{h:AV}
def Vq {α}{r:A4 α}{e:TypeId}{l b:List α}{y:Int}{R:Value→Prop}(c:BR m X=some v) (g:BR m Y=some (.int kd y)) (k0:Sl S h r v l) (i:Na P t e r.sz=true) (j:mN l y=some b) (k:∀u,Sl S h r u b→R u):
  ∀a,Fr n a m→∃u,Yields P ops ⟨some d,.slice t X (some Y) none none,ty,pos,af,none⟩ u a∧R u:=λa o=>by
 obtain⟨u,p,q⟩:=Wv (n:=n) (m:=m) (ops:=ops) (d:=d) (ty:=ty) (pos:=pos) (af:=af) (kd:=kd) c g k0 i j;exact⟨u,q a o,k u p⟩
def Vp {α}{r:A4 α}{e:TypeId}{l b:List α}{y:Int}{R:Value→Prop}(c:BR m X=some v) (g:BR m Y=some (.int kd y)) (k0:Sl S h r v l) (i:Na P t e r.sz=true) (j:mM l y=some b) (k:∀u,Sl S h r u b→R u):
  ∀a,Fr n a m→∃u,Yields P ops ⟨some d,.slice t X none (some Y) none,ty,pos,af,none⟩ u a∧R u:=λa o=>by
 obtain⟨u,p,q⟩:=Wu (n:=n) (m:=m) (ops:=ops) (d:=d) (ty:=ty) (pos:=pos) (af:=af) (kd:=kd) c g k0 i j;exact⟨u,q a o,k u p⟩
end
def nD (ops:Array Oper) (b f c:Nat) (a F:List Nat):Bool:=
 (F.all λx=> ![f].contains x&&match ops[x]? with|some o=>o.after.all λe=> !Region.binds .any e||(Nat.blt e.on ops.size&& !(b::c::a).contains e.on&& !(F++[f]).contains e.on)|none=>false)&&
 (b::c::a).all (λt=>Nat.blt t ops.size)&&decide (f::b::c::a).Nodup&&Ru ops (b::c::a) (F++[f])&&N8 ops (b::c::a)&&N8 ops (f::a)&&N7 ops (b::c::a)&&PO ops&&Region.noSelect ops&&Nat.blt f ops.size
section
variable {P:Program}{ex:List (Nat×AP)}{RR N:AP}{cs:List Code}{B:World}{h:AV}{n:FN}{m m0:SM}
def kU {l:List Oper}{id:Nat}(g f q:Nat) (s F:List Nat) (R:AR) (pss:List (List (Nat×Nat))) (ak al:List (Nat×Nat)) {U of J:Oper}{K:List Oper}(hm:P.follows .mixedOrders=true) (hc:nD l.toArray g f q s F=true) (ms:List Nat) (a3:m.map (·.1)=ms) (am:TF l.toArray (g::q::s) n ms=true)
  (ae:SL l.toArray (g::q::s) l pss=true) (an:(ak.all λp=>Nat.blt p.1 l.length&& !(g::q::s).contains p.1&&(G9 l.toArray p.1).any (Nat.beq p.2 ·))=true)
  (ao:(al.all λp=>Nat.blt p.1 l.length&& !(g::q::s).contains p.1&& !Nat.beq p.1 f&&(G9 l.toArray p.1).any (Nat.beq p.2 ·))=true)
  (a4:l[g]? =some U) (a5:l[f]? =some of) (a6:l[q]? =some J) (af:U.guard=none) (a7:(s.filterMap λt=>l[t]?)=K) (ap:Tr m0 m)
  (ag:∀i v h1 h2,DX h h1→DX h1 h2→R i v h1→R i v h2)
  (hF:LG P l.toArray (g::q::s) n m h R F)
  (step:Cx P l.toArray (Qx ex RR (W P ex RR cs N)) B n m h R (g::q::s) [] ZB.none 0 l pss)
  (aq:∀h',DX h h'→PA R h' (λfr=>LF P l.toArray (Qx ex RR (W P ex RR cs N)) (U::J::K) B h' n (fr++m)) ak [])
  (ar:∀h',DX h h'→PA R h' (λfr=>LF P l.toArray (Exit.then (λa w=>wpList P l.toArray (Qx ex RR (W P ex RR cs N)) (of::J::K) a w∧wpList P l.toArray (Qx ex RR (W P ex RR cs N)) (J::of::K) a w) (Qx ex RR (W P ex RR cs N))) [U] B h' n (fr++m)) al []):WF P ex RR (.region id l.toArray true::cs) N B h n m0:=by
 intro a w hf hw;subst a3;simp only[nD,Aa3,Abh] at hc;obtain⟨⟨⟨⟨⟨⟨⟨⟨⟨c0,c1⟩,c2⟩,c3⟩,c4⟩,a8⟩,c5⟩,c6⟩,c7⟩,c8⟩:=hc;simp only[SL,Aa3] at ae;have au:l.length=pss.length:=Aa8 ae.1;obtain⟨nf,av⟩:=Ac5.1 c2;obtain⟨n1,aa⟩:=Ac5.1 av;have a9:f∉q::s:=λh=>nf (Abt _ h);have ba:f≠g:=λh=>nf (h▸Abn);have aw:f<l.toArray.size:=Adl c8;have hQ:∀c a w,¬(Qx ex RR (W P ex RR cs N)) (.panic c) a w:=λc a w hq=>hq;have V:∀t,t∈g::q::s→t<l.toArray.size:=λt I=>by have:=Aa6.1 c1 t I;simp [Nat.blt] at this ⊢;omega
 have ab:(s.filterMap λt=>l.toArray[t]?)=K:=by rw[←a7];congr 1;funext t;simp
 have ho:l.toArray[g]? =some U:=by simpa using a4
 have ax:l.toArray[f]? =some of:=by simpa using a5
 have ac:l.toArray[q]? =some J:=by simpa using a6
 have ad:((q::s).filterMap λt=>l.toArray[t]?)=J::K:=by rw[Aef,ac];simp only;rw[ab]
 have bb:∀x,x∈F→∀o,l.toArray[x]? =some o→∀e,e∈o.after→Region.binds .any e=true→e.on<l.toArray.size∧e.on∉g::q::s∧e.on∉F++[f]:=λx hf o ho e he hb=>by
  have:=Aa6.1 c0 x hf;rw[Aa3,ho] at this;have:=this.2;simp only[Adr] at this;have:=this e he;simp only[hb,Ab4,Ac9,Aa3,Abr] at this;exact⟨(by simpa [Nat.blt] using this.1.1:e.on+1≤l.toArray.size),λh=>(by rw[Aa7.2 h] at this;cases this.1.2),λh=>(by rw[Aa7.2 h] at this;cases this.2)⟩
 have hA:∀(a:Act) (w:World) (h':AV),Wd B h' w→DX h h'→Fr n a m→(∀i,i<l.toArray.size→i∉g::q::s→∃d v,G9 l.toArray i=some d∧a.tmps[d]? =some v∧R i v h')→wpList P l.toArray (Qx ex RR (W P ex RR cs N)) (U::J::K) a w:=by
  intro a w h' g1 g2 G g4;obtain⟨fr,X,M⟩:=LT (a:=a) (n:=n) _ _ (aq h' g2) (λp hp=>by
   have e:=Aa6.1 an p hp;simp only[Aa3,Abr] at e;have Y:p.1<l.toArray.size:=by have:=e.1.1;simp [Nat.blt] at this ⊢;omega
   obtain⟨d,v,X,M,q3⟩:=g4 p.1 Y (λh=>by rw[Aa7.2 h] at e;cases e.1.2);have e2:=e.2;rw[X] at e2;have:p.2=d:=Aa8 (by simpa using e2);exact⟨v,by rw[this];exact M,q3⟩) ⟨G.dfr,G.siz,λi v y=>by simp [lk] at y⟩
  exact X a w (M.append G) g1
 have hB:∀(a:Act) (w:World) (h':AV),Wd B h' w→DX h h'→Fr n a m→(∀i,i<l.toArray.size→i∉g::q::s→i≠f→∃d v,G9 l.toArray i=some d∧a.tmps[d]? =some v∧R i v h')→U.wp P a w (λa w=>wpList P l.toArray (Qx ex RR (W P ex RR cs N)) (of::J::K) a w∧wpList P l.toArray (Qx ex RR (W P ex RR cs N)) (J::of::K) a w) (Qx ex RR (W P ex RR cs N))∨(U.asks P a w∧LetsOut (Qx ex RR (W P ex RR cs N))):=by
  intro a w h' g1 g2 G g4;obtain⟨fr,X,M⟩:=LT (a:=a) (n:=n) _ _ (ar h' g2) (λp hp=>by
   have e:=Aa6.1 ao p hp;simp only[Aa3,Abr] at e;have Y:p.1<l.toArray.size:=by have:=e.1.1.1;simp [Nat.blt] at this ⊢;omega
   obtain⟨d,v,X,M,q3⟩:=g4 p.1 Y (λh=>by rw[Aa7.2 h] at e;cases e.1.1.2) (λx=>by
    have:=e.1.2;rw[x] at this;simp at this)
   have e2:=e.2;rw[X] at e2;have:p.2=d:=Aa8 (by simpa using e2);exact⟨v,by rw[this];exact M,q3⟩) ⟨G.dfr,G.siz,λi v y=>by simp [lk] at y⟩
  exact LH af (X a w (M.append G) g1)
 have bc:∀(u:Nat) (b:Array Bool) (a:Act) (w:World),T8 b=u+1→Rm l.toArray (g::q::s) b→Wp B h n m l.toArray (g::q::s++[]) [] ZB.none R b a w→(∀i,i<l.toArray.size→i∉g::q::s→i∉[f]→b.getD i false=true)→g∈Region.ready .any l.toArray b→wpOp P l.toArray (Qx ex RR (W P ex RR cs N)) g (wpAny P .any l.toArray (Qx ex RR (W P ex RR cs N)) u (b.setIfInBounds g true)) a w:=by
  intro u b a w hu Z ai A hr;obtain⟨h1,g1,g2,G,g4⟩:=ai.ex;have ay:∀i,i∉g::q::s→b.getD i false=true→∃d v,G9 l.toArray i=some d∧a.tmps[d]? =some v∧R i v h1:=λi y A=>g4 i (by rw[Abx];exact y) A;have az:T8 (b.setIfInBounds g true)=u:=by have:=MH (mem_ready.1 hr).1;omega
  have C:=Z.head hr n1;have a0:∀i,i<l.toArray.size→∀(L:Array Bool),L.size=l.toArray.size→L.getD i false=true→L.getD i true=true:=λi y L hs Q=>by
   have:i<L.size:=by omega
   simpa [this] using Q
  unfold wpOp;simp only[ho];rw[Aay (by simp [Region.wanted,af])];cases ah:b.getD f false with
  |true=>
   have Q:=hA a w h1 g1 g2 G λi D H=>ay i H (by
    by_cases e:i=f
    ·rw[e];exact ah
    ·exact A i D H λh=>e (by simpa using h))
   unfold wpList at Q;rw[Aay (by simp [Region.wanted,af])] at Q;refine Q.imp (Oper.wp_mono λa2 w2 hk=>?_) λx=>x;refine Jg c6 (q::s) u _ a2 w2 az C.size (λi D H=>a0 i D _ C.size ?_) (λt I=>⟨V t (Abt _ I),C.tail t I⟩) ?_ aa (by rw[ad];exact hk)
   ·by_cases Y:g=i
    ·subst Y;have:g<b.size:=by rw[Z.size];exact D
     simp [this]
    ·refine getD_set_true ?_;by_cases e:i=f
     ·rw[e];exact ah
     ·exact A i D (λh=>(Aa5.1 h).elim (λx=>Y x.symm) H) λh=>e (by simpa using h)
   ·exact(JU c4).2
  |false=>
   have Q:=hB a w h1 g1 g2 G λi D H p3=>ay i H (A i D H λh=>p3 (by simpa using h));refine Q.imp (Oper.wp_mono λa2 w2 hk=>?_) λx=>x;have be:L8 l.toArray (q::s):=(JU c4).2;refine W3 c6 az C.size (λi D H=>a0 i D _ C.size ?_) (λt I=>?_) (JU a8) be (Ac5.2 ⟨a9,aa⟩) ax ac ab hk.1 hk.2
   ·by_cases Y:g=i
    ·subst Y;have:g<b.size:=by rw[Z.size];exact D
     simp [this]
    ·refine getD_set_true (A i D (λh=>(Aa5.1 h).elim (λx=>Y x.symm) λx=>H (Abt _ x)) λh=>H ?_);rw[Ace.1 h];exact Abn
   ·rcases Aa5.1 I with rfl|I
    ·refine⟨aw,?_⟩;rw[getD_set_ne true (λe=>ba e.symm)];exact getD_in (by rw[Z.size];exact aw) ah
    ·exact⟨V t (Abt _ I),C.tail t I⟩
 refine λrd bf=>O2 bf NM hm (TZ (R:=R) (B:=B) (h0:=h) (n:=n) (m:=m) (g::q::s) [] [] ZB.none uH.none (λz hz=>by cases hz) (λi y=>by cases y) V av c6 F [f] (.inr rfl) (.inr (by rw[Abx];exact c3)) (JU c4) c5 c7 hQ (λx Q=>⟨λh=>(by cases h),λsl h=>(by cases h)⟩) (λx Q=>hF.at_ x Q) (by rw[Abx];exact am) ag (λi y=>by cases y) (λi o d y ho hd=>?_) (λa w h' g1 g2 G g4 _ _=>?_) (.inr ⟨bb,λbg bh e u b a w=>by cases e;exact bc u b a w⟩) _ _ _ _ ?_ ⟨by simp,λj oj _ A=>(by rw[getD_replicate_false] at A;cases A),λt I=>getD_in (by simpa using V t I) (getD_replicate_false _ _)⟩ (λi y=>by cases y) ⟨⟨h,hw.drew,DX.refl h,hf.sub ap,λi _ A=>(by rw[getD_replicate_false] at A;cases A)⟩,λi _ j _ _ A=>(by rw[getD_replicate_false] at A;cases A),λz hz=>by cases hz⟩)
 ·rw[Abx] at y;have a1:l[i]? =some o:=by simpa using ho
  obtain⟨ps,X,M⟩:=Cx.at_ (k:=0) step au (by rw[Abz];exact y) a1 hd;rw[Abz] at M;refine⟨ps,?_,λ_ _=>Abm,M⟩;have hz:((o,ps),i)∈(l.zip pss).zipIdx:=by
   rw[Acy];exact⟨i,by rw[Aei,(Aej (z:=(o,ps))).2 ⟨a1,X⟩];simp⟩
  have:=Aa6.1 ae.2 _ hz;rw[Abq] at this;exact this.resolve_left λh=>y (Aa7.1 h)
 ·have aj:((g::q::s).filterMap λt=>l.toArray[t]?)=U::J::K:=by
   rw[Aef,ho];simp only;rw[ad]
  rw[aj];exact hA a w h' g1 g2 G λi D H=>g4 i D (by rw[Abx];exact H)
 ·unfold T8;rw[Aek];simp
def uC {ops:Array Oper}{Q:Exit→Act→World→Prop}{l1 b:List Oper}(g:LF P ops Q l1 B h n m) (i:LF P ops Q b B h n m):LF P ops (Exit.then (λa w=>wpList P ops Q l1 a w∧wpList P ops Q b a w) Q) [] B h n m:=
 λa w c d=>⟨g a w c d,i a w c d⟩
end
def wM:SM→SM→List Nat→Option SM
 |[],_,_=>some []
 |(k,v)::r,m,s=>match cond (s.any λj=>Nat.beq k j) (some v) (lk m k) with
  |some w=>match wM r m (k::s) with
   |some l=>some ((k,w)::l)
   |none=>none
  |none=>none
def kq:∀{c m l:SM}(s:List Nat),wM c m s=some l→c=l→∀i u,(s.any λj=>Nat.beq i j)=false→lk c i=some u→lk m i=some u
 |[],m,l,s,_,_,i,u,_,y=>by cases y
 |(k,v)::r,m,l,s,y,e,i,u,d,a=>by
  simp only[wM] at y;split at y
  ·rename_i w g;split at y
   ·rename_i x n;cases y;injection e with o p
    injection o with _ q
    simp only[lk] at a;cases b:Nat.beq k i with
    |true=>
     have:=Aa8 b;subst this;rw[b,Aax] at a;rw[d,Aa0] at g;rw[g,←q,a]
    |false=>
     rw[b,Aa0] at a;refine kq (k::s) n p i u ?_ a;rw[List.any_cons,d,Bool.or_false];cases t:Nat.beq i k with
     |false=>rfl
     |true=>
      have:=Aa8 t;subst this;rw[show Nat.beq i i=true by simp] at b;cases b
   ·cases y
  ·cases y
section
variable {P:Program}{ops:Array Oper}{C:World→Prop}{n:FN}{m:SM}
def Y2 {b:SM}(d:wM b m []=some b):QF P ops C (λa=>Fr n a b) [] n m:=QF.nil λa c=>⟨c.dfr,c.siz,λi u g=>c.at_ i u (kq [] d rfl i u rfl g)⟩
def tO {l:List Oper}{c b:SM}(g:RN ops n.1 l m=some c) (d:wM b c []=some b):QF P ops C (λa=>Fr n a b) l n m:=OD g (Y2 d)
end
def SG (R:Nat→Int) (a b:Nat):Bool:=cond (!decide (R a=R b)) (decide (R b<R a)) (decide (a<b))
def Tx (lt:Int→Int→Bool) (x:Int):List Int→List Int
 |[]=>[x]
 |y::l=>cond (lt y x) (y::Tx lt x l) (x::y::l)
def Ng (lt:Int→Int→Bool):List Int→List Int
 |[]=>[]
 |x::l=>Tx lt x (Ng lt l)
def Rv (c:List Int) (a b:Int):Bool:=SG (λt=>c.getD t 0) a.toNat b.toNat
def Sx (a b:List Int):Option (List Int):=
 if a.length=b.length∧1≤a.length∧a.length≤64∧(a.all λx=>decide (0≤x)&&decide (x<a.length))=true then some (Ng (Rv b) a) else none
def Ph (lt:Int→Int→Bool) (x:Int):∀l,(Tx lt x l).Perm (x::l)
 |[]=> .refl _
 |y::l=>by
  unfold Tx;cases lt y x with
  |true=>exact((Ph lt x l).cons y).trans (.swap x y l)
  |false=>exact .refl _
def Mj (lt:Int→Int→Bool):∀l,(Ng lt l).Perm l
 |[]=> .refl _
 |x::l=>(Ph lt x _).trans ((Mj lt l).cons x)
open Go.Proofs.Tryz
structure BT where
 R:Int
 W:Int
instance:Inhabited BT:=⟨⟨default,default⟩⟩
@[reducible] def BT.v (x:BT):List Go.Value:=[.int .i64 x.R,.int .i64 x.W]
def BT.ok (x:BT):Prop:=AB x.R∧AB x.W
def B4:A4 BT where
 sz:=2
 ag:=true
 rd:=λ_ _ cs x=>cs=x.v∧x.ok
 len:=λ⟨b,_⟩=>by rw[b];rfl
 one:=λ{_ _ _ x} ⟨b,_⟩ v a=>by
  rw[b] at a;simp only[BT.v,Aa5,Abm,Ab7] at a;rcases a with rfl|rfl<;>rfl
 mono:=λb _ _=>b
def B4.ex {S a v}{x:BT}(k:Rd S a B4 v x):v= .agg #[.int .i64 x.R,.int .i64 x.W]∧x.ok:=by obtain⟨_,rfl,rfl,a⟩:=k;exact⟨rfl,a⟩
def B4.mk {S h}{x:BT}(k:x.ok):Rd S h B4 (.agg #[.int .i64 x.R,.int .i64 x.W]) x:=⟨x.v,rfl,rfl,k⟩
def Xh:F9 B4 0 AC (·.R):=by
 rintro S b cs x ⟨rfl,⟨k0,a⟩⟩;exact⟨rfl,k0⟩
def Tk:F9 B4 1 AC (·.W):=by
 rintro S b cs x ⟨rfl,⟨k0,a⟩⟩;exact⟨rfl,a⟩
structure P8 where
 Bh:Int
 Bm:Int
instance:Inhabited P8:=⟨⟨default,default⟩⟩
@[reducible] def P8.v (x:P8):List Go.Value:=[.int .i64 x.Bh,.int .i64 x.Bm]
def P8.ok (x:P8):Prop:=AB x.Bh∧AB x.Bm
def Mv:A4 P8 where
 sz:=2
 ag:=true
 rd:=λ_ _ cs x=>cs=x.v∧x.ok
 len:=λ⟨b,_⟩=>by rw[b];rfl
 one:=λ{_ _ _ x} ⟨b,_⟩ v a=>by
  rw[b] at a;simp only[P8.v,Aa5,Abm,Ab7] at a;rcases a with rfl|rfl<;>rfl
 mono:=λb _ _=>b
def Mv.ex {S a v}{x:P8}(k:Rd S a Mv v x):v= .agg #[.int .i64 x.Bh,.int .i64 x.Bm]∧x.ok:=by obtain⟨_,rfl,rfl,a⟩:=k;exact⟨rfl,a⟩
def Mv.mk {S h}{x:P8}(k:x.ok):Rd S h Mv (.agg #[.int .i64 x.Bh,.int .i64 x.Bm]) x:=⟨x.v,rfl,rfl,k⟩
structure EW where
 J:ByteArray
 H:Int
 Ao:Int
 Au:Int
 Bn:(List BT)
 Be:(List Int)
 Y:Int
 T:Int
 Ap:Int
 S:Int
 Bf:Int
 Aa:(List P8)
instance:Inhabited EW:=⟨⟨default,default,default,default,default,default,default,default,default,default,default,default⟩⟩
def CC:A4 EW where
 sz:=12
 ag:=true
 rd:=λS u cs x=>∃b c a:Value,cs=[.string x.J,.int .i64 x.H,.int .i64 x.Ao,.int .i64 x.Au,b,c,.int .i64 x.Y,.int .i64 x.T,.int .i64 x.Ap,.int .i64 x.S,.int .i64 x.Bf,a]∧x.J.size≤maxLen∧AB x.H∧AB x.Ao∧AB x.Au∧Sl S u B4 b x.Bn∧Sl S u AC c x.Be∧AB x.Y∧AB x.T∧AB x.Ap∧AB x.S∧AB x.Bf∧Sl S u Mv a x.Aa
 len:=λ⟨_,_,_,u,_⟩=>by rw[u];rfl
 one:=by
  rintro S u cs x ⟨b,c,a,rfl,k0,i,j,k,l,m,n,o,p,q,d,g⟩ v t;simp only[Aa5,Abm,Ab7] at t;rcases t with rfl|rfl|rfl|rfl|rfl|rfl|rfl|rfl|rfl|rfl|rfl|rfl<;>first|rfl|exact Sl.one ‹_› |exact(‹_∧_›).2|(obtain ⟨_,_,rfl,_⟩:=Rd.fn ‹_›;rfl)|(obtain ⟨_,_,rfl,_⟩:=Rd.fnr ‹_›;rfl)
 mono:=by
  rintro S S' u h' cs x ⟨b,c,a,rfl,k0,i,j,k,l,m,n,o,p,q,d,g⟩ s e;exact⟨b,c,a,rfl,k0,i,j,k,l.mono s e,m.mono s e,n,o,p,q,d,g.mono s e⟩
def CC.ex {S h v}{x:EW}(k:Rd S h CC v x):∃b c a:Value,v= .agg #[.string x.J,.int .i64 x.H,.int .i64 x.Ao,.int .i64 x.Au,b,c,.int .i64 x.Y,.int .i64 x.T,.int .i64 x.Ap,.int .i64 x.S,.int .i64 x.Bf,a]∧x.J.size≤maxLen∧AB x.H∧AB x.Ao∧AB x.Au∧Sl S h B4 b x.Bn∧Sl S h AC c x.Be∧AB x.Y∧AB x.T∧AB x.Ap∧AB x.S∧AB x.Bf∧Sl S h Mv a x.Aa:=by obtain⟨_,rfl,b,c,a,rfl,k⟩:=k;exact⟨b,c,a,rfl,k⟩
def CC.mk {S h}{x:EW}{b c a:Value}(k0:x.J.size≤maxLen) (i:AB x.H) (j:AB x.Ao) (k:AB x.Au) (l:Sl S h B4 b x.Bn) (m:Sl S h AC c x.Be) (n:AB x.Y) (o:AB x.T) (p:AB x.Ap) (q:AB x.S) (d:AB x.Bf) (g:Sl S h Mv a x.Aa):Rd S h CC (.agg #[.string x.J,.int .i64 x.H,.int .i64 x.Ao,.int .i64 x.Au,b,c,.int .i64 x.Y,.int .i64 x.T,.int .i64 x.Ap,.int .i64 x.S,.int .i64 x.Bf,a]) x:=⟨_,rfl,b,c,a,rfl,k0,i,j,k,l,m,n,o,p,q,d,g⟩
def EW.f_Name:F9 CC 0 A4.str (·.J):=by
 rintro S s cs x ⟨d,g,a,rfl,k0,i,j,k,l,m,n,o,p,q,b,c⟩;exact⟨rfl,k0⟩
def EW.f_Kind:F9 CC 1 AC (·.H):=by
 rintro S s cs x ⟨g,i,a,rfl,k0,b,j,k,l,m,n,o,p,q,c,d⟩;exact⟨rfl,b⟩
def OT:F9 CC 2 AC (·.Ao):=by
 rintro S s cs x ⟨g,i,a,rfl,k0,j,b,k,l,m,n,o,p,q,c,d⟩;exact⟨rfl,b⟩
def EW.f_Num:F9 CC 6 AC (·.Y):=by
 rintro S s cs x ⟨g,i,a,rfl,k0,j,k,l,m,n,b,o,p,q,c,d⟩;exact⟨rfl,b⟩
def EW.f_Den:F9 CC 7 AC (·.T):=by
 rintro S s cs x ⟨g,i,a,rfl,k0,j,k,l,m,n,o,b,p,q,c,d⟩;exact⟨rfl,b⟩
structure Nr where
 Ay:(List BT)
 Az:(List BT)
instance:Inhabited Nr:=⟨⟨default,default⟩⟩
def MB:A4 Nr where
 sz:=2
 ag:=true
 rd:=λS d cs x=>∃a v1:Value,cs=[a,v1]∧Sl S d B4 a x.Ay∧Sl S d B4 v1 x.Az
 len:=λ⟨_,_,d,_⟩=>by rw[d];rfl
 one:=by
  rintro S d cs x ⟨a,v1,rfl,k0,b⟩ v c;simp only[Aa5,Abm,Ab7] at c;rcases c with rfl|rfl<;>first|rfl|exact Sl.one ‹_› |exact(‹_∧_›).2|(obtain ⟨_,_,rfl,_⟩:=Rd.fn ‹_›;rfl)|(obtain ⟨_,_,rfl,_⟩:=Rd.fnr ‹_›;rfl)
 mono:=by
  rintro S S' d h' cs x ⟨a,v1,rfl,k0,b⟩ s e;exact⟨a,v1,rfl,k0.mono s e,b.mono s e⟩
def MB.ex {S h v}{x:Nr}(k:Rd S h MB v x):∃a v1:Value,v= .agg #[a,v1]∧Sl S h B4 a x.Ay∧Sl S h B4 v1 x.Az:=by obtain⟨_,rfl,a,v1,rfl,k⟩:=k;exact⟨a,v1,rfl,k⟩
def MB.mk {S h}{x:Nr}{a v1:Value}(k0:Sl S h B4 a x.Ay) (b:Sl S h B4 v1 x.Az):Rd S h MB (.agg #[a,v1]) x:=⟨_,rfl,a,v1,rfl,k0,b⟩
def Qb:F9 MB 0 (A4.sl B4) (·.Ay):=by
 rintro S c cs x ⟨a,v1,rfl,k0,b⟩;exact⟨_,rfl,k0⟩
def Qc:F9 MB 1 (A4.sl B4) (·.Az):=by
 rintro S c cs x ⟨b,v1,rfl,k0,a⟩;exact⟨_,rfl,a⟩
structure BO where
 J:ByteArray
 H:Int
 I:Int
 C:Int
 Av:(List BT)
 Ah:Nr
 U:Int
 Ad:Int
 Ba:Int
 Bb:Int
 Y:Int
 T:Int
 Aw:Int
 Ax:Int
 Ar:Int
 An:Int
 S:Int
instance:Inhabited BO:=⟨⟨default,default,default,default,default,default,default,default,default,default,default,default,default,default,default,default,default⟩⟩
def B0:A4 BO where
 sz:=18
 ag:=true
 rd:=λS D cs x=>∃a b c:Value,cs=[.string x.J,.int .i64 x.H,.int .i64 x.I,.int .i64 x.C,a,b,c,.int .i64 x.U,.int .i64 x.Ad,.int .i64 x.Ba,.int .i64 x.Bb,.int .i64 x.Y,.int .i64 x.T,.int .i64 x.Aw,.int .i64 x.Ax,.int .i64 x.Ar,.int .i64 x.An,.int .i64 x.S]∧x.J.size≤maxLen∧AB x.H∧AB x.I∧AB x.C∧Sl S D B4 a x.Av∧Sl S D B4 b x.Ah.Ay∧Sl S D B4 c x.Ah.Az∧AB x.U∧AB x.Ad∧AB x.Ba∧AB x.Bb∧AB x.Y∧AB x.T∧AB x.Aw∧AB x.Ax∧AB x.Ar∧AB x.An∧AB x.S
 len:=λ⟨_,_,_,D,_⟩=>by rw[D];rfl
 one:=by
  rintro S D cs x ⟨a,b,c,rfl,k0,o,p,q,t,u,w,y,z,A,d,g,i,j,k,l,m,n⟩ v B;simp only[Aa5,Abm,Ab7] at B;rcases B with rfl|rfl|rfl|rfl|rfl|rfl|rfl|rfl|rfl|rfl|rfl|rfl|rfl|rfl|rfl|rfl|rfl|rfl<;>first|rfl|exact Sl.one ‹_› |exact(‹_∧_›).2|(obtain ⟨_,_,rfl,_⟩:=Rd.fn ‹_›;rfl)|(obtain ⟨_,_,rfl,_⟩:=Rd.fnr ‹_›;rfl)
 mono:=by
  rintro S S' D h' cs x ⟨a,b,c,rfl,k0,o,p,q,t,u,w,y,z,A,d,g,i,j,k,l,m,n⟩ s e;exact⟨a,b,c,rfl,k0,o,p,q,t.mono s e,u.mono s e,w.mono s e,y,z,A,d,g,i,j,k,l,m,n⟩
def B0.ex {S h v}{x:BO}(k:Rd S h B0 v x):∃a b c:Value,v= .agg #[.string x.J,.int .i64 x.H,.int .i64 x.I,.int .i64 x.C,a,b,c,.int .i64 x.U,.int .i64 x.Ad,.int .i64 x.Ba,.int .i64 x.Bb,.int .i64 x.Y,.int .i64 x.T,.int .i64 x.Aw,.int .i64 x.Ax,.int .i64 x.Ar,.int .i64 x.An,.int .i64 x.S]∧x.J.size≤maxLen∧AB x.H∧AB x.I∧AB x.C∧Sl S h B4 a x.Av∧Sl S h B4 b x.Ah.Ay∧Sl S h B4 c x.Ah.Az∧AB x.U∧AB x.Ad∧AB x.Ba∧AB x.Bb∧AB x.Y∧AB x.T∧AB x.Aw∧AB x.Ax∧AB x.Ar∧AB x.An∧AB x.S:=by obtain⟨_,rfl,a,b,c,rfl,k⟩:=k;exact⟨a,b,c,rfl,k⟩
def B0.mk {S h}{x:BO}{a b c:Value}(k0:x.J.size≤maxLen) (o:AB x.H) (p:AB x.I) (q:AB x.C) (s:Sl S h B4 a x.Av) (t:Sl S h B4 b x.Ah.Ay) (u:Sl S h B4 c x.Ah.Az) (v:AB x.U) (w:AB x.Ad) (y:AB x.Ba) (d:AB x.Bb) (g:AB x.Y) (i:AB x.T) (j:AB x.Aw) (k:AB x.Ax) (l:AB x.Ar) (m:AB x.An) (n:AB x.S):Rd S h B0 (.agg #[.string x.J,.int .i64 x.H,.int .i64 x.I,.int .i64 x.C,a,b,c,.int .i64 x.U,.int .i64 x.Ad,.int .i64 x.Ba,.int .i64 x.Bb,.int .i64 x.Y,.int .i64 x.T,.int .i64 x.Aw,.int .i64 x.Ax,.int .i64 x.Ar,.int .i64 x.An,.int .i64 x.S]) x:=⟨_,rfl,a,b,c,rfl,k0,o,p,q,s,t,u,v,w,y,d,g,i,j,k,l,m,n⟩
def BO.f_Name:F9 B0 0 A4.str (·.J):=by
 rintro S z cs x ⟨l,m,n,rfl,k0,o,p,q,s,t,u,v,w,y,a,b,c,d,g,i,j,k⟩;exact⟨rfl,k0⟩
def BO.f_Kind:F9 B0 1 AC (·.H):=by
 rintro S z cs x ⟨m,n,o,rfl,k0,a,p,q,s,t,u,v,w,y,b,c,d,g,i,j,k,l⟩;exact⟨rfl,a⟩
def BO.f_From:F9 B0 2 AC (·.I):=by
 rintro S z cs x ⟨m,n,o,rfl,k0,p,a,q,s,t,u,v,w,y,b,c,d,g,i,j,k,l⟩;exact⟨rfl,a⟩
def BO.f_To:F9 B0 3 AC (·.C):=by
 rintro S z cs x ⟨m,n,o,rfl,k0,p,q,a,s,t,u,v,w,y,b,c,d,g,i,j,k,l⟩;exact⟨rfl,a⟩
def K7:F9 B0 4 (A4.sl B4) (·.Av):=by
 rintro S z cs x ⟨m,n,o,rfl,k0,p,q,s,a,t,u,v,w,y,b,c,d,g,i,j,k,l⟩;exact⟨_,rfl,a⟩
def K8:F9 B0 5 MB (·.Ah):=by
 rintro S z cs x ⟨n,o,p,rfl,k0,q,s,t,u,a,b,v,w,y,c,d,g,i,j,k,l,m⟩;exact⟨_,_,rfl,a,b⟩
def Fp:F9 B0 7 AC (·.U):=by
 rintro S z cs x ⟨m,n,o,rfl,k0,p,q,s,t,u,v,a,w,y,b,c,d,g,i,j,k,l⟩;exact⟨rfl,a⟩
def KO:F9 B0 8 AC (·.Ad):=by
 rintro S z cs x ⟨m,n,o,rfl,k0,p,q,s,t,u,v,w,a,y,b,c,d,g,i,j,k,l⟩;exact⟨rfl,a⟩
def OJ:F9 B0 9 AC (·.Ba):=by
 rintro S z cs x ⟨m,n,o,rfl,k0,p,q,s,t,u,v,w,y,a,b,c,d,g,i,j,k,l⟩;exact⟨rfl,a⟩
def NS:F9 B0 10 AC (·.Bb):=by
 rintro S z cs x ⟨l,m,n,rfl,k0,o,p,q,s,t,u,v,w,y,a,b,c,d,g,i,j,k⟩;exact⟨rfl,a⟩
def BO.f_Num:F9 B0 11 AC (·.Y):=by
 rintro S z cs x ⟨l,m,n,rfl,k0,o,p,q,s,t,u,v,w,y,b,a,c,d,g,i,j,k⟩;exact⟨rfl,a⟩
def BO.f_Den:F9 B0 12 AC (·.T):=by
 rintro S z cs x ⟨l,m,n,rfl,k0,o,p,q,s,t,u,v,w,y,b,c,a,d,g,i,j,k⟩;exact⟨rfl,a⟩
def P6:F9 B0 13 AC (·.Aw):=by
 rintro S z cs x ⟨l,m,n,rfl,k0,o,p,q,s,t,u,v,w,y,b,c,d,a,g,i,j,k⟩;exact⟨rfl,a⟩
def P7:F9 B0 14 AC (·.Ax):=by
 rintro S z cs x ⟨l,m,n,rfl,k0,o,p,q,s,t,u,v,w,y,b,c,d,g,a,i,j,k⟩;exact⟨rfl,a⟩
def JQ:F9 B0 15 AC (·.Ar):=by
 rintro S z cs x ⟨l,m,n,rfl,k0,o,p,q,s,t,u,v,w,y,b,c,d,g,i,a,j,k⟩;exact⟨rfl,a⟩
def JR:F9 B0 16 AC (·.An):=by
 rintro S z cs x ⟨l,m,n,rfl,k0,o,p,q,s,t,u,v,w,y,b,c,d,g,i,j,a,k⟩;exact⟨rfl,a⟩
structure OR where
 J:ByteArray
 Aq:Int
 Bo:Int
 Bl:Int
 Br:Int
 Bp:Int
 Bk:Int
instance:Inhabited OR:=⟨⟨default,default,default,default,default,default,default⟩⟩
@[reducible] def OR.v (x:OR):List Go.Value:=[.string x.J,.int .i64 x.Aq,.int .i64 x.Bo,.int .i64 x.Bl,.int .i64 x.Br,.int .i64 x.Bp,.int .i64 x.Bk]
def OR.ok (x:OR):Prop:=x.J.size≤maxLen∧AB x.Aq∧AB x.Bo∧AB x.Bl∧AB x.Br∧AB x.Bp∧AB x.Bk
def Hb:A4 OR where
 sz:=7
 ag:=true
 rd:=λ_ _ cs x=>cs=x.v∧x.ok
 len:=λ⟨b,_⟩=>by rw[b];rfl
 one:=λ{_ _ _ x} ⟨b,_⟩ v a=>by
  rw[b] at a;simp only[OR.v,Aa5,Abm,Ab7] at a;rcases a with rfl|rfl|rfl|rfl|rfl|rfl|rfl<;>rfl
 mono:=λb _ _=>b
def Hb.ex {S a v}{x:OR}(k:Rd S a Hb v x):v= .agg #[.string x.J,.int .i64 x.Aq,.int .i64 x.Bo,.int .i64 x.Bl,.int .i64 x.Br,.int .i64 x.Bp,.int .i64 x.Bk]∧x.ok:=by obtain⟨_,rfl,rfl,a⟩:=k;exact⟨rfl,a⟩
def Hb.mk {S h}{x:OR}(k:x.ok):Rd S h Hb (.agg #[.string x.J,.int .i64 x.Aq,.int .i64 x.Bo,.int .i64 x.Bl,.int .i64 x.Br,.int .i64 x.Bp,.int .i64 x.Bk]) x:=⟨x.v,rfl,rfl,k⟩
def OR.f_Name:F9 Hb 0 A4.str (·.J):=by
 rintro S j cs x ⟨rfl,⟨k0,a,b,c,d,g,i⟩⟩;exact⟨rfl,k0⟩
structure LW where
 J:ByteArray
 H:Int
 X:Int
 Q:Int
 Bq:Int
instance:Inhabited LW:=⟨⟨default,default,default,default,default⟩⟩
@[reducible] def LW.v (x:LW):List Go.Value:=[.string x.J,.int .i64 x.H,.int .i64 x.X,.int .i64 x.Q,.int .i64 x.Bq]
def LW.ok (x:LW):Prop:=x.J.size≤maxLen∧AB x.H∧AB x.X∧AB x.Q∧AB x.Bq
def Er:A4 LW where
 sz:=5
 ag:=true
 rd:=λ_ _ cs x=>cs=x.v∧x.ok
 len:=λ⟨b,_⟩=>by rw[b];rfl
 one:=λ{_ _ _ x} ⟨b,_⟩ v a=>by
  rw[b] at a;simp only[LW.v,Aa5,Abm,Ab7] at a;rcases a with rfl|rfl|rfl|rfl|rfl<;>rfl
 mono:=λb _ _=>b
def Er.ex {S a v}{x:LW}(k:Rd S a Er v x):v= .agg #[.string x.J,.int .i64 x.H,.int .i64 x.X,.int .i64 x.Q,.int .i64 x.Bq]∧x.ok:=by obtain⟨_,rfl,rfl,a⟩:=k;exact⟨rfl,a⟩
def Er.mk {S h}{x:LW}(k:x.ok):Rd S h Er (.agg #[.string x.J,.int .i64 x.H,.int .i64 x.X,.int .i64 x.Q,.int .i64 x.Bq]) x:=⟨x.v,rfl,rfl,k⟩
def LW.f_Name:F9 Er 0 A4.str (·.J):=by
 rintro S g cs x ⟨rfl,⟨k0,a,b,c,d⟩⟩;exact⟨rfl,k0⟩
def LW.f_Kind:F9 Er 1 AC (·.H):=by
 rintro S g cs x ⟨rfl,⟨k0,a,b,c,d⟩⟩;exact⟨rfl,a⟩
def LW.f_Err:F9 Er 3 AC (·.Q):=by
 rintro S g cs x ⟨rfl,⟨k0,b,c,a,d⟩⟩;exact⟨rfl,a⟩
structure Nq where
 J:ByteArray
 I:Int
 C:Int
 Bs:Int
 Bt:Int
 Bi:Int
 Bj:Int
instance:Inhabited Nq:=⟨⟨default,default,default,default,default,default,default⟩⟩
@[reducible] def Nq.v (x:Nq):List Go.Value:=[.string x.J,.int .i64 x.I,.int .i64 x.C,.int .i64 x.Bs,.int .i64 x.Bt,.int .i64 x.Bi,.int .i64 x.Bj]
def Nq.ok (x:Nq):Prop:=x.J.size≤maxLen∧AB x.I∧AB x.C∧AB x.Bs∧AB x.Bt∧AB x.Bi∧AB x.Bj
def G4:A4 Nq where
 sz:=7
 ag:=true
 rd:=λ_ _ cs x=>cs=x.v∧x.ok
 len:=λ⟨b,_⟩=>by rw[b];rfl
 one:=λ{_ _ _ x} ⟨b,_⟩ v a=>by
  rw[b] at a;simp only[Nq.v,Aa5,Abm,Ab7] at a;rcases a with rfl|rfl|rfl|rfl|rfl|rfl|rfl<;>rfl
 mono:=λb _ _=>b
def G4.ex {S a v}{x:Nq}(k:Rd S a G4 v x):v= .agg #[.string x.J,.int .i64 x.I,.int .i64 x.C,.int .i64 x.Bs,.int .i64 x.Bt,.int .i64 x.Bi,.int .i64 x.Bj]∧x.ok:=by obtain⟨_,rfl,rfl,a⟩:=k;exact⟨rfl,a⟩
def G4.mk {S h}{x:Nq}(k:x.ok):Rd S h G4 (.agg #[.string x.J,.int .i64 x.I,.int .i64 x.C,.int .i64 x.Bs,.int .i64 x.Bt,.int .i64 x.Bi,.int .i64 x.Bj]) x:=⟨x.v,rfl,rfl,k⟩
def Nq.f_Name:F9 G4 0 A4.str (·.J):=by
 rintro S j cs x ⟨rfl,⟨k0,a,b,c,d,g,i⟩⟩;exact⟨rfl,k0⟩
def Nq.f_From:F9 G4 1 AC (·.I):=by
 rintro S j cs x ⟨rfl,⟨k0,a,b,c,d,g,i⟩⟩;exact⟨rfl,a⟩
def Nq.f_To:F9 G4 2 AC (·.C):=by
 rintro S j cs x ⟨rfl,⟨k0,b,a,c,d,g,i⟩⟩;exact⟨rfl,a⟩
structure JP where
 J:ByteArray
 Al:Int
instance:Inhabited JP:=⟨⟨default,default⟩⟩
@[reducible] def JP.v (x:JP):List Go.Value:=[.string x.J,.int .i64 x.Al]
def JP.ok (x:JP):Prop:=x.J.size≤maxLen∧AB x.Al
def DI:A4 JP where
 sz:=2
 ag:=true
 rd:=λ_ _ cs x=>cs=x.v∧x.ok
 len:=λ⟨b,_⟩=>by rw[b];rfl
 one:=λ{_ _ _ x} ⟨b,_⟩ v a=>by
  rw[b] at a;simp only[JP.v,Aa5,Abm,Ab7] at a;rcases a with rfl|rfl<;>rfl
 mono:=λb _ _=>b
def DI.ex {S a v}{x:JP}(k:Rd S a DI v x):v= .agg #[.string x.J,.int .i64 x.Al]∧x.ok:=by obtain⟨_,rfl,rfl,a⟩:=k;exact⟨rfl,a⟩
def DI.mk {S h}{x:JP}(k:x.ok):Rd S h DI (.agg #[.string x.J,.int .i64 x.Al]) x:=⟨x.v,rfl,rfl,k⟩
def JP.f_Name:F9 DI 0 A4.str (·.J):=by
 rintro S b cs x ⟨rfl,⟨k0,a⟩⟩;exact⟨rfl,k0⟩
def JP.f_Room:F9 DI 1 AC (·.Al):=by
 rintro S b cs x ⟨rfl,⟨k0,a⟩⟩;exact⟨rfl,a⟩
structure AF where
 J:ByteArray
 F:(List ByteArray)
 P:Int
 A:(List EW)
 G:(List BO)
 Ac:(List OR)
 Af:(List LW)
 Ag:(List Nq)
 Aj:(List JP)
 Al:(List Int)
 Q:Int
instance:Inhabited AF:=⟨⟨default,default,default,default,default,default,default,default,default,default,default⟩⟩
def BV:A4 AF where
 sz:=11
 ag:=true
 rd:=λS z cs x=>∃v1 a b c d g i j:Value,cs=[.string x.J,v1,.int .i64 x.P,a,b,c,d,g,i,j,.int .i64 x.Q]∧x.J.size≤maxLen∧Sl S z A4.str v1 x.F∧AB x.P∧Sl S z CC a x.A∧Sl S z B0 b x.G∧Sl S z Hb c x.Ac∧Sl S z Er d x.Af∧Sl S z G4 g x.Ag∧Sl S z DI i x.Aj∧Sl S z AC j x.Al∧AB x.Q
 len:=λ⟨_,_,_,_,_,_,_,_,z,_⟩=>by rw[z];rfl
 one:=by
  rintro S z cs x ⟨v1,a,b,c,d,g,i,j,rfl,k0,l,m,n,o,p,q,t,u,w,k⟩ v y;simp only[Aa5,Abm,Ab7] at y;rcases y with rfl|rfl|rfl|rfl|rfl|rfl|rfl|rfl|rfl|rfl|rfl<;>first|rfl|exact Sl.one ‹_› |exact(‹_∧_›).2|(obtain ⟨_,_,rfl,_⟩:=Rd.fn ‹_›;rfl)|(obtain ⟨_,_,rfl,_⟩:=Rd.fnr ‹_›;rfl)
 mono:=by
  rintro S S' z h' cs x ⟨v1,a,b,c,d,g,i,j,rfl,k0,l,m,n,o,p,q,t,u,w,k⟩ s e;exact⟨v1,a,b,c,d,g,i,j,rfl,k0,l.mono s e,m,n.mono s e,o.mono s e,p.mono s e,q.mono s e,t.mono s e,u.mono s e,w.mono s e,k⟩
def BV.ex {S h v}{x:AF}(k:Rd S h BV v x):∃v1 a b c d g i j:Value,v= .agg #[.string x.J,v1,.int .i64 x.P,a,b,c,d,g,i,j,.int .i64 x.Q]∧x.J.size≤maxLen∧Sl S h A4.str v1 x.F∧AB x.P∧Sl S h CC a x.A∧Sl S h B0 b x.G∧Sl S h Hb c x.Ac∧Sl S h Er d x.Af∧Sl S h G4 g x.Ag∧Sl S h DI i x.Aj∧Sl S h AC j x.Al∧AB x.Q:=by obtain⟨_,rfl,v1,a,b,c,d,g,i,j,rfl,k⟩:=k;exact⟨v1,a,b,c,d,g,i,j,rfl,k⟩
def BV.mk {S h}{x:AF}{v1 a b c d g i j:Value}(k0:x.J.size≤maxLen) (l:Sl S h A4.str v1 x.F) (m:AB x.P) (n:Sl S h CC a x.A) (o:Sl S h B0 b x.G) (p:Sl S h Hb c x.Ac) (q:Sl S h Er d x.Af) (s:Sl S h G4 g x.Ag) (t:Sl S h DI i x.Aj) (u:Sl S h AC j x.Al) (k:AB x.Q):Rd S h BV (.agg #[.string x.J,v1,.int .i64 x.P,a,b,c,d,g,i,j,.int .i64 x.Q]) x:=⟨_,rfl,v1,a,b,c,d,g,i,j,rfl,k0,l,m,n,o,p,q,s,t,u,k⟩
def AF.f_Name:F9 BV 0 A4.str (·.J):=by
 rintro S v cs x ⟨v1,b,c,d,g,i,j,k,rfl,k0,l,m,n,o,p,q,s,t,u,a⟩;exact⟨rfl,k0⟩
def Hn:F9 BV 1 (A4.sl A4.str) (·.F):=by
 rintro S v cs x ⟨v1,c,d,g,i,j,k,l,rfl,k0,a,m,n,o,p,q,s,t,u,b⟩;exact⟨_,rfl,a⟩
def M2:F9 BV 2 AC (·.P):=by
 rintro S v cs x ⟨v1,c,d,g,i,j,k,l,rfl,k0,m,a,n,o,p,q,s,t,u,b⟩;exact⟨rfl,a⟩
def B5:F9 BV 3 (A4.sl CC) (·.A):=by
 rintro S v cs x ⟨v1,c,d,g,i,j,k,l,rfl,k0,m,n,a,o,p,q,s,t,u,b⟩;exact⟨_,rfl,a⟩
def Gv:F9 BV 4 (A4.sl B0) (·.G):=by
 rintro S v cs x ⟨v1,c,d,g,i,j,k,l,rfl,k0,m,n,o,a,p,q,s,t,u,b⟩;exact⟨_,rfl,a⟩
def Ju:F9 BV 5 (A4.sl Hb) (·.Ac):=by
 rintro S v cs x ⟨v1,c,d,g,i,j,k,l,rfl,k0,m,n,o,p,a,q,s,t,u,b⟩;exact⟨_,rfl,a⟩
def KU:F9 BV 6 (A4.sl Er) (·.Af):=by
 rintro S v cs x ⟨v1,c,d,g,i,j,k,l,rfl,k0,m,n,o,p,q,a,s,t,u,b⟩;exact⟨_,rfl,a⟩
def K9:F9 BV 7 (A4.sl G4) (·.Ag):=by
 rintro S v cs x ⟨v1,c,d,g,i,j,k,l,rfl,k0,m,n,o,p,q,s,a,t,u,b⟩;exact⟨_,rfl,a⟩
def Jd:F9 BV 8 (A4.sl DI) (·.Aj):=by
 rintro S v cs x ⟨v1,c,d,g,i,j,k,l,rfl,k0,m,n,o,p,q,s,t,a,u,b⟩;exact⟨_,rfl,a⟩
def AF.f_Room:F9 BV 9 (A4.sl AC) (·.Al):=by
 rintro S v cs x ⟨v1,c,d,g,i,j,k,l,rfl,k0,m,n,o,p,q,s,t,u,a,b⟩;exact⟨_,rfl,a⟩
def AF.f_Err:F9 BV 10 AC (·.Q):=by
 rintro S v cs x ⟨v1,b,c,d,g,i,j,k,rfl,k0,l,m,n,o,p,q,s,t,u,a⟩;exact⟨rfl,a⟩
structure AM where
 Z:Int
 C:Int
 K:(List Int)
instance:Inhabited AM:=⟨⟨default,default,default⟩⟩
def AS:A4 AM where
 sz:=3
 ag:=true
 rd:=λS g cs x=>∃a:Value,cs=[.int .i64 x.Z,.int .i64 x.C,a]∧AB x.Z∧AB x.C∧Sl S g AC a x.K
 len:=λ⟨_,g,_⟩=>by rw[g];rfl
 one:=by
  rintro S g cs x ⟨a,rfl,k0,b,c⟩ v d;simp only[Aa5,Abm,Ab7] at d;rcases d with rfl|rfl|rfl<;>first|rfl|exact Sl.one ‹_› |exact(‹_∧_›).2|(obtain ⟨_,_,rfl,_⟩:=Rd.fn ‹_›;rfl)|(obtain ⟨_,_,rfl,_⟩:=Rd.fnr ‹_›;rfl)
 mono:=by
  rintro S S' g h' cs x ⟨a,rfl,k0,b,c⟩ s e;exact⟨a,rfl,k0,b,c.mono s e⟩
def AS.ex {S h v}{x:AM}(k:Rd S h AS v x):∃a:Value,v= .agg #[.int .i64 x.Z,.int .i64 x.C,a]∧AB x.Z∧AB x.C∧Sl S h AC a x.K:=by obtain⟨_,rfl,a,rfl,k⟩:=k;exact⟨a,rfl,k⟩
def AS.mk {S h}{x:AM}{a:Value}(k0:AB x.Z) (b:AB x.C) (c:Sl S h AC a x.K):Rd S h AS (.agg #[.int .i64 x.Z,.int .i64 x.C,a]) x:=⟨_,rfl,a,rfl,k0,b,c⟩
def Tl:F9 AS 0 AC (·.Z):=by
 rintro S d cs x ⟨a,rfl,k0,b,c⟩;exact⟨rfl,k0⟩
def AM.f_To:F9 AS 1 AC (·.C):=by
 rintro S d cs x ⟨b,rfl,k0,a,c⟩;exact⟨rfl,a⟩
def AM.f_Part:F9 AS 2 (A4.sl AC) (·.K):=by
 rintro S d cs x ⟨b,rfl,k0,c,a⟩;exact⟨_,rfl,a⟩
structure AT where
 V:Int
 X:Int
 At:Bool
 Am:Bool
instance:Inhabited AT:=⟨⟨default,default,default,default⟩⟩
@[reducible] def AT.v (x:AT):List Go.Value:=[.int .i64 x.V,.int .i64 x.X,.bool x.At,.bool x.Am]
def AT.ok (x:AT):Prop:=AB x.V∧AB x.X
def BL:A4 AT where
 sz:=4
 ag:=true
 rd:=λ_ _ cs x=>cs=x.v∧x.ok
 len:=λ⟨b,_⟩=>by rw[b];rfl
 one:=λ{_ _ _ x} ⟨b,_⟩ v a=>by
  rw[b] at a;simp only[AT.v,Aa5,Abm,Ab7] at a;rcases a with rfl|rfl|rfl|rfl<;>rfl
 mono:=λb _ _=>b
def BL.ex {S a v}{x:AT}(k:Rd S a BL v x):v= .agg #[.int .i64 x.V,.int .i64 x.X,.bool x.At,.bool x.Am]∧x.ok:=by obtain⟨_,rfl,rfl,a⟩:=k;exact⟨rfl,a⟩
def BL.mk {S h}{x:AT}(k:x.ok):Rd S h BL (.agg #[.int .i64 x.V,.int .i64 x.X,.bool x.At,.bool x.Am]) x:=⟨x.v,rfl,rfl,k⟩
def R8:F9 BL 0 AC (·.V):=by
 rintro S b cs x ⟨rfl,⟨k0,a⟩⟩;exact⟨rfl,k0⟩
def Ve:F9 BL 3 A4.bool (·.Am):=by
 rintro S b cs x ⟨rfl,⟨k0,a⟩⟩;exact rfl
structure AE where
 B:Int
 D:(List (List Int))
 M:(List Int)
 E:(List AM)
 O:(List AT)
 N:(List Int)
 L:(List Int)
instance:Inhabited AE:=⟨⟨default,default,default,default,default,default,default⟩⟩
def A7:A4 AE where
 sz:=7
 ag:=true
 rd:=λS p cs x=>∃v1 a b c d g:Value,cs=[.int .i64 x.B,v1,a,b,c,d,g]∧AB x.B∧Sl S p (A4.sl AC) v1 x.D∧Sl S p AC a x.M∧Sl S p AS b x.E∧Sl S p BL c x.O∧Sl S p AC d x.N∧Sl S p AC g x.L
 len:=λ⟨_,_,_,_,_,_,p,_⟩=>by rw[p];rfl
 one:=by
  rintro S p cs x ⟨v1,a,b,c,d,g,rfl,k0,i,j,k,l,m,n⟩ v o;simp only[Aa5,Abm,Ab7] at o;rcases o with rfl|rfl|rfl|rfl|rfl|rfl|rfl<;>first|rfl|exact Sl.one ‹_› |exact(‹_∧_›).2|(obtain ⟨_,_,rfl,_⟩:=Rd.fn ‹_›;rfl)|(obtain ⟨_,_,rfl,_⟩:=Rd.fnr ‹_›;rfl)
 mono:=by
  rintro S S' p h' cs x ⟨v1,a,b,c,d,g,rfl,k0,i,j,k,l,m,n⟩ s e;exact⟨v1,a,b,c,d,g,rfl,k0,i.mono s e,j.mono s e,k.mono s e,l.mono s e,m.mono s e,n.mono s e⟩
def A7.ex {S h v}{x:AE}(k:Rd S h A7 v x):∃v1 a b c d g:Value,v= .agg #[.int .i64 x.B,v1,a,b,c,d,g]∧AB x.B∧Sl S h (A4.sl AC) v1 x.D∧Sl S h AC a x.M∧Sl S h AS b x.E∧Sl S h BL c x.O∧Sl S h AC d x.N∧Sl S h AC g x.L:=by obtain⟨_,rfl,v1,a,b,c,d,g,rfl,k⟩:=k;exact⟨v1,a,b,c,d,g,rfl,k⟩
def A7.mk {S h}{x:AE}{v1 a b c d g:Value}(k0:AB x.B) (i:Sl S h (A4.sl AC) v1 x.D) (j:Sl S h AC a x.M) (k:Sl S h AS b x.E) (l:Sl S h BL c x.O) (m:Sl S h AC d x.N) (n:Sl S h AC g x.L):Rd S h A7 (.agg #[.int .i64 x.B,v1,a,b,c,d,g]) x:=⟨_,rfl,v1,a,b,c,d,g,rfl,k0,i,j,k,l,m,n⟩
def AE.f_Hour:F9 A7 0 AC (·.B):=by
 rintro S o cs x ⟨v1,a,b,c,d,g,rfl,k0,i,j,k,l,m,n⟩;exact⟨rfl,k0⟩
def GH:F9 A7 1 (A4.sl (A4.sl AC)) (·.D):=by
 rintro S o cs x ⟨v1,b,c,d,g,i,rfl,k0,a,j,k,l,m,n⟩;exact⟨_,rfl,a⟩
def J5:F9 A7 2 (A4.sl AC) (·.M):=by
 rintro S o cs x ⟨v1,b,c,d,g,i,rfl,k0,j,a,k,l,m,n⟩;exact⟨_,rfl,a⟩
def Gu:F9 A7 3 (A4.sl AS) (·.E):=by
 rintro S o cs x ⟨v1,b,c,d,g,i,rfl,k0,j,k,a,l,m,n⟩;exact⟨_,rfl,a⟩
def I5:F9 A7 4 (A4.sl BL) (·.O):=by
 rintro S o cs x ⟨v1,b,c,d,g,i,rfl,k0,j,k,l,a,m,n⟩;exact⟨_,rfl,a⟩
def I8:F9 A7 5 (A4.sl AC) (·.N):=by
 rintro S o cs x ⟨v1,b,c,d,g,i,rfl,k0,j,k,l,m,a,n⟩;exact⟨_,rfl,a⟩
def HR:F9 A7 6 (A4.sl AC) (·.L):=by
 rintro S o cs x ⟨v1,b,c,d,g,i,rfl,k0,j,k,l,m,n,a⟩;exact⟨_,rfl,a⟩
structure LX where
 H:Int
 As:Int
instance:Inhabited LX:=⟨⟨default,default⟩⟩
@[reducible] def LX.v (x:LX):List Go.Value:=[.int .i64 x.H,.int .i64 x.As]
def LX.ok (x:LX):Prop:=AB x.H∧AB x.As
def Gt:A4 LX where
 sz:=2
 ag:=true
 rd:=λ_ _ cs x=>cs=x.v∧x.ok
 len:=λ⟨b,_⟩=>by rw[b];rfl
 one:=λ{_ _ _ x} ⟨b,_⟩ v a=>by
  rw[b] at a;simp only[LX.v,Aa5,Abm,Ab7] at a;rcases a with rfl|rfl<;>rfl
 mono:=λb _ _=>b
def Gt.ex {S a v}{x:LX}(k:Rd S a Gt v x):v= .agg #[.int .i64 x.H,.int .i64 x.As]∧x.ok:=by obtain⟨_,rfl,rfl,a⟩:=k;exact⟨rfl,a⟩
def Gt.mk {S h}{x:LX}(k:x.ok):Rd S h Gt (.agg #[.int .i64 x.H,.int .i64 x.As]) x:=⟨x.v,rfl,rfl,k⟩
def LX.f_Kind:F9 Gt 0 AC (·.H):=by
 rintro S b cs x ⟨rfl,⟨k0,a⟩⟩;exact⟨rfl,k0⟩
structure SR where
 As:Int
 X:Int
instance:Inhabited SR:=⟨⟨default,default⟩⟩
@[reducible] def SR.v (x:SR):List Go.Value:=[.int .i64 x.As,.int .i64 x.X]
def SR.ok (x:SR):Prop:=AB x.As∧AB x.X
def J6:A4 SR where
 sz:=2
 ag:=true
 rd:=λ_ _ cs x=>cs=x.v∧x.ok
 len:=λ⟨b,_⟩=>by rw[b];rfl
 one:=λ{_ _ _ x} ⟨b,_⟩ v a=>by
  rw[b] at a;simp only[SR.v,Aa5,Abm,Ab7] at a;rcases a with rfl|rfl<;>rfl
 mono:=λb _ _=>b
def J6.ex {S a v}{x:SR}(k:Rd S a J6 v x):v= .agg #[.int .i64 x.As,.int .i64 x.X]∧x.ok:=by obtain⟨_,rfl,rfl,a⟩:=k;exact⟨rfl,a⟩
def J6.mk {S h}{x:SR}(k:x.ok):Rd S h J6 (.agg #[.int .i64 x.As,.int .i64 x.X]) x:=⟨x.v,rfl,rfl,k⟩
structure Hi where
 Aq:Int
 Bg:Int
 Bc:Int
 C:Int
instance:Inhabited Hi:=⟨⟨default,default,default,default⟩⟩
@[reducible] def Hi.v (x:Hi):List Go.Value:=[.int .i64 x.Aq,.int .i64 x.Bg,.int .i64 x.Bc,.int .i64 x.C]
def Hi.ok (x:Hi):Prop:=AB x.Aq∧AB x.Bg∧AB x.Bc∧AB x.C
def Gs:A4 Hi where
 sz:=4
 ag:=true
 rd:=λ_ _ cs x=>cs=x.v∧x.ok
 len:=λ⟨b,_⟩=>by rw[b];rfl
 one:=λ{_ _ _ x} ⟨b,_⟩ v a=>by
  rw[b] at a;simp only[Hi.v,Aa5,Abm,Ab7] at a;rcases a with rfl|rfl|rfl|rfl<;>rfl
 mono:=λb _ _=>b
def Gs.ex {S a v}{x:Hi}(k:Rd S a Gs v x):v= .agg #[.int .i64 x.Aq,.int .i64 x.Bg,.int .i64 x.Bc,.int .i64 x.C]∧x.ok:=by obtain⟨_,rfl,rfl,a⟩:=k;exact⟨rfl,a⟩
def Gs.mk {S h}{x:Hi}(k:x.ok):Rd S h Gs (.agg #[.int .i64 x.Aq,.int .i64 x.Bg,.int .i64 x.Bc,.int .i64 x.C]) x:=⟨x.v,rfl,rfl,k⟩
def P5:F9 Gs 1 AC (·.Bg):=by
 rintro S d cs x ⟨rfl,⟨k0,a,b,c⟩⟩;exact⟨rfl,a⟩
def Hi.f_Litres:F9 Gs 2 AC (·.Bc):=by
 rintro S d cs x ⟨rfl,⟨k0,b,a,c⟩⟩;exact⟨rfl,a⟩
def Hi.f_To:F9 Gs 3 AC (·.C):=by
 rintro S d cs x ⟨rfl,⟨k0,b,c,a⟩⟩;exact⟨rfl,a⟩
structure Np where
 Aq:Int
 I:Int
 C:Int
 Bc:Int
instance:Inhabited Np:=⟨⟨default,default,default,default⟩⟩
@[reducible] def Np.v (x:Np):List Go.Value:=[.int .i64 x.Aq,.int .i64 x.I,.int .i64 x.C,.int .i64 x.Bc]
def Np.ok (x:Np):Prop:=AB x.Aq∧AB x.I∧AB x.C∧AB x.Bc
def HJ:A4 Np where
 sz:=4
 ag:=true
 rd:=λ_ _ cs x=>cs=x.v∧x.ok
 len:=λ⟨b,_⟩=>by rw[b];rfl
 one:=λ{_ _ _ x} ⟨b,_⟩ v a=>by
  rw[b] at a;simp only[Np.v,Aa5,Abm,Ab7] at a;rcases a with rfl|rfl|rfl|rfl<;>rfl
 mono:=λb _ _=>b
def HJ.ex {S a v}{x:Np}(k:Rd S a HJ v x):v= .agg #[.int .i64 x.Aq,.int .i64 x.I,.int .i64 x.C,.int .i64 x.Bc]∧x.ok:=by obtain⟨_,rfl,rfl,a⟩:=k;exact⟨rfl,a⟩
def HJ.mk {S h}{x:Np}(k:x.ok):Rd S h HJ (.agg #[.int .i64 x.Aq,.int .i64 x.I,.int .i64 x.C,.int .i64 x.Bc]) x:=⟨x.v,rfl,rfl,k⟩
def Np.f_From:F9 HJ 1 AC (·.I):=by
 rintro S d cs x ⟨rfl,⟨k0,a,b,c⟩⟩;exact⟨rfl,a⟩
def Np.f_To:F9 HJ 2 AC (·.C):=by
 rintro S d cs x ⟨rfl,⟨k0,b,a,c⟩⟩;exact⟨rfl,a⟩
def Np.f_Litres:F9 HJ 3 AC (·.Bc):=by
 rintro S d cs x ⟨rfl,⟨k0,b,c,a⟩⟩;exact⟨rfl,a⟩
structure Ck where
 Aa:(List Int)
 Ai:(List LX)
 Ak:(List SR)
 Ab:(List Hi)
 Ae:(List Np)
instance:Inhabited Ck:=⟨⟨default,default,default,default,default⟩⟩
def Ge:A4 Ck where
 sz:=5
 ag:=true
 rd:=λS m cs x=>∃a v1 b c d:Value,cs=[a,v1,b,c,d]∧Sl S m AC a x.Aa∧Sl S m Gt v1 x.Ai∧Sl S m J6 b x.Ak∧Sl S m Gs c x.Ab∧Sl S m HJ d x.Ae
 len:=λ⟨_,_,_,_,_,m,_⟩=>by rw[m];rfl
 one:=by
  rintro S m cs x ⟨a,v1,b,c,d,rfl,k0,g,i,j,k⟩ v l;simp only[Aa5,Abm,Ab7] at l;rcases l with rfl|rfl|rfl|rfl|rfl<;>first|rfl|exact Sl.one ‹_› |exact(‹_∧_›).2|(obtain ⟨_,_,rfl,_⟩:=Rd.fn ‹_›;rfl)|(obtain ⟨_,_,rfl,_⟩:=Rd.fnr ‹_›;rfl)
 mono:=by
  rintro S S' m h' cs x ⟨a,v1,b,c,d,rfl,k0,g,i,j,k⟩ s e;exact⟨a,v1,b,c,d,rfl,k0.mono s e,g.mono s e,i.mono s e,j.mono s e,k.mono s e⟩
def Ge.ex {S h v}{x:Ck}(k:Rd S h Ge v x):∃a v1 b c d:Value,v= .agg #[a,v1,b,c,d]∧Sl S h AC a x.Aa∧Sl S h Gt v1 x.Ai∧Sl S h J6 b x.Ak∧Sl S h Gs c x.Ab∧Sl S h HJ d x.Ae:=by obtain⟨_,rfl,a,v1,b,c,d,rfl,k⟩:=k;exact⟨a,v1,b,c,d,rfl,k⟩
def Ge.mk {S h}{x:Ck}{a v1 b c d:Value}(k0:Sl S h AC a x.Aa) (g:Sl S h Gt v1 x.Ai) (i:Sl S h J6 b x.Ak) (j:Sl S h Gs c x.Ab) (k:Sl S h HJ d x.Ae):Rd S h Ge (.agg #[a,v1,b,c,d]) x:=⟨_,rfl,a,v1,b,c,d,rfl,k0,g,i,j,k⟩
def Tm:F9 Ge 4 (A4.sl HJ) (·.Ae):=by
 rintro S l cs x ⟨b,v1,c,d,g,rfl,k0,i,j,k,a⟩;exact⟨_,rfl,a⟩
structure AJ where
 B:Int
 I:Int
 C:Int
 Bd:Int
 K:(List Int)
instance:Inhabited AJ:=⟨⟨default,default,default,default,default⟩⟩
def BD:A4 AJ where
 sz:=5
 ag:=true
 rd:=λS j cs x=>∃a:Value,cs=[.int .i64 x.B,.int .i64 x.I,.int .i64 x.C,.int .i64 x.Bd,a]∧AB x.B∧AB x.I∧AB x.C∧AB x.Bd∧Sl S j AC a x.K
 len:=λ⟨_,j,_⟩=>by rw[j];rfl
 one:=by
  rintro S j cs x ⟨a,rfl,k0,b,c,d,g⟩ v i;simp only[Aa5,Abm,Ab7] at i;rcases i with rfl|rfl|rfl|rfl|rfl<;>first|rfl|exact Sl.one ‹_› |exact(‹_∧_›).2|(obtain ⟨_,_,rfl,_⟩:=Rd.fn ‹_›;rfl)|(obtain ⟨_,_,rfl,_⟩:=Rd.fnr ‹_›;rfl)
 mono:=by
  rintro S S' j h' cs x ⟨a,rfl,k0,b,c,d,g⟩ s e;exact⟨a,rfl,k0,b,c,d,g.mono s e⟩
def BD.ex {S h v}{x:AJ}(k:Rd S h BD v x):∃a:Value,v= .agg #[.int .i64 x.B,.int .i64 x.I,.int .i64 x.C,.int .i64 x.Bd,a]∧AB x.B∧AB x.I∧AB x.C∧AB x.Bd∧Sl S h AC a x.K:=by obtain⟨_,rfl,a,rfl,k⟩:=k;exact⟨a,rfl,k⟩
def BD.mk {S h}{x:AJ}{a:Value}(k0:AB x.B) (b:AB x.I) (c:AB x.C) (d:AB x.Bd) (g:Sl S h AC a x.K):Rd S h BD (.agg #[.int .i64 x.B,.int .i64 x.I,.int .i64 x.C,.int .i64 x.Bd,a]) x:=⟨_,rfl,a,rfl,k0,b,c,d,g⟩
def AJ.f_Hour:F9 BD 0 AC (·.B):=by
 rintro S i cs x ⟨a,rfl,k0,b,c,d,g⟩;exact⟨rfl,k0⟩
def AJ.f_From:F9 BD 1 AC (·.I):=by
 rintro S i cs x ⟨b,rfl,k0,a,c,d,g⟩;exact⟨rfl,a⟩
def AJ.f_To:F9 BD 2 AC (·.C):=by
 rintro S i cs x ⟨b,rfl,k0,c,a,d,g⟩;exact⟨rfl,a⟩
def AJ.f_Part:F9 BD 4 (A4.sl AC) (·.K):=by
 rintro S i cs x ⟨b,rfl,k0,c,d,g,a⟩;exact⟨_,rfl,a⟩
structure AN where
 b:AF
 in_:Ck
 s:AE
 moves:(List AJ)
 peaks:(List Int)
 sent:(List AM)
instance:Inhabited AN:=⟨⟨default,default,default,default,default,default⟩⟩
def NG:A4 AN where
 sz:=26
 ag:=true
 rd:=λS h cs x=>∃v1 u w y z C H I a c d g i j k l m n o p q t:Value,cs=[.string x.b.J,v1,.int .i64 x.b.P,u,w,y,z,C,H,I,.int .i64 x.b.Q,a,c,d,g,i,.int .i64 x.s.B,j,k,l,m,n,o,p,q,t]∧x.b.J.size≤maxLen∧Sl S h A4.str v1 x.b.F∧AB x.b.P∧Sl S h CC u x.b.A∧Sl S h B0 w x.b.G∧Sl S h Hb y x.b.Ac∧Sl S h Er z x.b.Af∧Sl S h G4 C x.b.Ag∧Sl S h DI H x.b.Aj∧Sl S h AC I x.b.Al∧AB x.b.Q∧Sl S h AC a x.in_.Aa∧Sl S h Gt c x.in_.Ai∧Sl S h J6 d x.in_.Ak∧Sl S h Gs g x.in_.Ab∧Sl S h HJ i x.in_.Ae∧AB x.s.B∧Sl S h (A4.sl AC) j x.s.D∧Sl S h AC k x.s.M∧Sl S h AS l x.s.E∧Sl S h BL m x.s.O∧Sl S h AC n x.s.N∧Sl S h AC o x.s.L∧Sl S h BD p x.moves∧Sl S h AC q x.peaks∧Sl S h AS t x.sent
 len:=λ⟨_,_,_,_,_,_,_,_,_,_,_,_,_,_,_,_,_,_,_,_,_,_,h,_⟩=>by rw[h];rfl
 one:=by
  rintro S h cs x ⟨v1,u,w,y,z,C,H,I,a,c,d,g,i,j,k,l,m,n,o,p,q,t,rfl,k0,k1,k2,k3,k4,k5,k6,k7,k8,k9,K,U,V,W,X,Y,Z,aa,ab,ac,ad,ae,af,ah,ai,aj⟩ v hv;simp only[Aa5,Abm,Ab7] at hv;rcases hv with rfl|rfl|rfl|rfl|rfl|rfl|rfl|rfl|rfl|rfl|rfl|rfl|rfl|rfl|rfl|rfl|rfl|rfl|rfl|rfl|rfl|rfl|rfl|rfl|rfl|rfl<;>first|rfl|exact Sl.one ‹_› |exact(‹_∧_›).2|(obtain ⟨_,_,rfl,_⟩:=Rd.fn ‹_›;rfl)|(obtain ⟨_,_,rfl,_⟩:=Rd.fnr ‹_›;rfl)
 mono:=by
  rintro S S' h h' cs x ⟨v1,u,w,y,z,C,H,I,a,c,d,g,i,j,k,l,m,n,o,p,q,t,rfl,k0,k1,k2,k3,k4,k5,k6,k7,k8,k9,K,U,V,W,X,Y,Z,aa,ab,ac,ad,ae,af,ah,ai,aj⟩ s e;exact⟨v1,u,w,y,z,C,H,I,a,c,d,g,i,j,k,l,m,n,o,p,q,t,rfl,k0,k1.mono s e,k2,k3.mono s e,k4.mono s e,k5.mono s e,k6.mono s e,k7.mono s e,k8.mono s e,k9.mono s e,K,U.mono s e,V.mono s e,W.mono s e,X.mono s e,Y.mono s e,Z,aa.mono s e,ab.mono s e,ac.mono s e,ad.mono s e,ae.mono s e,af.mono s e,ah.mono s e,ai.mono s e,aj.mono s e⟩
def NG.ex {S h v}{x:AN}(k:Rd S h NG v x):∃v1 w y z C H I K a c d g i j l m n o p q t u:Value,v= .agg #[.string x.b.J,v1,.int .i64 x.b.P,w,y,z,C,H,I,K,.int .i64 x.b.Q,a,c,d,g,i,.int .i64 x.s.B,j,l,m,n,o,p,q,t,u]∧x.b.J.size≤maxLen∧Sl S h A4.str v1 x.b.F∧AB x.b.P∧Sl S h CC w x.b.A∧Sl S h B0 y x.b.G∧Sl S h Hb z x.b.Ac∧Sl S h Er C x.b.Af∧Sl S h G4 H x.b.Ag∧Sl S h DI I x.b.Aj∧Sl S h AC K x.b.Al∧AB x.b.Q∧Sl S h AC a x.in_.Aa∧Sl S h Gt c x.in_.Ai∧Sl S h J6 d x.in_.Ak∧Sl S h Gs g x.in_.Ab∧Sl S h HJ i x.in_.Ae∧AB x.s.B∧Sl S h (A4.sl AC) j x.s.D∧Sl S h AC l x.s.M∧Sl S h AS m x.s.E∧Sl S h BL n x.s.O∧Sl S h AC o x.s.N∧Sl S h AC p x.s.L∧Sl S h BD q x.moves∧Sl S h AC t x.peaks∧Sl S h AS u x.sent:=by obtain⟨_,rfl,v1,w,y,z,C,H,I,K,a,c,d,g,i,j,l,m,n,o,p,q,t,u,rfl,k⟩:=k;exact⟨v1,w,y,z,C,H,I,K,a,c,d,g,i,j,l,m,n,o,p,q,t,u,rfl,k⟩
def NG.mk {S h}{x:AN}{v1 u v w y z C H a c d g i j k l m n o p q t:Value}(k0:x.b.J.size≤maxLen) (k1:Sl S h A4.str v1 x.b.F) (k2:AB x.b.P) (k3:Sl S h CC u x.b.A) (k4:Sl S h B0 v x.b.G) (k5:Sl S h Hb w x.b.Ac) (k6:Sl S h Er y x.b.Af) (k7:Sl S h G4 z x.b.Ag) (k8:Sl S h DI C x.b.Aj) (k9:Sl S h AC H x.b.Al) (I:AB x.b.Q) (K:Sl S h AC a x.in_.Aa) (U:Sl S h Gt c x.in_.Ai) (V:Sl S h J6 d x.in_.Ak) (W:Sl S h Gs g x.in_.Ab) (X:Sl S h HJ i x.in_.Ae) (Y:AB x.s.B) (Z:Sl S h (A4.sl AC) j x.s.D) (aa:Sl S h AC k x.s.M) (ab:Sl S h AS l x.s.E) (ac:Sl S h BL m x.s.O) (ad:Sl S h AC n x.s.N) (ae:Sl S h AC o x.s.L) (af:Sl S h BD p x.moves) (ag:Sl S h AC q x.peaks) (ah:Sl S h AS t x.sent):Rd S h NG (.agg #[.string x.b.J,v1,.int .i64 x.b.P,u,v,w,y,z,C,H,.int .i64 x.b.Q,a,c,d,g,i,.int .i64 x.s.B,j,k,l,m,n,o,p,q,t]) x:=⟨_,rfl,v1,u,v,w,y,z,C,H,a,c,d,g,i,j,k,l,m,n,o,p,q,t,rfl,k0,k1,k2,k3,k4,k5,k6,k7,k8,k9,I,K,U,V,W,X,Y,Z,aa,ab,ac,ad,ae,af,ag,ah⟩
structure AD where
 to_:Int
 delay:Int
 way:Int
 take:((List Int)→Option ((List Int)×(List Int)))
instance:Inhabited AD:=⟨⟨default,default,default,default⟩⟩
def A3:A4 AD where
 sz:=4
 ag:=true
 rd:=λS k cs x=>∃a:Value,cs=[.int .i64 x.to_,.int .i64 x.delay,.int .i64 x.way,a]∧AB x.to_∧AB x.delay∧AB x.way∧Rd S k (A4.fnr prog (λS k vs (x:(List Int))=>∃b:Value,vs=[b]∧Sl S k AC b x) (λS k v (y:((List Int)×(List Int)))=>∃b c:Value,v= .tuple #[b,c]∧Sl S k AC b y.1∧Sl S k AC c y.2)) a x.take
 len:=λ⟨_,k,_⟩=>by rw[k];rfl
 one:=by
  rintro S k cs x ⟨a,rfl,k0,d,g,i⟩ v j;simp only[Aa5,Abm,Ab7] at j;rcases j with rfl|rfl|rfl|rfl<;>first|rfl|exact Sl.one ‹_› |exact(‹_∧_›).2|(obtain ⟨_,_,rfl,_⟩:=Rd.fn ‹_›;rfl)|(obtain ⟨_,_,rfl,_⟩:=Rd.fnr ‹_›;rfl)
 mono:=by
  rintro S S' k h' cs x ⟨a,rfl,k0,d,g,i⟩ s e;exact⟨a,rfl,k0,d,g,i.mono'' s e⟩
def A3.ex {S d v}{x:AD}(k:Rd S d A3 v x):∃b:Value,v= .agg #[.int .i64 x.to_,.int .i64 x.delay,.int .i64 x.way,b]∧AB x.to_∧AB x.delay∧AB x.way∧Rd S d (A4.fnr prog (λS d vs (x:(List Int))=>∃a:Value,vs=[a]∧Sl S d AC a x) (λS d v (y:((List Int)×(List Int)))=>∃a c:Value,v= .tuple #[a,c]∧Sl S d AC a y.1∧Sl S d AC c y.2)) b x.take:=by obtain⟨_,rfl,b,rfl,k⟩:=k;exact⟨b,rfl,k⟩
def A3.mk {S j}{x:AD}{b:Value}(k0:AB x.to_) (d:AB x.delay) (g:AB x.way) (i:Rd S j (A4.fnr prog (λS j vs (x:(List Int))=>∃a:Value,vs=[a]∧Sl S j AC a x) (λS j v (y:((List Int)×(List Int)))=>∃a c:Value,v= .tuple #[a,c]∧Sl S j AC a y.1∧Sl S j AC c y.2)) b x.take):Rd S j A3 (.agg #[.int .i64 x.to_,.int .i64 x.delay,.int .i64 x.way,b]) x:=⟨_,rfl,b,rfl,k0,d,g,i⟩
def LV:F9 A3 0 AC (·.to_):=by
 rintro S g cs x ⟨a,rfl,k0,b,c,d⟩;exact⟨rfl,k0⟩
def M0:F9 A3 1 AC (·.delay):=by
 rintro S g cs x ⟨b,rfl,k0,a,c,d⟩;exact⟨rfl,a⟩
def No:F9 A3 2 AC (·.way):=by
 rintro S g cs x ⟨b,rfl,k0,c,a,d⟩;exact⟨rfl,a⟩
def NH:F9 A3 3 (A4.fnr prog (λS m vs (x:(List Int))=>∃a:Value,vs=[a]∧Sl S m AC a x) (λS m v (y:((List Int)×(List Int)))=>∃a b:Value,v= .tuple #[a,b]∧Sl S m AC a y.1∧Sl S m AC b y.2)) (·.take):=by
 rintro S m cs x ⟨j,rfl,k0,k,l,c⟩;obtain⟨_,rfl,d,g,rfl,i⟩:=c;exact⟨d,g,rfl,i⟩
structure AW where
 rest_:ByteArray
 bad:Bool
instance:Inhabited AW:=⟨⟨default,default⟩⟩
@[reducible] def AW.v (x:AW):List Go.Value:=[.string x.rest_,.bool x.bad]
def AW.ok (x:AW):Prop:=x.rest_.size≤maxLen
def FD:A4 AW where
 sz:=2
 ag:=true
 rd:=λ_ _ cs x=>cs=x.v∧x.ok
 len:=λ⟨b,_⟩=>by rw[b];rfl
 one:=λ{_ _ _ x} ⟨b,_⟩ v a=>by
  rw[b] at a;simp only[AW.v,Aa5,Abm,Ab7] at a;rcases a with rfl|rfl<;>rfl
 mono:=λb _ _=>b
def FD.ex {S a v}{x:AW}(k:Rd S a FD v x):v= .agg #[.string x.rest_,.bool x.bad]∧x.ok:=by obtain⟨_,rfl,rfl,a⟩:=k;exact⟨rfl,a⟩
def FD.mk {S h}{x:AW}(k:x.ok):Rd S h FD (.agg #[.string x.rest_,.bool x.bad]) x:=⟨x.v,rfl,rfl,k⟩
def L0:F9 FD 0 A4.str (·.rest_):=by
 rintro S a cs x ⟨rfl,k0⟩;exact⟨rfl,k0⟩
def Mz:F9 FD 1 A4.bool (·.bad):=by
 rintro S a cs x ⟨rfl,k0⟩;exact rfl
structure AG where
 group:ByteArray
 name:ByteArray
instance:Inhabited AG:=⟨⟨default,default⟩⟩
@[reducible] def AG.v (x:AG):List Go.Value:=[.string x.group,.string x.name]
def AG.ok (x:AG):Prop:=x.group.size≤maxLen∧x.name.size≤maxLen
def MT:A4 AG where
 sz:=2
 ag:=true
 rd:=λ_ _ cs x=>cs=x.v∧x.ok
 len:=λ⟨b,_⟩=>by rw[b];rfl
 one:=λ{_ _ _ x} ⟨b,_⟩ v a=>by
  rw[b] at a;simp only[AG.v,Aa5,Abm,Ab7] at a;rcases a with rfl|rfl<;>rfl
 mono:=λb _ _=>b
def MT.ex {S a v}{x:AG}(k:Rd S a MT v x):v= .agg #[.string x.group,.string x.name]∧x.ok:=by obtain⟨_,rfl,rfl,a⟩:=k;exact⟨rfl,a⟩
def MT.mk {S h}{x:AG}(k:x.ok):Rd S h MT (.agg #[.string x.group,.string x.name]) x:=⟨x.v,rfl,rfl,k⟩
structure AI where
 hi:Int
 lo:Int
instance:Inhabited AI:=⟨⟨default,default⟩⟩
@[reducible] def AI.v (x:AI):List Go.Value:=[.int .i64 x.hi,.int .u64 x.lo]
def AI.ok (x:AI):Prop:=AB x.hi∧IntKind.has .u64 x.lo
def Hm:A4 AI where
 sz:=2
 ag:=true
 rd:=λ_ _ cs x=>cs=x.v∧x.ok
 len:=λ⟨b,_⟩=>by rw[b];rfl
 one:=λ{_ _ _ x} ⟨b,_⟩ v a=>by
  rw[b] at a;simp only[AI.v,Aa5,Abm,Ab7] at a;rcases a with rfl|rfl<;>rfl
 mono:=λb _ _=>b
def Hm.ex {S a v}{x:AI}(k:Rd S a Hm v x):v= .agg #[.int .i64 x.hi,.int .u64 x.lo]∧x.ok:=by obtain⟨_,rfl,rfl,a⟩:=k;exact⟨rfl,a⟩
def Hm.mk {S h}{x:AI}(k:x.ok):Rd S h Hm (.agg #[.int .i64 x.hi,.int .u64 x.lo]) x:=⟨x.v,rfl,rfl,k⟩
def Tj:F9 Hm 0 AC (·.hi):=by
 rintro S b cs x ⟨rfl,⟨k0,a⟩⟩;exact⟨rfl,k0⟩
def M1:F9 Hm 1 (A4.intk .u64) (·.lo):=by
 rintro S b cs x ⟨rfl,⟨k0,a⟩⟩;exact⟨rfl,a⟩
structure AA where
 sort:Int
 place:Int
 owner:Int
instance:Inhabited AA:=⟨⟨default,default,default⟩⟩
@[reducible] def AA.v (x:AA):List Go.Value:=[.int .i64 x.sort,.int .i64 x.place,.int .i64 x.owner]
def AA.ok (x:AA):Prop:=AB x.sort∧AB x.place∧AB x.owner
def Lj:A4 AA where
 sz:=3
 ag:=true
 rd:=λ_ _ cs x=>cs=x.v∧x.ok
 len:=λ⟨b,_⟩=>by rw[b];rfl
 one:=λ{_ _ _ x} ⟨b,_⟩ v a=>by
  rw[b] at a;simp only[AA.v,Aa5,Abm,Ab7] at a;rcases a with rfl|rfl|rfl<;>rfl
 mono:=λb _ _=>b
def Lj.ex {S a v}{x:AA}(k:Rd S a Lj v x):v= .agg #[.int .i64 x.sort,.int .i64 x.place,.int .i64 x.owner]∧x.ok:=by obtain⟨_,rfl,rfl,a⟩:=k;exact⟨rfl,a⟩
def Lj.mk {S h}{x:AA}(k:x.ok):Rd S h Lj (.agg #[.int .i64 x.sort,.int .i64 x.place,.int .i64 x.owner]) x:=⟨x.v,rfl,rfl,k⟩
def NK:ByteArray:=ByteArray.mk #[0,1,2,2,3,3,3,3,4,4,4,4,4,4,4,4,5,5,5,5,5,5,5,5,5,5,5,5,5,5,5,5,6,6,6,6,6,6,6,6,6,6,6,6,6,6,6,6,6,6,6,6,6,6,6,6,6,6,6,6,6,6,6,6,7,7,7,7,7,7,7,7,7,7,7,7,7,7,7,7,7,7,7,7,7,7,7,7,7,7,7,7,7,7,7,7,7,7,7,7,7,7,7,7,7,7,7,7,7,7,7,7,7,7,7,7,7,7,7,7,7,7,7,7,7,7,7,7,8,8,8,8,8,8,8,8,8,8,8,8,8,8,8,8,8,8,8,8,8,8,8,8,8,8,8,8,8,8,8,8,8,8,8,8,8,8,8,8,8,8,8,8,8,8,8,8,8,8,8,8,8,8,8,8,8,8,8,8,8,8,8,8,8,8,8,8,8,8,8,8,8,8,8,8,8,8,8,8,8,8,8,8,8,8,8,8,8,8,8,8,8,8,8,8,8,8,8,8,8,8,8,8,8,8,8,8,8,8,8,8,8,8,8,8,8,8,8,8,8,8,8,8,8,8,8,8]
def Pg:List ByteArray:=([(ByteArray.mk #[112,117,98,108,105,99])]:List ByteArray)
def Pf:List EW:=([(⟨(ByteArray.mk #[116,111,112]),0,0,100,([(⟨0,0⟩:BT),(⟨100,200⟩:BT)]:List BT),([60]:List Int),1,10,1,0,0,[]⟩:EW),(⟨(ByteArray.mk #[109,105,100]),0,1,100,([(⟨0,0⟩:BT),(⟨100,200⟩:BT)]:List BT),([20]:List Int),0,0,2,1,0,[]⟩:EW),(⟨(ByteArray.mk #[108,111,119]),0,2,30,([(⟨0,0⟩:BT),(⟨100,200⟩:BT)]:List BT),([30]:List Int),1,2,(-1),0,0,[]⟩:EW)]:List EW)
def RZ:List Ck:=([(⟨([10]:List Int),[],[],[],[]⟩:Ck)]:List Ck)
def RY:List AJ:=([(⟨3,0,0,0,([10]:List Int)⟩:AJ),(⟨3,0,0,0,([2,3]:List Int)⟩:AJ),(⟨5,0,0,0,([7]:List Int)⟩:AJ),(⟨4,1,0,0,([9]:List Int)⟩:AJ)]:List AJ)
def Z6:EB prog 31=some [.string ByteArray.empty,.slice none 0 0,.int .i64 0,.slice none 0 0,.slice none 0 0,.slice none 0 0,.slice none 0 0,.slice none 0 0,.slice none 0 0,.slice none 0 0,.int .i64 0]:=by kernel_rfl
def bJ:Vj prog 137=some ([(0,1),(1,1)],[.int .i64 0,.int .i64 0]):=by kernel_rfl
def wV:OY prog 98=some (137,2,16,[.int .i64 0,.int .i64 0]):=by kernel_rfl
def HZ:OY prog 29=some (3,1,8,[.int .i64 0]):=by kernel_rfl
def W6:Vj prog 101=some ([(0,1),(1,1),(2,1),(3,1),(4,1),(5,1),(6,1),(7,1),(8,1),(9,1),(10,1),(11,1)],[.string ByteArray.empty,.int .i64 0,.int .i64 0,.int .i64 0,.slice none 0 0,.slice none 0 0,.int .i64 0,.int .i64 0,.int .i64 0,.int .i64 0,.int .i64 0,.slice none 0 0]):=by kernel_rfl
def NI:EB prog 101=some [.string ByteArray.empty,.int .i64 0,.int .i64 0,.int .i64 0,.slice none 0 0,.slice none 0 0,.int .i64 0,.int .i64 0,.int .i64 0,.int .i64 0,.int .i64 0,.slice none 0 0]:=by kernel_rfl
def nB:OY prog 22=some (9,1,16,[.string ByteArray.empty]):=by kernel_rfl
def wX:OY prog 23=some (101,12,152,[.string ByteArray.empty,.int .i64 0,.int .i64 0,.int .i64 0,.slice none 0 0,.slice none 0 0,.int .i64 0,.int .i64 0,.int .i64 0,.int .i64 0,.int .i64 0,.slice none 0 0]):=by kernel_rfl
def vC:Vj prog 31=some ([(0,1),(1,1),(2,1),(3,1),(4,1),(5,1),(6,1),(7,1),(8,1),(9,1),(10,1)],[.string ByteArray.empty,.slice none 0 0,.int .i64 0,.slice none 0 0,.slice none 0 0,.slice none 0 0,.slice none 0 0,.slice none 0 0,.slice none 0 0,.slice none 0 0,.int .i64 0]):=by kernel_rfl
def xA:BK prog 95=true:=by kernel_rfl
def MC:EB prog 36=some [.int .i64 0,.slice none 0 0,.slice none 0 0,.slice none 0 0,.slice none 0 0,.slice none 0 0,.slice none 0 0]:=by kernel_rfl
def mo:prog.follows .mixedOrders=true:=by kernel_rfl
def mI:Vj prog 36=some ([(0,1),(1,1),(2,1),(3,1),(4,1),(5,1),(6,1)],[.int .i64 0,.slice none 0 0,.slice none 0 0,.slice none 0 0,.slice none 0 0,.slice none 0 0,.slice none 0 0]):=by kernel_rfl
def Mo:OY prog 32=some (29,1,24,[.slice none 0 0]):=by kernel_rfl
def WZ:OY prog 34=some (106,4,24,[.int .i64 0,.int .i64 0,.bool false,.bool false]):=by kernel_rfl
def aL:∃e,prog.underlying 29=some (.slice e):=⟨3,by kernel_rfl⟩
def QR:BK prog 116=true:=by kernel_rfl
def xH:BK prog 41=true:=by kernel_rfl
def vB:Vj prog 60=some ([(0,1),(1,1),(2,1),(3,1),(4,1)],[.slice none 0 0,.slice none 0 0,.slice none 0 0,.slice none 0 0,.slice none 0 0]):=by kernel_rfl
def wW:OY prog 78=some (60,5,120,[.slice none 0 0,.slice none 0 0,.slice none 0 0,.slice none 0 0,.slice none 0 0]):=by kernel_rfl
def aK:∃e,prog.underlying 34=some (.slice e):=⟨106,by kernel_rfl⟩
def sU:BK prog 157=true:=by kernel_rfl
def xG:BK prog 78=true:=by kernel_rfl
def oW:Vj prog 160=some ([(0,11),(11,5),(16,7),(23,1),(24,1),(25,1)],[.string ByteArray.empty,.slice none 0 0,.int .i64 0,.slice none 0 0,.slice none 0 0,.slice none 0 0,.slice none 0 0,.slice none 0 0,.slice none 0 0,.slice none 0 0,.int .i64 0,.slice none 0 0,.slice none 0 0,.slice none 0 0,.slice none 0 0,.slice none 0 0,.int .i64 0,.slice none 0 0,.slice none 0 0,.slice none 0 0,.slice none 0 0,.slice none 0 0,.slice none 0 0,.slice none 0 0,.slice none 0 0,.slice none 0 0]):=by kernel_rfl
def oD:EB prog 160=some [.string ByteArray.empty,.slice none 0 0,.int .i64 0,.slice none 0 0,.slice none 0 0,.slice none 0 0,.slice none 0 0,.slice none 0 0,.slice none 0 0,.slice none 0 0,.int .i64 0,.slice none 0 0,.slice none 0 0,.slice none 0 0,.slice none 0 0,.slice none 0 0,.int .i64 0,.slice none 0 0,.slice none 0 0,.slice none 0 0,.slice none 0 0,.slice none 0 0,.slice none 0 0,.slice none 0 0,.slice none 0 0,.slice none 0 0]:=by kernel_rfl
def P9:EB prog 106=some [.int .i64 0,.int .i64 0,.bool false,.bool false]:=by kernel_rfl
def oB:EB prog 232=some [.int .i64 0,.int .i64 0]:=by kernel_rfl
def PH:BK prog 158=true:=by kernel_rfl
def sT:BK prog 159=true:=by kernel_rfl
def VK:BK prog 205=true:=by kernel_rfl
def oC:EB prog 210=some [.int .i64 0,.int .i64 0]:=by kernel_rfl
def sW:BK prog 142=true:=by kernel_rfl
def Rg:BK prog 111=true:=by kernel_rfl
def R6:BK prog 70=true:=by kernel_rfl
def Ok:EB prog 117=some [.string ByteArray.empty,.int .i64 0,.int .i64 0,.int .i64 0,.slice none 0 0,.slice none 0 0,.slice none 0 0,.int .i64 0,.int .i64 0,.int .i64 0,.int .i64 0,.int .i64 0,.int .i64 0,.int .i64 0,.int .i64 0,.int .i64 0,.int .i64 0,.int .i64 0]:=by kernel_rfl
def sS:BK prog 160=true:=by kernel_rfl
def xF:BK prog 79=true:=by kernel_rfl
def fJ:BK prog 213=true:=by kernel_rfl
def nZ:EB prog 251=some [.int .i64 0,.int .i64 0,.int .i64 0,.int .i64 0]:=by kernel_rfl
def sR:BK prog 161=true:=by kernel_rfl
def xE:BK prog 80=true:=by kernel_rfl
def K2:BK prog 18=true:=by kernel_rfl
def Oj:EB prog 121=some [.int .i64 0,.int .i64 0,.slice none 0 0]:=by kernel_rfl
def UB:Vj prog 74=some ([(0,1),(1,1),(2,1),(3,1),(4,1)],[.int .i64 0,.int .i64 0,.int .i64 0,.int .i64 0,.slice none 0 0]):=by kernel_rfl
def PC:OY prog 70=some (74,5,56,[.int .i64 0,.int .i64 0,.int .i64 0,.int .i64 0,.slice none 0 0]):=by kernel_rfl
def xD:BK prog 81=true:=by kernel_rfl
def Ya:BK prog 30=true:=by kernel_rfl
def Ur:Vj prog 121=some ([(0,1),(1,1),(2,1)],[.int .i64 0,.int .i64 0,.slice none 0 0]):=by kernel_rfl
def P3:OY prog 33=some (121,3,40,[.int .i64 0,.int .i64 0,.slice none 0 0]):=by kernel_rfl
def sQ:BK prog 162=true:=by kernel_rfl
def sP:BK prog 163=true:=by kernel_rfl
def xC:BK prog 82=true:=by kernel_rfl
def eZ:BK prog 268=true:=by kernel_rfl
def rV:BK prog 216=true:=by kernel_rfl
def oA:EB prog 243=some [.int .i64 0,.int .i64 0,.int .i64 0,.int .i64 0]:=by kernel_rfl
def RL:Vj prog 259=some ([(0,1),(1,1),(2,1),(3,1)],[.int .i64 0,.int .i64 0,.int .i64 0,.nilFunc]):=by kernel_rfl
def rW:BK prog 215=true:=by kernel_rfl
def NP:OY prog 255=some (259,4,32,[.int .i64 0,.int .i64 0,.int .i64 0,.nilFunc]):=by kernel_rfl
def sN:BK prog 165=true:=by kernel_rfl
def MJ:prog.underlying 3=some (.int .i64):=by kernel_rfl
def Ip:prog.underlying 176=some (.int .u64):=by kernel_rfl
def fC:BK prog 266=true:=by kernel_rfl
def Wy:prog.underlying 5=some (.int .u8):=by kernel_rfl
def Mb:prog.underlying 9=some .string:=by kernel_rfl
def qX:BK prog 302=true:=by kernel_rfl
def rA:BK prog 289=true:=by kernel_rfl
def Wz:prog.underlying 186=some (.int .u64):=by kernel_rfl
def fA:BK prog 267=true:=by kernel_rfl
def TS:BK prog 212=true:=by kernel_rfl
def TQ:BK prog 262=true:=by kernel_rfl
def Uk:EB prog 137=some [.int .i64 0,.int .i64 0]:=by kernel_rfl
def QP:BK prog 232=true:=by kernel_rfl
def qV:BK prog 304=true:=by kernel_rfl
def qW:BK prog 303=true:=by kernel_rfl
def XU:BK prog 288=true:=by kernel_rfl
def rJ:BK prog 264=true:=by kernel_rfl
def rK:BK prog 263=true:=by kernel_rfl
def rY:BK prog 210=true:=by kernel_rfl
def fE:BK prog 242=true:=by kernel_rfl
def mC:EB prog 29=some [.slice none 0 0]:=by kernel_rfl
def wQ:zK prog 29=true:=by kernel_rfl
def qY:BK prog 291=true:=by kernel_rfl
def rG:BK prog 271=true:=by kernel_rfl
def rR:BK prog 220=true:=by kernel_rfl
def fD:BK prog 265=true:=by kernel_rfl
def rU:BK prog 217=true:=by kernel_rfl
def TV:BK prog 168=true:=by kernel_rfl
def TR:BK prog 219=true:=by kernel_rfl
def fK:BK prog 211=true:=by kernel_rfl
def sM:BK prog 166=true:=by kernel_rfl
def qP:OY prog 304=some (255,1,24,[.slice none 0 0]):=by kernel_rfl
def yT:prog.underlying 3=some (.int .i64):=by kernel_rfl
def rX:BK prog 214=true:=by kernel_rfl
def sO:BK prog 164=true:=by kernel_rfl
def qZ:BK prog 290=true:=by kernel_rfl
def rH:BK prog 270=true:=by kernel_rfl
def rI:BK prog 269=true:=by kernel_rfl
def rS:BK prog 218=true:=by kernel_rfl
def nY:EB prog 259=some [.int .i64 0,.int .i64 0,.int .i64 0,.nilFunc]:=by kernel_rfl
def XX:BK prog 167=true:=by kernel_rfl
def sV:BK prog 156=true:=by kernel_rfl
def xB:BK prog 83=true:=by kernel_rfl
def Z5:EB prog 60=some [.slice none 0 0,.slice none 0 0,.slice none 0 0,.slice none 0 0,.slice none 0 0]:=by kernel_rfl
def nN:BK prog 21=true:=by kernel_rfl
def nA:OY prog 80=some (36,7,152,[.int .i64 0,.slice none 0 0,.slice none 0 0,.slice none 0 0,.slice none 0 0,.slice none 0 0,.slice none 0 0]):=by kernel_rfl
def nM:BK prog 26=true:=by kernel_rfl
def T3:EB prog 74=some [.int .i64 0,.int .i64 0,.int .i64 0,.int .i64 0,.slice none 0 0]:=by kernel_rfl
def xJ:BK prog 36=true:=by kernel_rfl
def sK:BK prog 170=true:=by kernel_rfl
def rF:BK prog 272=true:=by kernel_rfl
def PG:BK prog 221=true:=by kernel_rfl
def rE:BK prog 273=true:=by kernel_rfl
def XW:BK prog 222=true:=by kernel_rfl
def rD:BK prog 274=true:=by kernel_rfl
def Rf:BK prog 223=true:=by kernel_rfl
def oX:Vj prog 106=some ([(0,1),(1,1),(2,1),(3,1)],[.int .i64 0,.int .i64 0,.bool false,.bool false]):=by kernel_rfl
def rQ:BK prog 224=true:=by kernel_rfl
def sL:BK prog 169=true:=by kernel_rfl
def fL:BK prog 187=true:=by kernel_rfl
def sX:BK prog 109=true:=by kernel_rfl
def fN:BK prog 110=true:=by kernel_rfl
def Z7:EB prog 269=some [.pointer none,.slice none 0 0]:=by kernel_rfl
def PD:OY prog 267=some (5,1,1,[.int .u8 0]):=by kernel_rfl
def rC:BK prog 276=true:=by kernel_rfl
def fH:BK prog 226=true:=by kernel_rfl
def aO:prog.underlying 267=some (.slice 5):=by kernel_rfl
def uS:prog.underlying 5=some (.int .u8):=by kernel_rfl
def NQ:BK prog 172=true:=by kernel_rfl
def Kd:BK prog 171=true:=by kernel_rfl
def eY:BK prog 277=true:=by kernel_rfl
def fM:BK prog 174=true:=by kernel_rfl
def rP:BK prog 227=true:=by kernel_rfl
def TU:BK prog 173=true:=by kernel_rfl
def nI:BK prog 34=true:=by kernel_rfl
def nG:BK prog 97=true:=by kernel_rfl
def nH:BK prog 96=true:=by kernel_rfl
def TW:BK prog 113=true:=by kernel_rfl
def xI:BK prog 38=true:=by kernel_rfl
def HH:BK prog 228=true:=by kernel_rfl
def JY:BK prog 229=true:=by kernel_rfl
def nW:EB prog 319=some [.map none]:=by kernel_rfl
def yN:EB prog 4=some [.bool false]:=by kernel_rfl
def oU:Vj prog 353=some ([(0,1),(1,1)],[.string ByteArray.empty,.string ByteArray.empty]):=by kernel_rfl
def nU:EB prog 353=some [.string ByteArray.empty,.string ByteArray.empty]:=by kernel_rfl
def rB:BK prog 278=true:=by kernel_rfl
def aN:prog.underlying 319=some (.map 353 4):=by kernel_rfl
def qI:jY prog 353=some [3,3]:=by kernel_rfl
def YN:Nn prog 353 (λk:AG=>Value.agg (AG.v k).toArray):=Nn.agg (f:=AG.v) underlying353 qI (λk=>rfl) (λa b=>rfl) (λk e w=>by kernel_rfl) (λa b c=>by
 simp only[AG.v,Wq,Z0,Aa3,Ri,Abh,beq_iff_eq] at c;simp [AG.v,c]) (λa=>by simp [Instr.sameBits,AG.v,Ri.2])
def yM:∀w,(zeroValue 4).run prog w= .ok (.bool false) w:=λw=>by kernel_rfl
def rO:BK prog 231=true:=by kernel_rfl
def QQ:BK prog 230=true:=by kernel_rfl
def aC:EB prog 139=some [.string ByteArray.empty,.int .i64 0,.int .i64 0,.int .i64 0,.int .i64 0,.int .i64 0,.int .i64 0]:=by kernel_rfl
def aA:EB prog 215=some [.string ByteArray.empty,.int .i64 0]:=by kernel_rfl
def Z9:EB prog 217=some [.string ByteArray.empty,.int .i64 0,.int .i64 0,.int .i64 0,.int .i64 0]:=by kernel_rfl
def Z8:EB prog 219=some [.string ByteArray.empty,.int .i64 0,.int .i64 0,.int .i64 0,.int .i64 0,.int .i64 0,.int .i64 0]:=by kernel_rfl
def QO:BK prog 235=true:=by kernel_rfl
def XV:BK prog 233=true:=by kernel_rfl
def fG:BK prog 234=true:=by kernel_rfl
def nX:EB prog 290=some [.int .i64 0,.int .i64 0]:=by kernel_rfl
def eX:BK prog 279=true:=by kernel_rfl
def rN:BK prog 236=true:=by kernel_rfl
def rM:BK prog 237=true:=by kernel_rfl
def fF:BK prog 238=true:=by kernel_rfl
def Re:BK prog 239=true:=by kernel_rfl
def qO:OY prog 354=some (98,1,24,[.slice none 0 0]):=by kernel_rfl
def rL:BK prog 240=true:=by kernel_rfl
def tI:yG prog 323=some ([(0,1),(1,1),(2,1)],[.int .i64 0,.int .i64 0,.int .i64 0]):=by kernel_rfl
def nV:EB prog 323=some [.int .i64 0,.int .i64 0,.int .i64 0]:=by kernel_rfl
def tH:zM prog 323 3 1=true:=by kernel_rfl
def sJ:BK prog 175=true:=by kernel_rfl
def sI:BK prog 176=true:=by kernel_rfl
def sH:BK prog 177=true:=by kernel_rfl
def sG:BK prog 178=true:=by kernel_rfl
def sF:BK prog 179=true:=by kernel_rfl
def sE:BK prog 180=true:=by kernel_rfl
def sD:BK prog 181=true:=by kernel_rfl
def sC:BK prog 182=true:=by kernel_rfl
def sB:BK prog 183=true:=by kernel_rfl
def nF:BK prog 98=true:=by kernel_rfl
def TX:BK prog 105=true:=by kernel_rfl
def tA:BK prog 106=true:=by kernel_rfl
def sZ:BK prog 107=true:=by kernel_rfl
def qL:jY prog 106=some [1,1,2,2]:=by kernel_rfl
def sY:BK prog 108=true:=by kernel_rfl
def nJ:BK prog 32=true:=by kernel_rfl
def nL:BK prog 27=true:=by kernel_rfl
def TT:BK prog 184=true:=by kernel_rfl
def nE:BK prog 99=true:=by kernel_rfl
def tC:BK prog 100=true:=by kernel_rfl
def Wt:EB prog 178=some [.int .i64 0,.int .u64 0]:=by kernel_rfl
def oF:∀x y c:Int,IntKind.has .u64 x→IntKind.has .u64 y→(0≤c∧c≤1)→∀w,(callFunc 112 #[.int .u64 x,.int .u64 y,.int .u64 c]).run prog w= .ok (.value (.tuple #[.int .u64 (Kn x y c).1,.int .u64 (Kn x y c).2])) w:=Vs func112 (by kernel_rfl) (by kernel_rfl) (by kernel_rfl) (by kernel_rfl)
def W5:Vj prog 178=some ([(0,1),(1,1)],[.int .i64 0,.int .u64 0]):=by kernel_rfl
def bI:Vj prog 175=some ([(0,1),(1,1),(2,1)],[.int .i64 0,.int .i64 0,.int .i64 0]):=by kernel_rfl
def aB:EB prog 175=some [.int .i64 0,.int .i64 0,.int .i64 0]:=by kernel_rfl
def Sm:prog.underlying 170=some (.map 175 178):=by kernel_rfl
def qK:jY prog 175=some [1,1,1]:=by kernel_rfl
def SW:Nn prog 175 (λk:AA=>Value.agg (AA.v k).toArray):=Nn.agg (f:=AA.v) underlying175 qK (λk=>rfl) (λa b=>rfl) (λk e w=>by kernel_rfl) (λa b c=>by
 simp only[AA.v,Wq,Z0,Aa3,Ri,Abh,beq_iff_eq] at c;simp [AA.v,c]) (λa=>by simp [Instr.sameBits,AA.v,Ri.2])
def Z4:∀w,(zeroValue 178).run prog w= .ok ((λk:AI=>Value.agg #[.int .i64 (BC k.hi),.int .u64 (IntKind.wrap .u64 k.lo)]) (⟨0,0⟩:AI)) w:=λw=>by kernel_rfl
def sA:BK prog 185=true:=by kernel_rfl
def cT:∀x:AI,AI.ok x→(λk:AI=>Value.agg #[.int .i64 (BC k.hi),.int .u64 (IntKind.wrap .u64 k.lo)]) x=Value.agg (AI.v x).toArray:=λx b=>by obtain⟨h0,a⟩:=b;simp only[RI h0,SS a]
def TY:BK prog 102=true:=by kernel_rfl
def fO:BK prog 101=true:=by kernel_rfl
def oE:∀x y c:Int,IntKind.has .u64 x→IntKind.has .u64 y→(0≤c∧c≤1)→∀w,(callFunc 241 #[.int .u64 x,.int .u64 y,.int .u64 c]).run prog w= .ok (.value (.tuple #[.int .u64 (Km x y c).1,.int .u64 (Km x y c).2])) w:=Vr func241 (by kernel_rfl) (by kernel_rfl) (by kernel_rfl) (by kernel_rfl)
def rZ:BK prog 186=true:=by kernel_rfl
def QS:BK prog 103=true:=by kernel_rfl
def tB:BK prog 104=true:=by kernel_rfl
def qJ:jY prog 178=some [1,1]:=by kernel_rfl
def Ue:BK prog 28=true:=by kernel_rfl
def xL:BK prog 24=true:=by kernel_rfl
def xK:BK prog 25=true:=by kernel_rfl
def nK:BK prog 29=true:=by kernel_rfl
def Sk:prog.underlying 266=some (.pointer 269):=by kernel_rfl
def aJ:prog.underlying 348=some .unsafePointer:=by kernel_rfl
def TL:(prog.info? 269).map (·.size)=some 2:=by kernel_rfl
def qA:liesAt prog prog.depth 269 (2/prog.cellsOf 269) 0 269 1=true:=by kernel_rfl
def oJ:prog.underlying 318=some (.pointer 5):=by kernel_rfl
def zL:prog.cellsOf 5=1:=by kernel_rfl
def fI:BK prog 225=true:=by kernel_rfl
def oV:Vj prog 315=some ([(0,1),(1,1)],[.string ByteArray.empty,.bool false]):=by kernel_rfl
instance kF:Gg Tryz.prog 31 3 3:=⟨by kernel_rfl⟩
instance kE:Gg Tryz.prog 31 4 4:=⟨by kernel_rfl⟩
instance kH:Gg Tryz.prog 31 1 1:=⟨by kernel_rfl⟩
instance VF:Gg Tryz.prog 36 1 1:=⟨by kernel_rfl⟩
instance:Gg Tryz.prog 101 5 5:=⟨by kernel_rfl⟩
instance:Gg Tryz.prog 36 2 2:=⟨by kernel_rfl⟩
instance:Gg Tryz.prog 36 4 4:=⟨by kernel_rfl⟩
instance:Gg Tryz.prog 36 5 5:=⟨by kernel_rfl⟩
instance jZ:Gg Tryz.prog 36 6 6:=⟨by kernel_rfl⟩
instance:Gg Tryz.prog 160 1 11:=⟨by kernel_rfl⟩
instance:Gg Tryz.prog 60 1 1:=⟨by kernel_rfl⟩
instance:Gg Tryz.prog 106 2 2:=⟨by kernel_rfl⟩
instance:Gg Tryz.prog 117 1 1:=⟨by kernel_rfl⟩
instance:Gg Tryz.prog 106 3 3:=⟨by kernel_rfl⟩
instance:Gg Tryz.prog 232 1 1:=⟨by kernel_rfl⟩
instance:Gg Tryz.prog 160 0 0:=⟨by kernel_rfl⟩
instance eI:Gg Tryz.prog 160 2 16:=⟨by kernel_rfl⟩
instance:Gg Tryz.prog 232 0 0:=⟨by kernel_rfl⟩
instance:Gg Tryz.prog 60 2 2:=⟨by kernel_rfl⟩
instance:Gg Tryz.prog 117 6 7:=⟨by kernel_rfl⟩
instance:Gg Tryz.prog 106 1 1:=⟨by kernel_rfl⟩
instance:Gg Tryz.prog 210 0 0:=⟨by kernel_rfl⟩
instance:Gg Tryz.prog 210 1 1:=⟨by kernel_rfl⟩
instance:Gg Tryz.prog 106 0 0:=⟨by kernel_rfl⟩
instance:Gg Tryz.prog 117 7 8:=⟨by kernel_rfl⟩
instance:Gg Tryz.prog 60 4 4:=⟨by kernel_rfl⟩
instance:Gg Tryz.prog 251 0 0:=⟨by kernel_rfl⟩
instance:Gg Tryz.prog 251 1 1:=⟨by kernel_rfl⟩
instance:Gg Tryz.prog 251 2 2:=⟨by kernel_rfl⟩
instance:Gg Tryz.prog 251 3 3:=⟨by kernel_rfl⟩
instance:Gg Tryz.prog 36 3 3:=⟨by kernel_rfl⟩
instance:Gg Tryz.prog 121 2 2:=⟨by kernel_rfl⟩
instance:Gg Tryz.prog 60 0 0:=⟨by kernel_rfl⟩
instance eH:Gg Tryz.prog 160 3 23:=⟨by kernel_rfl⟩
instance yE:Gg Tryz.prog 36 0 0:=⟨by kernel_rfl⟩
instance:Gg Tryz.prog 121 0 0:=⟨by kernel_rfl⟩
instance:Gg Tryz.prog 121 1 1:=⟨by kernel_rfl⟩
instance eG:Gg Tryz.prog 160 4 24:=⟨by kernel_rfl⟩
instance:Gg Tryz.prog 117 12 13:=⟨by kernel_rfl⟩
instance:Gg Tryz.prog 117 13 14:=⟨by kernel_rfl⟩
instance:Gg Tryz.prog 117 2 2:=⟨by kernel_rfl⟩
instance:Gg Tryz.prog 60 3 3:=⟨by kernel_rfl⟩
instance:Gg Tryz.prog 243 1 1:=⟨by kernel_rfl⟩
instance:Gg Tryz.prog 243 2 2:=⟨by kernel_rfl⟩
instance:Gg Tryz.prog 243 0 0:=⟨by kernel_rfl⟩
instance:Gg Tryz.prog 243 3 3:=⟨by kernel_rfl⟩
instance:Gg Tryz.prog 101 2 2:=⟨by kernel_rfl⟩
instance:Gg Tryz.prog 117 3 3:=⟨by kernel_rfl⟩
instance:Gg Tryz.prog 117 14 15:=⟨by kernel_rfl⟩
instance:Gg Tryz.prog 117 15 16:=⟨by kernel_rfl⟩
instance:Gg Tryz.prog 137 0 0:=⟨by kernel_rfl⟩
instance:Gg Tryz.prog 137 1 1:=⟨by kernel_rfl⟩
instance:Gg Tryz.prog 117 8 9:=⟨by kernel_rfl⟩
instance:Gg Tryz.prog 117 10 11:=⟨by kernel_rfl⟩
instance:Gg Tryz.prog 117 11 12:=⟨by kernel_rfl⟩
instance:Gg Tryz.prog 117 9 10:=⟨by kernel_rfl⟩
instance:Gg Tryz.prog 117 4 4:=⟨by kernel_rfl⟩
instance:Gg Tryz.prog 117 16 17:=⟨by kernel_rfl⟩
instance:Gg Tryz.prog 259 3 3:=⟨by kernel_rfl⟩
instance:Gg Tryz.prog 259 0 0:=⟨by kernel_rfl⟩
instance:Gg Tryz.prog 259 2 2:=⟨by kernel_rfl⟩
instance:Gg Tryz.prog 160 5 25:=⟨by kernel_rfl⟩
instance:Gg Tryz.prog 259 1 1:=⟨by kernel_rfl⟩
instance:Gg Tryz.prog 101 7 7:=⟨by kernel_rfl⟩
instance:Gg Tryz.prog 101 6 6:=⟨by kernel_rfl⟩
instance:Gg Tryz.prog 101 8 8:=⟨by kernel_rfl⟩
instance:Gg Tryz.prog 101 9 9:=⟨by kernel_rfl⟩
instance:Gg Tryz.prog 101 3 3:=⟨by kernel_rfl⟩
instance:Gg Tryz.prog 74 1 1:=⟨by kernel_rfl⟩
instance:Gg Tryz.prog 74 0 0:=⟨by kernel_rfl⟩
instance:Gg Tryz.prog 74 4 4:=⟨by kernel_rfl⟩
instance PB:Gg Tryz.prog 315 1 1:=⟨by kernel_rfl⟩
instance Lp:Gg Tryz.prog 315 0 0:=⟨by kernel_rfl⟩
instance:Gg Tryz.prog 74 2 2:=⟨by kernel_rfl⟩
instance:Gg Tryz.prog 74 3 3:=⟨by kernel_rfl⟩
instance VG:Gg Tryz.prog 31 0 0:=⟨by kernel_rfl⟩
instance kG:Gg Tryz.prog 31 2 2:=⟨by kernel_rfl⟩
instance kD:Gg Tryz.prog 31 5 5:=⟨by kernel_rfl⟩
instance kC:Gg Tryz.prog 31 6 6:=⟨by kernel_rfl⟩
instance kB:Gg Tryz.prog 31 7 7:=⟨by kernel_rfl⟩
instance kA:Gg Tryz.prog 31 8 8:=⟨by kernel_rfl⟩
instance YV:Gg Tryz.prog 31 9 9:=⟨by kernel_rfl⟩
instance eF:Gg Tryz.prog 31 10 10:=⟨by kernel_rfl⟩
instance:Gg Tryz.prog 101 0 0:=⟨by kernel_rfl⟩
instance:Gg Tryz.prog 117 0 0:=⟨by kernel_rfl⟩
instance:Gg Tryz.prog 139 0 0:=⟨by kernel_rfl⟩
instance:Gg Tryz.prog 215 0 0:=⟨by kernel_rfl⟩
instance:Gg Tryz.prog 217 0 0:=⟨by kernel_rfl⟩
instance:Gg Tryz.prog 219 0 0:=⟨by kernel_rfl⟩
instance:Gg Tryz.prog 101 1 1:=⟨by kernel_rfl⟩
instance:Gg Tryz.prog 101 10 10:=⟨by kernel_rfl⟩
instance:Gg Tryz.prog 101 4 4:=⟨by kernel_rfl⟩
instance:Gg Tryz.prog 101 11 11:=⟨by kernel_rfl⟩
instance:Gg Tryz.prog 290 0 0:=⟨by kernel_rfl⟩
instance:Gg Tryz.prog 290 1 1:=⟨by kernel_rfl⟩
instance:Gg Tryz.prog 117 5 5:=⟨by kernel_rfl⟩
instance:Gg Tryz.prog 115 0 0:=⟨by kernel_rfl⟩
instance:Gg Tryz.prog 115 1 1:=⟨by kernel_rfl⟩
instance:Gg Tryz.prog 139 1 1:=⟨by kernel_rfl⟩
instance:Gg Tryz.prog 139 2 2:=⟨by kernel_rfl⟩
instance:Gg Tryz.prog 139 3 3:=⟨by kernel_rfl⟩
instance:Gg Tryz.prog 139 4 4:=⟨by kernel_rfl⟩
instance:Gg Tryz.prog 139 5 5:=⟨by kernel_rfl⟩
instance:Gg Tryz.prog 139 6 6:=⟨by kernel_rfl⟩
instance:Gg Tryz.prog 215 1 1:=⟨by kernel_rfl⟩
instance:Gg Tryz.prog 217 1 1:=⟨by kernel_rfl⟩
instance:Gg Tryz.prog 217 3 3:=⟨by kernel_rfl⟩
instance:Gg Tryz.prog 217 4 4:=⟨by kernel_rfl⟩
instance:Gg Tryz.prog 217 2 2:=⟨by kernel_rfl⟩
instance:Gg Tryz.prog 219 1 1:=⟨by kernel_rfl⟩
instance:Gg Tryz.prog 219 2 2:=⟨by kernel_rfl⟩
instance:Gg Tryz.prog 219 3 3:=⟨by kernel_rfl⟩
instance:Gg Tryz.prog 219 4 4:=⟨by kernel_rfl⟩
instance:Gg Tryz.prog 219 6 6:=⟨by kernel_rfl⟩
instance:Gg Tryz.prog 219 5 5:=⟨by kernel_rfl⟩
instance:Gg Tryz.prog 178 1 1:=⟨by kernel_rfl⟩
instance:Gg Tryz.prog 178 0 0:=⟨by kernel_rfl⟩
instance Q3:Gg Tryz.prog 269 0 0:=⟨by kernel_rfl⟩
instance Lq:Gg Tryz.prog 269 1 1:=⟨by kernel_rfl⟩
instance Md:R7 Tryz.prog 23 101 12:=⟨by kernel_rfl⟩
instance Ox:R7 Tryz.prog 24 117 18:=⟨by kernel_rfl⟩
instance mL:R7 Tryz.prog 22 9 1:=⟨by kernel_rfl⟩
instance H6:R7 Tryz.prog 32 29 1:=⟨by kernel_rfl⟩
instance Xy:R7 Tryz.prog 78 60 5:=⟨by kernel_rfl⟩
instance vK:R7 Tryz.prog 55 232 2:=⟨by kernel_rfl⟩
instance NZ:R7 Tryz.prog 34 106 4:=⟨by kernel_rfl⟩
instance vH:R7 Tryz.prog 56 210 2:=⟨by kernel_rfl⟩
instance vF:R7 Tryz.prog 58 251 4:=⟨by kernel_rfl⟩
instance Ct:R7 Tryz.prog 29 3 1:=⟨by kernel_rfl⟩
instance Ki:R7 Tryz.prog 33 121 3:=⟨by kernel_rfl⟩
instance vG:R7 Tryz.prog 57 243 4:=⟨by kernel_rfl⟩
instance M7:R7 Tryz.prog 98 137 2:=⟨by kernel_rfl⟩
instance bR:R7 Tryz.prog 304 255 1:=⟨by kernel_rfl⟩
instance QC:R7 Tryz.prog 255 259 4:=⟨by kernel_rfl⟩
instance Ow:R7 Tryz.prog 70 74 5:=⟨by kernel_rfl⟩
instance RM:R7 Tryz.prog 267 5 1:=⟨by kernel_rfl⟩
instance bV:R7 Tryz.prog 25 139 7:=⟨by kernel_rfl⟩
instance bU:R7 Tryz.prog 26 217 5:=⟨by kernel_rfl⟩
instance bT:R7 Tryz.prog 27 219 7:=⟨by kernel_rfl⟩
instance bS:R7 Tryz.prog 28 215 2:=⟨by kernel_rfl⟩
instance vE:R7 Tryz.prog 99 290 2:=⟨by kernel_rfl⟩
instance pA:R7 Tryz.prog 354 98 1:=⟨by kernel_rfl⟩
instance Sw:R7 Tryz.prog 80 36 7:=⟨by kernel_rfl⟩
instance NJ:Q7 Tryz.prog 101 12:=⟨by kernel_rfl⟩
instance Xo:Q7 Tryz.prog 31 11:=⟨by kernel_rfl⟩
instance uY:Fc (Jw Tryz.prog 23 1 false=true):=⟨by kernel_rfl⟩
instance uX:Fc (Jw Tryz.prog 24 1 false=true):=⟨by kernel_rfl⟩
instance mG:Fc (Jw Tryz.prog 22 1 false=true):=⟨by kernel_rfl⟩
instance Ho:Q7 Tryz.prog 36 7:=⟨by kernel_rfl⟩
instance Rq:Fc (Jw Tryz.prog 32 1 false=true):=⟨by kernel_rfl⟩
instance G6:Fc (Jw Tryz.prog 29 1 false=true):=⟨by kernel_rfl⟩
instance mF:Fc (Jw Tryz.prog 34 1 false=true):=⟨by kernel_rfl⟩
instance aQ:Q7 Tryz.prog 60 5:=⟨by kernel_rfl⟩
instance oT:Q7 Tryz.prog 160 26:=⟨by kernel_rfl⟩
instance:Fc (Jw Tryz.prog 55 1 false=true):=⟨by kernel_rfl⟩
instance Qf:Fc (Jw Tryz.prog 4 1 false=true):=⟨by kernel_rfl⟩
instance HA:Fc (Jw Tryz.prog 3 1 false=true):=⟨by kernel_rfl⟩
instance Hs:Q7 Tryz.prog 106 4:=⟨by kernel_rfl⟩
instance oR:Q7 Tryz.prog 232 2:=⟨by kernel_rfl⟩
instance Ou:Q7 Tryz.prog 117 18:=⟨by kernel_rfl⟩
instance:Fc (Jw Tryz.prog 56 1 false=true):=⟨by kernel_rfl⟩
instance oS:Q7 Tryz.prog 210 2:=⟨by kernel_rfl⟩
instance:Fc (Jw Tryz.prog 58 1 false=true):=⟨by kernel_rfl⟩
instance oP:Q7 Tryz.prog 251 4:=⟨by kernel_rfl⟩
instance Vx:Fc (Jw Tryz.prog 33 1 false=true):=⟨by kernel_rfl⟩
instance Ot:Q7 Tryz.prog 121 3:=⟨by kernel_rfl⟩
instance aP:Fc (Jw Tryz.prog 70 1 false=true):=⟨by kernel_rfl⟩
instance:Fc (Jw Tryz.prog 57 1 false=true):=⟨by kernel_rfl⟩
instance oQ:Q7 Tryz.prog 243 4:=⟨by kernel_rfl⟩
instance Uq:Q7 Tryz.prog 137 2:=⟨by kernel_rfl⟩
instance:Fc (Jw Tryz.prog 98 1 false=true):=⟨by kernel_rfl⟩
instance:Fc (Jw Tryz.prog 255 1 false=true):=⟨by kernel_rfl⟩
instance oO:Fc (Jw Tryz.prog 257 1 false=true):=⟨by kernel_rfl⟩
instance aR:Q7 Tryz.prog 259 4:=⟨by kernel_rfl⟩
instance Rp:Q7 Tryz.prog 74 5:=⟨by kernel_rfl⟩
instance Sn:Fc (Jw Tryz.prog 9 1 false=true):=⟨by kernel_rfl⟩
instance iN:Fc (Jw Tryz.prog 5 1 false=true):=⟨by kernel_rfl⟩
instance uW:Fc (Jw Tryz.prog 25 1 false=true):=⟨by kernel_rfl⟩
instance uV:Fc (Jw Tryz.prog 26 1 false=true):=⟨by kernel_rfl⟩
instance uU:Fc (Jw Tryz.prog 27 1 false=true):=⟨by kernel_rfl⟩
instance uT:Fc (Jw Tryz.prog 28 1 false=true):=⟨by kernel_rfl⟩
instance oM:Fc (Jw Tryz.prog 319 1 false=true):=⟨by kernel_rfl⟩
instance oK:Q7 Tryz.prog 353 2:=⟨by kernel_rfl⟩
instance aX:Q7 Tryz.prog 139 7:=⟨by kernel_rfl⟩
instance aU:Q7 Tryz.prog 215 2:=⟨by kernel_rfl⟩
instance aT:Q7 Tryz.prog 217 5:=⟨by kernel_rfl⟩
instance aS:Q7 Tryz.prog 219 7:=⟨by kernel_rfl⟩
instance:Fc (Jw Tryz.prog 99 1 false=true):=⟨by kernel_rfl⟩
instance oN:Q7 Tryz.prog 290 2:=⟨by kernel_rfl⟩
instance oL:Q7 Tryz.prog 323 3:=⟨by kernel_rfl⟩
instance aV:Fc (Jw Tryz.prog 176 1 false=true):=⟨by kernel_rfl⟩
instance So:Q7 Tryz.prog 178 2:=⟨by kernel_rfl⟩
instance aW:Q7 Tryz.prog 175 3:=⟨by kernel_rfl⟩
instance Up:Fc (Jw Tryz.prog 266 1 false=true):=⟨by kernel_rfl⟩
instance Oq:Fc (Jw Tryz.prog 267 1 false=true):=⟨by kernel_rfl⟩
instance:LA B4 0 AC (·.R):=⟨Xh⟩
instance:LA B4 1 AC (·.W):=⟨Tk⟩
instance:LA CC 2 AC (·.Ao):=⟨OT⟩
instance:LA CC 6 AC (·.Y):=⟨EW.f_Num⟩
instance:LA CC 7 AC (·.T):=⟨EW.f_Den⟩
instance:LA MB 0 (A4.sl B4) (·.Ay):=⟨Qb⟩
instance:LA MB 1 (A4.sl B4) (·.Az):=⟨Qc⟩
instance:LA B0 1 AC (·.H):=⟨BO.f_Kind⟩
instance:LA B0 3 AC (·.C):=⟨BO.f_To⟩
instance:LA B0 4 (A4.sl B4) (·.Av):=⟨K7⟩
instance:LA B0 5 MB (·.Ah):=⟨K8⟩
instance:LA B0 7 AC (·.U):=⟨Fp⟩
instance:LA B0 8 AC (·.Ad):=⟨KO⟩
instance:LA B0 9 AC (·.Ba):=⟨OJ⟩
instance:LA B0 10 AC (·.Bb):=⟨NS⟩
instance:LA B0 11 AC (·.Y):=⟨BO.f_Num⟩
instance:LA B0 12 AC (·.T):=⟨BO.f_Den⟩
instance:LA B0 13 AC (·.Aw):=⟨P6⟩
instance:LA B0 14 AC (·.Ax):=⟨P7⟩
instance:LA B0 15 AC (·.Ar):=⟨JQ⟩
instance:LA B0 16 AC (·.An):=⟨JR⟩
instance:LA BV 0 A4.str (·.J):=⟨AF.f_Name⟩
instance:LA BV 1 (A4.sl A4.str) (·.F):=⟨Hn⟩
instance:LA BV 2 AC (·.P):=⟨M2⟩
instance:LA BV 3 (A4.sl CC) (·.A):=⟨B5⟩
instance:LA BV 4 (A4.sl B0) (·.G):=⟨Gv⟩
instance:LA BV 5 (A4.sl Hb) (·.Ac):=⟨Ju⟩
instance:LA BV 6 (A4.sl Er) (·.Af):=⟨KU⟩
instance:LA BV 7 (A4.sl G4) (·.Ag):=⟨K9⟩
instance:LA BV 8 (A4.sl DI) (·.Aj):=⟨Jd⟩
instance:LA BV 9 (A4.sl AC) (·.Al):=⟨AF.f_Room⟩
instance:LA BV 10 AC (·.Q):=⟨AF.f_Err⟩
instance:LA AS 0 AC (·.Z):=⟨Tl⟩
instance:LA AS 1 AC (·.C):=⟨AM.f_To⟩
instance:LA AS 2 (A4.sl AC) (·.K):=⟨AM.f_Part⟩
instance:LA BL 0 AC (·.V):=⟨R8⟩
instance:LA BL 3 A4.bool (·.Am):=⟨Ve⟩
instance:LA A7 0 AC (·.B):=⟨AE.f_Hour⟩
instance:LA A7 1 (A4.sl (A4.sl AC)) (·.D):=⟨GH⟩
instance:LA A7 2 (A4.sl AC) (·.M):=⟨J5⟩
instance:LA A7 3 (A4.sl AS) (·.E):=⟨Gu⟩
instance:LA A7 4 (A4.sl BL) (·.O):=⟨I5⟩
instance:LA A7 5 (A4.sl AC) (·.N):=⟨I8⟩
instance:LA A7 6 (A4.sl AC) (·.L):=⟨HR⟩
instance:LA Gs 1 AC (·.Bg):=⟨P5⟩
instance:LA Gs 2 AC (·.Bc):=⟨Hi.f_Litres⟩
instance:LA Ge 4 (A4.sl HJ) (·.Ae):=⟨Tm⟩
instance:LA BD 1 AC (·.I):=⟨AJ.f_From⟩
instance:LA BD 2 AC (·.C):=⟨AJ.f_To⟩
instance:LA BD 4 (A4.sl AC) (·.K):=⟨AJ.f_Part⟩
instance:LA A3 0 AC (·.to_):=⟨LV⟩
instance:LA A3 1 AC (·.delay):=⟨M0⟩
instance:LA A3 2 AC (·.way):=⟨No⟩
instance:LA A3 3 (A4.fnr Tryz.prog (λS h vs (x:(List Int))=>∃w0:Value,vs=[w0]∧Sl S h AC w0 x) (λS h v (y:((List Int)×(List Int)))=>∃w0 w1:Value,v= .tuple #[w0,w1]∧Sl S h AC w0 y.1∧Sl S h AC w1 y.2)) (·.take):=⟨NH⟩
instance:LA FD 0 A4.str (·.rest_):=⟨L0⟩
instance:LA FD 1 A4.bool (·.bad):=⟨Mz⟩
instance:LA Hm 0 AC (·.hi):=⟨Tj⟩
instance:LA Hm 1 (A4.intk .u64) (·.lo):=⟨M1⟩
end Go.Proofs.YtedgiljmffngoaaGreat
