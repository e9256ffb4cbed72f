import Derived.Test.YtabonambpbofgaaGreatMCore31
import Derived.Test.YtabonambpbofgaaGreatMCore26
import Derived.Lib.AppendStr
import Derived.Lib.UnsafeStr
import Derived.Lib.Builder
import Derived.Laws.Strings3
import Derived.Laws.BytesArg
import Derived.Laws.Externs
namespace Go.Proofs.YtabonambpbofgaaGreat
set_option linter.all false
open Go.RowKit
def yN (d:Nat):Nat→List Oper→Option (Nat×Nat)
 |_,[]=>none
 |j,o::r=>match o.op with
  | .pick (.tmp x) _ _=>cond (Nat.beq x d) (match o.dst with|some t=>some (j+1,t)|none=>none) (yN d (j+1) r)
  |_=>yN d (j+1) r
def xU (ops:Array Oper) (l:List Oper):Option (Nat×Nat×Nat×Bool):=match l with
 |[]=>none
 |o::_=>match o.guard with
  |none=>none
  |some (g,b)=>match (ops[g]?).bind (·.dst) with
   |none=>none
   |some d=>match yN d 0 l with
    |none=>none
    |some (j,t)=>some (j,t,d,b)
def fV (m1 m:SM):Bool:=(m1.take (m1.length-(m.length+1))).all λp=> !(m.any λq=>Nat.beq p.1 q.1)
def bZ:∀{m:SM}{i:Nat}{u:Value},lk m i=some u→(m.any λq=>Nat.beq i q.1)=true
 |(j,v)::r,i,u,h=>by
  rw[List.any_cons];simp only[lk] at h;cases e:Nat.beq j i with
  |true=>
   have:=Aa2 e;subst this;rw[show Nat.beq j j=true by simp,Bool.true_or]
  |false=>
   rw[e,Aar] at h;rw[bZ h,Bool.or_true]
def bX:∀{m:SM}{i:Nat},(∀p∈m,Nat.beq p.1 i=false)→lk m i=none
 |[],_,_=>rfl
 |(j,v)::r,i,h=>by
  simp only[lk];rw[h (j,v) Abf,Aar];exact bX λp a=>h p (Abs _ a)
def lY {n:FN}{a:Act}{m m1:SM}{d t:Nat}{b:Bool}{v:Value}(g:Fr n a m1) (l:lk m1 t=some v) (j:fV m1 m=true) (o:m1.drop (m1.length-(m.length+1))=(d,.bool b)::m) (hd:lk m d=some (.bool b)):Fr n a ((t,v)::m):=by
 refine⟨g.dfr,g.siz,λi u c=>?_⟩;simp only[lk] at c;cases e:Nat.beq t i with
 |true=>
  rw[e,Aaq] at c;cases c;have:=Aa2 e;subst this;exact g.at_ _ _ l
 |false=>
  rw[e,Aar] at c;refine g.at_ _ _ ?_;rw[←List.take_append_drop (m1.length-(m.length+1)) m1,o,MW];have q:lk (m1.take (m1.length-(m.length+1))) i=none:=bX λp s=>by
   unfold fV at j;rw[Aa0] at j;have:=j p s;cases k:Nat.beq p.1 i with
   |false=>rfl
   |true=>
    have w:=Aa2 k;rw[w,bZ c] at this;cases this
  rw[q,Option.none_or];simp only[lk];cases k:Nat.beq d i with
  |true=>
   have:=Aa2 k;subst this;rw[hd] at c;exact c
  |false=>exact c
def PS (n:FN) (m:SM) (d:Nat) (b:Bool) (t:Nat) (v:Bool) (a:Act):Prop:=∃m1,Fr n a m1∧lk m1 t=some (.bool v)∧fV m1 m=true∧m1.drop (m1.length-(m.length+1))=(d,.bool b)::m
section
variable {P:Program}{ops:Array Oper}{C:World→Prop}{Q:Act→Prop}{n:FN}{m m1 m2:SM}{l:List Oper}
def sN {d t:Nat}{b v:Bool}(c:lk m1 t=some (.bool v)) (g:fV m1 m=true) (i:m1.drop (m1.length-(m.length+1))=(d,.bool b)::m):QF P ops C (PS n m d b t v) [] n m1:=QF.nil λa j=>⟨m1,j,c,g,i⟩
def Fr.lit {n:FN}{a:Act}{m:SM}{d:Nat}{v:Value}(c:Fr n a m) (h:lk m d=some v):Fr n a ((d,v)::m):=⟨c.dfr,c.siz,λi u b=>by
 simp only[lk] at b;cases e:Nat.beq d i with
 |true=>
  have:=Aa2 e;subst this;rw[e,Aaq] at b;cases b;exact c.at_ _ _ h
 |false=>
  rw[e,Aar] at b;exact c.at_ _ _ b⟩
def fD {c v:Bool}(b:Bool) {j t d:Nat}(k:lk m d=some (.bool c)) (q:QF P ops C (PS n m d b t v) (l.take j) n ((d,.bool b)::m))
  (s:Qv ops n.1 (l.take j) ((d,.bool (!b))::m)=some m2) (u:lk m2 t=some (.bool (!b))) (w:fV m2 m=true) (hd:m2.drop (m2.length-(m.length+1))=(d,.bool (!b))::m) (p:QF P ops C Q (l.drop j) n ((t,.bool (cond b (c&&v) (c||v)))::m)):QF P ops C Q l n m:=by
 by_cases e:c=b
 ·subst e;intro a o;refine Tq j (PS n m d c t v) (q a (o.lit k)) λi ⟨m1,x,y,z,A⟩=>p i ?_;have:=lY x y z A k;cases c<;>exact this
 ·have e:c= !b:=by cases c<;>cases b<;>first|rfl|exact absurd rfl e
  subst e;intro a o;refine Tq j (λi=>Fr n i m2) (Nu s (QF.nil λi g=>g) a (o.lit k)) λi g=>p i ?_;have:=lY g u w hd k;cases b<;>exact this
def sO {c v:Bool}{j t d:Nat}(e:xU ops l=some (j,t,d,true)) (a:lk m d=some (.bool c)) (b:QF P ops C (PS n m d true t v) (l.take j) n ((d,.bool true)::m))
  (g:Qv ops n.1 (l.take j) ((d,.bool false)::m)=some m2) (i:lk m2 t=some (.bool false)) (k:fV m2 m=true) (hd:m2.drop (m2.length-(m.length+1))=(d,.bool false)::m) (o:QF P ops C Q (l.drop j) n ((t,.bool (c&&v))::m)):QF P ops C Q l n m:=fD true a b g i k hd o
def sM {c v:Bool}{j t d:Nat}(e:xU ops l=some (j,t,d,false)) (a:lk m d=some (.bool c)) (b:QF P ops C (PS n m d false t v) (l.take j) n ((d,.bool false)::m))
  (g:Qv ops n.1 (l.take j) ((d,.bool true)::m)=some m2) (i:lk m2 t=some (.bool true)) (k:fV m2 m=true) (hd:m2.drop (m2.length-(m.length+1))=(d,.bool true)::m) (o:QF P ops C Q (l.drop j) n ((t,.bool (c||v))::m)):QF P ops C Q l n m:=fD false a b g i k hd o
def sP {b:List (Nat×AP)}{R N:AP}{cs:List Code}{B:World}{h:AO}(k:WF P b R cs N B h n m):QF P ops C (λa=>∀w,Wd B h w→W P b R cs N a w) [] n m:=λa c w d=>k a w c d
def tB {b:List (Nat×AP)}{R N:AP}{cs:List Code}{B:World}{h:AO}(k:WF P b R cs N B h n m):LF P ops (Qx b R (W P b R cs N)) [] B h n m:=λa w c d=>lV (k a w c d)
end
def xV:IntKind→Nat
 | .i8=>0| .i16=>1| .i32=>2| .i64=>3| .u8=>4| .u16=>5| .u32=>6| .u64=>7
def pI {a b:IntKind}(h:Nat.beq (xV a) (xV b)=true):a=b:=by cases a<;>cases b<;>first|rfl|cases h
def binI (o:BinOp) (k:IntKind) (x y:Int):Option Value:=match o with
 | .lss=>some (.bool (decide (x<y)))
 | .leq=>some (.bool (decide (x≤y)))
 | .gtr=>some (.bool (decide (y<x)))
 | .geq=>some (.bool (decide (y≤x)))
 | .eql=>some (.bool (decide (x=y)))
 | .neq=>some (.bool (decide (x≠y)))
 | .add=>some (.int k (k.wrap (x+y)))
 | .sub=>some (.int k (k.wrap (x-y)))
 | .mul=>some (.int k (k.wrap (x*y)))
 | .and=>some (.int k (JA .and k x y))
 |_=>none
def yV (a:Op) (m:SM):Option Value:=match a with
 | .move X=>Bz m X
 | .assign X=>Bz m X
 | .pick c x y=>match Bz m c with
  |some (.bool true)=>Bz m x
  |some (.bool false)=>Bz m y
  |_=>none
 | .extract X i=>match Bz m X with
  |some (.tuple xs)=>xs[i]?
  |_=>none
 | .nilCheck X=>match Bz m X with
  |some (.pointer (some d))=>some (.pointer (some d))
  |_=>none
 | .unOp .not _ X=>match Bz m X with
  |some (.bool b)=>some (.bool (!b))
  |_=>none
 | .binOp o _ X Y _=>match Bz m X with
  |some (.int k x)=>match Bz m Y with
   |some (.int g y)=>cond (Nat.beq (xV k) (xV g)) (binI o k x y) none
   |_=>none
  |_=>none
 |_=>none
section
variable {P:Program}{ops:Array Oper}{C:World→Prop}{Q:Act→Prop}{n:FN}{m:SM}{rest:List Oper}
def kJ {d:Nat}{ty:TypeId}{pos:String}{af:Array Edge}{o:BinOp}{t1 t2:TypeId}{X Y:Operand}{k:IntKind}{x y:Int}{v:Value}(a:Bz m X=some (.int k x)) (b:Bz m Y=some (.int k y)) (hd:Nat.blt d n.1=true) (e:Go.Proofs.YtabonambpbofgaaGreat.binI o k x y=some v) (c:QF P ops C Q rest n ((d,v)::m)):QF P ops C Q (⟨some d,.binOp o t1 X Y t2,ty,pos,af,none⟩::rest) n m:=by
 cases o<;>cases e
 ·exact kM a b hd c
 ·exact jT a b hd c
 ·exact jY a b hd c
 ·exact kK a b hd c
 ·exact fL a b hd c
 ·exact fF a b hd c
 ·exact fG a b hd c
 ·exact sS a b hd c
 ·exact fI a b hd c
 ·exact fJ a b hd c
def sQ {d:Nat}{a:Op}{ty:TypeId}{pos:String}{af:Array Edge}{v:Value}(e:yV a m=some v) (hd:Nat.blt d n.1=true) (k:QF P ops C Q rest n ((d,v)::m)):QF P ops C Q (⟨some d,a,ty,pos,af,none⟩::rest) n m:=by
 unfold yV at e;split at e
 ·exact mT e hd k
 ·exact fM e hd k
 ·split at e
  ·rename_i h;exact Ql h e hd k
  ·rename_i h;exact Ql h e hd k
  ·cases e
 ·split at e
  ·rename_i h;exact fK h e hd k
  ·cases e
 ·split at e
  ·rename_i h;cases e;exact JC h hd k
  ·cases e
 ·split at e
  ·rename_i h;cases e;exact fE h hd k
  ·cases e
 ·split at e
  ·rename_i b;split at e
   ·rename_i c;obtain⟨g,i⟩:=NX e;have:=pI g;subst this;exact kJ b c hd i k
   ·cases e
  ·cases e
 ·cases e
end
structure QJ (P:Program) (ops:Array Oper) (C:World→Prop) (Q:Act→Prop) (l:List Oper) (n:FN) (m:SM):Prop where out:QF P ops C Q l n m
structure LJ (P:Program) (ops:Array Oper) (Q:Exit→Act→World→Prop) (l:List Oper) (B:World) (h:AO) (n:FN) (m:SM):Prop where out:LF P ops Q l B h n m
structure WJ (P:Program) (ex:List (Nat×AP)) (R:AP) (cs:List Code) (N:AP) (B:World) (h:AO) (n:FN) (m:SM):Prop where out:WF P ex R cs N B h n m
def padd:Value→Nat→Value
 | .pointer (some a),k=> .pointer (some (a.add k))
 |v,_=>v
def Mv.fl {α β A S h}{r:A5 α}{r':A5 β}{o f p x}(k:Mv A S h r p x) (b:Fd r o r' f):Mv A S h r' (padd p o) (f x):=by
 obtain⟨a,rfl,c⟩:=k.fld b;exact c
def Mv.i {A S h p}{x:Int}(k:Mv A S h AB p x):AA x:=by
 obtain⟨cs,_,_,h⟩:=k;exact h
def Sl.le {α S h}{r:A5 α}{v}{l:List α}(k:Sl S h r v l):l.length≤maxLen:=by
 obtain⟨_,_,_,h⟩:=k.len;exact h
def UE (h:AO) (p:Value) (j:Nat):Value:=match p with
 | .pointer (some a)=>(JN h ⟨a.block,a.off+j,none⟩).getD undef
 |_=>undef
def Nc.at_ {A h p cs}(k:Nc A h p cs) {j:Nat}(b:j<cs.length):cs[j]? =some (UE h p j):=by
 obtain⟨a,rfl,_,_,c⟩:=k;have:=c j b;show cs[j]? =some ((JN h ⟨a.block,a.off+j,none⟩).getD undef)
 rw[this,Aa1 b];rfl
def Nc.map {A h p cs}(k:Nc A h p cs):(List.range cs.length).map (UE h p)=cs:=by
 apply Abw;intro j;rw[Acd];by_cases a:j<cs.length
 ·rw[k.at_ a,Adw a];rfl
 ·rw[Abj (by simpa using a),Abj (by simpa using a)];rfl
def jK (h:AO) (p:Value) (n:Nat):Value:= .agg ((List.range n).map (UE h p)).toArray
 class Fc (p:Prop):Prop where out:p
 class Gk (P:Program) (t j:Nat) (off:outParam Nat):Prop where out:Zc P t j off=true
 class TF (P:Program) (t:Nat) (e sz:outParam Nat):Prop where out:OT P t e sz=true
 class KM {α:Type} (r:A5 α) (o:Nat) {β:outParam Type} (r':outParam (A5 β)) (f:outParam (α→β)):Prop where out:Fd r o r' f
 class fX (C:World→Prop) (h:outParam AO):Prop where out:CK C h
instance {B:World}{h:AO}:fX (Wd B h) h:=⟨Hi⟩
instance {B:World}{h:AO}:fX (Cl B h) h:=⟨PT⟩
 class Re (P:Program) (t:Nat) (sz:outParam Nat):Prop where out:KQ P t sz true=true
structure Vl (A:Nat→Prop) (h:AO) (ag:Bool) (sz:Nat) (p v:Value):Prop where out:∃cs,Nc A h p cs∧cs.length=sz∧v=if ag then .agg cs.toArray else cs.headD undef
def Mv.lv {α A S h}{r:A5 α}{p x}(k:Mv A S h r p x):∃v,Vl A h r.ag r.sz p v∧Rd S h r v x:=by
 obtain⟨cs,b,a⟩:=k;exact⟨_,⟨cs,b,r.len a,rfl⟩,cs,rfl,a⟩
def Mv.ll {α A S h}{r:A5 α}{p x}(k:Mv A S h r.sl p x):∃v,Vl A h false 1 p v∧Sl S h r v x:=by
 obtain⟨v,a,b⟩:=k.lv;exact⟨v,a,b.sl⟩
def Mv.sz {A S h p}{x:ByteArray}(k:Mv A S h A5.str p x):x.size≤maxLen:=by
 obtain⟨cs,_,_,h⟩:=k;exact h
def qB (o:Oper):Bool:=match o.op with
 | .move _| .assign _| .pick _ _ _| .build _ _| .load _ _| .nilCheck _| .binOp _ _ _ _ _| .unOp _ _ _| .convert _ _ _| .makeFunc _ _ _| .fieldAddr _ _ _| .field _ _ _| .indexAddr _ _ _| .index _ _ _| .extract _ _=>true
 | .call ⟨.builtin .len,_,_⟩| .call ⟨.builtin .min,_,_⟩| .call ⟨.builtin .max,_,_⟩=>true
 |_=>false
def fB (o:Oper):Bool:=match o.op with
 | .call ⟨.value _,_,_⟩=>true
 |_=>false
def qN:List Oper→Nat
 |[]=>0
 |o::r=>cond (qB o) (qN r+1) 0
section
variable {P:Program}{ops:Array Oper}{Q:Act→Prop}{n:FN}{m m1 m2:SM}{rest l:List Oper}{B:World}{S:Nat→Prop}{L:List HP}{h:AO}
variable {d:Nat}{ty:TypeId}{pos:String}{af:Array Edge}{X Y:Operand}{t t1:TypeId}{v p:Value}
def mS {C}{a:Op}(e:(yV a m,Nat.blt d n.1)=(some v,true)) (k:QJ P ops C Q rest n ((d,v)::m)):QJ P ops C Q (⟨some d,a,ty,pos,af,none⟩::rest) n m:=
 ⟨sQ (Aau (λz=>z.1) e) (Aau (λz=>z.2) e) k.1⟩
def xG {C}{a:Op}{j e:Nat}{b:Bool}(q:((ops[j]?).bind (·.dst),lk m e)=(some e,some (.bool b))) (k:QJ P ops C Q (⟨some d,a,ty,pos,af,none⟩::rest) n m):QJ P ops C Q (⟨some d,a,ty,pos,af,some (j,b)⟩::rest) n m:=
 ⟨Yd rfl (Aau (λz=>z.1) q) (Aau (λz=>z.2) q) k.1⟩
def QJ.scA {C}{c v:Bool}{j t d:Nat}(e:xU ops l=some (j,t,d,true)) (a:lk m d=some (.bool c)) (b:QJ P ops C (PS n m d true t v) (l.take j) n ((d,.bool true)::m))
  (g:Qv ops n.1 (l.take j) ((d,.bool false)::m)=some m2) (i:lk m2 t=some (.bool false)) (k:fV m2 m=true) (hd:m2.drop (m2.length-(m.length+1))=(d,.bool false)::m) (o:QJ P ops C Q (l.drop j) n ((t,.bool (c&&v))::m)):QJ P ops C Q l n m:=⟨sO e a b.1 g i k hd o.1⟩
def QJ.scO {C}{c v:Bool}{j t d:Nat}(e:xU ops l=some (j,t,d,false)) (a:lk m d=some (.bool c)) (b:QJ P ops C (PS n m d false t v) (l.take j) n ((d,.bool false)::m))
  (g:Qv ops n.1 (l.take j) ((d,.bool true)::m)=some m2) (i:lk m2 t=some (.bool true)) (k:fV m2 m=true) (hd:m2.drop (m2.length-(m.length+1))=(d,.bool true)::m) (o:QJ P ops C Q (l.drop j) n ((t,.bool (c||v))::m)):QJ P ops C Q l n m:=⟨sM e a b.1 g i k hd o.1⟩
def QJ.scE {C}{d t:Nat}{b v:Bool}(a:lk m1 t=some (.bool v)) (c:fV m1 m=true) (g:m1.drop (m1.length-(m.length+1))=(d,.bool b)::m):QJ P ops C (PS n m d b t v) [] n m1:=⟨sN a c g⟩
def QJ.rp {C}{b:List (Nat×AP)}{R N:AP}{cs:List Code}(k:WJ P b R cs N B h n m):QJ P ops C (λa=>∀w,Wd B h w→W P b R cs N a w) [] n m:=⟨sP k.1⟩
def QJ.ln {C}{Q:Exit→Act→World→Prop}(k:LJ P ops Q l B h n m):QJ P ops C (λa=>∀w,Wd B h w→wpList P ops Q l a w) [] n m:=⟨AE k.1⟩
def QJ.fao {C}{b o j off}[ht:Gk P t j off] (e:(Bz m X,Nat.blt d n.1)=(some (.pointer (some ⟨b,o,none⟩)),true)) (k:QJ P ops C Q rest n ((d,.pointer (some ⟨b,o+off,none⟩))::m)):QJ P ops C Q (⟨some d,.fieldAddr t X j,ty,pos,af,none⟩::rest) n m:=
 ⟨GM (Aau (λz=>z.1) e) ht.out (Aau (λz=>z.2) e) k.1⟩
def sY {C}{α}{A:Nat→Prop}{r:A5 α}{x j off}(c:Bz m X=some p) (k0:Mv A S h r p x) (g:Zc P t j off=true) (hd:Nat.blt d n.1=true) (k:QF P ops C Q rest n ((d,padd p off)::m)):QF P ops C Q (⟨some d,.fieldAddr t X j,ty,pos,af,none⟩::rest) n m:=λa b=>by
 obtain⟨cs,⟨i,rfl,_⟩,_⟩:=k0;exact Fu b hd (λw _=>by simp [execOp,b.eval c,Lr g,padd]) k
def QJ.fax {C}{α}{A:Nat→Prop}{r:A5 α}{x j off}(e:(Bz m X,Nat.blt d n.1)=(some p,true)) (k0:Mv A S h r p x) [ht:Gk P t j off] (k:QJ P ops C Q rest n ((d,padd p off)::m)):QJ P ops C Q (⟨some d,.fieldAddr t X j,ty,pos,af,none⟩::rest) n m:=
 ⟨sY (Aau (λz=>z.1) e) k0 ht.out (Aau (λz=>z.2) e) k.1⟩
def QJ.ld1 {T b o:Nat}{cs:List Value}(a:St S L h) (e:(Bz m X,Nat.blt d n.1)=(some (.pointer (some ⟨b,o,none⟩)),true)) (c:Bx b T cs∈L) (g:cs[o]? =some v) [ht:Fc (KQ P t 1 false=true)] (k:QJ P ops (Wd B h) Q rest n ((d,v)::m)):QJ P ops (Wd B h) Q (⟨some d,.load t X,ty,pos,af,none⟩::rest) n m:=
 ⟨TI Hi a (Aau (λz=>z.1) e) c g ht.out (Aau (λz=>z.2) e) k.1⟩
def Ya {T b o:Nat}{cs:List Value}(a:St S L h) (e:(Bz m X,Nat.blt d n.1)=(some (.pointer (some ⟨b,o,none⟩)),true)) (c:Bx b T cs∈L) (g:cs[o]? =some v) [ht:Fc (KQ P t 1 false=true)] (k:QJ P ops (Cl B h) Q rest n ((d,v)::m)):QJ P ops (Cl B h) Q (⟨some d,.load t X,ty,pos,af,none⟩::rest) n m:=
 ⟨TI PT a (Aau (λz=>z.1) e) c g ht.out (Aau (λz=>z.2) e) k.1⟩
def QJ.ldi {x:Int}(a:St S L h) (e:(Bz m X,Nat.blt d n.1)=(some p,true)) (k0:Pt S h AB p x) [ht:Fc (KQ P t 1 false=true)] (k:QJ P ops (Wd B h) Q rest n ((d,.int .i64 x)::m)):QJ P ops (Wd B h) Q (⟨some d,.load t X,ty,pos,af,none⟩::rest) n m:=
 ⟨Ez Hi a.1 (Aau (λz=>z.1) e) k0 ht.out (Aau (λz=>z.2) e) λ_=>k.1⟩
def QJ.len {C}{α}{S:Nat→Prop}{h:AO}{r:A5 α}{x:List α}{aty e sz}(q:(Bz m X,Nat.blt d n.1)=(some v,true)) (k0:Sl S h r v x) [ht:TF P t e sz] (a:r.sz=sz) (k:QJ P ops C Q rest n ((d,.int .i64 x.length)::m)):QJ P ops C Q (⟨some d,.call ⟨.builtin .len,#[X],#[t]⟩,aty,pos,af,none⟩::rest) n m:=
 ⟨Ji (Aau (λz=>z.1) q) k0 (by rw[a];exact ht.out) (Aau (λz=>z.2) q) λ_=>k.1⟩
def fC {C}{α β}{A S:Nat→Prop}{r:A5 α}{r':A5 β}{f:α→β}{x j off}(e:(Bz m X,Nat.blt d n.1)=(some p,true)) (k0:Mv A S h r p x) [ht:Gk P t j off] [hf:KM r off r' f] (k:Mv A S h r' (padd p off) (f x)→QJ P ops C Q rest n ((d,padd p off)::m)):QJ P ops C Q (⟨some d,.fieldAddr t X j,ty,pos,af,none⟩::rest) n m:=QJ.fax e k0 (k (k0.fl hf.out))
def U1 {C ag sz}(b:St S L h) (e:(Bz m X,Nat.blt d n.1)=(some p,true)) (k0:Vl S h ag sz p v) [ck:fX C h] (c:KQ P t sz ag=true) (g:(ag||Nat.beq sz 1)=true) (k:QJ P ops C Q rest n ((d,v)::m)):QJ P ops C Q (⟨some d,.load t X,ty,pos,af,none⟩::rest) n m:=by
 obtain⟨cs,i,j,rfl⟩:=k0.out;refine⟨λa l=>lR ck.out b.1 l (Aau (λz=>z.1) e) i j c (λh=>?_) (Aau (λz=>z.2) e) k.1⟩;subst h;exact Aa2 g
def YY {C}{x:Int}(a:St S L h) (e:(Bz m X,Nat.blt d n.1)=(some p,true)) (k0:Pt S h AB p x) [ck:fX C h] [ht:Fc (KQ P t 1 false=true)] (k:QJ P ops C Q rest n ((d,.int .i64 x)::m)):QJ P ops C Q (⟨some d,.load t X,ty,pos,af,none⟩::rest) n m:=
 ⟨Ez ck.out a.1 (Aau (λz=>z.1) e) k0 ht.out (Aau (λz=>z.2) e) λ_=>k.1⟩
def YZ {C}{x:Bool}(a:St S L h) (e:(Bz m X,Nat.blt d n.1)=(some p,true)) (k0:Pt S h A5.bool p x) [ck:fX C h] [ht:Fc (KQ P t 1 false=true)] (k:QJ P ops C Q rest n ((d,.bool x)::m)):QJ P ops C Q (⟨some d,.load t X,ty,pos,af,none⟩::rest) n m:=
 ⟨sT ck.out a.1 (Aau (λz=>z.1) e) k0 ht.out (Aau (λz=>z.2) e) k.1⟩
def YS {C}{x:ByteArray}(a:St S L h) (e:(Bz m X,Nat.blt d n.1)=(some p,true)) (k0:Pt S h A5.str p x) [ck:fX C h] [ht:Fc (KQ P t 1 false=true)] (k:QJ P ops C Q rest n ((d,.string x)::m)):QJ P ops C Q (⟨some d,.load t X,ty,pos,af,none⟩::rest) n m:=
 ⟨U5 ck.out a.1 (Aau (λz=>z.1) e) k0 ht.out (Aau (λz=>z.2) e) λ_=>k.1⟩
def YW {C}{α}{r:A5 α}{x}(b:St S L h) (e:(Bz m X,Nat.blt d n.1)=(some p,true)) (k0:Pt S h r.sl p x) [ck:fX C h] [ht:Fc (KQ P t 1 false=true)] (k:Sl S h r (UE h p 0) x→QJ P ops C Q rest n ((d,UE h p 0)::m)):QJ P ops C Q (⟨some d,.load t X,ty,pos,af,none⟩::rest) n m:=by
 obtain⟨cs,a,v,rfl,c⟩:=k0;have g:v=UE h p 0:=by have:=a.at_ (j:=0) (by simp);simpa using this
 subst g;exact U1 (ag:=false) (sz:=1) b e ⟨_,a,rfl,rfl⟩ ht.out rfl (k c)
def YT {C}{α}{r:A5 α}{x sz}(j:St S L h) (e:(Bz m X,Nat.blt d n.1)=(some p,true)) (k0:Pt S h r p x) [ck:fX C h] [ht:Re P t sz] (a:(r.sz,r.ag)=(sz,true)) (k:Rd S h r (jK h p sz) x→QJ P ops C Q rest n ((d,jK h p sz)::m)):QJ P ops C Q (⟨some d,.load t X,ty,pos,af,none⟩::rest) n m:=by
 obtain⟨cs,b,c⟩:=k0;have l:r.sz=sz:=Aau (λz=>z.1) a;have o:r.ag=true:=Aau (λz=>z.2) a;have g:cs.length=sz:=by rw[←l];exact r.len c
 have i:jK h p sz= .agg cs.toArray:=by unfold jK;rw[←g,b.map]
 exact U1 (ag:=true) (sz:=sz) j e ⟨cs,b,g,by rw[i];rfl⟩ ht.out rfl (k ⟨cs,by rw[i];unfold A5.val;rw[o];rfl,c⟩)
def YV {C}{T b sz:Nat}{cs:List Value}(c:St S L h) (e:(Bz m X,Nat.blt d n.1)=(some (.pointer (some ⟨b,0,none⟩)),true)) (g:Bx b T cs∈L) [ck:fX C h] [ht:Re P t sz] (a:Nat.beq cs.length sz=true) (k:QJ P ops C Q rest n ((d,.agg cs.toArray)::m)):QJ P ops C Q (⟨some d,.load t X,ty,pos,af,none⟩::rest) n m:=
 ⟨Fb ck.out c (Aau (λz=>z.1) e) g (by rw[List.drop_zero,←Aa2 a,Abu]) a ht.out rfl (Aau (λz=>z.2) e) k.1⟩
def YU {C}{T b o sz:Nat}{cs:List Value}(a:St S L h) (e:(Bz m X,Nat.blt d n.1)=(some (.pointer (some ⟨b,o,none⟩)),true)) (c:Bx b T cs∈L) [ck:fX C h] [ht:Re P t sz] (g:Nat.ble (o+sz) cs.length=true) (k:QJ P ops C Q rest n ((d,.agg ((cs.drop o).take sz).toArray)::m)):QJ P ops C Q (⟨some d,.load t X,ty,pos,af,none⟩::rest) n m:=
 ⟨Fb ck.out a (Aau (λz=>z.1) e) c rfl (by have:=Adt g;simp;omega) ht.out rfl (Aau (λz=>z.2) e) k.1⟩
def QJ.leno {C}{α}{r:A5 α}{l:List α}{T aty e sz}(a:St S L h) (q:(Bz m X,Nat.blt d n.1)=(some v,true)) (b:OS r T v l∈L) [ht:TF P t e sz] (k:QJ P ops C Q rest n ((d,.int .i64 l.length)::m)):QJ P ops C Q (⟨some d,.call ⟨.builtin .len,#[X],#[t]⟩,aty,pos,af,none⟩::rest) n m:=
 ⟨R9 a b (Aau (λz=>z.1) q) ht.out (Aau (λz=>z.2) q) λ_=>k.1⟩
def QJ.lens {C}{s:ByteArray}{aty}(q:(Bz m X,Nat.blt d n.1)=(some (.string s),true)) [ht:Fc (P.underlying t=some .string)] (k:QJ P ops C Q rest n ((d,.int .i64 s.size)::m)):QJ P ops C Q (⟨some d,.call ⟨.builtin .len,#[X],#[t]⟩,aty,pos,af,none⟩::rest) n m:=
 ⟨PK (Aau (λz=>z.1) q) ht.out (Aau (λz=>z.2) q) k.1⟩
def LJ.q {Q:Exit→Act→World→Prop}{o:Oper}(e:qB o=true) (k:QJ P ops (Wd B h) (λa=>∀w,Wd B h w→wpList P ops Q ((o::l).drop (qN (o::l))) a w) ((o::l).take (qN (o::l))) n m):LJ P ops Q (o::l) B h n m:=⟨AI _ k.1⟩
def LJ.nil {a:List (Nat×AP)}{R N:AP}{cs:List Code}(k:WJ P a R cs N B h n m):LJ P ops (Qx a R (W P a R cs N)) [] B h n m:=⟨tB k.1⟩
def WJ.seq {a:List (Nat×AP)}{R N:AP}{cs:List Code}{x y:Code}(k:WJ P a R (x::y::cs) N B h n m):WJ P a R (.seq x y::cs) N B h n m:=⟨CO k.1⟩
def WJ.skip {a:List (Nat×AP)}{R N:AP}{cs:List Code}(k:WJ P a R cs N B h n m):WJ P a R (.skip::cs) N B h n m:=⟨D7 k.1⟩
def WJ.rp {b:List (Nat×AP)}{R N:AP}{cs:List Code}{id:Nat}(e:l.all qB=true) (k:QJ P l.toArray (Wd B h) (λa=>∀w,Wd B h w→W P b R cs N a w) l n m):WJ P b R (.region id l.toArray false::cs) N B h n m:=⟨H7 (.inl rfl) k.1⟩
def WJ.rl {a:List (Nat×AP)}{R N:AP}{cs:List Code}{id:Nat}(e:(l.all qB||l.any fB)=false) (k:LJ P l.toArray (Qx a R (W P a R cs N)) l B h n m):WJ P a R (.region id l.toArray false::cs) N B h n m:=⟨DK k.1⟩
end
def SC {A:Prop}(e:A:=by
 repeat' (first
  |refine mS rfl ?_
  |refine xG rfl ?_
  |refine QJ.fao rfl ?_
  |refine QJ.ld1 (by assumption) rfl (by repeat (first|exact mh|refine mt ?_)) (by rfl) ?_
  |(refine fC rfl (by assumption) ?_;intro _)
  |refine QJ.fax rfl (by assumption) ?_
  |refine YY (by assumption) rfl (by assumption) ?_
  |refine U1 (by assumption) rfl (by assumption) (by first|exact Fc.out|exact Re.out) rfl ?_
  |(refine YW (by assumption) rfl (by assumption) ?_;intro _)
  |refine YZ (by assumption) rfl (by assumption) ?_
  |refine QJ.len rfl (by assumption) (by rfl) ?_
  |refine QJ.lens rfl ?_
  |refine QJ.leno (by assumption) rfl (by repeat (first|exact mh|refine mt ?_)) ?_
  |refine YS (by assumption) rfl (by assumption) ?_
  |(refine YT (by assumption) rfl (by assumption) rfl ?_;intro _)
  |refine YV (by assumption) rfl (by repeat (first|exact mh|refine mt ?_)) rfl ?_
  |refine YU (by assumption) rfl (by repeat (first|exact mh|refine mt ?_)) rfl ?_
  |refine Ya (by assumption) rfl (by repeat (first|exact mh|refine mt ?_)) (by rfl) ?_
  |exact QJ.scE rfl (by kernel_rfl) (by kernel_rfl)
  |(apply QJ.scA rfl rfl ?_ rfl (by kernel_rfl) (by kernel_rfl) (by kernel_rfl) ?_;rotate_left)
  |(apply QJ.scO rfl rfl ?_ rfl (by kernel_rfl) (by kernel_rfl) (by kernel_rfl) ?_;rotate_left))
 first|done|fail):A:=e
structure Hd (A:Prop):Prop where out:A
def AU {A B:Prop}(k:A) (f:Hd A→B:=by
 intro k
 first
  |with_reducible refine QJ.out ?_
  |with_reducible refine LJ.out ?_
  |with_reducible refine WJ.out ?_
  |refine LJ.out ?_
 repeat (first
  |refine mS rfl ?_
  |refine xG rfl ?_
  |refine QJ.fao rfl ?_
  |refine QJ.ld1 (by assumption) rfl (by repeat (first|exact mh|refine mt ?_)) (by rfl) ?_
  |(refine fC rfl (by assumption) ?_;intro _)
  |refine QJ.fax rfl (by assumption) ?_
  |refine YY (by assumption) rfl (by assumption) ?_
  |refine U1 (by assumption) rfl (by assumption) (by first|exact Fc.out|exact Re.out) rfl ?_
  |(refine YW (by assumption) rfl (by assumption) ?_;intro _)
  |refine YZ (by assumption) rfl (by assumption) ?_
  |refine QJ.len rfl (by assumption) (by rfl) ?_
  |refine QJ.lens rfl ?_
  |refine QJ.leno (by assumption) rfl (by repeat (first|exact mh|refine mt ?_)) ?_
  |refine YS (by assumption) rfl (by assumption) ?_
  |(refine YT (by assumption) rfl (by assumption) rfl ?_;intro _)
  |refine YV (by assumption) rfl (by repeat (first|exact mh|refine mt ?_)) rfl ?_
  |refine YU (by assumption) rfl (by repeat (first|exact mh|refine mt ?_)) rfl ?_
  |refine Ya (by assumption) rfl (by repeat (first|exact mh|refine mt ?_)) (by rfl) ?_
  |refine QJ.ln ?_
  |refine QJ.rp ?_
  |refine LJ.q rfl ?_
  |refine LJ.nil ?_
  |refine WJ.seq ?_
  |refine WJ.skip ?_
  |refine WJ.rp rfl ?_
  |refine WJ.rl rfl ?_
  |(apply QJ.scA rfl rfl ?_ rfl (by kernel_rfl) (by kernel_rfl) (by kernel_rfl) ?_;rotate_left;exact SC)
  |(apply QJ.scO rfl rfl ?_ rfl (by kernel_rfl) (by kernel_rfl) (by kernel_rfl) ?_;rotate_left;exact SC)
  |fail)
 first
  |exact QJ.mk k.out
  |exact LJ.mk k.out
  |exact WJ.mk k.out):B:=f ⟨k⟩
def St.lt {S:Nat→Prop}{L:List HP}{h:AO}(k:St S L h):∀b,S b→b<h.size:=k.1
def EX {A:Prop}(e:A:=by
 first
  |assumption
  |exact BF.refl _ _
  |repeat (first
    |assumption
    |refine BF.trans ?_ (by assumption)
    |exact EJ.ext (by assumption) (St.lt (by assumption))
    |exact SN.ext (St.lt (by assumption)) (by assumption)
    |exact SX.ext (St.lt (by assumption)) (by assumption) (by assumption)
    |refine BF.trans ?_ (EJ.ext (by assumption) (St.lt (by assumption)))
    |refine BF.trans ?_ (SN.ext (St.lt (by assumption)) (by assumption))
    |refine BF.trans ?_ (SX.ext (St.lt (by assumption)) (by assumption) (by assumption)))):A:=e
def Rd.nw {b:Type}{S S':Nat→Prop}{h h':AO}{r:A5 b}{v:Value}{x:b}{L:List HP}(k:Rd S h r v x) (a:St S' L h':=by assumption) (e:BF S h S' h':=by exact EX):Rd S' h' r v x:=k.mono e
def Sl.nw {b:Type}{S S':Nat→Prop}{h h':AO}{r:A5 b}{v:Value}{l:List b}{L:List HP}(k:Sl S h r v l) (a:St S' L h':=by assumption) (e:BF S h S' h':=by exact EX):Sl S' h' r v l:=k.mono' e
def Mv.nw {b:Type}{S S':Nat→Prop}{h h':AO}{r:A5 b}{v:Value}{x:b}{L:List HP}(k:Pt S h r v x) (a:St S' L h':=by assumption) (e:BF S h S' h':=by exact EX):Pt S' h' r v x:=Mv.mono k e
def et {S S' S2:Nat→Prop}{h h' c:AO}(b:BF S' h' S2 c) (a:BF S h S' h':=by exact EX):BF S h S2 c:=a.trans b
inductive Dl:List HP→List HP→Prop
 |refl {L:List HP}:Dl L L
 |keep {H:HP} {L1 L2:List HP}:Dl L1 L2→Dl (H::L1) (H::L2)
 |drop {H:HP} {L1 L2:List HP}:Dl L1 L2→Dl L1 (H::L2)
def Sp.dl {S:Nat→Prop}{h:AO}{L1 g:List HP}(d:Dl L1 g):∀{A:Nat→Prop},Sp S g h A→Sp S L1 h A:=by
 induction d with
 |refl=>exact λk=>k
 |keep _ a=>exact λ⟨F,j,i,c⟩=>⟨F,j,i,a c⟩
 |drop _ a=>exact λ⟨F,_,i,c⟩=>a (Sp.mono c λb l=>l.1)
def St.dl {S:Nat→Prop}{h:AO}{L1 a:List HP}(k:St S a h) (d:Dl L1 a):St S L1 h:=⟨k.1,k.2.dl d⟩
def DR {A:Prop}(e:A:=by
 first
  |assumption
  |refine St.dl (by assumption) ?_
   repeat (first|exact Dl.refl|refine Dl.keep ?_|refine Dl.drop ?_)):A:=e
section
variable {P:Program}{fn:Func}{B:World}{S S':Nat→Prop}{h h':AO}{ex:List (Nat×AP)}{N:AP}{cs:List Code}{m:SM}{post:Value→(Nat→Prop)→AO→Prop}{k t:Nat}{v:Value}
def Fp (kp:post v S' h') (b:fn.results= #[.tmp t]) (c:lk m t=some v) (e:BF S h S' h'):WF P ex (Rt P fn B S h post) (.ret::cs) N B h' (k,[]) m:=CI λa w d g=>Sd d g b c e kp
end
def CE {p:Prop}(e:true=false):p:=by cases e
section
variable {P:Program}{ops:Array Oper}{n:FN}{m:SM}{rest:List Oper}{d:Nat}{ty:TypeId}{pos:String}{af:Array Edge}{X Y:Operand}{f:Nat}{xs:Array Operand}{tys:Array TypeId}{args vs:List Value}{first cap:Array Value}{h:AO}{B:World}{S:Nat→Prop}{L:List HP}
variable {β ρ:Type}{F:Option β}{K:β→Option ρ}{r:ρ}
def BA {Q:Act→Prop}{v:β→Value}{Z:β→(Nat→Prop)→AO→Prop}(E:F.bind K=some r) (i:Bz m X=some (.func (.func f) first cap)) (a:xs.toList.mapM (Bz m)=some args) (c:first.toList++args++cap.toList=vs) (g:BD P f=true) (hd:Nat.blt d n.1=true)
  (j:∀y,F=some y→∀h',EJ h h'→CJ P f vs.toArray (λb=>b<h'.size) h' (λu S' l=>u=v y∧Z y S' l))
  (k:∀y,K y=some r→QF P ops (Cl B h) Q rest n ((d,v y)::m)):QF P ops (Cl B h) Q (⟨some d,.call ⟨.value X,xs,tys⟩,ty,pos,af,none⟩::rest) n m:=by
 obtain⟨y,o,E⟩:=bd E;exact JX i a c g hd (j y o) (k y E)
def DF {Q:Act→Prop}{v:β→Value}{Ψ:β→Prop}{Z:β→(Nat→Prop)→AO→Prop}(E:F.bind K=some r) (i:Bz m X=some (.func (.func f) first cap)) (a:xs.toList.mapM (Bz m)=some args) (c:first.toList++args++cap.toList=vs) (g:BD P f=true) (hd:Nat.blt d n.1=true)
  (j:∀y,F=some y→∀h',EJ h h'→CJ P f vs.toArray (λb=>b<h'.size) h' (λu S' l=>u=v y∧Ψ y∧Z y S' l))
  (k:∀y,K y=some r→Ψ y→QF P ops (Cl B h) Q rest n ((d,v y)::m)):QF P ops (Cl B h) Q (⟨some d,.call ⟨.value X,xs,tys⟩,ty,pos,af,none⟩::rest) n m:=by
 obtain⟨y,o,E⟩:=bd E;exact TJ i a c g hd (j y o) (k y E)
def GH {Q:Exit→Act→World→Prop}{a:β→Value→(Nat→Prop)→AO→Prop}(E:F.bind K=some r) (i:Bz m X=some (.func (.func f) first cap)) (b:xs.toList.mapM (Bz m)=some args) (c:first.toList++args++cap.toList=vs) (g:BD P f=true) (hd:Nat.blt d n.1=true) (j:∀y,F=some y→CJ P f vs.toArray S h (a y))
  (k:∀y,K y=some r→∀v S' h',BF S h S' h'→a y v S' h'→LF P ops Q rest B h' n ((d,v)::m)):LF P ops Q (⟨some d,.call ⟨.value X,xs,tys⟩,ty,pos,af,none⟩::rest) B h n m:=by
 obtain⟨y,l,E⟩:=bd E;exact CG i b c g hd (j y l) (k y E)
def DN {Q:Exit→Act→World→Prop}{a:β→Value→(Nat→Prop)→AO→Prop}(E:F.bind K=some r) (j:Bz m X=some (.func (.func f) first cap)) (c:xs.toList.mapM (Bz m)=some args) (g:first.toList++args++cap.toList=vs) (i:BD P f=true) (hd:Nat.blt d n.1=true) (l:St S L h) (o:∀y,F=some y→CJ P f vs.toArray (λb=>b<h.size) h (a y))
  (k:∀y,K y=some r→∀v S' h',St S L h'→BF S h S h'→BF (λb=>b<h.size) h S' h'→a y v S' h'→LF P ops Q rest B h' n ((d,v)::m)):LF P ops Q (⟨some d,.call ⟨.value X,xs,tys⟩,ty,pos,af,none⟩::rest) B h n m:=by
 obtain⟨y,p,E⟩:=bd E;exact FZ j c g i hd l (o y p) (k y E)
def BH {o:Type}{C:World→Prop}{Q:Act→Prop}{a:A5 o}{l:List o}{K:o→Option ρ}{t e:Nat}{v:Value}{i:Int}(E:(Go.Proofs.YtabonambpbofgaaGreat.ix l i).bind K=some r) (c:Bz m X=some v) (g:Bz m Y=some (.int .i64 i)) (k0:Sl S h a v l) (j:OT P t e a.sz=true) (hd:Nat.blt d n.1=true)
  (k:∀x,K x=some r→∀q,Pt S h a q x→QF P ops C Q rest n ((d,q)::m)):QF P ops C Q (⟨some d,.indexAddr t X Y,ty,pos,af,none⟩::rest) n m:=by
 obtain⟨x,b,E⟩:=bd E;exact Nv c g k0 j b hd (k x E)
end
def JZ {P:Program}{ops:Array Oper}{n:FN}{m:SM}{rest:List Oper}{ty:TypeId}{pos:String}{af:Array Edge}{X Y:Operand}{h:AO}{B:World}{S:Nat→Prop}{L c:List HP}{Q:Exit→Act→World→Prop}{v:Value}{T d:TypeId}{b:Nat}{cs vs:List Value}{sz:Nat}{ag:Bool}(i:Bz m X=some (.pointer (some ⟨b,0,none⟩))) (j:Bz m Y=some v) (l:v.cells=vs.toArray) (o:∀u∈vs,u.oneCell'=true)
  (p:KQ P T sz ag=true) (a:vs.length=sz) (q:St S L h) (r:MR L (Bx b d cs) (Bx b d vs) c) (s:Nat.beq cs.length sz=true)
  (k:∀h',St S c h'→BF S h S h'→LF P ops Q rest B h' n m):LF P ops Q (⟨none,.store T X Y,ty,pos,af,none⟩::rest) B h n m:=by
 have g:=Aa2 s;refine ML i j l o p a q r (by simp [g]) ?_ k;unfold Hq;simp [g,a]
def ON {A:Prop}(e:A:=by
 repeat (first
  |exact Jv
  |refine BC rfl ?_
  |refine BC (Sl.one (by assumption)) ?_)):A:=e
def PA.i {R:AR}{h:AO}{K:SM→Prop}{j d:Nat}{a:List (Nat×Nat)}{fr:SM}(k:∀u,R j u h→PA R h K a ((d,u)::fr)):PA R h K ((j,d)::a) fr:=k
def zT {R:AR}{h:AO}{K:SM→Prop}{fr:SM}(k:K fr):PA R h K [] fr:=k
def tI {a b:Prop}(k:a∧b):a∧b:=k
def Fe {A:Prop}(e:A:=by
 intro b c o;have a:=EJ.st o (by assumption)
 repeat (refine PA.i (λu f=>?_);first|(obtain ⟨rfl,_⟩:=tI f)|cases f)
 refine zT ?_;refine AU ?_
 first
  |exact A7 (EJ.refl _) rfl
  |exact A7 (EJ.refl _) ⟨rfl,(by first|assumption|exact iq rfl|exact BT _)⟩):A:=e
def St.ea {S:Nat→Prop}{L:List HP}{h:AO}(k:St S L h):BF S h (λb=>b<h.size) h:=⟨λb a=>k.1 b a,λ_ _=>rfl,Aa7 _⟩
def BV {P:Program}{ops:Array Oper}{Q:Exit→Act→World→Prop}{B:World}{n:FN}{d:Nat}{R:Value→AO→Prop}{h:AO}{m:SM}{v:Value}(r:R v h):LF P ops (Exit.then (KS B n d R h m) Q) [] B h n ((d,v)::m):=A7 (EJ.refl _) r
def Rd.sn {d:Type}{S:Nat→Prop}(h0:AO) {a:AO}{r:A5 d}{v:Value}{x:d}(k:Rd S a r v x):Rd (SN S h0 a) a r v x:=k.mono ⟨λb c=> .inl c,λ_ _=>rfl,Aa7 _⟩
def Sl.sn {d:Type}{S:Nat→Prop}(h0:AO) {a:AO}{r:A5 d}{v:Value}{x:List d}(k:Sl S a r v x):Sl (SN S h0 a) a r v x:=k.mono' ⟨λb c=> .inl c,λ_ _=>rfl,Aa7 _⟩
def pB {S:Nat→Prop}{L:List HP}{h a c:AO}(k:St S L h) (d:EJ h a) (g:EJ a c):BF S a S c:=g.ext λb i=>Aa8 (k.1 b i) d.siz
def MO {A:Prop}(e:A:=by
 intro i v d g c b a
 repeat (first
  |exact False.elim a
  |(rcases i with _|i;focus first
   |exact a
   |exact Mv.mono a (pB (by assumption) c b)
   |exact Sl.mono' a (pB (by assumption) c b)
   |exact Rd.mono a (pB (by assumption) c b)
   |exact⟨Sl.mono' a.1 (SN.mono (St.lt (by assumption)) c b),a.2⟩
   |exact a.mono b
   |exact Sl.mono' a (SN.mono (St.lt (by assumption)) c b)
   |exact Rd.mono a (SN.mono (St.lt (by assumption)) c b)))):A:=e
def RT {A:Prop}(e:A:=by
 refine AU ?_;cases E
 first
  |exact Fp ⟨rfl,DR⟩ rfl rfl EX
  |exact Fp ⟨rfl,(by first|assumption|exact iq rfl|exact BT _),DR⟩ rfl rfl EX):A:=e
section
variable {P:Program}{ops:Array Oper}{C:World→Prop}{Q:Act→Prop}{n:FN}{m:SM}{rest:List Oper}
variable {d:Nat}{ty:TypeId}{pos:String}{af:Array Edge}{X Y:Operand}{t t1 t2:TypeId}{v:Value}{S:Nat→Prop}{L:List HP}{h:AO}{B:World}
end
section
variable {P:Program}{f:Nat}{fn:Func}
end
section
variable {P:Program}{ex:List (Nat×AP)}{RR N:AP}{cs:List Code}{B:World}{h:AO}{n:FN}{m m0:SM}
end
section
variable {P:Program}{ops:Array Oper}{C:World→Prop}{Q:Act→Prop}{n:FN}{m:SM}{rest:List Oper}{a:Act}
variable {d:Nat}{ty:TypeId}{pos:String}{af:Array Edge}{X Y:Operand}{t t1 t2:TypeId}{kd:IntKind}{v:Value}{S:Nat→Prop}{h:AO}
end
def bL (s:ByteArray):List Int:=s.data.toList.map λb=>(b.toNat:Int)
abbrev RB:A5 Int:=A5.intk .u8
section
variable {P:Program}{ops:Array Oper}{Q:Exit→Act→World→Prop}{n:FN}{m:SM}{rest:List Oper}{a:Act}
variable {d:Nat}{ty:TypeId}{pos:String}{af:Array Edge}{X Y:Operand}{B w:World}{h:AO}{S:Nat→Prop}{L L2:List HP}{v:Value}
end
def Aao (b T E:Nat) (s:ByteArray):HP where
 holds:=λS F h=>∃p v a d,(p= .pointer none∨p= .pointer (some ⟨b,0,none⟩))∧(s.size=0→v= .slice none 0 0)∧(Bx b T [p,v]).holds S a h∧(OS RB E v (bL s)).holds S d h∧(∀c,a c→F c)∧(∀c,d c→F c∧¬a c)
 loc:=by
  rintro S S' F h h' ⟨p,v,a,d,m,n,o,q,i,j⟩ k l;exact⟨p,v,a,d,m,n,HP.loc _ o k λb g=>l b (g.imp_right (i b)),HP.loc _ q k λb g=>l b (g.imp_right λx=>(j b x).1),i,j⟩
section
variable {P:Program}{ops:Array Oper}{Q:Exit→Act→World→Prop}{n:FN}{m:SM}{rest:List Oper}
variable {d:Nat}{ty:TypeId}{pos:String}{af:Array Edge}{X Y:Operand}{B w:World}{h:AO}{S:Nat→Prop}{L L2:List HP}{p v:Value}{b T E:Nat}{s:ByteArray}
def jQ (j:p= .pointer none∨p= .pointer (some ⟨b,0,none⟩)) (k:s.size=0→v= .slice none 0 0) (l:St S (Bx b T [p,v]::OS RB E v (bL s)::L) h):St S (Aao b T E s::L) h:=by
 obtain⟨m,d,n,o,g,q,i,t⟩:=l;exact⟨m,λc=>d c∨g c,⟨p,v,d,g,j,k,n,q,λc x=> .inl x,λc x=>⟨.inr x,(i c x).2⟩⟩,λc x=>x.elim (o c) λx=>(i c x).1,Sp.mono t λc a=>⟨a.1.1,λx=>x.elim a.1.2 a.2⟩⟩
def zU (c:FM P T=some [.pointer none,.slice none 0 0]) (E:Nat) (hd:Nat.blt d n.1=true) (g:St S L h) (k:∀b h',St S (Aao b T E ByteArray.empty::L) h'→BF S h S h'→LF P ops Q rest B h' n ((d,.pointer (some ⟨b,0,none⟩))::m)):LF P ops Q (⟨some d,.alloc T,ty,pos,af,none⟩::rest) B h n m:=
 Dp c hd (g.nil RB E) λb h' a e=>k b h' (jQ (.inl rfl) (λ_=>rfl) a) e
def SA {C:World→Prop}{Q:Act→Prop}{o:Option Addr}{t t2 c:TypeId}{k0:Nat}(g:Bz m X=some (.pointer o)) (i:Bz m Y=some (.pointer none)) (l:P.underlying t=some (.pointer c)) (p:(P.info? c).map (·.size)=some k0) (hd:Nat.blt d n.1=true) (k:QF P ops C Q rest n ((d,.bool o.isNone)::m)):
  QF P ops C Q (⟨some d,.binOp .eql t X Y t2,ty,pos,af,none⟩::rest) n m:=λa b=>Fu b hd (λw _=>by
 obtain⟨j,s,_⟩:=Ab7.1 p;have e:∀q:Nat,(Op.equalIn (q+1) t (.pointer o) (.pointer none)).run P w= .ok o.isNone w:=λq=>by
  cases o<;>simp [Op.equalIn,run_underlying l,sizeOf,typeInfo,s,sameAddr]
 have y:=e 9999;have u:∀w,(eqGuard .eql t X Y (.pointer o) (.pointer none)).run P w= .ok () w:=λw=>by cases o<;>(unfold eqGuard;simp)
 have v:(binOp .eql t (.pointer o) (.pointer none)).run P w= .ok (.bool o.isNone) w:=by
  simp only[binOp];have x:(Op.equalIn Op.maxDepth t (.pointer o) (.pointer none)).run P w= .ok o.isNone w:=e (Op.maxDepth-1);simp [Op.equal,x]
 simp [execOp,b.eval g,b.eval i,u,v]) k
end
def St.oscell {α}{r:A5 α}{T:Nat}{v:Value}{l:List α}{S:Nat→Prop}{L:List HP}{h:AO}(a:St S L h) (b:OS r T v l∈L):v.cells=[v].toArray:=by
 obtain⟨c,cap,rfl,_⟩:=a.oslen b;rfl
section
variable {P:Program}{ex:List (Nat×AP)}{RR N:AP}{cs:List Code}{B:World}{h:AO}{n:FN}{m m':SM}{S:Nat→Prop}{L:List HP}{C:World→Prop}{l:List Oper}{fuel:Nat}{listed:Array Bool}
variable {d:Nat}{ty:TypeId}{pos:String}{af:Array Edge}{X Y:Operand}{t:TypeId}{v:Value}
def xN (i:Nat) {b:Addr}(g:l[i]? =some ⟨some d,.nilCheck X,ty,pos,af,none⟩) (c:R5 l listed i=true) (j:∀w,Wd B h w→C w) (o:Bz m X=some (.pointer (some b))) (hd:Nat.blt d n.1=true) (k:HF P l (QW P ex RR cs N) C fuel (listed.setIfInBounds i true) B h n ((d,.pointer (some b))::m)):HF P l (QW P ex RR cs N) C (fuel+1) listed B h n m:=
 O4 i g c j hd (λa w p _=>by simp [execOp,p.eval o]) k
def yC (i:Nat) {o:Option Addr}{q z e sz:Nat}(b:l[i]? =some ⟨some d,.call ⟨.builtin .len,#[X],#[t]⟩,ty,pos,af,none⟩) (c:R5 l listed i=true) (g:∀w,Wd B h w→C w) (j:Bz m X=some (.slice o q z)) (p:OT P t e sz=true) (hd:Nat.blt d n.1=true) (k:HF P l (QW P ex RR cs N) C fuel (listed.setIfInBounds i true) B h n ((d,.int .i64 q)::m)):HF P l (QW P ex RR cs N) C (fuel+1) listed B h n m:=
 O4 i b c g hd (λa w s _=>by
  obtain⟨i,u,_⟩:=Lp p;simp [execOp,resolve,invoke,builtin,Builtin.len_,s.eval j,run_underlying u,goInt]) k
end
section
variable {P:Program}{ops:Array Oper}{n:FN}{m:SM}{d:Nat}{ty:TypeId}{pos:String}{af:Array Edge}{X Y:Operand}{t:TypeId}{kd:IntKind}{v:Value}{S:Nat→Prop}{h:AO}
end
section
variable {P:Program}{ex:List (Nat×AP)}{RR N:AP}{cs:List Code}{B:World}{h:AO}{n:FN}{m m0:SM}
end
end Go.Proofs.YtabonambpbofgaaGreat
