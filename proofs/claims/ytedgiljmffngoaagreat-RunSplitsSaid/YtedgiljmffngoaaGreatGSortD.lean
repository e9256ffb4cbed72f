import Derived.Test.YtedgiljmffngoaaGreatGCore31
import Derived.Test.YtedgiljmffngoaaGreatGCore22
import Derived.Lib.AppendStr
import Derived.Lib.UnsafeStr
import Derived.Lib.Builder
import Derived.Laws.Strings3
import Derived.Laws.BytesArg
import Derived.Laws.Externs
namespace Go.Proofs.YtedgiljmffngoaaGreat
set_option linter.all false
open Go.RowKit
def rK (d:Nat):Nat→List Oper→Option (Nat×Nat)
 |_,[]=>none
 |j,o::r=>match o.op with
  | .pick (.tmp x) _ _=>cond (Nat.beq x d) (match o.dst with|some t=>some (j+1,t)|none=>none) (rK d (j+1) r)
  |_=>rK d (j+1) r
def qQ (ops:Array Oper) (l:List Oper):Option (Nat×Nat×Nat×Bool):=match l with
 |[]=>none
 |o::_=>match o.guard with
  |none=>none
  |some (g,b)=>match (ops[g]?).bind (·.dst) with
   |none=>none
   |some d=>match rK d 0 l with
    |none=>none
    |some (j,t)=>some (j,t,d,b)
def bU (m1 m:SM):Bool:=(m1.take (m1.length-(m.length+1))).all λp=> !(m.any λq=>Nat.beq p.1 q.1)
def ZQ:∀{m:SM}{i:Nat}{u:Value},lk m i=some u→(m.any λq=>Nat.beq i q.1)=true
 |(j,v)::r,i,u,h=>by
  rw[List.any_cons];simp only[lk] at h;cases e:Nat.beq j i with
  |true=>
   have:=tV e;subst this;rw[show Nat.beq j j=true by simp,Bool.true_or]
  |false=>
   rw[e,tM] at h;rw[ZQ h,Bool.or_true]
def ZP:∀{m:SM}{i:Nat},(∀p∈m,Nat.beq p.1 i=false)→lk m i=none
 |[],_,_=>rfl
 |(j,v)::r,i,h=>by
  simp only[lk];rw[h (j,v) uN,tM];exact ZP λp a=>h p (uR _ a)
def fS {n:FN}{a:Act}{m m1:SM}{d t:Nat}{b:Bool}{v:Value}(g:Fr n a m1) (l:lk m1 t=some v) (j:bU m1 m=true) (o:m1.drop (m1.length-(m.length+1))=(d,.bool b)::m) (hd:lk m d=some (.bool b)):Fr n a ((t,v)::m):=by
 refine⟨g.dfr,g.siz,λi u c=>?_⟩;simp only[lk] at c;cases e:Nat.beq t i with
 |true=>
  rw[e,tL] at c;cases c;have:=tV e;subst this;exact g.at_ _ _ l
 |false=>
  rw[e,tM] at c;refine g.at_ _ _ ?_;rw[←yA (m1.length-(m.length+1)) m1,o,IC];have q:lk (m1.take (m1.length-(m.length+1))) i=none:=ZP λp s=>by
   unfold bU at j;rw[tS] at j;have:=j p s;cases k:Nat.beq p.1 i with
   |false=>rfl
   |true=>
    have w:=tV k;rw[w,ZQ c] at this;cases this
  rw[q,Option.none_or];simp only[lk];cases k:Nat.beq d i with
  |true=>
   have:=tV k;subst this;rw[hd] at c;exact c
  |false=>exact c
def PS (n:FN) (m:SM) (d:Nat) (b:Bool) (t:Nat) (v:Bool) (a:Act):Prop:=∃m1,Fr n a m1∧lk m1 t=some (.bool v)∧bU m1 m=true∧m1.drop (m1.length-(m.length+1))=(d,.bool b)::m
section
variable {P:Program}{ops:Array Oper}{C:World→Prop}{Q:Act→Prop}{n:FN}{m m1 m2:SM}{l:List Oper}
def mM {d t:Nat}{b v:Bool}(c:lk m1 t=some (.bool v)) (g:bU m1 m=true) (i:m1.drop (m1.length-(m.length+1))=(d,.bool b)::m):QF P ops C (PS n m d b t v) [] n m1:=QF.nil λa j=>⟨m1,j,c,g,i⟩
def Fr.lit {n:FN}{a:Act}{m:SM}{d:Nat}{v:Value}(c:Fr n a m) (h:lk m d=some v):Fr n a ((d,v)::m):=⟨c.dfr,c.siz,λi u b=>by
 simp only[lk] at b;cases e:Nat.beq d i with
 |true=>
  have:=tV e;subst this;rw[e,tL] at b;cases b;exact c.at_ _ _ h
 |false=>
  rw[e,tM] at b;exact c.at_ _ _ b⟩
def aV {c v:Bool}(b:Bool) {j t d:Nat}(k:lk m d=some (.bool c)) (q:QF P ops C (PS n m d b t v) (l.take j) n ((d,.bool b)::m))
  (s:QY ops n.1 (l.take j) ((d,.bool (!b))::m)=some m2) (u:lk m2 t=some (.bool (!b))) (w:bU m2 m=true) (hd:m2.drop (m2.length-(m.length+1))=(d,.bool (!b))::m) (p:QF P ops C Q (l.drop j) n ((t,.bool (cond b (c&&v) (c||v)))::m)):QF P ops C Q l n m:=by
 by_cases e:c=b
 ·subst e;intro a o;refine TE j (PS n m d c t v) (q a (o.lit k)) λi ⟨m1,x,y,z,A⟩=>p i ?_;have:=fS x y z A k;cases c<;>exact this
 ·have e:c= !b:=by cases c<;>cases b<;>first|rfl|exact absurd rfl e
  subst e;intro a o;refine TE j (λi=>Fr n i m2) (Nk s (QF.nil λi g=>g) a (o.lit k)) λi g=>p i ?_;have:=fS g u w hd k;cases b<;>exact this
def mN {c v:Bool}{j t d:Nat}(e:qQ ops l=some (j,t,d,true)) (a:lk m d=some (.bool c)) (b:QF P ops C (PS n m d true t v) (l.take j) n ((d,.bool true)::m))
  (g:QY ops n.1 (l.take j) ((d,.bool false)::m)=some m2) (i:lk m2 t=some (.bool false)) (k:bU m2 m=true) (hd:m2.drop (m2.length-(m.length+1))=(d,.bool false)::m) (o:QF P ops C Q (l.drop j) n ((t,.bool (c&&v))::m)):QF P ops C Q l n m:=aV true a b g i k hd o
def mL {c v:Bool}{j t d:Nat}(e:qQ ops l=some (j,t,d,false)) (a:lk m d=some (.bool c)) (b:QF P ops C (PS n m d false t v) (l.take j) n ((d,.bool false)::m))
  (g:QY ops n.1 (l.take j) ((d,.bool true)::m)=some m2) (i:lk m2 t=some (.bool true)) (k:bU m2 m=true) (hd:m2.drop (m2.length-(m.length+1))=(d,.bool true)::m) (o:QF P ops C Q (l.drop j) n ((t,.bool (c||v))::m)):QF P ops C Q l n m:=aV false a b g i k hd o
def mO {b:List (Nat×AP)}{R N:AP}{cs:List Code}{B:World}{h:AW}(k:WF P b R cs N B h n m):QF P ops C (λa=>∀w,Wd B h w→W P b R cs N a w) [] n m:=λa c w d=>k a w c d
def mZ {b:List (Nat×AP)}{R N:AP}{cs:List Code}{B:World}{h:AW}(k:WF P b R cs N B h n m):LF P ops (Qx b R (W P b R cs N)) [] B h n m:=λa w c d=>fO (k a w c d)
end
def qR:IntKind→Nat
 | .i8=>0| .i16=>1| .i32=>2| .i64=>3| .u8=>4| .u16=>5| .u32=>6| .u64=>7
def jE {a b:IntKind}(h:Nat.beq (qR a) (qR b)=true):a=b:=by cases a<;>cases b<;>first|rfl|cases h
def binI (o:BinOp) (k:IntKind) (x y:Int):Option Value:=match o with
 | .lss=>some (.bool (decide (x<y)))
 | .leq=>some (.bool (decide (x≤y)))
 | .gtr=>some (.bool (decide (y<x)))
 | .geq=>some (.bool (decide (y≤x)))
 | .eql=>some (.bool (decide (x=y)))
 | .neq=>some (.bool (decide (x≠y)))
 | .add=>some (.int k (k.wrap (x+y)))
 | .sub=>some (.int k (k.wrap (x-y)))
 | .mul=>some (.int k (k.wrap (x*y)))
 | .and=>some (.int k (FL .and k x y))
 |_=>none
def rS (a:Op) (m:SM):Option Value:=match a with
 | .move X=>BT m X
 | .assign X=>BT m X
 | .pick c x y=>match BT m c with
  |some (.bool true)=>BT m x
  |some (.bool false)=>BT m y
  |_=>none
 | .extract X i=>match BT m X with
  |some (.tuple xs)=>xs[i]?
  |_=>none
 | .nilCheck X=>match BT m X with
  |some (.pointer (some d))=>some (.pointer (some d))
  |_=>none
 | .unOp .not _ X=>match BT m X with
  |some (.bool b)=>some (.bool (!b))
  |_=>none
 | .binOp o _ X Y _=>match BT m X with
  |some (.int k x)=>match BT m Y with
   |some (.int g y)=>cond (Nat.beq (qR k) (qR g)) (binI o k x y) none
   |_=>none
  |_=>none
 |_=>none
section
variable {P:Program}{ops:Array Oper}{C:World→Prop}{Q:Act→Prop}{n:FN}{m:SM}{rest:List Oper}
def eK {d:Nat}{ty:TypeId}{pos:String}{af:Array Edge}{o:BinOp}{t1 t2:TypeId}{X Y:Operand}{k:IntKind}{x y:Int}{v:Value}(a:BT m X=some (.int k x)) (b:BT m Y=some (.int k y)) (hd:Nat.blt d n.1=true) (e:Go.Proofs.YtedgiljmffngoaaGreat.binI o k x y=some v) (kk:QF P ops C Q rest n ((d,v)::m)):QF P ops C Q (⟨some d,.binOp o t1 X Y t2,ty,pos,af,none⟩::rest) n m:=by
 cases o<;>cases e
 ·exact eN a b hd kk
 ·exact dU a b hd kk
 ·exact eA a b hd kk
 ·exact eL a b hd kk
 ·exact bI a b hd kk
 ·exact bA a b hd kk
 ·exact bB a b hd kk
 ·exact bC a b hd kk
 ·exact bF a b hd kk
 ·exact mT a b hd kk
def mP {d:Nat}{a:Op}{ty:TypeId}{pos:String}{af:Array Edge}{v:Value}(e:rS a m=some v) (hd:Nat.blt d n.1=true) (k:QF P ops C Q rest n ((d,v)::m)):QF P ops C Q (⟨some d,a,ty,pos,af,none⟩::rest) n m:=by
 unfold rS at e;split at e
 ·exact Kz e hd k
 ·exact MZ e hd k
 ·split at e
  ·rename_i h;exact QK h e hd k
  ·rename_i h;exact QK h e hd k
  ·cases e
 ·split at e
  ·rename_i h;exact bG h e hd k
  ·cases e
 ·split at e
  ·rename_i h;cases e;exact KV h hd k
  ·cases e
 ·split at e
  ·rename_i h;cases e;exact aX h hd k
  ·cases e
 ·split at e
  ·rename_i b;split at e
   ·rename_i c;obtain⟨g,i⟩:=NH e;have:=jE g;subst this;exact eK b c hd i k
   ·cases e
  ·cases e
 ·cases e
end
structure QJ (P:Program) (ops:Array Oper) (C:World→Prop) (Q:Act→Prop) (l:List Oper) (n:FN) (m:SM):Prop where out:QF P ops C Q l n m
structure LJ (P:Program) (ops:Array Oper) (Q:Exit→Act→World→Prop) (l:List Oper) (B:World) (h:AW) (n:FN) (m:SM):Prop where out:LF P ops Q l B h n m
structure WJ (P:Program) (ex:List (Nat×AP)) (R:AP) (cs:List Code) (N:AP) (B:World) (h:AW) (n:FN) (m:SM):Prop where out:WF P ex R cs N B h n m
def padd:Value→Nat→Value
 | .pointer (some a),k=> .pointer (some (a.add k))
 |v,_=>v
def Mb.fl {α β A S h}{r:A7 α}{r':A7 β}{o f p x}(k:Mb A S h r p x) (b:FW r o r' f):Mb A S h r' (padd p o) (f x):=by
 obtain⟨a,rfl,c⟩:=k.fld b;exact c
def Mb.i {A S h p}{x:Int}(k:Mb A S h AB p x):AA x:=by
 obtain⟨cs,_,_,h⟩:=k;exact h
def Sl.le {α S h}{r:A7 α}{v}{l:List α}(k:Sl S h r v l):l.length≤maxLen:=by
 obtain⟨_,_,_,h⟩:=k.len;exact h
def TW (h:AW) (p:Value) (j:Nat):Value:=match p with
 | .pointer (some a)=>(IK h ⟨a.block,a.off+j,none⟩).getD undef
 |_=>undef
def Nz.at_ {A h p cs}(k:Nz A h p cs) {j:Nat}(b:j<cs.length):cs[j]? =some (TW h p j):=by
 obtain⟨a,rfl,_,_,c⟩:=k;have:=c j b;show cs[j]? =some ((IK h ⟨a.block,a.off+j,none⟩).getD undef)
 rw[this,uC b];rfl
def Nz.map {A h p cs}(k:Nz A h p cs):(List.range cs.length).map (TW h p)=cs:=by
 apply vG;intro j;rw[wQ];by_cases a:j<cs.length
 ·rw[k.at_ a,List.getElem?_range a];rfl
 ·rw[uW (by simpa using a),uW (by simpa using a)];rfl
def dN (h:AW) (p:Value) (n:Nat):Value:= .agg ((List.range n).map (TW h p)).toArray
 class Fc (p:Prop):Prop where out:p
 class GX (P:Program) (t j:Nat) (off:outParam Nat):Prop where out:YV P t j off=true
 class RA (P:Program) (t:Nat) (e sz:outParam Nat):Prop where out:N1 P t e sz=true
 class KW {α:Type} (r:A7 α) (o:Nat) {β:outParam Type} (r':outParam (A7 β)) (f:outParam (α→β)):Prop where out:FW r o r' f
 class bW (C:World→Prop) (h:outParam AW):Prop where out:CK C h
instance {B:World}{h:AW}:bW (Wd B h) h:=⟨K9⟩
instance {B:World}{h:AW}:bW (Cl B h) h:=⟨NI⟩
 class QI (P:Program) (t:Nat) (sz:outParam Nat):Prop where out:Jd P t sz true=true
structure Vl (A:Nat→Prop) (h:AW) (ag:Bool) (sz:Nat) (p v:Value):Prop where out:∃cs,Nz A h p cs∧cs.length=sz∧v=if ag then .agg cs.toArray else cs.headD undef
def Mb.lv {α A S h}{r:A7 α}{p x}(k:Mb A S h r p x):∃v,Vl A h r.ag r.sz p v∧Rd S h r v x:=by
 obtain⟨cs,b,a⟩:=k;exact⟨_,⟨cs,b,r.len a,rfl⟩,cs,rfl,a⟩
def Mb.ll {α A S h}{r:A7 α}{p x}(k:Mb A S h r.sl p x):∃v,Vl A h false 1 p v∧Sl S h r v x:=by
 obtain⟨v,a,b⟩:=k.lv;exact⟨v,a,b.sl⟩
def Mb.sz {A S h p}{x:ByteArray}(k:Mb A S h A7.str p x):x.size≤maxLen:=by
 obtain⟨cs,_,_,h⟩:=k;exact h
def qB (o:Oper):Bool:=match o.op with
 | .move _| .assign _| .pick _ _ _| .build _ _| .load _ _| .nilCheck _| .binOp _ _ _ _ _| .unOp _ _ _| .convert _ _ _| .makeFunc _ _ _| .fieldAddr _ _ _| .field _ _ _| .indexAddr _ _ _| .index _ _ _| .extract _ _=>true
 | .call ⟨.builtin .len,_,_⟩| .call ⟨.builtin .min,_,_⟩| .call ⟨.builtin .max,_,_⟩=>true
 |_=>false
def fB (o:Oper):Bool:=match o.op with
 | .call ⟨.value _,_,_⟩=>true
 |_=>false
def qN:List Oper→Nat
 |[]=>0
 |o::r=>cond (qB o) (qN r+1) 0
section
variable {P:Program}{ops:Array Oper}{Q:Act→Prop}{n:FN}{m m1 m2:SM}{rest l:List Oper}{B:World}{S:Nat→Prop}{L:List HP}{h:AW}
variable {d:Nat}{ty:TypeId}{pos:String}{af:Array Edge}{X Y:Operand}{t t1:TypeId}{v p:Value}
def gE {C}{a:Op}(e:(rS a m,Nat.blt d n.1)=(some v,true)) (k:QJ P ops C Q rest n ((d,v)::m)):QJ P ops C Q (⟨some d,a,ty,pos,af,none⟩::rest) n m:=
 ⟨mP (tK (λz=>z.1) e) (tK (λz=>z.2) e) k.1⟩
def qD {C}{a:Op}{j e:Nat}{b:Bool}(q:((ops[j]?).bind (·.dst),lk m e)=(some e,some (.bool b))) (k:QJ P ops C Q (⟨some d,a,ty,pos,af,none⟩::rest) n m):QJ P ops C Q (⟨some d,a,ty,pos,af,some (j,b)⟩::rest) n m:=
 ⟨XV rfl (tK (λz=>z.1) q) (tK (λz=>z.2) q) k.1⟩
def QJ.scA {C}{c v:Bool}{j t d:Nat}(e:qQ ops l=some (j,t,d,true)) (a:lk m d=some (.bool c)) (b:QJ P ops C (PS n m d true t v) (l.take j) n ((d,.bool true)::m))
  (g:QY ops n.1 (l.take j) ((d,.bool false)::m)=some m2) (i:lk m2 t=some (.bool false)) (k:bU m2 m=true) (hd:m2.drop (m2.length-(m.length+1))=(d,.bool false)::m) (o:QJ P ops C Q (l.drop j) n ((t,.bool (c&&v))::m)):QJ P ops C Q l n m:=⟨mN e a b.1 g i k hd o.1⟩
def QJ.scO {C}{c v:Bool}{j t d:Nat}(e:qQ ops l=some (j,t,d,false)) (a:lk m d=some (.bool c)) (b:QJ P ops C (PS n m d false t v) (l.take j) n ((d,.bool false)::m))
  (g:QY ops n.1 (l.take j) ((d,.bool true)::m)=some m2) (i:lk m2 t=some (.bool true)) (k:bU m2 m=true) (hd:m2.drop (m2.length-(m.length+1))=(d,.bool true)::m) (o:QJ P ops C Q (l.drop j) n ((t,.bool (c||v))::m)):QJ P ops C Q l n m:=⟨mL e a b.1 g i k hd o.1⟩
def QJ.scE {C}{d t:Nat}{b v:Bool}(a:lk m1 t=some (.bool v)) (c:bU m1 m=true) (g:m1.drop (m1.length-(m.length+1))=(d,.bool b)::m):QJ P ops C (PS n m d b t v) [] n m1:=⟨mM a c g⟩
def QJ.rp {C}{b:List (Nat×AP)}{R N:AP}{cs:List Code}(k:WJ P b R cs N B h n m):QJ P ops C (λa=>∀w,Wd B h w→W P b R cs N a w) [] n m:=⟨mO k.1⟩
def QJ.ln {C}{Q:Exit→Act→World→Prop}(k:LJ P ops Q l B h n m):QJ P ops C (λa=>∀w,Wd B h w→wpList P ops Q l a w) [] n m:=⟨Ks k.1⟩
def QJ.fao {C}{b o j off}[ht:GX P t j off] (e:(BT m X,Nat.blt d n.1)=(some (.pointer (some ⟨b,o,none⟩)),true)) (k:QJ P ops C Q rest n ((d,.pointer (some ⟨b,o+off,none⟩))::m)):QJ P ops C Q (⟨some d,.fieldAddr t X j,ty,pos,af,none⟩::rest) n m:=
 ⟨Ig (tK (λz=>z.1) e) ht.out (tK (λz=>z.2) e) k.1⟩
def mV {C}{α}{A:Nat→Prop}{r:A7 α}{x j off}(c:BT m X=some p) (k0:Mb A S h r p x) (g:YV P t j off=true) (hd:Nat.blt d n.1=true) (k:QF P ops C Q rest n ((d,padd p off)::m)):QF P ops C Q (⟨some d,.fieldAddr t X j,ty,pos,af,none⟩::rest) n m:=λa b=>by
 obtain⟨cs,⟨i,rfl,_⟩,_⟩:=k0;exact Dn b hd (λw _=>by simp [execOp,b.eval c,LY g,padd]) k
def QJ.fax {C}{α}{A:Nat→Prop}{r:A7 α}{x j off}(e:(BT m X,Nat.blt d n.1)=(some p,true)) (k0:Mb A S h r p x) [ht:GX P t j off] (k:QJ P ops C Q rest n ((d,padd p off)::m)):QJ P ops C Q (⟨some d,.fieldAddr t X j,ty,pos,af,none⟩::rest) n m:=
 ⟨mV (tK (λz=>z.1) e) k0 ht.out (tK (λz=>z.2) e) k.1⟩
def QJ.ld1 {T b o:Nat}{cs:List Value}(a:St S L h) (e:(BT m X,Nat.blt d n.1)=(some (.pointer (some ⟨b,o,none⟩)),true)) (c:Bx b T cs∈L) (g:cs[o]? =some v) [ht:Fc (Jd P t 1 false=true)] (k:QJ P ops (Wd B h) Q rest n ((d,v)::m)):QJ P ops (Wd B h) Q (⟨some d,.load t X,ty,pos,af,none⟩::rest) n m:=
 ⟨Nm K9 a (tK (λz=>z.1) e) c g ht.out (tK (λz=>z.2) e) k.1⟩
def XM {T b o:Nat}{cs:List Value}(a:St S L h) (e:(BT m X,Nat.blt d n.1)=(some (.pointer (some ⟨b,o,none⟩)),true)) (c:Bx b T cs∈L) (g:cs[o]? =some v) [ht:Fc (Jd P t 1 false=true)] (k:QJ P ops (Cl B h) Q rest n ((d,v)::m)):QJ P ops (Cl B h) Q (⟨some d,.load t X,ty,pos,af,none⟩::rest) n m:=
 ⟨Nm NI a (tK (λz=>z.1) e) c g ht.out (tK (λz=>z.2) e) k.1⟩
def QJ.ldi {x:Int}(a:St S L h) (e:(BT m X,Nat.blt d n.1)=(some p,true)) (k0:Pt S h AB p x) [ht:Fc (Jd P t 1 false=true)] (k:QJ P ops (Wd B h) Q rest n ((d,.int .i64 x)::m)):QJ P ops (Wd B h) Q (⟨some d,.load t X,ty,pos,af,none⟩::rest) n m:=
 ⟨F8 K9 a.1 (tK (λz=>z.1) e) k0 ht.out (tK (λz=>z.2) e) λ_=>k.1⟩
def QJ.len {C}{α}{S:Nat→Prop}{h:AW}{r:A7 α}{x:List α}{aty e sz}(q:(BT m X,Nat.blt d n.1)=(some v,true)) (k0:Sl S h r v x) [ht:RA P t e sz] (a:r.sz=sz) (k:QJ P ops C Q rest n ((d,.int .i64 x.length)::m)):QJ P ops C Q (⟨some d,.call ⟨.builtin .len,#[X],#[t]⟩,aty,pos,af,none⟩::rest) n m:=
 ⟨M1 (tK (λz=>z.1) q) k0 (by rw[a];exact ht.out) (tK (λz=>z.2) q) λ_=>k.1⟩
def aS {C}{α β}{A S:Nat→Prop}{r:A7 α}{r':A7 β}{f:α→β}{x j off}(e:(BT m X,Nat.blt d n.1)=(some p,true)) (k0:Mb A S h r p x) [ht:GX P t j off] [hf:KW r off r' f] (k:Mb A S h r' (padd p off) (f x)→QJ P ops C Q rest n ((d,padd p off)::m)):QJ P ops C Q (⟨some d,.fieldAddr t X j,ty,pos,af,none⟩::rest) n m:=QJ.fax e k0 (k (k0.fl hf.out))
def UJ {C ag sz}(b:St S L h) (e:(BT m X,Nat.blt d n.1)=(some p,true)) (k0:Vl S h ag sz p v) [ck:bW C h] (c:Jd P t sz ag=true) (g:(ag||Nat.beq sz 1)=true) (k:QJ P ops C Q rest n ((d,v)::m)):QJ P ops C Q (⟨some d,.load t X,ty,pos,af,none⟩::rest) n m:=by
 obtain⟨cs,i,j,rfl⟩:=k0.out;refine⟨λa l=>fK ck.out b.1 l (tK (λz=>z.1) e) i j c (λh=>?_) (tK (λz=>z.2) e) k.1⟩;subst h;exact tV g
def XJ {C}{x:Int}(a:St S L h) (e:(BT m X,Nat.blt d n.1)=(some p,true)) (k0:Pt S h AB p x) [ck:bW C h] [ht:Fc (Jd P t 1 false=true)] (k:QJ P ops C Q rest n ((d,.int .i64 x)::m)):QJ P ops C Q (⟨some d,.load t X,ty,pos,af,none⟩::rest) n m:=
 ⟨F8 ck.out a.1 (tK (λz=>z.1) e) k0 ht.out (tK (λz=>z.2) e) λ_=>k.1⟩
def XK {C}{x:Bool}(a:St S L h) (e:(BT m X,Nat.blt d n.1)=(some p,true)) (k0:Pt S h A7.bool p x) [ck:bW C h] [ht:Fc (Jd P t 1 false=true)] (k:QJ P ops C Q rest n ((d,.bool x)::m)):QJ P ops C Q (⟨some d,.load t X,ty,pos,af,none⟩::rest) n m:=
 ⟨bE ck.out a.1 (tK (λz=>z.1) e) k0 ht.out (tK (λz=>z.2) e) k.1⟩
def XD {C}{x:ByteArray}(a:St S L h) (e:(BT m X,Nat.blt d n.1)=(some p,true)) (k0:Pt S h A7.str p x) [ck:bW C h] [ht:Fc (Jd P t 1 false=true)] (k:QJ P ops C Q rest n ((d,.string x)::m)):QJ P ops C Q (⟨some d,.load t X,ty,pos,af,none⟩::rest) n m:=
 ⟨SW ck.out a.1 (tK (λz=>z.1) e) k0 ht.out (tK (λz=>z.2) e) λ_=>k.1⟩
def XI {C}{α}{r:A7 α}{x}(b:St S L h) (e:(BT m X,Nat.blt d n.1)=(some p,true)) (k0:Pt S h r.sl p x) [ck:bW C h] [ht:Fc (Jd P t 1 false=true)] (k:Sl S h r (TW h p 0) x→QJ P ops C Q rest n ((d,TW h p 0)::m)):QJ P ops C Q (⟨some d,.load t X,ty,pos,af,none⟩::rest) n m:=by
 obtain⟨cs,a,v,rfl,c⟩:=k0;have g:v=TW h p 0:=by have:=a.at_ (j:=0) (by simp);simpa using this
 subst g;exact UJ (ag:=false) (sz:=1) b e ⟨_,a,rfl,rfl⟩ ht.out rfl (k c)
def XE {C}{α}{r:A7 α}{x sz}(j:St S L h) (e:(BT m X,Nat.blt d n.1)=(some p,true)) (k0:Pt S h r p x) [ck:bW C h] [ht:QI P t sz] (a:(r.sz,r.ag)=(sz,true)) (k:Rd S h r (dN h p sz) x→QJ P ops C Q rest n ((d,dN h p sz)::m)):QJ P ops C Q (⟨some d,.load t X,ty,pos,af,none⟩::rest) n m:=by
 obtain⟨cs,b,c⟩:=k0;have l:r.sz=sz:=tK (λz=>z.1) a;have o:r.ag=true:=tK (λz=>z.2) a;have g:cs.length=sz:=by rw[←l];exact r.len c
 have i:dN h p sz= .agg cs.toArray:=by unfold dN;rw[←g,b.map]
 exact UJ (ag:=true) (sz:=sz) j e ⟨cs,b,g,by rw[i];rfl⟩ ht.out rfl (k ⟨cs,by rw[i];unfold A7.val;rw[o];rfl,c⟩)
def XH {C}{T b sz:Nat}{cs:List Value}(c:St S L h) (e:(BT m X,Nat.blt d n.1)=(some (.pointer (some ⟨b,0,none⟩)),true)) (g:Bx b T cs∈L) [ck:bW C h] [ht:QI P t sz] (a:Nat.beq cs.length sz=true) (k:QJ P ops C Q rest n ((d,.agg cs.toArray)::m)):QJ P ops C Q (⟨some d,.load t X,ty,pos,af,none⟩::rest) n m:=
 ⟨Nl ck.out c (tK (λz=>z.1) e) g (by rw[List.drop_zero,←tV a,uZ]) a ht.out rfl (tK (λz=>z.2) e) k.1⟩
def XG {C}{T b o sz:Nat}{cs:List Value}(a:St S L h) (e:(BT m X,Nat.blt d n.1)=(some (.pointer (some ⟨b,o,none⟩)),true)) (c:Bx b T cs∈L) [ck:bW C h] [ht:QI P t sz] (g:Nat.ble (o+sz) cs.length=true) (k:QJ P ops C Q rest n ((d,.agg ((cs.drop o).take sz).toArray)::m)):QJ P ops C Q (⟨some d,.load t X,ty,pos,af,none⟩::rest) n m:=
 ⟨Nl ck.out a (tK (λz=>z.1) e) c rfl (by have:=xD g;simp;omega) ht.out rfl (tK (λz=>z.2) e) k.1⟩
def QJ.leno {C}{α}{r:A7 α}{l:List α}{T aty e sz}(a:St S L h) (q:(BT m X,Nat.blt d n.1)=(some v,true)) (b:OS r T v l∈L) [ht:RA P t e sz] (k:QJ P ops C Q rest n ((d,.int .i64 l.length)::m)):QJ P ops C Q (⟨some d,.call ⟨.builtin .len,#[X],#[t]⟩,aty,pos,af,none⟩::rest) n m:=
 ⟨eF a b (tK (λz=>z.1) q) ht.out (tK (λz=>z.2) q) λ_=>k.1⟩
def QJ.lens {C}{s:ByteArray}{aty}(q:(BT m X,Nat.blt d n.1)=(some (.string s),true)) [ht:Fc (P.underlying t=some .string)] (k:QJ P ops C Q rest n ((d,.int .i64 s.size)::m)):QJ P ops C Q (⟨some d,.call ⟨.builtin .len,#[X],#[t]⟩,aty,pos,af,none⟩::rest) n m:=
 ⟨L0 (tK (λz=>z.1) q) ht.out (tK (λz=>z.2) q) k.1⟩
def LJ.q {Q:Exit→Act→World→Prop}{o:Oper}(e:qB o=true) (k:QJ P ops (Wd B h) (λa=>∀w,Wd B h w→wpList P ops Q ((o::l).drop (qN (o::l))) a w) ((o::l).take (qN (o::l))) n m):LJ P ops Q (o::l) B h n m:=⟨Ku _ k.1⟩
def LJ.nil {a:List (Nat×AP)}{R N:AP}{cs:List Code}(k:WJ P a R cs N B h n m):LJ P ops (Qx a R (W P a R cs N)) [] B h n m:=⟨mZ k.1⟩
def WJ.seq {a:List (Nat×AP)}{R N:AP}{cs:List Code}{x y:Code}(k:WJ P a R (x::y::cs) N B h n m):WJ P a R (.seq x y::cs) N B h n m:=⟨Cy k.1⟩
def WJ.skip {a:List (Nat×AP)}{R N:AP}{cs:List Code}(k:WJ P a R cs N B h n m):WJ P a R (.skip::cs) N B h n m:=⟨Fy k.1⟩
def WJ.rp {b:List (Nat×AP)}{R N:AP}{cs:List Code}{id:Nat}(e:l.all qB=true) (k:QJ P l.toArray (Wd B h) (λa=>∀w,Wd B h w→W P b R cs N a w) l n m):WJ P b R (.region id l.toArray false::cs) N B h n m:=⟨Iy (.inl rfl) k.1⟩
def WJ.rl {a:List (Nat×AP)}{R N:AP}{cs:List Code}{id:Nat}(e:(l.all qB||l.any fB)=false) (k:LJ P l.toArray (Qx a R (W P a R cs N)) l B h n m):WJ P a R (.region id l.toArray false::cs) N B h n m:=⟨Bw k.1⟩
end
def SC {A:Prop}(e:A:=by
 repeat' (first
  |refine gE rfl ?_
  |refine qD rfl ?_
  |refine QJ.fao rfl ?_
  |refine QJ.ld1 (by assumption) rfl (by repeat (first|exact mh|refine mt ?_)) (by rfl) ?_
  |(refine aS rfl (by assumption) ?_;intro _)
  |refine QJ.fax rfl (by assumption) ?_
  |refine XJ (by assumption) rfl (by assumption) ?_
  |refine UJ (by assumption) rfl (by assumption) (by first|exact Fc.out|exact QI.out) rfl ?_
  |(refine XI (by assumption) rfl (by assumption) ?_;intro _)
  |refine XK (by assumption) rfl (by assumption) ?_
  |refine QJ.len rfl (by assumption) (by rfl) ?_
  |refine QJ.lens rfl ?_
  |refine QJ.leno (by assumption) rfl (by repeat (first|exact mh|refine mt ?_)) ?_
  |refine XD (by assumption) rfl (by assumption) ?_
  |(refine XE (by assumption) rfl (by assumption) rfl ?_;intro _)
  |refine XH (by assumption) rfl (by repeat (first|exact mh|refine mt ?_)) rfl ?_
  |refine XG (by assumption) rfl (by repeat (first|exact mh|refine mt ?_)) rfl ?_
  |refine XM (by assumption) rfl (by repeat (first|exact mh|refine mt ?_)) (by rfl) ?_
  |exact QJ.scE rfl (by kernel_rfl) (by kernel_rfl)
  |(apply QJ.scA rfl rfl ?_ rfl (by kernel_rfl) (by kernel_rfl) (by kernel_rfl) ?_;rotate_left)
  |(apply QJ.scO rfl rfl ?_ rfl (by kernel_rfl) (by kernel_rfl) (by kernel_rfl) ?_;rotate_left))
 first|done|fail):A:=e
structure Hd (A:Prop):Prop where out:A
def AU {A B:Prop}(k:A) (f:Hd A→B:=by
 intro k
 first
  |with_reducible refine QJ.out ?_
  |with_reducible refine LJ.out ?_
  |with_reducible refine WJ.out ?_
  |refine LJ.out ?_
 repeat (first
  |refine gE rfl ?_
  |refine qD rfl ?_
  |refine QJ.fao rfl ?_
  |refine QJ.ld1 (by assumption) rfl (by repeat (first|exact mh|refine mt ?_)) (by rfl) ?_
  |(refine aS rfl (by assumption) ?_;intro _)
  |refine QJ.fax rfl (by assumption) ?_
  |refine XJ (by assumption) rfl (by assumption) ?_
  |refine UJ (by assumption) rfl (by assumption) (by first|exact Fc.out|exact QI.out) rfl ?_
  |(refine XI (by assumption) rfl (by assumption) ?_;intro _)
  |refine XK (by assumption) rfl (by assumption) ?_
  |refine QJ.len rfl (by assumption) (by rfl) ?_
  |refine QJ.lens rfl ?_
  |refine QJ.leno (by assumption) rfl (by repeat (first|exact mh|refine mt ?_)) ?_
  |refine XD (by assumption) rfl (by assumption) ?_
  |(refine XE (by assumption) rfl (by assumption) rfl ?_;intro _)
  |refine XH (by assumption) rfl (by repeat (first|exact mh|refine mt ?_)) rfl ?_
  |refine XG (by assumption) rfl (by repeat (first|exact mh|refine mt ?_)) rfl ?_
  |refine XM (by assumption) rfl (by repeat (first|exact mh|refine mt ?_)) (by rfl) ?_
  |refine QJ.ln ?_
  |refine QJ.rp ?_
  |refine LJ.q rfl ?_
  |refine LJ.nil ?_
  |refine WJ.seq ?_
  |refine WJ.skip ?_
  |refine WJ.rp rfl ?_
  |refine WJ.rl rfl ?_
  |(apply QJ.scA rfl rfl ?_ rfl (by kernel_rfl) (by kernel_rfl) (by kernel_rfl) ?_;rotate_left;exact SC)
  |(apply QJ.scO rfl rfl ?_ rfl (by kernel_rfl) (by kernel_rfl) (by kernel_rfl) ?_;rotate_left;exact SC)
  |fail)
 first
  |exact QJ.mk k.out
  |exact LJ.mk k.out
  |exact WJ.mk k.out):B:=f ⟨k⟩
def St.lt {S:Nat→Prop}{L:List HP}{h:AW}(k:St S L h):∀b,S b→b<h.size:=k.1
def EX {A:Prop}(e:A:=by
 first
  |assumption
  |exact CB.refl _ _
  |repeat (first
    |assumption
    |refine CB.trans ?_ (by assumption)
    |exact C5.ext (by assumption) (St.lt (by assumption))
    |exact SN.ext (St.lt (by assumption)) (by assumption)
    |exact SX.ext (St.lt (by assumption)) (by assumption) (by assumption)
    |refine CB.trans ?_ (C5.ext (by assumption) (St.lt (by assumption)))
    |refine CB.trans ?_ (SN.ext (St.lt (by assumption)) (by assumption))
    |refine CB.trans ?_ (SX.ext (St.lt (by assumption)) (by assumption) (by assumption)))):A:=e
def Rd.nw {b:Type}{S S':Nat→Prop}{h h':AW}{r:A7 b}{v:Value}{x:b}{L:List HP}(k:Rd S h r v x) (a:St S' L h':=by assumption) (e:CB S h S' h':=by exact EX):Rd S' h' r v x:=k.mono e
def Sl.nw {b:Type}{S S':Nat→Prop}{h h':AW}{r:A7 b}{v:Value}{l:List b}{L:List HP}(k:Sl S h r v l) (a:St S' L h':=by assumption) (e:CB S h S' h':=by exact EX):Sl S' h' r v l:=k.mono' e
def Mb.nw {b:Type}{S S':Nat→Prop}{h h':AW}{r:A7 b}{v:Value}{x:b}{L:List HP}(k:Pt S h r v x) (a:St S' L h':=by assumption) (e:CB S h S' h':=by exact EX):Pt S' h' r v x:=Mb.mono k e
def et {S S' S2:Nat→Prop}{h h' c:AW}(b:CB S' h' S2 c) (a:CB S h S' h':=by exact EX):CB S h S2 c:=a.trans b
inductive Dl:List HP→List HP→Prop
 |refl {L:List HP}:Dl L L
 |keep {H:HP} {L1 L2:List HP}:Dl L1 L2→Dl (H::L1) (H::L2)
 |drop {H:HP} {L1 L2:List HP}:Dl L1 L2→Dl L1 (H::L2)
def Sp.dl {S:Nat→Prop}{h:AW}{g i:List HP}(d:Dl g i):∀{A:Nat→Prop},Sp S i h A→Sp S g h A:=by
 induction d with
 |refl=>exact λk=>k
 |keep _ a=>exact λ⟨F,l,j,c⟩=>⟨F,l,j,a c⟩
 |drop _ a=>exact λ⟨F,_,j,c⟩=>a (Sp.mono c λb m=>m.1)
def St.dl {S:Nat→Prop}{h:AW}{a b:List HP}(k:St S b h) (d:Dl a b):St S a h:=⟨k.1,k.2.dl d⟩
def DR {A:Prop}(e:A:=by
 first
  |assumption
  |refine St.dl (by assumption) ?_
   repeat (first|exact Dl.refl|refine Dl.keep ?_|refine Dl.drop ?_)):A:=e
section
variable {P:Program}{fn:Func}{B:World}{S S':Nat→Prop}{h h':AW}{ex:List (Nat×AP)}{N:AP}{cs:List Code}{m:SM}{post:Value→(Nat→Prop)→AW→Prop}{k t:Nat}{v:Value}
def KU (kp:post v S' h') (b:fn.results= #[.tmp t]) (c:lk m t=some v) (e:CB S h S' h'):WF P ex (Rt P fn B S h post) (.ret::cs) N B h' (k,[]) m:=Bu λa w d g=>TC d g b c e kp
end
def CE {p:Prop}(e:true=false):p:=by cases e
section
variable {P:Program}{ops:Array Oper}{n:FN}{m:SM}{rest:List Oper}{d:Nat}{ty:TypeId}{pos:String}{af:Array Edge}{X Y:Operand}{f:Nat}{xs:Array Operand}{tys:Array TypeId}{args vs:List Value}{first cap:Array Value}{h:AW}{B:World}{S:Nat→Prop}{L:List HP}
variable {β ρ:Type}{F:Option β}{K:β→Option ρ}{r:ρ}
def A8 {Q:Act→Prop}{v:β→Value}{Z:β→(Nat→Prop)→AW→Prop}(E:F.bind K=some r) (i:BT m X=some (.func (.func f) first cap)) (a:xs.toList.mapM (BT m)=some args) (c:first.toList++args++cap.toList=vs) (g:BJ P f=true) (hd:Nat.blt d n.1=true)
  (j:∀y,F=some y→∀h',C5 h h'→B0 P f vs.toArray (λb=>b<h'.size) h' (λu S' l=>u=v y∧Z y S' l))
  (k:∀y,K y=some r→QF P ops (Cl B h) Q rest n ((d,v y)::m)):QF P ops (Cl B h) Q (⟨some d,.call ⟨.value X,xs,tys⟩,ty,pos,af,none⟩::rest) n m:=by
 obtain⟨y,o,E⟩:=bd E;exact Kt i a c g hd (j y o) (k y E)
def CA {Q:Act→Prop}{v:β→Value}{Ψ:β→Prop}{Z:β→(Nat→Prop)→AW→Prop}(E:F.bind K=some r) (i:BT m X=some (.func (.func f) first cap)) (a:xs.toList.mapM (BT m)=some args) (c:first.toList++args++cap.toList=vs) (g:BJ P f=true) (hd:Nat.blt d n.1=true)
  (j:∀y,F=some y→∀h',C5 h h'→B0 P f vs.toArray (λb=>b<h'.size) h' (λu S' l=>u=v y∧Ψ y∧Z y S' l))
  (k:∀y,K y=some r→Ψ y→QF P ops (Cl B h) Q rest n ((d,v y)::m)):QF P ops (Cl B h) Q (⟨some d,.call ⟨.value X,xs,tys⟩,ty,pos,af,none⟩::rest) n m:=by
 obtain⟨y,o,E⟩:=bd E;exact Pq i a c g hd (j y o) (k y E)
def BQ {Q:Exit→Act→World→Prop}{a:β→Value→(Nat→Prop)→AW→Prop}(E:F.bind K=some r) (i:BT m X=some (.func (.func f) first cap)) (b:xs.toList.mapM (BT m)=some args) (c:first.toList++args++cap.toList=vs) (g:BJ P f=true) (hd:Nat.blt d n.1=true) (j:∀y,F=some y→B0 P f vs.toArray S h (a y))
  (k:∀y,K y=some r→∀v S' h',CB S h S' h'→a y v S' h'→LF P ops Q rest B h' n ((d,v)::m)):LF P ops Q (⟨some d,.call ⟨.value X,xs,tys⟩,ty,pos,af,none⟩::rest) B h n m:=by
 obtain⟨y,l,E⟩:=bd E;exact Dh i b c g hd (j y l) (k y E)
def Cc {Q:Exit→Act→World→Prop}{a:β→Value→(Nat→Prop)→AW→Prop}(E:F.bind K=some r) (j:BT m X=some (.func (.func f) first cap)) (c:xs.toList.mapM (BT m)=some args) (g:first.toList++args++cap.toList=vs) (i:BJ P f=true) (hd:Nat.blt d n.1=true) (l:St S L h) (o:∀y,F=some y→B0 P f vs.toArray (λb=>b<h.size) h (a y))
  (k:∀y,K y=some r→∀v S' h',St S L h'→CB S h S h'→CB (λb=>b<h.size) h S' h'→a y v S' h'→LF P ops Q rest B h' n ((d,v)::m)):LF P ops Q (⟨some d,.call ⟨.value X,xs,tys⟩,ty,pos,af,none⟩::rest) B h n m:=by
 obtain⟨y,p,E⟩:=bd E;exact E6 j c g i hd l (o y p) (k y E)
def AZ {o:Type}{C:World→Prop}{Q:Act→Prop}{a:A7 o}{l:List o}{K:o→Option ρ}{t e:Nat}{v:Value}{i:Int}(E:(Go.Proofs.YtedgiljmffngoaaGreat.ix l i).bind K=some r) (c:BT m X=some v) (g:BT m Y=some (.int .i64 i)) (k0:Sl S h a v l) (j:N1 P t e a.sz=true) (hd:Nat.blt d n.1=true)
  (k:∀x,K x=some r→∀q,Pt S h a q x→QF P ops C Q rest n ((d,q)::m)):QF P ops C Q (⟨some d,.indexAddr t X Y,ty,pos,af,none⟩::rest) n m:=by
 obtain⟨x,b,E⟩:=bd E;exact M2 c g k0 j b hd (k x E)
end
def Dk {P:Program}{ops:Array Oper}{n:FN}{m:SM}{rest:List Oper}{ty:TypeId}{pos:String}{af:Array Edge}{X Y:Operand}{h:AW}{B:World}{S:Nat→Prop}{L c:List HP}{Q:Exit→Act→World→Prop}{v:Value}{T d:TypeId}{b:Nat}{cs vs:List Value}{sz:Nat}{ag:Bool}(i:BT m X=some (.pointer (some ⟨b,0,none⟩))) (j:BT m Y=some v) (l:v.cells=vs.toArray) (o:∀u∈vs,u.oneCell'=true)
  (p:Jd P T sz ag=true) (a:vs.length=sz) (q:St S L h) (r:MX L (Bx b d cs) (Bx b d vs) c) (s:Nat.beq cs.length sz=true)
  (k:∀h',St S c h'→CB S h S h'→LF P ops Q rest B h' n m):LF P ops Q (⟨none,.store T X Y,ty,pos,af,none⟩::rest) B h n m:=by
 have g:=tV s;refine SZ i j l o p a q r (by simp [g]) ?_ k;unfold IY;simp [g,a]
def ON {A:Prop}(e:A:=by
 repeat (first
  |exact Mo
  |refine CD rfl ?_
  |refine CD (Sl.one (by assumption)) ?_)):A:=e
def PA.i {R:AR}{h:AW}{K:SM→Prop}{j d:Nat}{a:List (Nat×Nat)}{fr:SM}(k:∀u,R j u h→PA R h K a ((d,u)::fr)):PA R h K ((j,d)::a) fr:=k
def sN {R:AR}{h:AW}{K:SM→Prop}{fr:SM}(k:K fr):PA R h K [] fr:=k
def nC {a b:Prop}(k:a∧b):a∧b:=k
def EH {A:Prop}(e:A:=by
 intro b c o;have a:=C5.st o (by assumption)
 repeat (refine PA.i (λu f=>?_);first|(obtain ⟨rfl,_⟩:=nC f)|cases f)
 refine sN ?_;refine AU ?_
 first
  |exact A9 (C5.refl _) rfl
  |exact A9 (C5.refl _) ⟨rfl,(by first|assumption|exact iq rfl|exact BI _)⟩):A:=e
def St.ea {S:Nat→Prop}{L:List HP}{h:AW}(k:St S L h):CB S h (λb=>b<h.size) h:=⟨λb a=>k.1 b a,λ_ _=>rfl,tX _⟩
def AS {P:Program}{ops:Array Oper}{Q:Exit→Act→World→Prop}{B:World}{n:FN}{d:Nat}{R:Value→AW→Prop}{h:AW}{m:SM}{v:Value}(r:R v h):LF P ops (Exit.then (KS B n d R h m) Q) [] B h n ((d,v)::m):=A9 (C5.refl _) r
def Rd.sn {d:Type}{S:Nat→Prop}(h0:AW) {a:AW}{r:A7 d}{v:Value}{x:d}(k:Rd S a r v x):Rd (SN S h0 a) a r v x:=k.mono ⟨λb c=> .inl c,λ_ _=>rfl,tX _⟩
def Sl.sn {d:Type}{S:Nat→Prop}(h0:AW) {a:AW}{r:A7 d}{v:Value}{x:List d}(k:Sl S a r v x):Sl (SN S h0 a) a r v x:=k.mono' ⟨λb c=> .inl c,λ_ _=>rfl,tX _⟩
def iV {S:Nat→Prop}{L:List HP}{h a c:AW}(k:St S L h) (d:C5 h a) (g:C5 a c):CB S a S c:=g.ext λb i=>tZ (k.1 b i) d.siz
def MO {A:Prop}(e:A:=by
 intro i v d g c b a
 repeat (first
  |exact False.elim a
  |(rcases i with _|i;focus first
   |exact a
   |exact Mb.mono a (iV (by assumption) c b)
   |exact Sl.mono' a (iV (by assumption) c b)
   |exact Rd.mono a (iV (by assumption) c b)
   |exact⟨Sl.mono' a.1 (SN.mono (St.lt (by assumption)) c b),a.2⟩
   |exact a.mono b
   |exact Sl.mono' a (SN.mono (St.lt (by assumption)) c b)
   |exact Rd.mono a (SN.mono (St.lt (by assumption)) c b)))):A:=e
def RT {A:Prop}(e:A:=by
 refine AU ?_;cases E
 first
  |exact KU ⟨rfl,DR⟩ rfl rfl EX
  |exact KU ⟨rfl,(by first|assumption|exact iq rfl|exact BI _),DR⟩ rfl rfl EX):A:=e
def subD (s:ByteArray) (i:Int):Option ByteArray:=if 0≤i∧i≤s.size then some (s.extract i.toNat s.size) else none
def WZ {s t:ByteArray}{i:Int}(h:subD s i=some t):t.size≤s.size:=by
 unfold subD at h;split at h
 ·cases h;simp only[ByteArray.size_extract];omega
 ·cases h
def nE (l:List Int):Option ByteArray:=if l.length≤maxLen then some (strOfNums l) else none
def Y9 {l:List Int}{s:ByteArray}(h:nE l=some s):s.size≤maxLen:=by
 unfold nE at h;split at h
 ·cases h;rw[strOfNums_size];assumption
 ·cases h
def bY {k:IntKind}{x:Int}(h:k.has x):k.wrap x=x:=by
 have:=Cf k x;cases k<;>simp only[IntKind.has,IntKind.min,IntKind.max,IntKind.signed,IntKind.bits,IntKind.wrap] at* <;>simp at* <;>omega
def qS:(0:Int)≤0∧(0:Int)≤1:=⟨by decide,by decide⟩
section
variable {P:Program}{ops:Array Oper}{C:World→Prop}{Q:Act→Prop}{n:FN}{m:SM}{rest:List Oper}
variable {d:Nat}{ty:TypeId}{pos:String}{af:Array Edge}{X Y:Operand}{t t1 t2:TypeId}{v:Value}{S:Nat→Prop}{L:List HP}{h:AW}{B:World}
def QF.subD {s u:ByteArray}{i:Int}{kd:IntKind}(j:BT m X=some (.string s)) (l:BT m Y=some (.int kd i)) (g:P.underlying t=some .string) (b:subD s i=some u) (hd:Nat.blt d n.1=true) (k:QF P ops C Q rest n ((d,.string u)::m)):
  QF P ops C Q (⟨some d,.slice t X (some Y) none none,ty,pos,af,none⟩::rest) n m:=λa c=>by
 unfold Proofs.YtedgiljmffngoaaGreat.subD at b;split at b
 ·rename_i h0;cases b;exact Dn c hd (λw _=>by simp [execOp,c.eval j,c.eval l,run_sliceAt_string w t _ _ _ _ g,run_slice_string_from_if w t s kd i g,h0,Result.andThen]) k
 ·cases b
def bJ {A:Nat→Prop}{l:List Int}{s:ByteArray}{e:TypeId}(G:CK C h) (H:∀b,A b→b<h.size) (g:BT m X=some v) (k0:Sl A h (A7.intk .u8) v l) (t:P.underlying t1=some (.slice e)) (y:P.underlying e=some (.int .u8)) (z:P.underlying t2=some .string) (i:nE l=some s) (hd:Nat.blt d n.1=true)
  (k:QF P ops C Q rest n ((d,.string s)::m)):QF P ops C Q (⟨some d,.convert t1 t2 X,ty,pos,af,none⟩::rest) n m:=λa o=>by
 unfold nE at i;split at i
 ·cases i;rcases k0 with ⟨rfl,rfl⟩|⟨ad,cap,rfl,h4,h5,h6⟩
  ·exact Dn o hd (λw _=>by simp [execOp,o.eval g,run_convert_bytes_nil w t1 e t y 0 0 t2 z];rfl) k
  ·refine Dn o hd (λw I=>?_) k;have J:(loadCells ad l.length).run P w= .ok (l.map (Value.int .u8)).toArray w:=by
    have:=run_loadCells_list (P:=P) w ad (l.map (Value.int .u8)) (λj u K=>by
     obtain⟨x,g,rfl⟩:=by simpa using K
     obtain⟨B,cs,⟨W,M,Y,D,U⟩,rfl,Z⟩:=h6 j x g;cases M;have F:=U 0 (by simp);rw[I1];obtain⟨p,q,ss⟩:=ad;simp only at B;subst B;have c:(⟨p,q,none⟩:Addr).add j=⟨p,q+j,none⟩:=by unfold Addr.add;split<;>simp_all
     rw[c];have V:j*(A7.intk IntKind.u8).sz=j:=wE j;simp only[Nat.add_zero,V] at D F;rw[PN (a:=⟨p,q+j,none⟩) (G w I _ (H _ D))];exact F)
    simpa using this
   have hq:ByteArray.empty.data++(l.map λn=>UInt8.ofNat n.toNat).toArray=(l.map λn=>UInt8.ofNat n.toNat).toArray:=by simp
   simp [execOp,o.eval g,run_convert_bytes_string w t1 t2 e (some ad) l.length cap t y z,run_bytesToString w ad l.length cap l J,foldl_push_bytes];rfl
 ·cases i
def UL {α}{r:A7 α}{p:Value}{x:α}(c:BT m X=some p) (k0:Pt S h r p x) (hd:Nat.blt d n.1=true) (k:QF P ops C Q rest n ((d,p)::m)):QF P ops C Q (⟨some d,.nilCheck X,ty,pos,af,none⟩::rest) n m:=by
 obtain⟨cs,⟨g,rfl,_⟩,_⟩:=k0;exact λa b=>Dn b hd (λw _=>by simp [execOp,b.eval c]) k
def iJ {a:Act}{w:World}{d:Option Nat}{f:Nat}{xs:Array Operand}{c:Array TypeId}
  {b:List Value} (i:Fr n a m) (j:BT m X=some (.func (.func f) #[] #[])) (g:xs.toList.mapM (BT m)=some b) (k:(callFunc f b.toArray).run P w= .ok (.value v) w):
  (execOp a.eval ⟨d,.call ⟨.value X,xs,c⟩,ty,pos,af,none⟩).run P w= .ok (.value v) w:=by
 simp only[execOp,resolve,i.eval j,Deferred.ofValue,VH i g];simp [invoke,k]
def aT {f:Nat}{xs:Array Operand}{c:Array TypeId}{b:List Value}(j:BT m X=some (.func (.func f) #[] #[])) (g:xs.toList.mapM (BT m)=some b) (l:∀w,(callFunc f b.toArray).run P w= .ok (.value v) w) (hd:Nat.blt d n.1=true)
  (k:QF P ops C Q rest n ((d,v)::m)):QF P ops C Q (⟨some d,.call ⟨.value X,xs,c⟩,ty,pos,af,none⟩::rest) n m:=λa i=>
 Dn i hd (λw _=>iJ i j g (l w)) k
end
def K1 (x y c:Int):Int×Int:=((x+y+c)%18446744073709551616,(x+y+c)/18446744073709551616)
def K0 (x y c:Int):Int×Int:=((x-y-c)%18446744073709551616,if x<y+c then 1 else 0)
def Xr {x:Int}:IntKind.has .u64 x↔0≤x∧x≤18446744073709551615:=by simp [IntKind.has,IntKind.min,IntKind.max,IntKind.signed,IntKind.bits]
def Yh {x y c:Int}(a:IntKind.has .u64 x) (b:IntKind.has .u64 y) (d:0≤c∧c≤1):IntKind.has .u64 (K1 x y c).1∧IntKind.has .u64 (K1 x y c).2∧0≤(K1 x y c).2∧(K1 x y c).2≤1:=by
 rw[Xr] at *;unfold K1;simp only;rw[Xr];omega
def Yg {x y c:Int}(a:IntKind.has .u64 x) (b:IntKind.has .u64 y) (d:0≤c∧c≤1):IntKind.has .u64 (K0 x y c).1∧IntKind.has .u64 (K0 x y c).2∧0≤(K0 x y c).2∧(K0 x y c).2≤1:=by
 rw[Xr] at *;unfold K0;simp only;rw[Xr];split<;>omega
def pZ:Array Value→Sem Value:=λa=>do
 let (x,y,c) ←Extern.MathBitsCarry.three "Add64" a
 pure (Extern.MathBitsCarry.pair ((x+y+c)%Extern.MathBitsCarry.m64) ((x+y+c)/Extern.MathBitsCarry.m64))
def nQ:Array Value→Sem Value:=λa=>do
 let (x,y,b) ←Extern.MathBitsCarry.three "Sub64" a
 pure (Extern.MathBitsCarry.pair ((x+Extern.MathBitsCarry.m64-y-b)%Extern.MathBitsCarry.m64) (if x<y+b then 1 else 0))
def ZC {P:Program}(x y c:Nat) (a:c≤1) (w:World):(pZ #[.int .u64 x,.int .u64 y,.int .u64 c]).run P w= .ok (.tuple #[.int .u64 (((x+y+c)%18446744073709551616:Nat):Int),.int .u64 (((x+y+c)/18446744073709551616:Nat):Int)]) w:=by
 have:c=0∨c=1:=by omega
 rcases this with rfl|rfl<;>rfl
def ZA {P:Program}(x y c:Nat) (a:c≤1) (w:World):(nQ #[.int .u64 x,.int .u64 y,.int .u64 c]).run P w= .ok (.tuple #[.int .u64 (((x+18446744073709551616-y-c)%18446744073709551616:Nat):Int),.int .u64 ((if x<y+c then 1 else 0:Nat):Int)]) w:=by
 have:c=0∨c=1:=by omega
 rcases this with rfl|rfl<;>rfl
section
variable {P:Program}{f:Nat}{fn:Func}
def Ub (d:P.funcs[f]? =some fn) (g:(fn.name== "runtime.NumGoroutine")=false) (i:fn.body.isNone=true) (j:Extern.findNext fn=none) (k:Extern.find fn=some pZ):
  ∀x y c:Int,IntKind.has .u64 x→IntKind.has .u64 y→(0≤c∧c≤1)→∀w,(callFunc f #[.int .u64 x,.int .u64 y,.int .u64 c]).run P w= .ok (.value (.tuple #[.int .u64 (K1 x y c).1,.int .u64 (K1 x y c).2])) w:=λx y c a b l w=>by
 rw[Xr] at a b;obtain⟨x,rfl⟩:=yD a.1;obtain⟨y,rfl⟩:=yD b.1;obtain⟨c,rfl⟩:=yD l.1;rw[run_callFunc_extern d g i j k,ZC x y c (by omega)];simp only[Result.andThen,K1];congr 5<;>omega
def Ua (d:P.funcs[f]? =some fn) (g:(fn.name== "runtime.NumGoroutine")=false) (i:fn.body.isNone=true) (j:Extern.findNext fn=none) (k:Extern.find fn=some nQ):
  ∀x y c:Int,IntKind.has .u64 x→IntKind.has .u64 y→(0≤c∧c≤1)→∀w,(callFunc f #[.int .u64 x,.int .u64 y,.int .u64 c]).run P w= .ok (.value (.tuple #[.int .u64 (K0 x y c).1,.int .u64 (K0 x y c).2])) w:=λx y c a b l w=>by
 rw[Xr] at a b;obtain⟨x,rfl⟩:=yD a.1;obtain⟨y,rfl⟩:=yD b.1;obtain⟨c,rfl⟩:=yD l.1;rw[run_callFunc_extern d g i j k,ZA x y c (by omega)];simp only[Result.andThen,K0];have m:(((x+18446744073709551616-y-c)%18446744073709551616:Nat):Int)=((x:Int)-y-c)%18446744073709551616:=by omega
 have n:((if x<y+c then 1 else 0:Nat):Int)=if (x:Int)<y+c then 1 else 0:=by split<;>split<;>omega
 rw[m,n]
end
section
variable {P:Program}{ex:List (Nat×AP)}{RR N:AP}{cs:List Code}{B:World}{h:AW}{n:FN}{m m0:SM}
end
def iE {α}(l:List α) (i:Int):Option (List α):=if 0≤i∧i≤l.length then some (l.take i.toNat) else none
def iF {α}(l:List α) (i:Int):Option (List α):=if 0≤i∧i≤l.length then some (l.drop i.toNat) else none
section
variable {P:Program}{ops:Array Oper}{C:World→Prop}{Q:Act→Prop}{n:FN}{m:SM}{rest:List Oper}{a:Act}
variable {d:Nat}{ty:TypeId}{pos:String}{af:Array Edge}{X Y:Operand}{t t1 t2:TypeId}{kd:IntKind}{v:Value}{S:Nat→Prop}{h:AW}
def cK {α}{r:A7 α}{e:TypeId}{l k:List α}{y:Int}(k0:Sl S h r v l) (n:N1 P t e r.sz=true) (c:iE l y=some k):∃u,(∀w,(Instr.sliceAt t v none (some (.int kd y)) none).run P w= .ok u w)∧Sl S h r u k:=by
 unfold iE at c;split at c
 ·rename_i d;cases c;obtain⟨g,m⟩:=LX n;rcases k0 with ⟨rfl,rfl⟩|⟨⟨b,o,sp⟩,cap,rfl,h4,h5,h6⟩
  ·have h0:y=0:=by have:=d.1;have:=d.2;simp at this;omega
   subst h0;exact⟨.slice none 0 0,λw=>by simp [run_sliceAt_slice _ _ _ _ _ _ g,run_slice_h w t _ 0 0 g kd 0 (by omega) (by omega),m,sliced],.inl ⟨rfl,rfl⟩⟩
  ·refine⟨.slice (if cap=0 then some ⟨b,o,sp⟩ else some ((⟨b,o,sp⟩:Addr).add 0)) y.toNat cap,λw=>by simp [run_sliceAt_slice _ _ _ _ _ _ g,run_slice_h w t _ l.length cap g kd y d.1 (by omega),m,sliced],?_⟩;have j:(if cap=0 then some (⟨b,o,sp⟩:Addr) else some ((⟨b,o,sp⟩:Addr).add 0))=some ⟨b,o,sp⟩∨l=[]:=by
    by_cases h0:l=[]
    ·exact .inr h0
    ·have p:0<l.length:=List.length_pos_iff.2 h0;have:=(h6 0 l[0] (by simp [p])).1;simp only at this;subst this;left;split
     ·rfl
     ·rw[Oj];rfl
   rcases j with j|rfl
   ·rw[j];refine .inr ⟨⟨b,o,sp⟩,cap,by rw[vT,xT (by omega)],by rw[vT];omega,h5,λi x a=>?_⟩;rw[yC] at a;split at a
    ·exact h6 i x a
    ·cases a
   ·have h0:y.toNat=0:=by have:=d.2;simp at this;omega
    rw[h0];split
    ·exact .inr ⟨_,cap,rfl,by simp,h5,λi x a=>by simp at a⟩
    ·exact .inr ⟨_,cap,rfl,by simp,h5,λi x a=>by simp at a⟩
 ·cases c
def cL {α}{r:A7 α}{e:TypeId}{l j:List α}{y:Int}(k0:Sl S h r v l) (m:N1 P t e r.sz=true) (c:iF l y=some j):∃u,(∀w,(Instr.sliceAt t v (some (.int kd y)) none none).run P w= .ok u w)∧Sl S h r u j:=by
 unfold iF at c;split at c
 ·rename_i g;cases c;obtain⟨d,k⟩:=LX m;rcases k0 with ⟨rfl,rfl⟩|⟨⟨b,o,sp⟩,cap,rfl,h4,h5,h6⟩
  ·have h0:y=0:=by have:=g.1;have:=g.2;simp at this;omega
   subst h0;exact⟨.slice none 0 0,λw=>by simp [run_sliceAt_slice _ _ _ _ _ _ d,run_slice_l w t _ 0 0 d kd 0 (by omega) (by omega),k,sliced],.inl ⟨rfl,rfl⟩⟩
  ·refine⟨.slice (if cap=y.toNat then some ⟨b,o,sp⟩ else some ((⟨b,o,sp⟩:Addr).add (y.toNat*r.sz))) (l.length-y.toNat) (cap-y.toNat),λw=>by simp [run_sliceAt_slice _ _ _ _ _ _ d,run_slice_l w t _ l.length cap d kd y g.1 (by omega),k,sliced],?_⟩;by_cases h0:y.toNat<l.length
   ·have:=(h6 0 l[0] (by simp [show 0<l.length by omega])).1;simp only at this;subst this;rw[tQ (by omega),Oj];refine .inr ⟨_,_,by rw[vY],by rw[vY];omega,by omega,λi x a=>⟨rfl,?_⟩⟩;rw[xB] at a;have:=(h6 _ x a).2;simp only[vW,←xJ] at this;exact this
   ·have n:l.drop y.toNat=[]:=wX (by omega);have p:l.length-y.toNat=0:=by omega
    rw[n,p];split
    ·exact .inr ⟨_,_,rfl,by simp,by omega,λi x a=>by simp at a⟩
    ·exact .inr ⟨_,_,rfl,by simp,by omega,λi x a=>by simp at a⟩
 ·cases c
def XQ {α}{r:A7 α}{e:TypeId}{l c:List α}{y:Int}(g:BT m X=some v) (i:BT m Y=some (.int kd y)) (k0:Sl S h r v l) (j:N1 P t e r.sz=true) (o:iE l y=some c) (hd:Nat.blt d n.1=true)
  (k:∀u,Sl S h r u c→QF P ops C Q rest n ((d,u)::m)):QF P ops C Q (⟨some d,.slice t X none (some Y) none,ty,pos,af,none⟩::rest) n m:=by
 obtain⟨u,p,q⟩:=cK (kd:=kd) k0 j o;exact λa b=>Dn b hd (λw _=>by simp [execOp,b.eval g,b.eval i,p]) (k u q)
def XS {α}{r:A7 α}{e:TypeId}{l c:List α}{y:Int}(g:BT m X=some v) (i:BT m Y=some (.int kd y)) (k0:Sl S h r v l) (j:N1 P t e r.sz=true) (o:iF l y=some c) (hd:Nat.blt d n.1=true)
  (k:∀u,Sl S h r u c→QF P ops C Q rest n ((d,u)::m)):QF P ops C Q (⟨some d,.slice t X (some Y) none none,ty,pos,af,none⟩::rest) n m:=by
 obtain⟨u,p,q⟩:=cL (kd:=kd) k0 j o;exact λa b=>Dn b hd (λw _=>by simp [execOp,b.eval g,b.eval i,p]) (k u q)
end
def bL (s:ByteArray):List Int:=s.data.toList.map λb=>(b.toNat:Int)
def MW (s:ByteArray):(bL s).length=s.size:=by simp [bL]
def gC (g j:Nat):(⟨g,0,none⟩:Addr).add j=⟨g,j,none⟩:=by unfold Addr.add;split<;>simp_all
def mC (s t:ByteArray):bL (s++t)=bL s++bL t:=by simp [bL,ByteArray.data_append]
def dJ (s:ByteArray) (c:Int) (h:IntKind.has .u8 c):bL (s.push (UInt8.ofNat c.toNat))=bL s++[c]:=by
 have:0≤c∧c≤255:=by simpa [IntKind.has,IntKind.min,IntKind.max,IntKind.signed,IntKind.bits] using h
 have e:(((UInt8.ofNat c.toNat).toNat:Nat):Int)=c:=by rw[UInt8.toNat_ofNat'];omega
 simp only[bL,ByteArray.push,Array.toList_push,wM,uY,List.map_nil,e]
abbrev RB:A7 Int:=A7.intk .u8
def TD {S:Nat→Prop}{h:AW}:∀l:List UInt8,LB S h RB (l.map λb=>Value.int .u8 b.toNat) (l.map λb=>(b.toNat:Int))
 |[]=>rfl
 |b::l=>⟨[.int .u8 b.toNat],l.map λb=>Value.int .u8 b.toNat,rfl,⟨rfl,by have:=b.toNat_lt;simp [IntKind.has,IntKind.min,IntKind.max,IntKind.signed,IntKind.bits];omega⟩,TD l⟩
def Wh {S:Nat→Prop}{h:AW}(t:ByteArray):LB S h RB (Lib.strCells t) (bL t):=TD t.data.toList
section
variable {P:Program}{ops:Array Oper}{Q:Exit→Act→World→Prop}{n:FN}{m:SM}{rest:List Oper}{a:Act}
variable {d:Nat}{ty:TypeId}{pos:String}{af:Array Edge}{X Y:Operand}{B w:World}{h:AW}{S:Nat→Prop}{L L2:List HP}{v:Value}
def Uw {T U e H:Nat}{z:List Value}{l:List Int}{t:ByteArray}{F:Nat→Prop}(he:N3 P T=some (e,1,H,z)) (p:P.underlying U=some .string)
  (M:l.length+t.size≤maxLen) (Q:Jb (l.length+t.size) H) (c:Wd B h w) (k:(OS RB e v l).holds S F h) (hS:∀b,S b→b<h.size∧¬F b):
  ∃v' w' h' F',(Builtin.append_ #[T,U] ty #[v,.string t]).run P w= .ok v' w'∧Wd B h' w'∧h.size≤h'.size∧(OS RB e v' (l++bL t)).holds S F' h'∧(∀b,F' b→F b∨(h.size≤b∧b<h'.size))∧(∀b,b<h.size→¬F b→h'[b]? =h[b]?)∧(v= .slice none 0 0→t.size=0→v'= .slice none 0 0):=by
 obtain⟨i,D,V,W,h3,h4,h5,h6,h7,h8⟩:=Kq he;have X:l.length+t.size≤9223372036854775807:=by unfold maxLen at M;omega
 have ac:D.cells.size=1:=by rw[h6];simpa using h7
 have d:(bL t).length=t.size:=MW t;have q:(Lib.strCells t).length=t.size:=Lib.strCells_length t;have s:∀(m:List Value) (o:Nat),LB S h RB m l→o<l.length+t.size→
   (OS RB e (.slice (some ⟨h.size,0,none⟩) (l.length+t.size) (grownCap w (l.length+t.size) o e)) (l++bL t)).holds S (λb=>b=h.size)
    (h.push (.cells (m.toArray++(Lib.strCells t).toArray++Builtin.zeroCells D.cells (grownCap w (l.length+t.size) o e-(l.length+t.size))) e)):=by
  intro m o ho ag;have ae:=grownCap_ge w (l.length+t.size) o e;refine .inr ⟨h.size,_,_,by rw[uJ,d],λ_=>vZ,Ka _ _,by rw[uJ,d];exact ae,grownCap_le_maxLen w _ o e M,?_,?_⟩
  ·have:=ho.len;simp only[Array.size_append,xS,size_zeroCells,ac,this,q];show l.length*1+t.size+_*1=_*1
   omega
  ·have y:(l++bL t).length*RB.sz=(m++Lib.strCells t).length:=by
    rw[uJ,uJ,ho.len,q,d];show(l.length+t.size)*1=l.length*1+t.size;omega
   rw[y];simp only[Array.toList_append];rw[xL];exact(ho.append (Wh t)).mono (λ_ x=>x) λb a=>Gi _ _ _ (hS b a).1
 rcases k with ⟨⟨I,rfl⟩,rfl,hF⟩|⟨g,cap,cur,rfl,hF,hg,hlc,hcm,hcs,hrd⟩
 ·by_cases Y:t.size=0
  ·have hn:Lib.strCells t=[]:=xZ (by rw[q];exact Y);have a:bL t=[]:=xZ (by rw[d];exact Y);refine⟨.slice I 0 0,w,h,F,?_,c,tX _,.inl ⟨⟨I,rfl⟩,by rw[a];rfl,hF⟩,λb a=> .inl a,λ_ _ _=>rfl,λe _=>e⟩;have hf:=Lib.run_firstCells_string (P:=P) w 1 t;rw[Y,hn] at hf;cases I<;>simp [Builtin.append_,run_underlying V,run_underlying p,sizeOf,typeInfo,W,h4,Builtin.lenOf,Y,hf,storeCells]
  ·have G:Jb t.size H:=by simpa using Q
   have ah:=G.le;have e1:(t.data.map λb=>Value.int .u8 b.toNat)=(Lib.strCells t).toArray:=by
    apply Array.ext';simp [Lib.strCells]
   have Z:(Builtin.append_ #[T,U] ty #[.slice I 0 0,.string t]).run P w= .ok (.slice (some ⟨w.heap.size,0,none⟩) t.size (grownCap w t.size 0 e)) (w.drew.alloc (.cells ((Lib.strCells t).toArray++Builtin.zeroCells D.cells (grownCap w t.size 0 e-t.size)) e)):=by
    cases I with
    |none=>
     have:=run_append_nil_string (P:=P) w T U ty e i D V p W h3 t (by omega) (by simp at X;omega) (by rw[h5];omega);rw[e1] at this;exact this
    |some I=>
     have hq:=Lib.run_append_grow_string (P:=P) w T U ty e i D V p W h3 I 0 0 [] (by simp) (λj u p=>by simp at p) t (by omega) (by omega) (Nj (by omega) (by rw[h5];simpa using G));simpa using hq
   have C:=s [] 0 rfl (by simp;omega);simp only[List.length_nil,uT,uK,Array.empty_append] at C;refine⟨_,_,h.push (.cells ((Lib.strCells t).toArray++Builtin.zeroCells D.cells (grownCap w t.size 0 e-t.size)) e),λb=>b=h.size,Z,⟨?_,c.os,c.tape,c.out⟩,by simp,?_,λb a=> .inr (by subst a;simp),λb a _=>Gi _ _ _ a,λ_ e=>absurd e Y⟩
   ·show(w.heap.push _)=_;rw[c.heap]
   ·rw[c.heap];exact C
 ·have aa:w.heap[g]? =some (.cells cur e (0,0)):=by rw[c.heap];exact hg
  have af:cur.size=cap:=by have:cur.size=cap*1:=hcs;omega
  have n:LB S h RB (cur.toList.take l.length) l:=by have:=hrd;rwa [show l.length*RB.sz=l.length from wE _] at this
  by_cases A:l.length+t.size≤cap
  ·have Z:=Lib.run_append_room_string (P:=P) w T U ty e i V p W h4 g l.length cap cur aa t A (by omega);obtain⟨h',e1,e2,e3,e4⟩:=P0 w g cur (c':=(cur.toList.take l.length++Lib.strCells t++cur.toList.drop (l.length+t.size)).toArray) e aa;rw[c.heap] at e2 e4;refine⟨_,_,h',F,Z,⟨e1,c.os,c.tape,c.out⟩,by omega,.inr ⟨g,cap,_,by rw[uJ,d],hF,e3,by rw[uJ,d];exact A,hcm,?_,?_⟩,λb a=> .inl a,λb _ a=>e4 b λe=>a ((hF b).2 e),λe=>by cases e⟩
   ·simp only[xS,uJ,vT,vY,yK,q];show _=cap*1
    omega
   ·have J:=n.len;have ab:(cur.toList.take l.length).length=l.length:=by rw[J];exact wE _
    have y:(l++bL t).length*RB.sz=(cur.toList.take l.length++Lib.strCells t).length:=by
     rw[uJ,uJ,ab,q,d];exact wE _
    rw[y,xL];exact(n.append (Wh t)).mono (λ_ x=>x) λb a=>e4 b λe=>(hS b a).2 ((hF b).2 e)
  ·have K:∀j u,(cur.toList.take l.length)[j]? =some u→w.cell? ((⟨g,0,none⟩:Addr).add j)=some u:=λj u p=>by
    rw[gC,I1,c.heap];have hj:j<l.length:=by
     have:=(uB.1 p).1;simp at this;omega
    rw[vU hj] at p;simp only[IK,hg,xQ,wH,wI];simpa using p
   have J:=n.len;have Z:=Lib.run_append_grow_string (P:=P) w T U ty e i D V p W h3 ⟨g,0,none⟩ l.length cap _ (by rw[h4];exact J) K t (by omega) (by omega) (Nj (by omega) (by rw[h5];exact Q));have C:=s _ cap n (by omega);refine⟨_,_,h.push (.cells ((cur.toList.take l.length).toArray++(Lib.strCells t).toArray++Builtin.zeroCells D.cells (grownCap w (l.length+t.size) cap e-(l.length+t.size))) e),λb=>b=h.size,Z,⟨?_,c.os,c.tape,c.out⟩,by simp,?_,λb a=> .inr (by subst a;simp),λb a _=>Gi _ _ _ a,λe=>by cases e⟩
   ·show(w.heap.push _)=_;rw[c.heap]
   ·rw[c.heap];exact C
def eX {T U e u:Nat}{z:List Value}{l:List Int}{t:ByteArray}{LL:Value→List HP}(hx:BT m X=some v) (hy:BT m Y=some (.string t)) (he:N3 P T=some (e,1,u,z)) (Z:P.underlying U=some .string)
  (y:l.length+t.size≤maxLen) (A:Jb (l.length+t.size) u) (hd:Nat.blt d n.1=true) (s:St S L h) (rp:∀i,MX L (OS RB e v l) (OS RB e i (l++bL t)) (LL i))
  (k:∀i h',St S (LL i) h'→CB S h S h'→(v= .slice none 0 0→t.size=0→i= .slice none 0 0)→LF P ops Q rest B h' n ((d,i)::m)):
  LF P ops Q (⟨some d,.call ⟨.builtin .append,#[X,Y],#[T,U]⟩,ty,pos,af,none⟩::rest) B h n m:=by
 intro a w g hw;refine wpList_plain rfl λK hK=>?_;unfold Oper.wp;obtain⟨M,p,_⟩:=(rp v).pick;obtain⟨F,g1,g2,_⟩:=Sp.pick p s.2;obtain⟨i,w',h',F',e1,e2,e3,e4,e5,e6,e7⟩:=Uw (ty:=ty) he Z y A hw g1 λb c=>⟨s.1 b c,λg=>(g2 b g).2 c⟩
 have C:(execOp a.eval ⟨some d,.call ⟨.builtin .append,#[X,Y],#[T,U]⟩,ty,pos,af,none⟩).run P w= .ok (.value i) w':=by
  simp [execOp,resolve,invoke,builtin,g.eval hx,g.eval hy,e1]
 rw[C];obtain⟨M,p,q⟩:=(rp i).pick;have D:St S (LL i) h'∧CB S h S h':=by
  obtain⟨G,aa,j,ab⟩:=Sp.pick p s.2;obtain⟨ai,aj,H,ac,I,ad,o,ae,J,V,_⟩:=Uw (ty:=ty) he Z y A hw aa λb c=>⟨s.1 b c,λg=>(j b g).2 c⟩
  rw[e1] at I;injection I with ev ew
  subst ev;subst ew;have hh:H=h':=by rw[←ad.heap,e2.heap]
  subst hh;have W:∀b,S b→H[b]? =h[b]? :=λb c=>V b (s.1 b c) λg=>(j b g).2 c;refine⟨⟨λb c=>tZ (s.1 b c) o,L7 q ⟨ac,ae,λb c=>?_,?_⟩⟩,λ_ x=>x,W,o⟩
  ·rcases J b c with g|⟨hl,Z⟩
   ·exact⟨tZ (j b g).1 o,(j b g).2⟩
   ·exact⟨Z,λag=>absurd (s.1 b ag) (by omega)⟩
  ·refine Sp.ext ab (λ_ x=>x) (λb c=>?_) λb c=>⟨⟨tZ c.1.1 o,c.1.2⟩,λah=>?_⟩
   ·rcases c with c|c
    ·exact W b c
    ·exact V b c.1.1 c.2
   ·rcases J b ah with g|⟨hl,_⟩
    ·exact c.2 g
    ·exact absurd c.1.1 (by omega)
 exact hK _ _ (k i h' D.1 D.2 e7 _ w' (g.put hd _) e2)
end
def UY (b T E:Nat) (s:ByteArray):HP where
 holds:=λS F h=>∃p v a d,(p= .pointer none∨p= .pointer (some ⟨b,0,none⟩))∧(s.size=0→v= .slice none 0 0)∧(Bx b T [p,v]).holds S a h∧(OS RB E v (bL s)).holds S d h∧(∀c,a c→F c)∧(∀c,d c→F c∧¬a c)
 loc:=by
  rintro S S' F h h' ⟨p,v,a,d,m,n,o,q,i,j⟩ k l;exact⟨p,v,a,d,m,n,HP.loc _ o k λb g=>l b (g.imp_right (i b)),HP.loc _ q k λb g=>l b (g.imp_right λx=>(j b x).1),i,j⟩
section
variable {P:Program}{ops:Array Oper}{Q:Exit→Act→World→Prop}{n:FN}{m:SM}{rest:List Oper}
variable {d:Nat}{ty:TypeId}{pos:String}{af:Array Edge}{X Y:Operand}{B w:World}{h:AW}{S:Nat→Prop}{L L2:List HP}{p v:Value}{b T E:Nat}{s:ByteArray}
def St.bldO (j:St S (UY b T E s::L) h):∃p v,(p= .pointer none∨p= .pointer (some ⟨b,0,none⟩))∧(s.size=0→v= .slice none 0 0)∧St S (Bx b T [p,v]::OS RB E v (bL s)::L) h:=by
 obtain⟨k,F,⟨p,v,l,m,n,o,q,t,g,d⟩,i,u⟩:=j;exact⟨p,v,n,o,k,l,q,λc a=>i c (g c a),m,t,λc a=>⟨i c (d c a).1,(d c a).2⟩,Sp.mono u λc a=>⟨⟨a.1,λx=>a.2 (g c x)⟩,λx=>a.2 (d c x).1⟩⟩
def UH (j:p= .pointer none∨p= .pointer (some ⟨b,0,none⟩)) (k:s.size=0→v= .slice none 0 0) (l:St S (Bx b T [p,v]::OS RB E v (bL s)::L) h):St S (UY b T E s::L) h:=by
 obtain⟨m,d,n,o,g,q,i,t⟩:=l;exact⟨m,λc=>d c∨g c,⟨p,v,d,g,j,k,n,q,λc x=> .inl x,λc x=>⟨.inr x,(i c x).2⟩⟩,λc x=>x.elim (o c) λx=>(i c x).1,Sp.mono t λc a=>⟨a.1.1,λx=>x.elim a.1.2 a.2⟩⟩
def bO (c:D9 P T=some [.pointer none,.slice none 0 0]) (E:Nat) (hd:Nat.blt d n.1=true) (g:St S L h) (k:∀b h',St S (UY b T E ByteArray.empty::L) h'→CB S h S h'→LF P ops Q rest B h' n ((d,.pointer (some ⟨b,0,none⟩))::m)):LF P ops Q (⟨some d,.alloc T,ty,pos,af,none⟩::rest) B h n m:=
 CO c hd (g.nil RB E) λb h' a e=>k b h' (UH (.inl rfl) (λ_=>rfl) a) e
def XX {C:World→Prop}{Q:Act→Prop}{o:Option Addr}{t t2 c:TypeId}{k0:Nat}(g:BT m X=some (.pointer o)) (i:BT m Y=some (.pointer none)) (l:P.underlying t=some (.pointer c)) (p:(P.info? c).map (·.size)=some k0) (hd:Nat.blt d n.1=true) (k:QF P ops C Q rest n ((d,.bool o.isNone)::m)):
  QF P ops C Q (⟨some d,.binOp .eql t X Y t2,ty,pos,af,none⟩::rest) n m:=λa b=>Dn b hd (λw _=>by
 obtain⟨j,s,_⟩:=vV.1 p;have e:∀q:Nat,(Op.equalIn (q+1) t (.pointer o) (.pointer none)).run P w= .ok o.isNone w:=λq=>by
  cases o<;>simp [Op.equalIn,run_underlying l,sizeOf,typeInfo,s,sameAddr]
 have y:=e 9999;have u:∀w,(eqGuard .eql t X Y (.pointer o) (.pointer none)).run P w= .ok () w:=λw=>by cases o<;>(unfold eqGuard;simp)
 have v:(binOp .eql t (.pointer o) (.pointer none)).run P w= .ok (.bool o.isNone) w:=by
  simp only[binOp];have x:(Op.equalIn Op.maxDepth t (.pointer o) (.pointer none)).run P w= .ok o.isNone w:=e (Op.maxDepth-1);simp [Op.equal,x]
 simp [execOp,b.eval g,b.eval i,u,v]) k
def aZ {C:World→Prop}{Q:Act→Prop}{o:Addr}{t t2 c:TypeId}{k0:Nat}(g:BT m X=some (.pointer (some o))) (i:BT m Y=some (.pointer (some o))) (l:P.underlying t=some (.pointer c)) (p:(P.info? c).map (·.size)=some k0) (hd:Nat.blt d n.1=true) (k:QF P ops C Q rest n ((d,.bool false)::m)):
  QF P ops C Q (⟨some d,.binOp .neq t X Y t2,ty,pos,af,none⟩::rest) n m:=λa b=>Dn b hd (λw _=>by
 obtain⟨j,q,_⟩:=vV.1 p;have:=Lib.run_neq_ptr_same (P:=P) w o l q;have s:∀w,(eqGuard .neq t X Y (.pointer (some o)) (.pointer (some o))).run P w= .ok () w:=λw=>by unfold eqGuard;simp
 simp [execOp,b.eval g,b.eval i,s,this]) k
def sS {cs:List Value}(a:St S L h) (c:Bx b T cs∈L) (d:Wd B h w):w.shape? b=some (T,cs.length):=by
 have:=a.bxW c d;simp [World.shape?,this]
def mH {Q:Act→Prop}{cs:List Value}{c t2:TypeId}{k0:Nat}(i:St S L h) (l:Bx b T cs∈L) (o:BT m X=some (.pointer (some ⟨b,0,none⟩))) (p:P.underlying c=some (.pointer T)) (q:P.underlying t2=some .unsafePointer) (s:(P.info? T).map (·.size)=some (k0+1)) (t:Nat.blt 0 cs.length=true) (hd:Nat.blt d n.1=true)
  (k:QF P ops (Wd B h) Q rest n ((d,.pointer (some ⟨b,0,none⟩))::m)):QF P ops (Wd B h) Q (⟨some d,.convert c t2 X,ty,pos,af,none⟩::rest) n m:=λa g=>Dn g hd (λw u=>by
 obtain⟨j,v,x⟩:=vV.1 s;have:=Lib.run_to_unsafe (P:=P) w (src:=c) (dst:=t2) ⟨b,0,none⟩ p q v (by omega) (sS i l u) (xD t);simp [execOp,g.eval o,this]) k
def mU {Q:Act→Prop}{cs:List Value}{c t2:TypeId}{k0:Nat}(i:St S L h) (l:Bx b T cs∈L) (o:BT m X=some (.pointer (some ⟨b,0,none⟩))) (p:P.underlying c=some .unsafePointer) (q:P.underlying t2=some (.pointer T)) (s:(P.info? T).map (·.size)=some k0) (t:liesAt P P.depth T (cs.length/P.cellsOf T) 0 T 1=true) (hd:Nat.blt d n.1=true)
  (k:QF P ops (Wd B h) Q rest n ((d,.pointer (some ⟨b,0,none⟩))::m)):QF P ops (Wd B h) Q (⟨some d,.convert c t2 X,ty,pos,af,none⟩::rest) n m:=λa g=>Dn g hd (λw u=>by
 obtain⟨j,v,x⟩:=vV.1 s;have:=Lib.run_from_unsafe (P:=P) w (src:=c) (dst:=t2) ⟨b,0,none⟩ p q v (sS i l u) t;simp [execOp,g.eval o,this]) k
def oR {f:Nat}{a:Func}(b:P.funcs[f]? =some a) (c:(a.name== "runtime.NumGoroutine")=false) (d:a.body.isNone=true) (g:Extern.findNext a=none) (i:Extern.find a=some Extern.AbiNoEscape.same) (x:Value) (w:World):
  (callFunc f #[x]).run P w= .ok (.value x) w:=by
 rw[run_callFunc_extern b c d g i,Lib.run_noEscape];rfl
def sH {C:World→Prop}{Q:Act→Prop}{o:Option Addr}{l c:Nat}{t:TypeId}(g:BT m X=some (.slice o l c)) (h0:o.isSome=true→c≠0) (hd:Nat.blt d n.1=true) (k:QF P ops C Q rest n ((d,.pointer o)::m)):
  QF P ops C Q (⟨some d,.call ⟨.builtin .unsafeSliceData,#[X],#[t]⟩,ty,pos,af,none⟩::rest) n m:=λa b=>Dn b hd (λw _=>by
 have e:(Builtin.unsafeSliceData_ #[t] ty #[.slice o l c]).run P w= .ok (.pointer o) w:=by
  cases o with
  |none=>exact Lib.run_unsafeSliceData_nil w _ _ _ _
  |some a=>exact Lib.run_unsafeSliceData_row w _ _ _ _ _ (h0 rfl)
 simp [execOp,resolve,invoke,builtin,b.eval g,e]) k
def bK {c t2:TypeId}{o:Option Addr}(i:BT m X=some (.pointer o)) (j:BT m Y=some (.int .i64 0)) (hd:Nat.blt d n.1=true) (k:LF P ops Q rest B h n ((d,.string ByteArray.empty)::m)):
  LF P ops Q (⟨some d,.call ⟨.builtin .unsafeString,#[X,Y],#[c,t2]⟩,ty,pos,af,none⟩::rest) B h n m:=λa w g l=>by
 refine wpList_plain rfl λK p=>?_;unfold Oper.wp;have e:(Builtin.unsafeString_ #[c,t2] ty #[.pointer o,.int .i64 0]).run P w= .ok (.string ByteArray.empty) w:=Lib.run_unsafeString_none w _ _ _ _;have b:(execOp a.eval ⟨some d,.call ⟨.builtin .unsafeString,#[X,Y],#[c,t2]⟩,ty,pos,af,none⟩).run P w= .ok (.value (.string ByteArray.empty)) w:=by
  simp [execOp,resolve,invoke,builtin,g.eval i,g.eval j,e]
 rw[b];exact p _ _ (k _ w (g.put hd _) l)
def eR {q t2:TypeId}{g cap:Nat}(J:BT m X=some (.pointer (some ⟨g,0,none⟩))) (M:BT m Y=some (.int .i64 s.size)) (U:St S (OS RB E (.slice (some ⟨g,0,none⟩) s.size cap) (bL s)::L) h) (h0:s.size≠0) (V:P.underlying q=some (.pointer E)) (W:P.cellsOf E=1) (hd:Nat.blt d n.1=true)
  (k:∀h',St S L h'→CB S h S h'→LF P ops Q rest B h' n ((d,.string s)::m)):
  LF P ops Q (⟨some d,.call ⟨.builtin .unsafeString,#[X,Y],#[q,t2]⟩,ty,pos,af,none⟩::rest) B h n m:=λa w A o=>by
 refine wpList_plain rfl λK Z=>?_;unfold Oper.wp;obtain⟨h1,F,kO,hF,hL⟩:=U;rcases kO with ⟨_,z,_⟩|⟨g',cap',cur,k1,z,k3,k4,k5,k6,k7⟩
 ·exact absurd (by rw[←MW,z];rfl) h0
 ·rw[MW] at k1 k4;injection k1 with t q2 q3
  injection t with t
  injection t with t
  subst t;subst q3;have i:s.data.toList.length=s.size:=by simp
  have C:w.heap[g]? =some (.cells cur E (0,0)):=by rw[o.heap];exact k3
  have aa:cur.size=cap:=by have:cur.size=cap*1:=k6;omega
  have e:(Builtin.unsafeString_ #[q,t2] ty #[.pointer (some ⟨g,0,none⟩),.int .i64 s.data.toList.length]).run P w= .ok (.string ⟨s.data.toList.toArray⟩) (w.freeze ⟨g,0,none⟩ s.data.toList.length):=by
   refine Lib.run_unsafeString_row w q t2 ty E V W g cur.size (by simp [World.shape?,C]) s.data.toList (λe0=>h0 (by rw[←i,e0];rfl)) (by rw[i];omega) (by rw[i];unfold maxLen at k5;omega) ?_;intro j x H;have hr:LB S h RB (cur.toList.take s.size) (bL s):=by have:=k7;rwa [show (bL s).length*RB.sz=s.size by rw[MW];exact wE _] at this
   have c:(bL s)[j]? =some (x.toNat:Int):=by simp [bL,H]
   have D:j<s.size:=by rw[←i];exact(uB.1 H).1
   have h9:=(hr.at_ c).1;have I:(cur.toList.take s.size)[j]? =some (.int .u8 x.toNat):=by
    have u:((cur.toList.take s.size).drop (j*RB.sz)).take RB.sz=[.int .u8 x.toNat]:=h9;rw[show j*RB.sz=j from wE j] at u;have G:(((cur.toList.take s.size).drop j).take 1)[0]? =some (.int .u8 x.toNat):=by rw[show (1:Nat)=RB.sz from rfl,u];rfl
    simpa using G
   rw[gC,I1,o.heap];simp only[IK,k3,xQ,wH,wI];rw[vU D] at I;simpa using I
  rw[i] at e;have v:(execOp a.eval ⟨some d,.call ⟨.builtin .unsafeString,#[X,Y],#[q,t2]⟩,ty,pos,af,none⟩).run P w= .ok (.value (.string s)) (w.freeze ⟨g,0,none⟩ s.size):=by
   simp [execOp,resolve,invoke,builtin,A.eval J,A.eval M,e]
  rw[v];have l:∀b,b≠g→(w.freeze ⟨g,0,none⟩ s.size).heap[b]? =h[b]? :=λb c=>by
   rw[←o.heap];simp only[World.freeze];split
   ·rfl
   ·rw[Array.getElem?_modify,tQ (λe=>c e.symm)]
  have p:(w.freeze ⟨g,0,none⟩ s.size).heap.size=h.size:=by
   rw[←o.heap];simp only[World.freeze];split<;>simp
  have y:∀b,S b→b≠g:=λb c e=>(hF g ((z g).2 rfl)).2 (e▸c);refine Z _ _ (k (w.freeze ⟨g,0,none⟩ s.size).heap ⟨λb c=>by rw[p];exact h1 b c,?_⟩ ⟨λ_ x=>x,λb c=>l b (y b c),by rw[p];exact tX _⟩ _ _ (A.put hd _) ⟨rfl,?_,?_,?_⟩)
  ·refine Sp.ext hL (λ_ x=>x) (λb c=>l b ?_) λb c=>⟨by rw[p];exact c.1.1,c.1.2⟩
   rcases c with c|c
   ·exact y b c
   ·exact λe=>c.2 ((z b).2 e)
  ·rw[←o.os];simp only[World.freeze];split<;>rfl
  ·rw[←o.tape];simp only[World.freeze];split<;>rfl
  ·rw[←o.out];simp only[World.freeze];split<;>rfl
end
def PG (N:Nat) (b s:ByteArray):Option ByteArray:=chk (IX (b.size+s.size) 1) <| some (b++s)
def mB (N:Nat) (b:ByteArray) (c:Int):Option ByteArray:=chk (IX (b.size+1) 1) <| some (b.push (UInt8.ofNat c.toNat))
def mA (N:Nat) (b:ByteArray):Option ByteArray:=some b
def fJ {n:Nat}(h:IX n 1=true):n≤maxLen:=by have:=L4 h;unfold Jb at this;unfold maxLen;omega
def pX {b s:ByteArray}{v a:Value}(c:b.size=0→v= .slice none 0 0) (d:v= .slice none 0 0→s.size=0→a= .slice none 0 0) (h:(b++s).size=0):a= .slice none 0 0:=by
 rw[ByteArray.size_append] at h;exact d (c (by omega)) (by omega)
def St.oscell {α}{r:A7 α}{T:Nat}{v:Value}{l:List α}{S:Nat→Prop}{L:List HP}{h:AW}(a:St S L h) (b:OS r T v l∈L):v.cells=[v].toArray:=by
 obtain⟨c,cap,rfl,_⟩:=a.oslen b;rfl
def St.osrow {α}{r:A7 α}{T:Nat}{v:Value}{l:List α}{S:Nat→Prop}{L:List HP}{h:AW}(a:St S L h) (b:OS r T v l∈L) (h0:l.length≠0):∃g cap,v= .slice (some ⟨g,0,none⟩) l.length cap∧l.length≤cap:=by
 obtain⟨F,k,_⟩:=a.get b;rcases k with ⟨_,c,_⟩|⟨g,cap,cur,h1,_,_,h4,_⟩
 ·subst c;exact absurd rfl h0
 ·exact⟨g,cap,h1,h4⟩
section
variable {P:Program}{ex:List (Nat×AP)}{RR N:AP}{cs:List Code}{B:World}{h:AW}{n:FN}{m m':SM}{S:Nat→Prop}{L:List HP}{C:World→Prop}{l:List Oper}{fuel:Nat}{listed:Array Bool}
variable {d:Nat}{ty:TypeId}{pos:String}{af:Array Edge}{X Y:Operand}{t:TypeId}{v:Value}
def Xg (i:Nat) {b:Addr}(g:l[i]? =some ⟨some d,.nilCheck X,ty,pos,af,none⟩) (c:bT l listed i=true) (j:∀w,Wd B h w→C w) (o:BT m X=some (.pointer (some b))) (hd:Nat.blt d n.1=true) (k:HF P l (QW P ex RR cs N) C fuel (listed.setIfInBounds i true) B h n ((d,.pointer (some b))::m)):HF P l (QW P ex RR cs N) C (fuel+1) listed B h n m:=
 Ou i g c j hd (λa w p _=>by simp [execOp,p.eval o]) k
def bQ (i:Nat) {o:Option Addr}{q z:Nat}(b:l[i]? =some ⟨some d,.call ⟨.builtin .unsafeSliceData,#[X],#[t]⟩,ty,pos,af,none⟩) (c:bT l listed i=true) (g:∀w,Wd B h w→C w) (j:BT m X=some (.slice o q z)) (h0:o.isSome=true→z≠0) (hd:Nat.blt d n.1=true) (k:HF P l (QW P ex RR cs N) C fuel (listed.setIfInBounds i true) B h n ((d,.pointer o)::m)):HF P l (QW P ex RR cs N) C (fuel+1) listed B h n m:=
 Ou i b c g hd (λa w p _=>by
  have e:(Builtin.unsafeSliceData_ #[t] ty #[.slice o q z]).run P w= .ok (.pointer o) w:=by
   cases o with
   |none=>exact Lib.run_unsafeSliceData_nil w _ _ _ _
   |some a=>exact Lib.run_unsafeSliceData_row w _ _ _ _ _ (h0 rfl)
  simp [execOp,resolve,invoke,builtin,p.eval j,e]) k
def Xh (i:Nat) {o:Option Addr}{q z e sz:Nat}(b:l[i]? =some ⟨some d,.call ⟨.builtin .len,#[X],#[t]⟩,ty,pos,af,none⟩) (c:bT l listed i=true) (g:∀w,Wd B h w→C w) (j:BT m X=some (.slice o q z)) (p:N1 P t e sz=true) (hd:Nat.blt d n.1=true) (k:HF P l (QW P ex RR cs N) C fuel (listed.setIfInBounds i true) B h n ((d,.int .i64 q)::m)):HF P l (QW P ex RR cs N) C (fuel+1) listed B h n m:=
 Ou i b c g hd (λa w s _=>by
  obtain⟨i,u,_⟩:=MF p;simp [execOp,resolve,invoke,builtin,Builtin.len_,s.eval j,run_underlying u,goInt]) k
end
def Vf {P:Program}{ops:Array Oper}{Q:Exit→Act→World→Prop}(hb:Lu ops=true) {f g:Nat}{d:List Nat}{of n:Oper}{o:List Oper}{c:Nat}{b:Array Bool}{a:Act}{w:World}(hu:Pw b=c) (hs:b.size=ops.size)
  (K:∀i,i<ops.size→i∉f::g::d→b.getD i true=true) (q:∀t,t∈f::g::d→t<ops.size∧b.getD t true=false) (s:Lm ops (f::d)) (M:Lm ops (g::d)) (U:(f::g::d).Nodup)
  (hf:ops[f]? =some of) (ho:ops[g]? =some n) (V:(d.filterMap λt=>ops[t]?)=o)
  (hA:wpList P ops Q (of::n::o) a w) (hB:wpList P ops Q (n::of::o) a w):wpAny P .any ops Q c b a w:=by
 obtain⟨u,k⟩:=q f (by simp);obtain⟨aj,v⟩:=q g (by simp);have ak:0<Pw b:=by have:=J8 k;omega
 obtain⟨c,rfl⟩:∃f,c=f+1:=⟨c-1,by omega⟩
 obtain⟨n1,n2⟩:=wU.1 U;obtain⟨n3,n4⟩:=wU.1 n2;have A:f≠g:=λh=>n1 (h▸uN);have B:f∉d:=λh=>n1 (uR _ h);have only:∀j,j∈Region.ready .any ops b→j=f∨j=g:=λj W=>by
  obtain⟨H,oj,C,D⟩:=mem_ready.1 W;have X:=(uH.1 C).1;by_cases F:j∈f::g::d
  ·rcases uA.1 F with rfl|hjr
   ·exact .inl rfl
   ·rcases uA.1 hjr with rfl|hjr
    ·exact .inr rfl
    ·obtain⟨p,Y,l⟩:=MV s j hjr;obtain⟨o',Z,e',aa,ab,ac⟩:=Region.waitsFor_spec l;have:o'=oj:=tN (Z.symm.trans C);subst this;have g3:=D e' aa ab;have ad:p∈f::g::d:=by
      rcases uA.1 Y with rfl|Y
      ·simp
      ·simp [Y]
     rw[ac,getD_both (q p ad).2] at g3;cases g3
  ·rw[K j X F] at H;cases H
 obtain⟨i,_,q2,_⟩:=IJ hb hs u k;refine⟨λh0=>absurd (h0▸q2) (by simp),λj W=>?_⟩;have step:∀(x y:Nat) (ox I:Oper),ops[x]? =some ox→ops[y]? =some I→x≠y→x∉d→y∉d→b.getD x true=false→b.getD y true=false→(∀i,i<ops.size→i∉x::y::d→b.getD i true=true)→(∀t,t∈x::y::d→t<ops.size∧b.getD t true=false)→Lm ops (y::d)→wpList P ops Q (ox::I::o) a w→wpOp P ops Q x (wpAny P .any ops Q c (b.setIfInBounds x true)) a w:=by
  intro x y ox I hx hy ae af ag ah al H g2 hc l;have ih:=λa w=>II (P:=P) (Q:=Q) hb (y::d) c (b.setIfInBounds x true) a w (by have:=J8 ah;omega) (by simpa using hs)
   (λi hi ai=>by
    by_cases e:i=x
    ·subst e;have:i<b.size:=by omega
     simp [vQ,vE,this]
    ·rw[getD_set_ne true (λz=>e z.symm)];exact H i hi (λh=>(uA.1 h).elim e ai))
   (λt J=>by
    obtain⟨z1,z2⟩:=g2 t (uR _ J);refine⟨z1,?_⟩;rw[getD_set_ne true (λz:x=t=>?_)]
    ·exact z2
    ·subst z;rcases uA.1 J with e|e
     ·exact ae e
     ·exact af e)
   hc (wU.2 ⟨ag,n4⟩)
  have G:((y::d).filterMap λt=>ops[t]?)=I::o:=by rw[yN,hy];simp only;rw[V]
  unfold wpOp;simp only[hx];unfold wpList at l;split
  ·rename_i m;rw[tT m] at l;exact l.imp (Oper.wp_mono λa w h=>ih a w (by rw[G];exact h)) id
  ·rename_i m;rw[tQ m] at l;exact ih _ w (by rw[G];exact l)
 rcases only j W with rfl|rfl
 ·exact step j g of n hf ho A B n3 k v K q M hA
 ·refine step j f n of ho hf (λe=>A e.symm) n3 B v k (λi hi hn=>K i hi λh=>hn ?_) (λt J=>q t ?_) s hB
  ·rcases uA.1 h with e|h
   ·simp [e]
   ·rcases uA.1 h with e|h
    ·simp [e]
    ·simp [h]
  ·rcases uA.1 J with e|h
   ·simp [e]
   ·rcases uA.1 h with e|h
    ·simp [e]
    ·simp [h]
section
variable {P:Program}{ops:Array Oper}{n:FN}{m:SM}{d:Nat}{ty:TypeId}{pos:String}{af:Array Edge}{X Y:Operand}{t:TypeId}{kd:IntKind}{v:Value}{S:Nat→Prop}{h:AW}
end
def fU (ops:Array Oper) (b f c:Nat) (a F:List Nat):Bool:=
 (F.all λx=> ![f].contains x&&match ops[x]? with|some o=>o.after.all λe=> !Region.binds .any e||(Nat.blt e.on ops.size&& !(b::c::a).contains e.on&& !(F++[f]).contains e.on)|none=>false)&&
 (b::c::a).all (λt=>Nat.blt t ops.size)&&decide (f::b::c::a).Nodup&&Qz ops (b::c::a) (F++[f])&&Nh ops (b::c::a)&&Nh ops (f::a)&&Ng ops (b::c::a)&&Lu ops&&Region.noSelect ops&&Nat.blt f ops.size
section
variable {P:Program}{ex:List (Nat×AP)}{RR N:AP}{cs:List Code}{B:World}{h:AW}{n:FN}{m m0:SM}
def dQ {l:List Oper}{id:Nat}(g f q:Nat) (s F:List Nat) (R:AR) (pss:List (List (Nat×Nat))) (ak al:List (Nat×Nat)) {U of J:Oper}{K:List Oper}(hm:P.follows .mixedOrders=true) (hc:fU l.toArray g f q s F=true) (ms:List Nat) (a3:m.map (·.1)=ms) (am:U5 l.toArray (g::q::s) n ms=true)
  (ae:R4 l.toArray (g::q::s) l pss=true) (an:(ak.all λp=>Nat.blt p.1 l.length&& !(g::q::s).contains p.1&&(D6 l.toArray p.1).any (Nat.beq p.2 ·))=true)
  (ao:(al.all λp=>Nat.blt p.1 l.length&& !(g::q::s).contains p.1&& !Nat.beq p.1 f&&(D6 l.toArray p.1).any (Nat.beq p.2 ·))=true)
  (a4:l[g]? =some U) (a5:l[f]? =some of) (a6:l[q]? =some J) (af:U.guard=none) (a7:(s.filterMap λt=>l[t]?)=K) (ap:Su m0 m)
  (ag:∀i v h1 h2,C5 h h1→C5 h1 h2→R i v h1→R i v h2)
  (hF:PT P l.toArray (g::q::s) n m h R F)
  (step:DT P l.toArray (Qx ex RR (W P ex RR cs N)) B n m h R (g::q::s) [] ZB.none 0 l pss)
  (aq:∀h',C5 h h'→PA R h' (λfr=>LF P l.toArray (Qx ex RR (W P ex RR cs N)) (U::J::K) B h' n (fr++m)) ak [])
  (ar:∀h',C5 h h'→PA R h' (λfr=>LF P l.toArray (Exit.then (λa w=>wpList P l.toArray (Qx ex RR (W P ex RR cs N)) (of::J::K) a w∧wpList P l.toArray (Qx ex RR (W P ex RR cs N)) (J::of::K) a w) (Qx ex RR (W P ex RR cs N))) [U] B h' n (fr++m)) al []):WF P ex RR (.region id l.toArray true::cs) N B h n m0:=by
 intro a w hf hw;subst a3;simp only[fU,tO,uF] at hc;obtain⟨⟨⟨⟨⟨⟨⟨⟨⟨c0,c1⟩,c2⟩,c3⟩,c4⟩,a8⟩,c5⟩,c6⟩,c7⟩,c8⟩:=hc;simp only[R4,tO] at ae;have au:l.length=pss.length:=tV ae.1;obtain⟨nf,av⟩:=wU.1 c2;obtain⟨n1,aa⟩:=wU.1 av;have a9:f∉q::s:=λh=>nf (uR _ h);have ba:f≠g:=λh=>nf (h▸uN);have aw:f<l.toArray.size:=xD c8;have hQ:∀c a w,¬(Qx ex RR (W P ex RR cs N)) (.panic c) a w:=λc a w hq=>hq;have V:∀t,t∈g::q::s→t<l.toArray.size:=λt I=>by have:=tS.1 c1 t I;simp [Nat.blt] at this ⊢;omega
 have ab:(s.filterMap λt=>l.toArray[t]?)=K:=by rw[←a7];congr 1;funext t;simp
 have ho:l.toArray[g]? =some U:=by simpa using a4
 have ax:l.toArray[f]? =some of:=by simpa using a5
 have ac:l.toArray[q]? =some J:=by simpa using a6
 have ad:((q::s).filterMap λt=>l.toArray[t]?)=J::K:=by rw[yN,ac];simp only;rw[ab]
 have bb:∀x,x∈F→∀o,l.toArray[x]? =some o→∀e,e∈o.after→Region.binds .any e=true→e.on<l.toArray.size∧e.on∉g::q::s∧e.on∉F++[f]:=λx hf o ho e he hb=>by
  have:=tS.1 c0 x hf;rw[tO,ho] at this;have:=this.2;simp only[wL] at this;have:=this e he;simp only[hb,uP,wC,tO,uI] at this;exact⟨(by simpa [Nat.blt] using this.1.1:e.on+1≤l.toArray.size),λh=>(by rw[tW.2 h] at this;cases this.1.2),λh=>(by rw[tW.2 h] at this;cases this.2)⟩
 have hA:∀(a:Act) (w:World) (h':AW),Wd B h' w→C5 h h'→Fr n a m→(∀i,i<l.toArray.size→i∉g::q::s→∃d v,D6 l.toArray i=some d∧a.tmps[d]? =some v∧R i v h')→wpList P l.toArray (Qx ex RR (W P ex RR cs N)) (U::J::K) a w:=by
  intro a w h' g1 g2 G g4;obtain⟨fr,X,M⟩:=JA (a:=a) (n:=n) _ _ (aq h' g2) (λp hp=>by
   have e:=tS.1 an p hp;simp only[tO,uI] at e;have Y:p.1<l.toArray.size:=by have:=e.1.1;simp [Nat.blt] at this ⊢;omega
   obtain⟨d,v,X,M,q3⟩:=g4 p.1 Y (λh=>by rw[tW.2 h] at e;cases e.1.2);have e2:=e.2;rw[X] at e2;have:p.2=d:=tV (by simpa using e2);exact⟨v,by rw[this];exact M,q3⟩) ⟨G.dfr,G.siz,λi v y=>by simp [lk] at y⟩
  exact X a w (M.append G) g1
 have hB:∀(a:Act) (w:World) (h':AW),Wd B h' w→C5 h h'→Fr n a m→(∀i,i<l.toArray.size→i∉g::q::s→i≠f→∃d v,D6 l.toArray i=some d∧a.tmps[d]? =some v∧R i v h')→U.wp P a w (λa w=>wpList P l.toArray (Qx ex RR (W P ex RR cs N)) (of::J::K) a w∧wpList P l.toArray (Qx ex RR (W P ex RR cs N)) (J::of::K) a w) (Qx ex RR (W P ex RR cs N))∨(U.asks P a w∧LetsOut (Qx ex RR (W P ex RR cs N))):=by
  intro a w h' g1 g2 G g4;obtain⟨fr,X,M⟩:=JA (a:=a) (n:=n) _ _ (ar h' g2) (λp hp=>by
   have e:=tS.1 ao p hp;simp only[tO,uI] at e;have Y:p.1<l.toArray.size:=by have:=e.1.1.1;simp [Nat.blt] at this ⊢;omega
   obtain⟨d,v,X,M,q3⟩:=g4 p.1 Y (λh=>by rw[tW.2 h] at e;cases e.1.1.2) (λx=>by
    have:=e.1.2;rw[x] at this;simp at this)
   have e2:=e.2;rw[X] at e2;have:p.2=d:=tV (by simpa using e2);exact⟨v,by rw[this];exact M,q3⟩) ⟨G.dfr,G.siz,λi v y=>by simp [lk] at y⟩
  exact HQ af (X a w (M.append G) g1)
 have bc:∀(u:Nat) (b:Array Bool) (a:Act) (w:World),Pw b=u+1→Qv l.toArray (g::q::s) b→VU B h n m l.toArray (g::q::s++[]) [] ZB.none R b a w→(∀i,i<l.toArray.size→i∉g::q::s→i∉[f]→b.getD i false=true)→g∈Region.ready .any l.toArray b→wpOp P l.toArray (Qx ex RR (W P ex RR cs N)) g (wpAny P .any l.toArray (Qx ex RR (W P ex RR cs N)) u (b.setIfInBounds g true)) a w:=by
  intro u b a w hu Z ai A hr;obtain⟨h1,g1,g2,G,g4⟩:=ai.ex;have ay:∀i,i∉g::q::s→b.getD i false=true→∃d v,D6 l.toArray i=some d∧a.tmps[d]? =some v∧R i v h1:=λi y A=>g4 i (by rw[uU];exact y) A;have az:Pw (b.setIfInBounds g true)=u:=by have:=J8 (mem_ready.1 hr).1;omega
  have C:=Z.head hr n1;have a0:∀i,i<l.toArray.size→∀(L:Array Bool),L.size=l.toArray.size→L.getD i false=true→L.getD i true=true:=λi y L hs Q=>by
   have:i<L.size:=by omega
   simpa [this] using Q
  unfold wpOp;simp only[ho];rw[tT (by simp [Region.wanted,af])];cases ah:b.getD f false with
  |true=>
   have Q:=hA a w h1 g1 g2 G λi D H=>ay i H (by
    by_cases e:i=f
    ·rw[e];exact ah
    ·exact A i D H λh=>e (by simpa using h))
   unfold wpList at Q;rw[tT (by simp [Region.wanted,af])] at Q;refine Q.imp (Oper.wp_mono λa2 w2 hk=>?_) λx=>x;refine II c6 (q::s) u _ a2 w2 az C.size (λi D H=>a0 i D _ C.size ?_) (λt I=>⟨V t (uR _ I),C.tail t I⟩) ?_ aa (by rw[ad];exact hk)
   ·by_cases Y:g=i
    ·subst Y;have:g<b.size:=by rw[Z.size];exact D
     simp [this]
    ·refine getD_set_true ?_;by_cases e:i=f
     ·rw[e];exact ah
     ·exact A i D (λh=>(uA.1 h).elim (λx=>Y x.symm) H) λh=>e (by simpa using h)
   ·exact(Jm c4).2
  |false=>
   have Q:=hB a w h1 g1 g2 G λi D H p3=>ay i H (A i D H λh=>p3 (by simpa using h));refine Q.imp (Oper.wp_mono λa2 w2 hk=>?_) λx=>x;have be:Lm l.toArray (q::s):=(Jm c4).2;refine Vf c6 az C.size (λi D H=>a0 i D _ C.size ?_) (λt I=>?_) (Jm a8) be (wU.2 ⟨a9,aa⟩) ax ac ab hk.1 hk.2
   ·by_cases Y:g=i
    ·subst Y;have:g<b.size:=by rw[Z.size];exact D
     simp [this]
    ·refine getD_set_true (A i D (λh=>(uA.1 h).elim (λx=>Y x.symm) λx=>H (uR _ x)) λh=>H ?_);rw[vX.1 h];exact uN
   ·rcases uA.1 I with rfl|I
    ·refine⟨aw,?_⟩;rw[getD_set_ne true (λe=>ba e.symm)];exact getD_in (by rw[Z.size];exact aw) ah
    ·exact⟨V t (uR _ I),C.tail t I⟩
 refine λrd bf=>NY bf MG hm (SP (R:=R) (B:=B) (h0:=h) (n:=n) (m:=m) (g::q::s) [] [] ZB.none nD.none (λz hz=>by cases hz) (λi y=>by cases y) V av c6 F [f] (.inr rfl) (.inr (by rw[uU];exact c3)) (Jm c4) c5 c7 hQ (λx Q=>⟨λh=>(by cases h),λsl h=>(by cases h)⟩) (λx Q=>hF.at_ x Q) (by rw[uU];exact am) ag (λi y=>by cases y) (λi o d y ho hd=>?_) (λa w h' g1 g2 G g4 _ _=>?_) (.inr ⟨bb,λbg bh e u b a w=>by cases e;exact bc u b a w⟩) _ _ _ _ ?_ ⟨by simp,λj oj _ A=>(by rw[getD_replicate_false] at A;cases A),λt I=>getD_in (by simpa using V t I) (getD_replicate_false _ _)⟩ (λi y=>by cases y) ⟨⟨h,hw.drew,C5.refl h,hf.sub ap,λi _ A=>(by rw[getD_replicate_false] at A;cases A)⟩,λi _ j _ _ A=>(by rw[getD_replicate_false] at A;cases A),λz hz=>by cases hz⟩)
 ·rw[uU] at y;have a1:l[i]? =some o:=by simpa using ho
  obtain⟨ps,X,M⟩:=DT.at_ (k:=0) step au (by rw[uT];exact y) a1 hd;rw[uT] at M;refine⟨ps,?_,λ_ _=>uL,M⟩;have hz:((o,ps),i)∈(l.zip pss).zipIdx:=by
   rw[wN];exact⟨i,by rw[yO,(yP (z:=(o,ps))).2 ⟨a1,X⟩];simp⟩
  have:=tS.1 ae.2 _ hz;rw[uD] at this;exact this.resolve_left λh=>y (tW.1 h)
 ·have aj:((g::q::s).filterMap λt=>l.toArray[t]?)=U::J::K:=by
   rw[yN,ho];simp only;rw[ad]
  rw[aj];exact hA a w h' g1 g2 G λi D H=>g4 i D (by rw[uU];exact H)
 ·unfold Pw;rw[yB];simp
def mY {ops:Array Oper}{Q:Exit→Act→World→Prop}{l1 b:List Oper}(g:LF P ops Q l1 B h n m) (i:LF P ops Q b B h n m):LF P ops (Exit.then (λa w=>wpList P ops Q l1 a w∧wpList P ops Q b a w) Q) [] B h n m:=
 λa w c d=>⟨g a w c d,i a w c d⟩
end
def oT:SM→SM→List Nat→Option SM
 |[],_,_=>some []
 |(k,v)::r,m,s=>match cond (s.any λj=>Nat.beq k j) (some v) (lk m k) with
  |some w=>match oT r m (k::s) with
   |some l=>some ((k,w)::l)
   |none=>none
  |none=>none
def kq:∀{c m l:SM}(s:List Nat),oT c m s=some l→c=l→∀i u,(s.any λj=>Nat.beq i j)=false→lk c i=some u→lk m i=some u
 |[],m,l,s,_,_,i,u,_,y=>by cases y
 |(k,v)::r,m,l,s,y,e,i,u,d,a=>by
  simp only[oT] at y;split at y
  ·rename_i w g;split at y
   ·rename_i x n;cases y;injection e with o p
    injection o with _ q
    simp only[lk] at a;cases b:Nat.beq k i with
    |true=>
     have:=tV b;subst this;rw[b,tL] at a;rw[d,tM] at g;rw[g,←q,a]
    |false=>
     rw[b,tM] at a;refine kq (k::s) n p i u ?_ a;rw[List.any_cons,d,Bool.or_false];cases t:Nat.beq i k with
     |false=>rfl
     |true=>
      have:=tV t;subst this;rw[show Nat.beq i i=true by simp] at b;cases b
   ·cases y
  ·cases y
section
variable {P:Program}{ops:Array Oper}{C:World→Prop}{n:FN}{m:SM}
def O8 {b:SM}(d:oT b m []=some b):QF P ops C (λa=>Fr n a b) [] n m:=QF.nil λa c=>⟨c.dfr,c.siz,λi u g=>c.at_ i u (kq [] d rfl i u rfl g)⟩
def SU {l:List Oper}{c b:SM}(g:QY ops n.1 l m=some c) (d:oT b c []=some b):QF P ops C (λa=>Fr n a b) l n m:=Nk g (O8 d)
end
def RL (R:Nat→Int) (a b:Nat):Bool:=cond (!decide (R a=R b)) (decide (R b<R a)) (decide (a<b))
def Sn (lt:Int→Int→Bool) (x:Int):List Int→List Int
 |[]=>[x]
 |y::l=>cond (lt y x) (y::Sn lt x l) (x::y::l)
def ND (lt:Int→Int→Bool):List Int→List Int
 |[]=>[]
 |x::l=>Sn lt x (ND lt l)
def Q0 (c:List Int) (a b:Int):Bool:=RL (λt=>c.getD t 0) a.toNat b.toNat
def Rs (a b:List Int):Option (List Int):=
 if a.length=b.length∧1≤a.length∧a.length≤64∧(a.all λx=>decide (0≤x)&&decide (x<a.length))=true then some (ND (Q0 b) a) else none
def O0 (lt:Int→Int→Bool) (x:Int):∀l,(Sn lt x l).Perm (x::l)
 |[]=> .refl _
 |y::l=>by
  unfold Sn;cases lt y x with
  |true=>exact((O0 lt x l).cons y).trans (.swap x y l)
  |false=>exact .refl _
def ML (lt:Int→Int→Bool):∀l,(ND lt l).Perm l
 |[]=> .refl _
 |x::l=>(O0 lt x _).trans ((ML lt l).cons x)
end Go.Proofs.YtedgiljmffngoaaGreat
