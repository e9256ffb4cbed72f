import Derived.Test.YtabonambpbofgaaGreatKCore31
namespace Go.Proofs.YtabonambpbofgaaGreat
set_option linter.all false
open Go.RowKit
def zU (d:Nat):Nat→List Oper→Option (Nat×Nat)
 |_,[]=>none
 |j,o::r=>match o.op with
  | .pick (.tmp x) _ _=>cond (Nat.beq x d) (match o.dst with|some t=>some (j+1,t)|none=>none) (zU d (j+1) r)
  |_=>zU d (j+1) r
def zA (ops:Array Oper) (l:List Oper):Option (Nat×Nat×Nat×Bool):=match l with
 |[]=>none
 |o::_=>match o.guard with
  |none=>none
  |some (g,b)=>match (ops[g]?).bind (·.dst) with
   |none=>none
   |some d=>match zU d 0 l with
    |none=>none
    |some (j,t)=>some (j,t,d,b)
def iA (m1 m:SM):Bool:=(m1.take (m1.length-(m.length+1))).all λp=> !(m.any λq=>Nat.beq p.1 q.1)
def cT:∀{m:SM}{i:Nat}{u:Value},lk m i=some u→(m.any λq=>Nat.beq i q.1)=true
 |(j,v)::r,i,u,h=>by
  rw[List.any_cons];simp only[lk] at h;cases e:Nat.beq j i with
  |true=>
   have:=Abu e;subst this;rw[show Nat.beq j j=true by simp,Bool.true_or]
  |false=>
   rw[e,Abk] at h;rw[cT h,Bool.or_true]
def cR:∀{m:SM}{i:Nat},(∀p∈m,Nat.beq p.1 i=false)→lk m i=none
 |[],_,_=>rfl
 |(j,v)::r,i,h=>by
  simp only[lk];rw[h (j,v) Ab8,Abk];exact cR λp a=>h p (Acn _ a)
def mZ {n:FN}{a:Act}{m m1:SM}{d t:Nat}{b:Bool}{v:Value}(g:Fr n a m1) (l:lk m1 t=some v) (j:iA m1 m=true) (o:m1.drop (m1.length-(m.length+1))=(d,.bool b)::m) (hd:lk m d=some (.bool b)):Fr n a ((t,v)::m):=by
 refine⟨g.dfr,g.siz,λi u c=>?_⟩;simp only[lk] at c;cases e:Nat.beq t i with
 |true=>
  rw[e,Abj] at c;cases c;have:=Abu e;subst this;exact g.at_ _ _ l
 |false=>
  rw[e,Abk] at c;refine g.at_ _ _ ?_;rw[←List.take_append_drop (m1.length-(m.length+1)) m1,o,Mq];have q:lk (m1.take (m1.length-(m.length+1))) i=none:=cR λp s=>by
   unfold iA at j;rw[Abt] at j;have:=j p s;cases k:Nat.beq p.1 i with
   |false=>rfl
   |true=>
    have w:=Abu k;rw[w,cT c] at this;cases this
  rw[q,Option.none_or];simp only[lk];cases k:Nat.beq d i with
  |true=>
   have:=Abu k;subst this;rw[hd] at c;exact c
  |false=>exact c
def PS (n:FN) (m:SM) (d:Nat) (b:Bool) (t:Nat) (v:Bool) (a:Act):Prop:=∃m1,Fr n a m1∧lk m1 t=some (.bool v)∧iA m1 m=true∧m1.drop (m1.length-(m.length+1))=(d,.bool b)::m
section
variable {P:Program}{ops:Array Oper}{C:World→Prop}{Q:Act→Prop}{n:FN}{m m1 m2:SM}{l:List Oper}
def tQ {d t:Nat}{b v:Bool}(c:lk m1 t=some (.bool v)) (g:iA m1 m=true) (i:m1.drop (m1.length-(m.length+1))=(d,.bool b)::m):QF P ops C (PS n m d b t v) [] n m1:=QF.nil λa j=>⟨m1,j,c,g,i⟩
def Fr.lit {n:FN}{a:Act}{m:SM}{d:Nat}{v:Value}(c:Fr n a m) (h:lk m d=some v):Fr n a ((d,v)::m):=⟨c.dfr,c.siz,λi u b=>by
 simp only[lk] at b;cases e:Nat.beq d i with
 |true=>
  have:=Abu e;subst this;rw[e,Abj] at b;cases b;exact c.at_ _ _ h
 |false=>
  rw[e,Abk] at b;exact c.at_ _ _ b⟩
def gC {c v:Bool}(b:Bool) {j t d:Nat}(k:lk m d=some (.bool c)) (q:QF P ops C (PS n m d b t v) (l.take j) n ((d,.bool b)::m))
  (s:RH ops n.1 (l.take j) ((d,.bool (!b))::m)=some m2) (u:lk m2 t=some (.bool (!b))) (w:iA m2 m=true) (hd:m2.drop (m2.length-(m.length+1))=(d,.bool (!b))::m) (p:QF P ops C Q (l.drop j) n ((t,.bool (cond b (c&&v) (c||v)))::m)):QF P ops C Q l n m:=by
 by_cases e:c=b
 ·subst e;intro a o;refine T4 j (PS n m d c t v) (q a (o.lit k)) λi ⟨m1,x,y,z,A⟩=>p i ?_;have:=mZ x y z A k;cases c<;>exact this
 ·have e:c= !b:=by cases c<;>cases b<;>first|rfl|exact absurd rfl e
  subst e;intro a o;refine T4 j (λi=>Fr n i m2) (OE s (QF.nil λi g=>g) a (o.lit k)) λi g=>p i ?_;have:=mZ g u w hd k;cases b<;>exact this
def tR {c v:Bool}{j t d:Nat}(e:zA ops l=some (j,t,d,true)) (a:lk m d=some (.bool c)) (b:QF P ops C (PS n m d true t v) (l.take j) n ((d,.bool true)::m))
  (g:RH ops n.1 (l.take j) ((d,.bool false)::m)=some m2) (i:lk m2 t=some (.bool false)) (k:iA m2 m=true) (hd:m2.drop (m2.length-(m.length+1))=(d,.bool false)::m) (o:QF P ops C Q (l.drop j) n ((t,.bool (c&&v))::m)):QF P ops C Q l n m:=gC true a b g i k hd o
def tP {c v:Bool}{j t d:Nat}(e:zA ops l=some (j,t,d,false)) (a:lk m d=some (.bool c)) (b:QF P ops C (PS n m d false t v) (l.take j) n ((d,.bool false)::m))
  (g:RH ops n.1 (l.take j) ((d,.bool true)::m)=some m2) (i:lk m2 t=some (.bool true)) (k:iA m2 m=true) (hd:m2.drop (m2.length-(m.length+1))=(d,.bool true)::m) (o:QF P ops C Q (l.drop j) n ((t,.bool (c||v))::m)):QF P ops C Q l n m:=gC false a b g i k hd o
def tS {b:List (Nat×AP)}{R N:AP}{cs:List Code}{B:World}{h:AS}(k:WF P b R cs N B h n m):QF P ops C (λa=>∀w,Wd B h w→W P b R cs N a w) [] n m:=λa c w d=>k a w c d
def uD {b:List (Nat×AP)}{R N:AP}{cs:List Code}{B:World}{h:AS}(k:WF P b R cs N B h n m):LF P ops (Qx b R (W P b R cs N)) [] B h n m:=λa w c d=>mW (k a w c d)
end
def zB:IntKind→Nat
 | .i8=>0| .i16=>1| .i32=>2| .i64=>3| .u8=>4| .u16=>5| .u32=>6| .u64=>7
def qO {a b:IntKind}(h:Nat.beq (zB a) (zB b)=true):a=b:=by cases a<;>cases b<;>first|rfl|cases h
def binI (o:BinOp) (k:IntKind) (x y:Int):Option Value:=match o with
 | .lss=>some (.bool (decide (x<y)))
 | .leq=>some (.bool (decide (x≤y)))
 | .gtr=>some (.bool (decide (y<x)))
 | .geq=>some (.bool (decide (y≤x)))
 | .eql=>some (.bool (decide (x=y)))
 | .neq=>some (.bool (decide (x≠y)))
 | .add=>some (.int k (k.wrap (x+y)))
 | .sub=>some (.int k (k.wrap (x-y)))
 | .mul=>some (.int k (k.wrap (x*y)))
 | .and=>some (.int k (I5 .and k x y))
 |_=>none
def Aac (a:Op) (m:SM):Option Value:=match a with
 | .move X=>B9 m X
 | .assign X=>B9 m X
 | .pick c x y=>match B9 m c with
  |some (.bool true)=>B9 m x
  |some (.bool false)=>B9 m y
  |_=>none
 | .extract X i=>match B9 m X with
  |some (.tuple xs)=>xs[i]?
  |_=>none
 | .nilCheck X=>match B9 m X with
  |some (.pointer (some d))=>some (.pointer (some d))
  |_=>none
 | .unOp .not _ X=>match B9 m X with
  |some (.bool b)=>some (.bool (!b))
  |_=>none
 | .binOp o _ X Y _=>match B9 m X with
  |some (.int k x)=>match B9 m Y with
   |some (.int g y)=>cond (Nat.beq (zB k) (zB g)) (binI o k x y) none
   |_=>none
  |_=>none
 |_=>none
section
variable {P:Program}{ops:Array Oper}{C:World→Prop}{Q:Act→Prop}{n:FN}{m:SM}{rest:List Oper}
def lM {d:Nat}{ty:TypeId}{pos:String}{af:Array Edge}{o:BinOp}{t1 t2:TypeId}{X Y:Operand}{k:IntKind}{x y:Int}{v:Value}(a:B9 m X=some (.int k x)) (b:B9 m Y=some (.int k y)) (hd:Nat.blt d n.1=true) (e:Go.Proofs.YtabonambpbofgaaGreat.binI o k x y=some v) (c:QF P ops C Q rest n ((d,v)::m)):QF P ops C Q (⟨some d,.binOp o t1 X Y t2,ty,pos,af,none⟩::rest) n m:=by
 cases o<;>cases e
 ·exact lO a b hd c
 ·exact kY a b hd c
 ·exact lD a b hd c
 ·exact Yz a b hd c
 ·exact gP a b hd c
 ·exact gG a b hd c
 ·exact gH a b hd c
 ·exact gI a b hd c
 ·exact gL a b hd c
 ·exact gN a b hd c
def tT {d:Nat}{a:Op}{ty:TypeId}{pos:String}{af:Array Edge}{v:Value}(e:Aac a m=some v) (hd:Nat.blt d n.1=true) (k:QF P ops C Q rest n ((d,v)::m)):QF P ops C Q (⟨some d,a,ty,pos,af,none⟩::rest) n m:=by
 unfold Aac at e;split at e
 ·exact nY e hd k
 ·exact gQ e hd k
 ·split at e
  ·rename_i h;exact Q4 h e hd k
  ·rename_i h;exact Q4 h e hd k
  ·cases e
 ·split at e
  ·rename_i h;exact gO h e hd k
  ·cases e
 ·split at e
  ·rename_i h;cases e;exact JV h hd k
  ·cases e
 ·split at e
  ·rename_i h;cases e;exact gE h hd k
  ·cases e
 ·split at e
  ·rename_i b;split at e
   ·rename_i c;obtain⟨g,i⟩:=Nt e;have:=qO g;subst this;exact lM b c hd i k
   ·cases e
  ·cases e
 ·cases e
end
structure QJ (P:Program) (ops:Array Oper) (C:World→Prop) (Q:Act→Prop) (l:List Oper) (n:FN) (m:SM):Prop where out:QF P ops C Q l n m
structure LJ (P:Program) (ops:Array Oper) (Q:Exit→Act→World→Prop) (l:List Oper) (B:World) (h:AS) (n:FN) (m:SM):Prop where out:LF P ops Q l B h n m
structure WJ (P:Program) (ex:List (Nat×AP)) (R:AP) (cs:List Code) (N:AP) (B:World) (h:AS) (n:FN) (m:SM):Prop where out:WF P ex R cs N B h n m
def padd:Value→Nat→Value
 | .pointer (some a),k=> .pointer (some (a.add k))
 |v,_=>v
def NI.fl {α β A S h}{r:A7 α}{r':A7 β}{o f p x}(k:NI A S h r p x) (b:Fg r o r' f):NI A S h r' (padd p o) (f x):=by
 obtain⟨a,rfl,c⟩:=k.fld b;exact c
def NI.i {A S h p}{x:Int}(k:NI A S h AB p x):AA x:=by
 obtain⟨cs,_,_,h⟩:=k;exact h
def Sl.le {α S h}{r:A7 α}{v}{l:List α}(k:Sl S h r v l):l.length≤maxLen:=by
 obtain⟨_,_,_,h⟩:=k.len;exact h
def UP (h:AS) (p:Value) (j:Nat):Value:=match p with
 | .pointer (some a)=>(Ji h ⟨a.block,a.off+j,none⟩).getD undef
 |_=>undef
def OR.at_ {A h p cs}(k:OR A h p cs) {j:Nat}(b:j<cs.length):cs[j]? =some (UP h p j):=by
 obtain⟨a,rfl,_,_,c⟩:=k;have:=c j b;show cs[j]? =some ((Ji h ⟨a.block,a.off+j,none⟩).getD undef)
 rw[this,Abw b];rfl
def OR.map {A h p cs}(k:OR A h p cs):(List.range cs.length).map (UP h p)=cs:=by
 apply Acr;intro j;rw[Adc];by_cases a:j<cs.length
 ·rw[k.at_ a,Ae0 a];rfl
 ·rw[Acc (by simpa using a),Acc (by simpa using a)];rfl
def kP (h:AS) (p:Value) (n:Nat):Value:= .agg ((List.range n).map (UP h p)).toArray
 class Fc (p:Prop):Prop where out:p
 class Gq (P:Program) (t j:Nat) (off:outParam Nat):Prop where out:dY P t j off=true
 class SB (P:Program) (t:Nat) (e sz:outParam Nat):Prop where out:Px P t e sz=true
 class KE {α:Type} (r:A7 α) (o:Nat) {β:outParam Type} (r':outParam (A7 β)) (f:outParam (α→β)):Prop where out:Fg r o r' f
 class iB (C:World→Prop) (h:outParam AS):Prop where out:CK C h
instance {B:World}{h:AS}:iB (Wd B h) h:=⟨Hj⟩
instance {B:World}{h:AS}:iB (Cl B h) h:=⟨OM⟩
 class Rr (P:Program) (t:Nat) (sz:outParam Nat):Prop where out:Kd P t sz true=true
structure Vl (A:Nat→Prop) (h:AS) (ag:Bool) (sz:Nat) (p v:Value):Prop where out:∃cs,OR A h p cs∧cs.length=sz∧v=if ag then .agg cs.toArray else cs.headD undef
def NI.lv {α A S h}{r:A7 α}{p x}(k:NI A S h r p x):∃v,Vl A h r.ag r.sz p v∧Rd S h r v x:=by
 obtain⟨cs,b,a⟩:=k;exact⟨_,⟨cs,b,r.len a,rfl⟩,cs,rfl,a⟩
def NI.ll {α A S h}{r:A7 α}{p x}(k:NI A S h r.sl p x):∃v,Vl A h false 1 p v∧Sl S h r v x:=by
 obtain⟨v,a,b⟩:=k.lv;exact⟨v,a,b.sl⟩
def NI.sz {A S h p}{x:ByteArray}(k:NI A S h A7.str p x):x.size≤maxLen:=by
 obtain⟨cs,_,_,h⟩:=k;exact h
def qB (o:Oper):Bool:=match o.op with
 | .move _| .assign _| .pick _ _ _| .build _ _| .load _ _| .nilCheck _| .binOp _ _ _ _ _| .unOp _ _ _| .convert _ _ _| .makeFunc _ _ _| .fieldAddr _ _ _| .field _ _ _| .indexAddr _ _ _| .index _ _ _| .extract _ _=>true
 | .call ⟨.builtin .len,_,_⟩| .call ⟨.builtin .min,_,_⟩| .call ⟨.builtin .max,_,_⟩=>true
 |_=>false
def fB (o:Oper):Bool:=match o.op with
 | .call ⟨.value _,_,_⟩=>true
 |_=>false
def qN:List Oper→Nat
 |[]=>0
 |o::r=>cond (qB o) (qN r+1) 0
section
variable {P:Program}{ops:Array Oper}{Q:Act→Prop}{n:FN}{m m1 m2:SM}{rest l:List Oper}{B:World}{S:Nat→Prop}{L:List HP}{h:AS}
variable {d:Nat}{ty:TypeId}{pos:String}{af:Array Edge}{X Y:Operand}{t t1:TypeId}{v p:Value}
def nX {C}{a:Op}(e:(Aac a m,Nat.blt d n.1)=(some v,true)) (k:QJ P ops C Q rest n ((d,v)::m)):QJ P ops C Q (⟨some d,a,ty,pos,af,none⟩::rest) n m:=
 ⟨tT (Abp (λz=>z.1) e) (Abp (λz=>z.2) e) k.1⟩
def yM {C}{a:Op}{j e:Nat}{b:Bool}(q:((ops[j]?).bind (·.dst),lk m e)=(some e,some (.bool b))) (k:QJ P ops C Q (⟨some d,a,ty,pos,af,none⟩::rest) n m):QJ P ops C Q (⟨some d,a,ty,pos,af,some (j,b)⟩::rest) n m:=
 ⟨Yu rfl (Abp (λz=>z.1) q) (Abp (λz=>z.2) q) k.1⟩
def QJ.scA {C}{c v:Bool}{j t d:Nat}(e:zA ops l=some (j,t,d,true)) (a:lk m d=some (.bool c)) (b:QJ P ops C (PS n m d true t v) (l.take j) n ((d,.bool true)::m))
  (g:RH ops n.1 (l.take j) ((d,.bool false)::m)=some m2) (i:lk m2 t=some (.bool false)) (k:iA m2 m=true) (hd:m2.drop (m2.length-(m.length+1))=(d,.bool false)::m) (o:QJ P ops C Q (l.drop j) n ((t,.bool (c&&v))::m)):QJ P ops C Q l n m:=⟨tR e a b.1 g i k hd o.1⟩
def QJ.scO {C}{c v:Bool}{j t d:Nat}(e:zA ops l=some (j,t,d,false)) (a:lk m d=some (.bool c)) (b:QJ P ops C (PS n m d false t v) (l.take j) n ((d,.bool false)::m))
  (g:RH ops n.1 (l.take j) ((d,.bool true)::m)=some m2) (i:lk m2 t=some (.bool true)) (k:iA m2 m=true) (hd:m2.drop (m2.length-(m.length+1))=(d,.bool true)::m) (o:QJ P ops C Q (l.drop j) n ((t,.bool (c||v))::m)):QJ P ops C Q l n m:=⟨tP e a b.1 g i k hd o.1⟩
def QJ.scE {C}{d t:Nat}{b v:Bool}(a:lk m1 t=some (.bool v)) (c:iA m1 m=true) (g:m1.drop (m1.length-(m.length+1))=(d,.bool b)::m):QJ P ops C (PS n m d b t v) [] n m1:=⟨tQ a c g⟩
def QJ.rp {C}{b:List (Nat×AP)}{R N:AP}{cs:List Code}(k:WJ P b R cs N B h n m):QJ P ops C (λa=>∀w,Wd B h w→W P b R cs N a w) [] n m:=⟨tS k.1⟩
def QJ.ln {C}{Q:Exit→Act→World→Prop}(k:LJ P ops Q l B h n m):QJ P ops C (λa=>∀w,Wd B h w→wpList P ops Q l a w) [] n m:=⟨AE k.1⟩
def QJ.fao {C}{b o j off}[ht:Gq P t j off] (e:(B9 m X,Nat.blt d n.1)=(some (.pointer (some ⟨b,o,none⟩)),true)) (k:QJ P ops C Q rest n ((d,.pointer (some ⟨b,o+off,none⟩))::m)):QJ P ops C Q (⟨some d,.fieldAddr t X j,ty,pos,af,none⟩::rest) n m:=
 ⟨Gd (Abp (λz=>z.1) e) ht.out (Abp (λz=>z.2) e) k.1⟩
def uA {C}{α}{A:Nat→Prop}{r:A7 α}{x j off}(c:B9 m X=some p) (k0:NI A S h r p x) (g:dY P t j off=true) (hd:Nat.blt d n.1=true) (k:QF P ops C Q rest n ((d,padd p off)::m)):QF P ops C Q (⟨some d,.fieldAddr t X j,ty,pos,af,none⟩::rest) n m:=λa b=>by
 obtain⟨cs,⟨i,rfl,_⟩,_⟩:=k0;exact F7 b hd (λw _=>by simp [execOp,b.eval c,NO g,padd]) k
def QJ.fax {C}{α}{A:Nat→Prop}{r:A7 α}{x j off}(e:(B9 m X,Nat.blt d n.1)=(some p,true)) (k0:NI A S h r p x) [ht:Gq P t j off] (k:QJ P ops C Q rest n ((d,padd p off)::m)):QJ P ops C Q (⟨some d,.fieldAddr t X j,ty,pos,af,none⟩::rest) n m:=
 ⟨uA (Abp (λz=>z.1) e) k0 ht.out (Abp (λz=>z.2) e) k.1⟩
def QJ.ld1 {T b o:Nat}{cs:List Value}(a:St S L h) (e:(B9 m X,Nat.blt d n.1)=(some (.pointer (some ⟨b,o,none⟩)),true)) (c:Bx b T cs∈L) (g:cs[o]? =some v) [ht:Fc (Kd P t 1 false=true)] (k:QJ P ops (Wd B h) Q rest n ((d,v)::m)):QJ P ops (Wd B h) Q (⟨some d,.load t X,ty,pos,af,none⟩::rest) n m:=
 ⟨TW Hj a (Abp (λz=>z.1) e) c g ht.out (Abp (λz=>z.2) e) k.1⟩
def Yq {T b o:Nat}{cs:List Value}(a:St S L h) (e:(B9 m X,Nat.blt d n.1)=(some (.pointer (some ⟨b,o,none⟩)),true)) (c:Bx b T cs∈L) (g:cs[o]? =some v) [ht:Fc (Kd P t 1 false=true)] (k:QJ P ops (Cl B h) Q rest n ((d,v)::m)):QJ P ops (Cl B h) Q (⟨some d,.load t X,ty,pos,af,none⟩::rest) n m:=
 ⟨TW OM a (Abp (λz=>z.1) e) c g ht.out (Abp (λz=>z.2) e) k.1⟩
def QJ.ldi {x:Int}(a:St S L h) (e:(B9 m X,Nat.blt d n.1)=(some p,true)) (k0:Pt S h AB p x) [ht:Fc (Kd P t 1 false=true)] (k:QJ P ops (Wd B h) Q rest n ((d,.int .i64 x)::m)):QJ P ops (Wd B h) Q (⟨some d,.load t X,ty,pos,af,none⟩::rest) n m:=
 ⟨Eh Hj a.1 (Abp (λz=>z.1) e) k0 ht.out (Abp (λz=>z.2) e) λ_=>k.1⟩
def QJ.len {C}{α}{S:Nat→Prop}{h:AS}{r:A7 α}{x:List α}{aty e sz}(q:(B9 m X,Nat.blt d n.1)=(some v,true)) (k0:Sl S h r v x) [ht:SB P t e sz] (a:r.sz=sz) (k:QJ P ops C Q rest n ((d,.int .i64 x.length)::m)):QJ P ops C Q (⟨some d,.call ⟨.builtin .len,#[X],#[t]⟩,aty,pos,af,none⟩::rest) n m:=
 ⟨Kc (Abp (λz=>z.1) q) k0 (by rw[a];exact ht.out) (Abp (λz=>z.2) q) λ_=>k.1⟩
def gB {C}{α β}{A S:Nat→Prop}{r:A7 α}{r':A7 β}{f:α→β}{x j off}(e:(B9 m X,Nat.blt d n.1)=(some p,true)) (k0:NI A S h r p x) [ht:Gq P t j off] [hf:KE r off r' f] (k:NI A S h r' (padd p off) (f x)→QJ P ops C Q rest n ((d,padd p off)::m)):QJ P ops C Q (⟨some d,.fieldAddr t X j,ty,pos,af,none⟩::rest) n m:=QJ.fax e k0 (k (k0.fl hf.out))
def VI {C ag sz}(b:St S L h) (e:(B9 m X,Nat.blt d n.1)=(some p,true)) (k0:Vl S h ag sz p v) [ck:iB C h] (c:Kd P t sz ag=true) (g:(ag||Nat.beq sz 1)=true) (k:QJ P ops C Q rest n ((d,v)::m)):QJ P ops C Q (⟨some d,.load t X,ty,pos,af,none⟩::rest) n m:=by
 obtain⟨cs,i,j,rfl⟩:=k0.out;refine⟨λa l=>mS ck.out b.1 l (Abp (λz=>z.1) e) i j c (λh=>?_) (Abp (λz=>z.2) e) k.1⟩;subst h;exact Abu g
def Yo {C}{x:Int}(a:St S L h) (e:(B9 m X,Nat.blt d n.1)=(some p,true)) (k0:Pt S h AB p x) [ck:iB C h] [ht:Fc (Kd P t 1 false=true)] (k:QJ P ops C Q rest n ((d,.int .i64 x)::m)):QJ P ops C Q (⟨some d,.load t X,ty,pos,af,none⟩::rest) n m:=
 ⟨Eh ck.out a.1 (Abp (λz=>z.1) e) k0 ht.out (Abp (λz=>z.2) e) λ_=>k.1⟩
def Yp {C}{x:Bool}(a:St S L h) (e:(B9 m X,Nat.blt d n.1)=(some p,true)) (k0:Pt S h A7.bool p x) [ck:iB C h] [ht:Fc (Kd P t 1 false=true)] (k:QJ P ops C Q rest n ((d,.bool x)::m)):QJ P ops C Q (⟨some d,.load t X,ty,pos,af,none⟩::rest) n m:=
 ⟨gK ck.out a.1 (Abp (λz=>z.1) e) k0 ht.out (Abp (λz=>z.2) e) k.1⟩
def Yj {C}{x:ByteArray}(a:St S L h) (e:(B9 m X,Nat.blt d n.1)=(some p,true)) (k0:Pt S h A7.str p x) [ck:iB C h] [ht:Fc (Kd P t 1 false=true)] (k:QJ P ops C Q rest n ((d,.string x)::m)):QJ P ops C Q (⟨some d,.load t X,ty,pos,af,none⟩::rest) n m:=
 ⟨VM ck.out a.1 (Abp (λz=>z.1) e) k0 ht.out (Abp (λz=>z.2) e) λ_=>k.1⟩
def Yn {C}{α}{r:A7 α}{x}(b:St S L h) (e:(B9 m X,Nat.blt d n.1)=(some p,true)) (k0:Pt S h r.sl p x) [ck:iB C h] [ht:Fc (Kd P t 1 false=true)] (k:Sl S h r (UP h p 0) x→QJ P ops C Q rest n ((d,UP h p 0)::m)):QJ P ops C Q (⟨some d,.load t X,ty,pos,af,none⟩::rest) n m:=by
 obtain⟨cs,a,v,rfl,c⟩:=k0;have g:v=UP h p 0:=by have:=a.at_ (j:=0) (by simp);simpa using this
 subst g;exact VI (ag:=false) (sz:=1) b e ⟨_,a,rfl,rfl⟩ ht.out rfl (k c)
def Yk {C}{α}{r:A7 α}{x sz}(j:St S L h) (e:(B9 m X,Nat.blt d n.1)=(some p,true)) (k0:Pt S h r p x) [ck:iB C h] [ht:Rr P t sz] (a:(r.sz,r.ag)=(sz,true)) (k:Rd S h r (kP h p sz) x→QJ P ops C Q rest n ((d,kP h p sz)::m)):QJ P ops C Q (⟨some d,.load t X,ty,pos,af,none⟩::rest) n m:=by
 obtain⟨cs,b,c⟩:=k0;have l:r.sz=sz:=Abp (λz=>z.1) a;have o:r.ag=true:=Abp (λz=>z.2) a;have g:cs.length=sz:=by rw[←l];exact r.len c
 have i:kP h p sz= .agg cs.toArray:=by unfold kP;rw[←g,b.map]
 exact VI (ag:=true) (sz:=sz) j e ⟨cs,b,g,by rw[i];rfl⟩ ht.out rfl (k ⟨cs,by rw[i];unfold A7.val;rw[o];rfl,c⟩)
def Ym {C}{T b sz:Nat}{cs:List Value}(c:St S L h) (e:(B9 m X,Nat.blt d n.1)=(some (.pointer (some ⟨b,0,none⟩)),true)) (g:Bx b T cs∈L) [ck:iB C h] [ht:Rr P t sz] (a:Nat.beq cs.length sz=true) (k:QJ P ops C Q rest n ((d,.agg cs.toArray)::m)):QJ P ops C Q (⟨some d,.load t X,ty,pos,af,none⟩::rest) n m:=
 ⟨E4 ck.out c (Abp (λz=>z.1) e) g (by rw[List.drop_zero,←Abu a,Ack]) a ht.out rfl (Abp (λz=>z.2) e) k.1⟩
def Yl {C}{T b o sz:Nat}{cs:List Value}(a:St S L h) (e:(B9 m X,Nat.blt d n.1)=(some (.pointer (some ⟨b,o,none⟩)),true)) (c:Bx b T cs∈L) [ck:iB C h] [ht:Rr P t sz] (g:Nat.ble (o+sz) cs.length=true) (k:QJ P ops C Q rest n ((d,.agg ((cs.drop o).take sz).toArray)::m)):QJ P ops C Q (⟨some d,.load t X,ty,pos,af,none⟩::rest) n m:=
 ⟨E4 ck.out a (Abp (λz=>z.1) e) c rfl (by have:=Aen g;simp;omega) ht.out rfl (Abp (λz=>z.2) e) k.1⟩
def QJ.leno {C}{α}{r:A7 α}{l:List α}{T aty e sz}(a:St S L h) (q:(B9 m X,Nat.blt d n.1)=(some v,true)) (b:OS r T v l∈L) [ht:SB P t e sz] (k:QJ P ops C Q rest n ((d,.int .i64 l.length)::m)):QJ P ops C Q (⟨some d,.call ⟨.builtin .len,#[X],#[t]⟩,aty,pos,af,none⟩::rest) n m:=
 ⟨Q5 a b (Abp (λz=>z.1) q) ht.out (Abp (λz=>z.2) q) λ_=>k.1⟩
def QJ.lens {C}{s:ByteArray}{aty}(q:(B9 m X,Nat.blt d n.1)=(some (.string s),true)) [ht:Fc (P.underlying t=some .string)] (k:QJ P ops C Q rest n ((d,.int .i64 s.size)::m)):QJ P ops C Q (⟨some d,.call ⟨.builtin .len,#[X],#[t]⟩,aty,pos,af,none⟩::rest) n m:=
 ⟨Pd (Abp (λz=>z.1) q) ht.out (Abp (λz=>z.2) q) k.1⟩
def LJ.q {Q:Exit→Act→World→Prop}{o:Oper}(e:qB o=true) (k:QJ P ops (Wd B h) (λa=>∀w,Wd B h w→wpList P ops Q ((o::l).drop (qN (o::l))) a w) ((o::l).take (qN (o::l))) n m):LJ P ops Q (o::l) B h n m:=⟨AJ _ k.1⟩
def LJ.nil {a:List (Nat×AP)}{R N:AP}{cs:List Code}(k:WJ P a R cs N B h n m):LJ P ops (Qx a R (W P a R cs N)) [] B h n m:=⟨uD k.1⟩
def WJ.seq {a:List (Nat×AP)}{R N:AP}{cs:List Code}{x y:Code}(k:WJ P a R (x::y::cs) N B h n m):WJ P a R (.seq x y::cs) N B h n m:=⟨CN k.1⟩
def WJ.skip {a:List (Nat×AP)}{R N:AP}{cs:List Code}(k:WJ P a R cs N B h n m):WJ P a R (.skip::cs) N B h n m:=⟨Dz k.1⟩
def WJ.rp {b:List (Nat×AP)}{R N:AP}{cs:List Code}{id:Nat}(e:l.all qB=true) (k:QJ P l.toArray (Wd B h) (λa=>∀w,Wd B h w→W P b R cs N a w) l n m):WJ P b R (.region id l.toArray false::cs) N B h n m:=⟨Hv (.inl rfl) k.1⟩
def WJ.rl {a:List (Nat×AP)}{R N:AP}{cs:List Code}{id:Nat}(e:(l.all qB||l.any fB)=false) (k:LJ P l.toArray (Qx a R (W P a R cs N)) l B h n m):WJ P a R (.region id l.toArray false::cs) N B h n m:=⟨De k.1⟩
end
def SC {A:Prop}(e:A:=by
 repeat' (first
  |refine nX rfl ?_
  |refine yM rfl ?_
  |refine QJ.fao rfl ?_
  |refine QJ.ld1 (by assumption) rfl (by repeat (first|exact mh|refine mt ?_)) (by rfl) ?_
  |(refine gB rfl (by assumption) ?_;intro _)
  |refine QJ.fax rfl (by assumption) ?_
  |refine Yo (by assumption) rfl (by assumption) ?_
  |refine VI (by assumption) rfl (by assumption) (by first|exact Fc.out|exact Rr.out) rfl ?_
  |(refine Yn (by assumption) rfl (by assumption) ?_;intro _)
  |refine Yp (by assumption) rfl (by assumption) ?_
  |refine QJ.len rfl (by assumption) (by rfl) ?_
  |refine QJ.lens rfl ?_
  |refine QJ.leno (by assumption) rfl (by repeat (first|exact mh|refine mt ?_)) ?_
  |refine Yj (by assumption) rfl (by assumption) ?_
  |(refine Yk (by assumption) rfl (by assumption) rfl ?_;intro _)
  |refine Ym (by assumption) rfl (by repeat (first|exact mh|refine mt ?_)) rfl ?_
  |refine Yl (by assumption) rfl (by repeat (first|exact mh|refine mt ?_)) rfl ?_
  |refine Yq (by assumption) rfl (by repeat (first|exact mh|refine mt ?_)) (by rfl) ?_
  |exact QJ.scE rfl (by kernel_rfl) (by kernel_rfl)
  |(apply QJ.scA rfl rfl ?_ rfl (by kernel_rfl) (by kernel_rfl) (by kernel_rfl) ?_;rotate_left)
  |(apply QJ.scO rfl rfl ?_ rfl (by kernel_rfl) (by kernel_rfl) (by kernel_rfl) ?_;rotate_left))
 first|done|fail):A:=e
structure Hd (A:Prop):Prop where out:A
def AU {A B:Prop}(k:A) (f:Hd A→B:=by
 intro k
 first
  |with_reducible refine QJ.out ?_
  |with_reducible refine LJ.out ?_
  |with_reducible refine WJ.out ?_
  |refine LJ.out ?_
 repeat (first
  |refine nX rfl ?_
  |refine yM rfl ?_
  |refine QJ.fao rfl ?_
  |refine QJ.ld1 (by assumption) rfl (by repeat (first|exact mh|refine mt ?_)) (by rfl) ?_
  |(refine gB rfl (by assumption) ?_;intro _)
  |refine QJ.fax rfl (by assumption) ?_
  |refine Yo (by assumption) rfl (by assumption) ?_
  |refine VI (by assumption) rfl (by assumption) (by first|exact Fc.out|exact Rr.out) rfl ?_
  |(refine Yn (by assumption) rfl (by assumption) ?_;intro _)
  |refine Yp (by assumption) rfl (by assumption) ?_
  |refine QJ.len rfl (by assumption) (by rfl) ?_
  |refine QJ.lens rfl ?_
  |refine QJ.leno (by assumption) rfl (by repeat (first|exact mh|refine mt ?_)) ?_
  |refine Yj (by assumption) rfl (by assumption) ?_
  |(refine Yk (by assumption) rfl (by assumption) rfl ?_;intro _)
  |refine Ym (by assumption) rfl (by repeat (first|exact mh|refine mt ?_)) rfl ?_
  |refine Yl (by assumption) rfl (by repeat (first|exact mh|refine mt ?_)) rfl ?_
  |refine Yq (by assumption) rfl (by repeat (first|exact mh|refine mt ?_)) (by rfl) ?_
  |refine QJ.ln ?_
  |refine QJ.rp ?_
  |refine LJ.q rfl ?_
  |refine LJ.nil ?_
  |refine WJ.seq ?_
  |refine WJ.skip ?_
  |refine WJ.rp rfl ?_
  |refine WJ.rl rfl ?_
  |(apply QJ.scA rfl rfl ?_ rfl (by kernel_rfl) (by kernel_rfl) (by kernel_rfl) ?_;rotate_left;exact SC)
  |(apply QJ.scO rfl rfl ?_ rfl (by kernel_rfl) (by kernel_rfl) (by kernel_rfl) ?_;rotate_left;exact SC)
  |fail)
 first
  |exact QJ.mk k.out
  |exact LJ.mk k.out
  |exact WJ.mk k.out):B:=f ⟨k⟩
end Go.Proofs.YtabonambpbofgaaGreat
