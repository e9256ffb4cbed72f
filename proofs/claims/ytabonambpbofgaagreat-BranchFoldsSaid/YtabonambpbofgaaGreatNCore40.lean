import Derived.Test.YtabonambpbofgaaGreatNCore31
namespace Go.Proofs.YtabonambpbofgaaGreat
set_option linter.all false
open Go.RowKit
def Aaw (d:Nat):Nat→List Oper→Option (Nat×Nat)
 |_,[]=>none
 |j,o::r=>match o.op with
  | .pick (.tmp x) _ _=>cond (Nat.beq x d) (match o.dst with|some t=>some (j+1,t)|none=>none) (Aaw d (j+1) r)
  |_=>Aaw d (j+1) r
def Aad (ops:Array Oper) (l:List Oper):Option (Nat×Nat×Nat×Bool):=match l with
 |[]=>none
 |o::_=>match o.guard with
  |none=>none
  |some (g,b)=>match (ops[g]?).bind (·.dst) with
   |none=>none
   |some d=>match Aaw d 0 l with
    |none=>none
    |some (j,t)=>some (j,t,d,b)
def iR (m1 m:SM):Bool:=(m1.take (m1.length-(m.length+1))).all λp=> !(m.any λq=>Nat.beq p.1 q.1)
def dI:∀{m:SM}{i:Nat}{u:Value},lk m i=some u→(m.any λq=>Nat.beq i q.1)=true
 |(j,v)::r,i,u,h=>by
  rw[List.any_cons];simp only[lk] at h;cases e:Nat.beq j i with
  |true=>
   have:=Aco e;subst this;rw[show Nat.beq j j=true by simp,Bool.true_or]
  |false=>
   rw[e,Acd] at h;rw[dI h,Bool.or_true]
def dG:∀{m:SM}{i:Nat},(∀p∈m,Nat.beq p.1 i=false)→lk m i=none
 |[],_,_=>rfl
 |(j,v)::r,i,h=>by
  simp only[lk];rw[h (j,v) Ac4,Acd];exact dG λp a=>h p (Adi _ a)
def nX {n:FN}{a:Act}{m m1:SM}{d t:Nat}{b:Bool}{v:Value}(g:Fr n a m1) (l:lk m1 t=some v) (j:iR m1 m=true) (o:m1.drop (m1.length-(m.length+1))=(d,.bool b)::m) (hd:lk m d=some (.bool b)):Fr n a ((t,v)::m):=by
 refine⟨g.dfr,g.siz,λi u c=>?_⟩;simp only[lk] at c;cases e:Nat.beq t i with
 |true=>
  rw[e,Acc] at c;cases c;have:=Aco e;subst this;exact g.at_ _ _ l
 |false=>
  rw[e,Acd] at c;refine g.at_ _ _ ?_;rw[←List.take_append_drop (m1.length-(m.length+1)) m1,o,M4];have q:lk (m1.take (m1.length-(m.length+1))) i=none:=dG λp s=>by
   unfold iR at j;rw[Acm] at j;have:=j p s;cases k:Nat.beq p.1 i with
   |false=>rfl
   |true=>
    have w:=Aco k;rw[w,dI c] at this;cases this
  rw[q,Option.none_or];simp only[lk];cases k:Nat.beq d i with
  |true=>
   have:=Aco k;subst this;rw[hd] at c;exact c
  |false=>exact c
def PS (n:FN) (m:SM) (d:Nat) (b:Bool) (t:Nat) (v:Bool) (a:Act):Prop:=∃m1,Fr n a m1∧lk m1 t=some (.bool v)∧iR m1 m=true∧m1.drop (m1.length-(m.length+1))=(d,.bool b)::m
section
variable {P:Program}{ops:Array Oper}{C:World→Prop}{Q:Act→Prop}{n:FN}{m m1 m2:SM}{l:List Oper}
def uQ {d t:Nat}{b v:Bool}(c:lk m1 t=some (.bool v)) (g:iR m1 m=true) (i:m1.drop (m1.length-(m.length+1))=(d,.bool b)::m):QF P ops C (PS n m d b t v) [] n m1:=QF.nil λa j=>⟨m1,j,c,g,i⟩
def Fr.lit {n:FN}{a:Act}{m:SM}{d:Nat}{v:Value}(c:Fr n a m) (h:lk m d=some v):Fr n a ((d,v)::m):=⟨c.dfr,c.siz,λi u b=>by
 simp only[lk] at b;cases e:Nat.beq d i with
 |true=>
  have:=Aco e;subst this;rw[e,Acc] at b;cases b;exact c.at_ _ _ h
 |false=>
  rw[e,Acd] at b;exact c.at_ _ _ b⟩
def hE {c v:Bool}(b:Bool) {j t d:Nat}(k:lk m d=some (.bool c)) (q:QF P ops C (PS n m d b t v) (l.take j) n ((d,.bool b)::m))
  (s:Rc ops n.1 (l.take j) ((d,.bool (!b))::m)=some m2) (u:lk m2 t=some (.bool (!b))) (w:iR m2 m=true) (hd:m2.drop (m2.length-(m.length+1))=(d,.bool (!b))::m) (p:QF P ops C Q (l.drop j) n ((t,.bool (cond b (c&&v) (c||v)))::m)):QF P ops C Q l n m:=by
 by_cases e:c=b
 ·subst e;intro a o;refine UK j (PS n m d c t v) (q a (o.lit k)) λi ⟨m1,x,y,z,A⟩=>p i ?_;have:=nX x y z A k;cases c<;>exact this
 ·have e:c= !b:=by cases c<;>cases b<;>first|rfl|exact absurd rfl e
  subst e;intro a o;refine UK j (λi=>Fr n i m2) (OR s (QF.nil λi g=>g) a (o.lit k)) λi g=>p i ?_;have:=nX g u w hd k;cases b<;>exact this
def uR {c v:Bool}{j t d:Nat}(e:Aad ops l=some (j,t,d,true)) (a:lk m d=some (.bool c)) (b:QF P ops C (PS n m d true t v) (l.take j) n ((d,.bool true)::m))
  (g:Rc ops n.1 (l.take j) ((d,.bool false)::m)=some m2) (i:lk m2 t=some (.bool false)) (k:iR m2 m=true) (hd:m2.drop (m2.length-(m.length+1))=(d,.bool false)::m) (o:QF P ops C Q (l.drop j) n ((t,.bool (c&&v))::m)):QF P ops C Q l n m:=hE true a b g i k hd o
def uP {c v:Bool}{j t d:Nat}(e:Aad ops l=some (j,t,d,false)) (a:lk m d=some (.bool c)) (b:QF P ops C (PS n m d false t v) (l.take j) n ((d,.bool false)::m))
  (g:Rc ops n.1 (l.take j) ((d,.bool true)::m)=some m2) (i:lk m2 t=some (.bool true)) (k:iR m2 m=true) (hd:m2.drop (m2.length-(m.length+1))=(d,.bool true)::m) (o:QF P ops C Q (l.drop j) n ((t,.bool (c||v))::m)):QF P ops C Q l n m:=hE false a b g i k hd o
def uS {b:List (Nat×AP)}{R N:AP}{cs:List Code}{B:World}{h:AS}(k:WF P b R cs N B h n m):QF P ops C (λa=>∀w,Wd B h w→W P b R cs N a w) [] n m:=λa c w d=>k a w c d
def vE {b:List (Nat×AP)}{R N:AP}{cs:List Code}{B:World}{h:AS}(k:WF P b R cs N B h n m):LF P ops (Qx b R (W P b R cs N)) [] B h n m:=λa w c d=>nU (k a w c d)
end
def Aae:IntKind→Nat
 | .i8=>0| .i16=>1| .i32=>2| .i64=>3| .u8=>4| .u16=>5| .u32=>6| .u64=>7
def rL {a b:IntKind}(h:Nat.beq (Aae a) (Aae b)=true):a=b:=by cases a<;>cases b<;>first|rfl|cases h
def binI (o:BinOp) (k:IntKind) (x y:Int):Option Value:=match o with
 | .lss=>some (.bool (decide (x<y)))
 | .leq=>some (.bool (decide (x≤y)))
 | .gtr=>some (.bool (decide (y<x)))
 | .geq=>some (.bool (decide (y≤x)))
 | .eql=>some (.bool (decide (x=y)))
 | .neq=>some (.bool (decide (x≠y)))
 | .add=>some (.int k (k.wrap (x+y)))
 | .sub=>some (.int k (k.wrap (x-y)))
 | .mul=>some (.int k (k.wrap (x*y)))
 | .and=>some (.int k (IU .and k x y))
 |_=>none
def Aa4 (a:Op) (m:SM):Option Value:=match a with
 | .move X=>B4 m X
 | .assign X=>B4 m X
 | .pick c x y=>match B4 m c with
  |some (.bool true)=>B4 m x
  |some (.bool false)=>B4 m y
  |_=>none
 | .extract X i=>match B4 m X with
  |some (.tuple xs)=>xs[i]?
  |_=>none
 | .nilCheck X=>match B4 m X with
  |some (.pointer (some d))=>some (.pointer (some d))
  |_=>none
 | .unOp .not _ X=>match B4 m X with
  |some (.bool b)=>some (.bool (!b))
  |_=>none
 | .binOp o _ X Y _=>match B4 m X with
  |some (.int k x)=>match B4 m Y with
   |some (.int g y)=>cond (Nat.beq (Aae k) (Aae g)) (binI o k x y) none
   |_=>none
  |_=>none
 |_=>none
section
variable {P:Program}{ops:Array Oper}{C:World→Prop}{Q:Act→Prop}{n:FN}{m:SM}{rest:List Oper}
def mF {d:Nat}{ty:TypeId}{pos:String}{af:Array Edge}{o:BinOp}{t1 t2:TypeId}{X Y:Operand}{k:IntKind}{x y:Int}{v:Value}(a:B4 m X=some (.int k x)) (b:B4 m Y=some (.int k y)) (hd:Nat.blt d n.1=true) (e:Go.Proofs.YtabonambpbofgaaGreat.binI o k x y=some v) (c:QF P ops C Q rest n ((d,v)::m)):QF P ops C Q (⟨some d,.binOp o t1 X Y t2,ty,pos,af,none⟩::rest) n m:=by
 cases o<;>cases e
 ·exact mH a b hd c
 ·exact lS a b hd c
 ·exact lX a b hd c
 ·exact Ve a b hd c
 ·exact iG a b hd c
 ·exact iA a b hd c
 ·exact iB a b hd c
 ·exact uV a b hd c
 ·exact iD a b hd c
 ·exact iE a b hd c
def uT {d:Nat}{a:Op}{ty:TypeId}{pos:String}{af:Array Edge}{v:Value}(e:Aa4 a m=some v) (hd:Nat.blt d n.1=true) (k:QF P ops C Q rest n ((d,v)::m)):QF P ops C Q (⟨some d,a,ty,pos,af,none⟩::rest) n m:=by
 unfold Aa4 at e;split at e
 ·exact oZ e hd k
 ·exact iH e hd k
 ·split at e
  ·rename_i h;exact RO h e hd k
  ·rename_i h;exact RO h e hd k
  ·cases e
 ·split at e
  ·rename_i h;exact iF h e hd k
  ·cases e
 ·split at e
  ·rename_i h;cases e;exact JW h hd k
  ·cases e
 ·split at e
  ·rename_i h;cases e;exact hJ h hd k
  ·cases e
 ·split at e
  ·rename_i b;split at e
   ·rename_i c;obtain⟨g,i⟩:=N3 e;have:=rL g;subst this;exact mF b c hd i k
   ·cases e
  ·cases e
 ·cases e
end
structure QJ (P:Program) (ops:Array Oper) (C:World→Prop) (Q:Act→Prop) (l:List Oper) (n:FN) (m:SM):Prop where out:QF P ops C Q l n m
structure LJ (P:Program) (ops:Array Oper) (Q:Exit→Act→World→Prop) (l:List Oper) (B:World) (h:AS) (n:FN) (m:SM):Prop where out:LF P ops Q l B h n m
structure WJ (P:Program) (ex:List (Nat×AP)) (R:AP) (cs:List Code) (N:AP) (B:World) (h:AS) (n:FN) (m:SM):Prop where out:WF P ex R cs N B h n m
def padd:Value→Nat→Value
 | .pointer (some a),k=> .pointer (some (a.add k))
 |v,_=>v
def NX.fl {α β A S h}{r:A5 α}{r':A5 β}{o f p x}(k:NX A S h r p x) (b:FZ r o r' f):NX A S h r' (padd p o) (f x):=by
 obtain⟨a,rfl,c⟩:=k.fld b;exact c
def NX.i {A S h p}{x:Int}(k:NX A S h AB p x):AA x:=by
 obtain⟨cs,_,_,h⟩:=k;exact h
def Sl.le {α S h}{r:A5 α}{v}{l:List α}(k:Sl S h r v l):l.length≤maxLen:=by
 obtain⟨_,_,_,h⟩:=k.len;exact h
def Ui (h:AS) (p:Value) (j:Nat):Value:=match p with
 | .pointer (some a)=>(Jm h ⟨a.block,a.off+j,none⟩).getD undef
 |_=>undef
def N8.at_ {A h p cs}(k:N8 A h p cs) {j:Nat}(b:j<cs.length):cs[j]? =some (Ui h p j):=by
 obtain⟨a,rfl,_,_,c⟩:=k;have:=c j b;show cs[j]? =some ((Jm h ⟨a.block,a.off+j,none⟩).getD undef)
 rw[this,Acn b];rfl
def N8.map {A h p cs}(k:N8 A h p cs):(List.range cs.length).map (Ui h p)=cs:=by
 apply Adl;intro j;rw[Ad4];by_cases a:j<cs.length
 ·rw[k.at_ a,Aft a];rfl
 ·rw[Ac8 (by simpa using a),Ac8 (by simpa using a)];rfl
def lJ (h:AS) (p:Value) (n:Nat):Value:= .agg ((List.range n).map (Ui h p)).toArray
 class Fc (p:Prop):Prop where out:p
 class Gn (P:Program) (t j:Nat) (off:outParam Nat):Prop where out:aA P t j off=true
 class SY (P:Program) (t:Nat) (e sz:outParam Nat):Prop where out:O3 P t e sz=true
 class KM {α:Type} (r:A5 α) (o:Nat) {β:outParam Type} (r':outParam (A5 β)) (f:outParam (α→β)):Prop where out:FZ r o r' f
 class iS (C:World→Prop) (h:outParam AS):Prop where out:CK C h
instance {B:World}{h:AS}:iS (Wd B h) h:=⟨Hc⟩
instance {B:World}{h:AS}:iS (Cl B h) h:=⟨P3⟩
 class Rr (P:Program) (t:Nat) (sz:outParam Nat):Prop where out:Kh P t sz true=true
structure Vl (A:Nat→Prop) (h:AS) (ag:Bool) (sz:Nat) (p v:Value):Prop where out:∃cs,N8 A h p cs∧cs.length=sz∧v=if ag then .agg cs.toArray else cs.headD undef
def NX.lv {α A S h}{r:A5 α}{p x}(k:NX A S h r p x):∃v,Vl A h r.ag r.sz p v∧Rd S h r v x:=by
 obtain⟨cs,b,a⟩:=k;exact⟨_,⟨cs,b,r.len a,rfl⟩,cs,rfl,a⟩
def NX.ll {α A S h}{r:A5 α}{p x}(k:NX A S h r.sl p x):∃v,Vl A h false 1 p v∧Sl S h r v x:=by
 obtain⟨v,a,b⟩:=k.lv;exact⟨v,a,b.sl⟩
def NX.sz {A S h p}{x:ByteArray}(k:NX A S h A5.str p x):x.size≤maxLen:=by
 obtain⟨cs,_,_,h⟩:=k;exact h
def qB (o:Oper):Bool:=match o.op with
 | .move _| .assign _| .pick _ _ _| .build _ _| .load _ _| .nilCheck _| .binOp _ _ _ _ _| .unOp _ _ _| .convert _ _ _| .makeFunc _ _ _| .fieldAddr _ _ _| .field _ _ _| .indexAddr _ _ _| .index _ _ _| .extract _ _=>true
 | .call ⟨.builtin .len,_,_⟩| .call ⟨.builtin .min,_,_⟩| .call ⟨.builtin .max,_,_⟩=>true
 |_=>false
def fB (o:Oper):Bool:=match o.op with
 | .call ⟨.value _,_,_⟩=>true
 |_=>false
def qN:List Oper→Nat
 |[]=>0
 |o::r=>cond (qB o) (qN r+1) 0
section
variable {P:Program}{ops:Array Oper}{Q:Act→Prop}{n:FN}{m m1 m2:SM}{rest l:List Oper}{B:World}{S:Nat→Prop}{L:List HP}{h:AS}
variable {d:Nat}{ty:TypeId}{pos:String}{af:Array Edge}{X Y:Operand}{t t1:TypeId}{v p:Value}
def oY {C}{a:Op}(e:(Aa4 a m,Nat.blt d n.1)=(some v,true)) (k:QJ P ops C Q rest n ((d,v)::m)):QJ P ops C Q (⟨some d,a,ty,pos,af,none⟩::rest) n m:=
 ⟨uT (Ach (λz=>z.1) e) (Ach (λz=>z.2) e) k.1⟩
def zO {C}{a:Op}{j e:Nat}{b:Bool}(q:((ops[j]?).bind (·.dst),lk m e)=(some e,some (.bool b))) (k:QJ P ops C Q (⟨some d,a,ty,pos,af,none⟩::rest) n m):QJ P ops C Q (⟨some d,a,ty,pos,af,some (j,b)⟩::rest) n m:=
 ⟨ZC rfl (Ach (λz=>z.1) q) (Ach (λz=>z.2) q) k.1⟩
def QJ.scA {C}{c v:Bool}{j t d:Nat}(e:Aad ops l=some (j,t,d,true)) (a:lk m d=some (.bool c)) (b:QJ P ops C (PS n m d true t v) (l.take j) n ((d,.bool true)::m))
  (g:Rc ops n.1 (l.take j) ((d,.bool false)::m)=some m2) (i:lk m2 t=some (.bool false)) (k:iR m2 m=true) (hd:m2.drop (m2.length-(m.length+1))=(d,.bool false)::m) (o:QJ P ops C Q (l.drop j) n ((t,.bool (c&&v))::m)):QJ P ops C Q l n m:=⟨uR e a b.1 g i k hd o.1⟩
def QJ.scO {C}{c v:Bool}{j t d:Nat}(e:Aad ops l=some (j,t,d,false)) (a:lk m d=some (.bool c)) (b:QJ P ops C (PS n m d false t v) (l.take j) n ((d,.bool false)::m))
  (g:Rc ops n.1 (l.take j) ((d,.bool true)::m)=some m2) (i:lk m2 t=some (.bool true)) (k:iR m2 m=true) (hd:m2.drop (m2.length-(m.length+1))=(d,.bool true)::m) (o:QJ P ops C Q (l.drop j) n ((t,.bool (c||v))::m)):QJ P ops C Q l n m:=⟨uP e a b.1 g i k hd o.1⟩
def QJ.scE {C}{d t:Nat}{b v:Bool}(a:lk m1 t=some (.bool v)) (c:iR m1 m=true) (g:m1.drop (m1.length-(m.length+1))=(d,.bool b)::m):QJ P ops C (PS n m d b t v) [] n m1:=⟨uQ a c g⟩
def QJ.rp {C}{b:List (Nat×AP)}{R N:AP}{cs:List Code}(k:WJ P b R cs N B h n m):QJ P ops C (λa=>∀w,Wd B h w→W P b R cs N a w) [] n m:=⟨uS k.1⟩
def QJ.ln {C}{Q:Exit→Act→World→Prop}(k:LJ P ops Q l B h n m):QJ P ops C (λa=>∀w,Wd B h w→wpList P ops Q l a w) [] n m:=⟨AE k.1⟩
def QJ.fao {C}{b o j off}[ht:Gn P t j off] (e:(B4 m X,Nat.blt d n.1)=(some (.pointer (some ⟨b,o,none⟩)),true)) (k:QJ P ops C Q rest n ((d,.pointer (some ⟨b,o+off,none⟩))::m)):QJ P ops C Q (⟨some d,.fieldAddr t X j,ty,pos,af,none⟩::rest) n m:=
 ⟨Ew (Ach (λz=>z.1) e) ht.out (Ach (λz=>z.2) e) k.1⟩
def vB {C}{α}{A:Nat→Prop}{r:A5 α}{x j off}(c:B4 m X=some p) (k0:NX A S h r p x) (g:aA P t j off=true) (hd:Nat.blt d n.1=true) (k:QF P ops C Q rest n ((d,padd p off)::m)):QF P ops C Q (⟨some d,.fieldAddr t X j,ty,pos,af,none⟩::rest) n m:=λa b=>by
 obtain⟨cs,⟨i,rfl,_⟩,_⟩:=k0;exact GI b hd (λw _=>by simp [execOp,b.eval c,MN g,padd]) k
def QJ.fax {C}{α}{A:Nat→Prop}{r:A5 α}{x j off}(e:(B4 m X,Nat.blt d n.1)=(some p,true)) (k0:NX A S h r p x) [ht:Gn P t j off] (k:QJ P ops C Q rest n ((d,padd p off)::m)):QJ P ops C Q (⟨some d,.fieldAddr t X j,ty,pos,af,none⟩::rest) n m:=
 ⟨vB (Ach (λz=>z.1) e) k0 ht.out (Ach (λz=>z.2) e) k.1⟩
def QJ.ld1 {T b o:Nat}{cs:List Value}(a:St S L h) (e:(B4 m X,Nat.blt d n.1)=(some (.pointer (some ⟨b,o,none⟩)),true)) (c:Bx b T cs∈L) (g:cs[o]? =some v) [ht:Fc (Kh P t 1 false=true)] (k:QJ P ops (Wd B h) Q rest n ((d,v)::m)):QJ P ops (Wd B h) Q (⟨some d,.load t X,ty,pos,af,none⟩::rest) n m:=
 ⟨NO Hc a (Ach (λz=>z.1) e) c g ht.out (Ach (λz=>z.2) e) k.1⟩
def Y8 {T b o:Nat}{cs:List Value}(a:St S L h) (e:(B4 m X,Nat.blt d n.1)=(some (.pointer (some ⟨b,o,none⟩)),true)) (c:Bx b T cs∈L) (g:cs[o]? =some v) [ht:Fc (Kh P t 1 false=true)] (k:QJ P ops (Cl B h) Q rest n ((d,v)::m)):QJ P ops (Cl B h) Q (⟨some d,.load t X,ty,pos,af,none⟩::rest) n m:=
 ⟨NO P3 a (Ach (λz=>z.1) e) c g ht.out (Ach (λz=>z.2) e) k.1⟩
def QJ.ldi {x:Int}(a:St S L h) (e:(B4 m X,Nat.blt d n.1)=(some p,true)) (k0:Pt S h AB p x) [ht:Fc (Kh P t 1 false=true)] (k:QJ P ops (Wd B h) Q rest n ((d,.int .i64 x)::m)):QJ P ops (Wd B h) Q (⟨some d,.load t X,ty,pos,af,none⟩::rest) n m:=
 ⟨Fs Hc a.1 (Ach (λz=>z.1) e) k0 ht.out (Ach (λz=>z.2) e) λ_=>k.1⟩
def QJ.len {C}{α}{S:Nat→Prop}{h:AS}{r:A5 α}{x:List α}{aty e sz}(q:(B4 m X,Nat.blt d n.1)=(some v,true)) (k0:Sl S h r v x) [ht:SY P t e sz] (a:r.sz=sz) (k:QJ P ops C Q rest n ((d,.int .i64 x.length)::m)):QJ P ops C Q (⟨some d,.call ⟨.builtin .len,#[X],#[t]⟩,aty,pos,af,none⟩::rest) n m:=
 ⟨LE (Ach (λz=>z.1) q) k0 (by rw[a];exact ht.out) (Ach (λz=>z.2) q) λ_=>k.1⟩
def gZ {C}{α β}{A S:Nat→Prop}{r:A5 α}{r':A5 β}{f:α→β}{x j off}(e:(B4 m X,Nat.blt d n.1)=(some p,true)) (k0:NX A S h r p x) [ht:Gn P t j off] [hf:KM r off r' f] (k:NX A S h r' (padd p off) (f x)→QJ P ops C Q rest n ((d,padd p off)::m)):QJ P ops C Q (⟨some d,.fieldAddr t X j,ty,pos,af,none⟩::rest) n m:=QJ.fax e k0 (k (k0.fl hf.out))
def VY {C ag sz}(b:St S L h) (e:(B4 m X,Nat.blt d n.1)=(some p,true)) (k0:Vl S h ag sz p v) [ck:iS C h] (c:Kh P t sz ag=true) (g:(ag||Nat.beq sz 1)=true) (k:QJ P ops C Q rest n ((d,v)::m)):QJ P ops C Q (⟨some d,.load t X,ty,pos,af,none⟩::rest) n m:=by
 obtain⟨cs,i,j,rfl⟩:=k0.out;refine⟨λa l=>nQ ck.out b.1 l (Ach (λz=>z.1) e) i j c (λh=>?_) (Ach (λz=>z.2) e) k.1⟩;subst h;exact Aco g
def Y6 {C}{x:Int}(a:St S L h) (e:(B4 m X,Nat.blt d n.1)=(some p,true)) (k0:Pt S h AB p x) [ck:iS C h] [ht:Fc (Kh P t 1 false=true)] (k:QJ P ops C Q rest n ((d,.int .i64 x)::m)):QJ P ops C Q (⟨some d,.load t X,ty,pos,af,none⟩::rest) n m:=
 ⟨Fs ck.out a.1 (Ach (λz=>z.1) e) k0 ht.out (Ach (λz=>z.2) e) λ_=>k.1⟩
def Y7 {C}{x:Bool}(a:St S L h) (e:(B4 m X,Nat.blt d n.1)=(some p,true)) (k0:Pt S h A5.bool p x) [ck:iS C h] [ht:Fc (Kh P t 1 false=true)] (k:QJ P ops C Q rest n ((d,.bool x)::m)):QJ P ops C Q (⟨some d,.load t X,ty,pos,af,none⟩::rest) n m:=
 ⟨uW ck.out a.1 (Ach (λz=>z.1) e) k0 ht.out (Ach (λz=>z.2) e) k.1⟩
def Y1 {C}{x:ByteArray}(a:St S L h) (e:(B4 m X,Nat.blt d n.1)=(some p,true)) (k0:Pt S h A5.str p x) [ck:iS C h] [ht:Fc (Kh P t 1 false=true)] (k:QJ P ops C Q rest n ((d,.string x)::m)):QJ P ops C Q (⟨some d,.load t X,ty,pos,af,none⟩::rest) n m:=
 ⟨Vb ck.out a.1 (Ach (λz=>z.1) e) k0 ht.out (Ach (λz=>z.2) e) λ_=>k.1⟩
def Y5 {C}{α}{r:A5 α}{x}(b:St S L h) (e:(B4 m X,Nat.blt d n.1)=(some p,true)) (k0:Pt S h r.sl p x) [ck:iS C h] [ht:Fc (Kh P t 1 false=true)] (k:Sl S h r (Ui h p 0) x→QJ P ops C Q rest n ((d,Ui h p 0)::m)):QJ P ops C Q (⟨some d,.load t X,ty,pos,af,none⟩::rest) n m:=by
 obtain⟨cs,a,v,rfl,c⟩:=k0;have g:v=Ui h p 0:=by have:=a.at_ (j:=0) (by simp);simpa using this
 subst g;exact VY (ag:=false) (sz:=1) b e ⟨_,a,rfl,rfl⟩ ht.out rfl (k c)
def Y2 {C}{α}{r:A5 α}{x sz}(j:St S L h) (e:(B4 m X,Nat.blt d n.1)=(some p,true)) (k0:Pt S h r p x) [ck:iS C h] [ht:Rr P t sz] (a:(r.sz,r.ag)=(sz,true)) (k:Rd S h r (lJ h p sz) x→QJ P ops C Q rest n ((d,lJ h p sz)::m)):QJ P ops C Q (⟨some d,.load t X,ty,pos,af,none⟩::rest) n m:=by
 obtain⟨cs,b,c⟩:=k0;have l:r.sz=sz:=Ach (λz=>z.1) a;have o:r.ag=true:=Ach (λz=>z.2) a;have g:cs.length=sz:=by rw[←l];exact r.len c
 have i:lJ h p sz= .agg cs.toArray:=by unfold lJ;rw[←g,b.map]
 exact VY (ag:=true) (sz:=sz) j e ⟨cs,b,g,by rw[i];rfl⟩ ht.out rfl (k ⟨cs,by rw[i];unfold A5.val;rw[o];rfl,c⟩)
def Y4 {C}{T b sz:Nat}{cs:List Value}(c:St S L h) (e:(B4 m X,Nat.blt d n.1)=(some (.pointer (some ⟨b,0,none⟩)),true)) (g:Bx b T cs∈L) [ck:iS C h] [ht:Rr P t sz] (a:Nat.beq cs.length sz=true) (k:QJ P ops C Q rest n ((d,.agg cs.toArray)::m)):QJ P ops C Q (⟨some d,.load t X,ty,pos,af,none⟩::rest) n m:=
 ⟨Fq ck.out c (Ach (λz=>z.1) e) g (by rw[List.drop_zero,←Aco a,Adk]) a ht.out rfl (Ach (λz=>z.2) e) k.1⟩
def Y3 {C}{T b o sz:Nat}{cs:List Value}(a:St S L h) (e:(B4 m X,Nat.blt d n.1)=(some (.pointer (some ⟨b,o,none⟩)),true)) (c:Bx b T cs∈L) [ck:iS C h] [ht:Rr P t sz] (g:Nat.ble (o+sz) cs.length=true) (k:QJ P ops C Q rest n ((d,.agg ((cs.drop o).take sz).toArray)::m)):QJ P ops C Q (⟨some d,.load t X,ty,pos,af,none⟩::rest) n m:=
 ⟨Fq ck.out a (Ach (λz=>z.1) e) c rfl (by have:=Afh g;simp;omega) ht.out rfl (Ach (λz=>z.2) e) k.1⟩
def QJ.leno {C}{α}{r:A5 α}{l:List α}{T aty e sz}(a:St S L h) (q:(B4 m X,Nat.blt d n.1)=(some v,true)) (b:OS r T v l∈L) [ht:SY P t e sz] (k:QJ P ops C Q rest n ((d,.int .i64 l.length)::m)):QJ P ops C Q (⟨some d,.call ⟨.builtin .len,#[X],#[t]⟩,aty,pos,af,none⟩::rest) n m:=
 ⟨OT a b (Ach (λz=>z.1) q) ht.out (Ach (λz=>z.2) q) λ_=>k.1⟩
def QJ.lens {C}{s:ByteArray}{aty}(q:(B4 m X,Nat.blt d n.1)=(some (.string s),true)) [ht:Fc (P.underlying t=some .string)] (k:QJ P ops C Q rest n ((d,.int .i64 s.size)::m)):QJ P ops C Q (⟨some d,.call ⟨.builtin .len,#[X],#[t]⟩,aty,pos,af,none⟩::rest) n m:=
 ⟨Pv (Ach (λz=>z.1) q) ht.out (Ach (λz=>z.2) q) k.1⟩
def LJ.q {Q:Exit→Act→World→Prop}{o:Oper}(e:qB o=true) (k:QJ P ops (Wd B h) (λa=>∀w,Wd B h w→wpList P ops Q ((o::l).drop (qN (o::l))) a w) ((o::l).take (qN (o::l))) n m):LJ P ops Q (o::l) B h n m:=⟨AJ _ k.1⟩
def LJ.nil {a:List (Nat×AP)}{R N:AP}{cs:List Code}(k:WJ P a R cs N B h n m):LJ P ops (Qx a R (W P a R cs N)) [] B h n m:=⟨vE k.1⟩
def WJ.seq {a:List (Nat×AP)}{R N:AP}{cs:List Code}{x y:Code}(k:WJ P a R (x::y::cs) N B h n m):WJ P a R (.seq x y::cs) N B h n m:=⟨CU k.1⟩
def WJ.skip {a:List (Nat×AP)}{R N:AP}{cs:List Code}(k:WJ P a R cs N B h n m):WJ P a R (.skip::cs) N B h n m:=⟨Dv k.1⟩
def WJ.rp {b:List (Nat×AP)}{R N:AP}{cs:List Code}{id:Nat}(e:l.all qB=true) (k:QJ P l.toArray (Wd B h) (λa=>∀w,Wd B h w→W P b R cs N a w) l n m):WJ P b R (.region id l.toArray false::cs) N B h n m:=⟨ID (.inl rfl) k.1⟩
def WJ.rl {a:List (Nat×AP)}{R N:AP}{cs:List Code}{id:Nat}(e:(l.all qB||l.any fB)=false) (k:LJ P l.toArray (Qx a R (W P a R cs N)) l B h n m):WJ P a R (.region id l.toArray false::cs) N B h n m:=⟨DQ k.1⟩
end
def SC {A:Prop}(e:A:=by
 repeat' (first
  |refine oY rfl ?_
  |refine zO rfl ?_
  |refine QJ.fao rfl ?_
  |refine QJ.ld1 (by assumption) rfl (by repeat (first|exact mh|refine mt ?_)) (by rfl) ?_
  |(refine gZ rfl (by assumption) ?_;intro _)
  |refine QJ.fax rfl (by assumption) ?_
  |refine Y6 (by assumption) rfl (by assumption) ?_
  |refine VY (by assumption) rfl (by assumption) (by first|exact Fc.out|exact Rr.out) rfl ?_
  |(refine Y5 (by assumption) rfl (by assumption) ?_;intro _)
  |refine Y7 (by assumption) rfl (by assumption) ?_
  |refine QJ.len rfl (by assumption) (by rfl) ?_
  |refine QJ.lens rfl ?_
  |refine QJ.leno (by assumption) rfl (by repeat (first|exact mh|refine mt ?_)) ?_
  |refine Y1 (by assumption) rfl (by assumption) ?_
  |(refine Y2 (by assumption) rfl (by assumption) rfl ?_;intro _)
  |refine Y4 (by assumption) rfl (by repeat (first|exact mh|refine mt ?_)) rfl ?_
  |refine Y3 (by assumption) rfl (by repeat (first|exact mh|refine mt ?_)) rfl ?_
  |refine Y8 (by assumption) rfl (by repeat (first|exact mh|refine mt ?_)) (by rfl) ?_
  |exact QJ.scE rfl (by kernel_rfl) (by kernel_rfl)
  |(apply QJ.scA rfl rfl ?_ rfl (by kernel_rfl) (by kernel_rfl) (by kernel_rfl) ?_;rotate_left)
  |(apply QJ.scO rfl rfl ?_ rfl (by kernel_rfl) (by kernel_rfl) (by kernel_rfl) ?_;rotate_left))
 first|done|fail):A:=e
structure Hd (A:Prop):Prop where out:A
def AU {A B:Prop}(k:A) (f:Hd A→B:=by
 intro k
 first
  |with_reducible refine QJ.out ?_
  |with_reducible refine LJ.out ?_
  |with_reducible refine WJ.out ?_
  |refine LJ.out ?_
 repeat (first
  |refine oY rfl ?_
  |refine zO rfl ?_
  |refine QJ.fao rfl ?_
  |refine QJ.ld1 (by assumption) rfl (by repeat (first|exact mh|refine mt ?_)) (by rfl) ?_
  |(refine gZ rfl (by assumption) ?_;intro _)
  |refine QJ.fax rfl (by assumption) ?_
  |refine Y6 (by assumption) rfl (by assumption) ?_
  |refine VY (by assumption) rfl (by assumption) (by first|exact Fc.out|exact Rr.out) rfl ?_
  |(refine Y5 (by assumption) rfl (by assumption) ?_;intro _)
  |refine Y7 (by assumption) rfl (by assumption) ?_
  |refine QJ.len rfl (by assumption) (by rfl) ?_
  |refine QJ.lens rfl ?_
  |refine QJ.leno (by assumption) rfl (by repeat (first|exact mh|refine mt ?_)) ?_
  |refine Y1 (by assumption) rfl (by assumption) ?_
  |(refine Y2 (by assumption) rfl (by assumption) rfl ?_;intro _)
  |refine Y4 (by assumption) rfl (by repeat (first|exact mh|refine mt ?_)) rfl ?_
  |refine Y3 (by assumption) rfl (by repeat (first|exact mh|refine mt ?_)) rfl ?_
  |refine Y8 (by assumption) rfl (by repeat (first|exact mh|refine mt ?_)) (by rfl) ?_
  |refine QJ.ln ?_
  |refine QJ.rp ?_
  |refine LJ.q rfl ?_
  |refine LJ.nil ?_
  |refine WJ.seq ?_
  |refine WJ.skip ?_
  |refine WJ.rp rfl ?_
  |refine WJ.rl rfl ?_
  |(apply QJ.scA rfl rfl ?_ rfl (by kernel_rfl) (by kernel_rfl) (by kernel_rfl) ?_;rotate_left;exact SC)
  |(apply QJ.scO rfl rfl ?_ rfl (by kernel_rfl) (by kernel_rfl) (by kernel_rfl) ?_;rotate_left;exact SC)
  |fail)
 first
  |exact QJ.mk k.out
  |exact LJ.mk k.out
  |exact WJ.mk k.out):B:=f ⟨k⟩
end Go.Proofs.YtabonambpbofgaaGreat
