import Derived.Test.YtibidnaedddfdaaGreatECore31
import Derived.Test.YtibidnaedddfdaaGreatECore22
namespace Go.Proofs.YtibidnaedddfdaaGreat
set_option linter.all false
open Go.RowKit
def sV (d:Nat):Nat→List Oper→Option (Nat×Nat)
 |_,[]=>none
 |j,o::r=>match o.op with
  | .pick (.tmp x) _ _=>cond (Nat.beq x d) (match o.dst with|some t=>some (j+1,t)|none=>none) (sV d (j+1) r)
  |_=>sV d (j+1) r
def sE (ops:Array Oper) (l:List Oper):Option (Nat×Nat×Nat×Bool):=match l with
 |[]=>none
 |o::_=>match o.guard with
  |none=>none
  |some (a,b)=>match (ops[a]?).bind (·.dst) with
   |none=>none
   |some d=>match sV d 0 l with
    |none=>none
    |some (j,t)=>some (j,t,d,b)
def cS (m1 m:SM):Bool:=(m1.take (m1.length-(m.length+1))).all λp=> !(m.any λq=>Nat.beq p.1 q.1)
def Zk:∀{m:SM}{i:Nat}{u:Value},lk m i=some u→(m.any λq=>Nat.beq i q.1)=true
 |(j,v)::r,i,u,h=>by
  rw[List.any_cons];simp only[lk] at h;cases e:Nat.beq j i with
  |true=>
   have:=uR e;subst this;rw[show Nat.beq j j=true by simp,Bool.true_or]
  |false=>
   rw[e,uH] at h;rw[Zk h,Bool.or_true]
def Zj:∀{m:SM}{i:Nat},(∀p∈m,Nat.beq p.1 i=false)→lk m i=none
 |[],_,_=>rfl
 |(j,v)::r,i,h=>by
  simp only[lk];rw[h (j,v) vW,uH];exact Zj λp a=>h p (vX _ a)
def gH {n:FN}{a:Act}{m m1:SM}{d t:Nat}{b:Bool}{v:Value}(g:Fr n a m1) (l:lk m1 t=some v) (j:cS m1 m=true) (o:m1.drop (m1.length-(m.length+1))=(d,.bool b)::m) (hd:lk m d=some (.bool b)):Fr n a ((t,v)::m):=by
 refine⟨g.dfr,g.siz,λi u c=>?_⟩;simp only[lk] at c;cases e:Nat.beq t i with
 |true=>
  rw[e,uG] at c;cases c;have:=uR e;subst this;exact g.at_ _ _ l
 |false=>
  rw[e,uH] at c;refine g.at_ _ _ ?_;rw[←yK (m1.length-(m.length+1)) m1,o,Jf];have q:lk (m1.take (m1.length-(m.length+1))) i=none:=Zj λp s=>by
   unfold cS at j;rw[uQ] at j;have:=j p s;cases k:Nat.beq p.1 i with
   |false=>rfl
   |true=>
    have w:=uR k;rw[w,Zk c] at this;cases this
  rw[q,Option.none_or];simp only[lk];cases k:Nat.beq d i with
  |true=>
   have:=uR k;subst this;rw[hd] at c;exact c
  |false=>exact c
def PS (n:FN) (m:SM) (d:Nat) (b:Bool) (t:Nat) (v:Bool) (a:Act):Prop:=∃m1,Fr n a m1∧lk m1 t=some (.bool v)∧cS m1 m=true∧m1.drop (m1.length-(m.length+1))=(d,.bool b)::m
section
variable {P:Program}{ops:Array Oper}{C:World→Prop}{Q:Act→Prop}{n:FN}{m m1 m2:SM}{l:List Oper}
def mL {d t:Nat}{b v:Bool}(c:lk m1 t=some (.bool v)) (g:cS m1 m=true) (i:m1.drop (m1.length-(m.length+1))=(d,.bool b)::m):QF P ops C (PS n m d b t v) [] n m1:=QF.nil λa j=>⟨m1,j,c,g,i⟩
def Fr.lit {n:FN}{a:Act}{m:SM}{d:Nat}{v:Value}(c:Fr n a m) (h:lk m d=some v):Fr n a ((d,v)::m):=⟨c.dfr,c.siz,λi u b=>by
 simp only[lk] at b;cases e:Nat.beq d i with
 |true=>
  have:=uR e;subst this;rw[e,uG] at b;cases b;exact c.at_ _ _ h
 |false=>
  rw[e,uH] at b;exact c.at_ _ _ b⟩
def cD {c v:Bool}(b:Bool) {j t d:Nat}(k:lk m d=some (.bool c)) (q:QF P ops C (PS n m d b t v) (l.take j) n ((d,.bool b)::m))
  (s:SD ops n.1 (l.take j) ((d,.bool (!b))::m)=some m2) (u:lk m2 t=some (.bool (!b))) (w:cS m2 m=true) (hd:m2.drop (m2.length-(m.length+1))=(d,.bool (!b))::m) (p:QF P ops C Q (l.drop j) n ((t,.bool (cond b (c&&v) (c||v)))::m)):QF P ops C Q l n m:=by
 by_cases e:c=b
 ·subst e;intro a o;refine T4 j (PS n m d c t v) (q a (o.lit k)) λi ⟨m1,x,y,z,A⟩=>p i ?_;have:=gH x y z A k;cases c<;>exact this
 ·have e:c= !b:=by cases c<;>cases b<;>first|rfl|exact absurd rfl e
  subst e;intro a o;refine T4 j (λi=>Fr n i m2) (Pr s (QF.nil λi g=>g) a (o.lit k)) λi g=>p i ?_;have:=gH g u w hd k;cases b<;>exact this
def mM {c v:Bool}{j t d:Nat}(e:sE ops l=some (j,t,d,true)) (a:lk m d=some (.bool c)) (b:QF P ops C (PS n m d true t v) (l.take j) n ((d,.bool true)::m))
  (g:SD ops n.1 (l.take j) ((d,.bool false)::m)=some m2) (i:lk m2 t=some (.bool false)) (k:cS m2 m=true) (hd:m2.drop (m2.length-(m.length+1))=(d,.bool false)::m) (o:QF P ops C Q (l.drop j) n ((t,.bool (c&&v))::m)):QF P ops C Q l n m:=cD true a b g i k hd o
def mK {c v:Bool}{j t d:Nat}(e:sE ops l=some (j,t,d,false)) (a:lk m d=some (.bool c)) (b:QF P ops C (PS n m d false t v) (l.take j) n ((d,.bool false)::m))
  (g:SD ops n.1 (l.take j) ((d,.bool true)::m)=some m2) (i:lk m2 t=some (.bool true)) (k:cS m2 m=true) (hd:m2.drop (m2.length-(m.length+1))=(d,.bool true)::m) (o:QF P ops C Q (l.drop j) n ((t,.bool (c||v))::m)):QF P ops C Q l n m:=cD false a b g i k hd o
def mN {b:List (Nat×AP)}{R N:AP}{cs:List Code}{B:World}{h:AX}(k:WF P b R cs N B h n m):QF P ops C (λa=>∀w,Wd B h w→W P b R cs N a w) [] n m:=λa c w d=>k a w c d
def nB {b:List (Nat×AP)}{R N:AP}{cs:List Code}{B:World}{h:AX}(k:WF P b R cs N B h n m):LF P ops (Qx b R (W P b R cs N)) [] B h n m:=λa w c d=>gD (k a w c d)
end
def sF:IntKind→Nat
 | .i8=>0| .i16=>1| .i32=>2| .i64=>3| .u8=>4| .u16=>5| .u32=>6| .u64=>7
def jZ {a b:IntKind}(h:Nat.beq (sF a) (sF b)=true):a=b:=by cases a<;>cases b<;>first|rfl|cases h
def binI (o:BinOp) (k:IntKind) (x y:Int):Option Value:=match o with
 | .lss=>some (.bool (decide (x<y)))
 | .leq=>some (.bool (decide (x≤y)))
 | .gtr=>some (.bool (decide (y<x)))
 | .geq=>some (.bool (decide (y≤x)))
 | .eql=>some (.bool (decide (x=y)))
 | .neq=>some (.bool (decide (x≠y)))
 | .add=>some (.int k (k.wrap (x+y)))
 | .sub=>some (.int k (k.wrap (x-y)))
 | .mul=>some (.int k (k.wrap (x*y)))
 | .and=>some (.int k (Ja .and k x y))
 |_=>none
def tG (a:Op) (m:SM):Option Value:=match a with
 | .move X=>CL m X
 | .assign X=>CL m X
 | .pick c x y=>match CL m c with
  |some (.bool true)=>CL m x
  |some (.bool false)=>CL m y
  |_=>none
 | .extract X i=>match CL m X with
  |some (.tuple xs)=>xs[i]?
  |_=>none
 | .nilCheck X=>match CL m X with
  |some (.pointer (some d))=>some (.pointer (some d))
  |_=>none
 | .unOp .not _ X=>match CL m X with
  |some (.bool b)=>some (.bool (!b))
  |_=>none
 | .binOp o _ X Y _=>match CL m X with
  |some (.int k x)=>match CL m Y with
   |some (.int g y)=>cond (Nat.beq (sF k) (sF g)) (binI o k x y) none
   |_=>none
  |_=>none
 |_=>none
section
variable {P:Program}{ops:Array Oper}{C:World→Prop}{Q:Act→Prop}{n:FN}{m:SM}{rest:List Oper}
def fE {d:Nat}{ty:TypeId}{pos:String}{af:Array Edge}{o:BinOp}{t1 t2:TypeId}{X Y:Operand}{k:IntKind}{x y:Int}{v:Value}(a:CL m X=some (.int k x)) (b:CL m Y=some (.int k y)) (hd:Nat.blt d n.1=true) (e:Go.Proofs.YtibidnaedddfdaaGreat.binI o k x y=some v) (kk:QF P ops C Q rest n ((d,v)::m)):QF P ops C Q (⟨some d,.binOp o t1 X Y t2,ty,pos,af,none⟩::rest) n m:=by
 cases o<;>cases e
 ·exact fG a b hd kk
 ·exact eQ a b hd kk
 ·exact eU a b hd kk
 ·exact fF a b hd kk
 ·exact Wy a b hd kk
 ·exact cE a b hd kk
 ·exact cG a b hd kk
 ·exact cH a b hd kk
 ·exact Ww a b hd kk
 ·exact cJ a b hd kk
def mO {d:Nat}{a:Op}{ty:TypeId}{pos:String}{af:Array Edge}{v:Value}(e:tG a m=some v) (hd:Nat.blt d n.1=true) (k:QF P ops C Q rest n ((d,v)::m)):QF P ops C Q (⟨some d,a,ty,pos,af,none⟩::rest) n m:=by
 unfold tG at e;split at e
 ·exact G2 e hd k
 ·exact Nj e hd k
 ·split at e
  ·rename_i h;exact RG h e hd k
  ·rename_i h;exact RG h e hd k
  ·cases e
 ·split at e
  ·rename_i h;exact cK h e hd k
  ·cases e
 ·split at e
  ·rename_i h;cases e;exact UO h hd k
  ·cases e
 ·split at e
  ·rename_i h;cases e;exact Wv h hd k
  ·cases e
 ·split at e
  ·rename_i b;split at e
   ·rename_i c;obtain⟨g,i⟩:=Nx e;have:=jZ g;subst this;exact fE b c hd i k
   ·cases e
  ·cases e
 ·cases e
end
structure QJ (P:Program) (ops:Array Oper) (C:World→Prop) (Q:Act→Prop) (l:List Oper) (n:FN) (m:SM):Prop where out:QF P ops C Q l n m
structure LJ (P:Program) (ops:Array Oper) (Q:Exit→Act→World→Prop) (l:List Oper) (B:World) (h:AX) (n:FN) (m:SM):Prop where out:LF P ops Q l B h n m
structure WJ (P:Program) (ex:List (Nat×AP)) (R:AP) (cs:List Code) (N:AP) (B:World) (h:AX) (n:FN) (m:SM):Prop where out:WF P ex R cs N B h n m
def Yb:Value→Nat→Value
 | .pointer (some a),k=> .pointer (some (a.add k))
 |v,_=>v
def NK.fl {α β A S h}{r:BU α}{r':BU β}{o f p x}(k:NK A S h r p x) (b:GC r o r' f):NK A S h r' (Yb p o) (f x):=by
 obtain⟨a,rfl,c⟩:=k.fld b;exact c
def NK.i {A S h p}{x:Int}(k:NK A S h AY p x):AA x:=by
 obtain⟨cs,_,_,h⟩:=k;exact h
def Sl.le {α S h}{r:BU α}{v}{l:List α}(k:Sl S h r v l):l.length≤maxLen:=by
 obtain⟨_,_,_,h⟩:=k.len;exact h
def UI (h:AX) (p:Value) (j:Nat):Value:=match p with
 | .pointer (some a)=>(JT h ⟨a.block,a.off+j,none⟩).getD undef
 |_=>undef
def Pc.at_ {A h p cs}(k:Pc A h p cs) {j:Nat}(b:j<cs.length):cs[j]? =some (UI h p j):=by
 obtain⟨a,rfl,_,_,c⟩:=k;have:=c j b;show cs[j]? =some ((JT h ⟨a.block,a.off+j,none⟩).getD undef)
 rw[this,uU b];rfl
def Pc.map {A h p cs}(k:Pc A h p cs):(List.range cs.length).map (UI h p)=cs:=by
 apply zE;intro j;rw[xG];by_cases a:j<cs.length
 ·rw[k.at_ a,yT a];rfl
 ·rw[wG (by simpa using a),wG (by simpa using a)];rfl
def eK (h:AX) (p:Value) (n:Nat):Value:= .agg ((List.range n).map (UI h p)).toArray
 class Fc (p:Prop):Prop where out:p
 class Hc (P:Program) (t j:Nat) (off:outParam Nat):Prop where out:Zz P t j off=true
 class RE (P:Program) (t:Nat) (e sz:outParam Nat):Prop where out:RY P t e sz=true
 class KJ {α:Type} (r:BU α) (o:Nat) {β:outParam Type} (r':outParam (BU β)) (f:outParam (α→β)):Prop where out:GC r o r' f
 class cT (C:World→Prop) (h:outParam AX):Prop where out:CK C h
instance {B:World}{h:AX}:cT (Wd B h) h:=⟨KP⟩
instance {B:World}{h:AX}:cT (Cl B h) h:=⟨SO⟩
 class QE (P:Program) (t:Nat) (sz:outParam Nat):Prop where out:LV P t sz true=true
structure Vl (A:Nat→Prop) (h:AX) (ag:Bool) (sz:Nat) (p v:Value):Prop where out:∃cs,Pc A h p cs∧cs.length=sz∧v=if ag then .agg cs.toArray else cs.headD undef
def NK.lv {α A S h}{r:BU α}{p x}(k:NK A S h r p x):∃v,Vl A h r.ag r.sz p v∧Rd S h r v x:=by
 obtain⟨cs,b,a⟩:=k;exact⟨_,⟨cs,b,r.len a,rfl⟩,cs,rfl,a⟩
def NK.ll {α A S h}{r:BU α}{p x}(k:NK A S h r.sl p x):∃v,Vl A h false 1 p v∧Sl S h r v x:=by
 obtain⟨v,a,b⟩:=k.lv;exact⟨v,a,b.sl⟩
def NK.sz {A S h p}{x:ByteArray}(k:NK A S h BU.str p x):x.size≤maxLen:=by
 obtain⟨cs,_,_,h⟩:=k;exact h
def qB (o:Oper):Bool:=match o.op with
 | .move _| .assign _| .pick _ _ _| .build _ _| .load _ _| .nilCheck _| .binOp _ _ _ _ _| .unOp _ _ _| .convert _ _ _| .makeFunc _ _ _| .fieldAddr _ _ _| .field _ _ _| .indexAddr _ _ _| .index _ _ _| .extract _ _=>true
 | .call ⟨.builtin .len,_,_⟩| .call ⟨.builtin .min,_,_⟩| .call ⟨.builtin .max,_,_⟩=>true
 |_=>false
def fB (o:Oper):Bool:=match o.op with
 | .call ⟨.value _,_,_⟩=>true
 |_=>false
def qN:List Oper→Nat
 |[]=>0
 |o::r=>cond (qB o) (qN r+1) 0
section
variable {P:Program}{ops:Array Oper}{Q:Act→Prop}{n:FN}{m m1 m2:SM}{rest l:List Oper}{B:World}{S:Nat→Prop}{L:List HP}{h:AX}
variable {d:Nat}{ty:TypeId}{pos:String}{af:Array Edge}{X Y:Operand}{t t1:TypeId}{v p:Value}
def gS {C}{a:Op}(e:(tG a m,Nat.blt d n.1)=(some v,true)) (k:QJ P ops C Q rest n ((d,v)::m)):QJ P ops C Q (⟨some d,a,ty,pos,af,none⟩::rest) n m:=
 ⟨mO (uP (λz=>z.1) e) (uP (λz=>z.2) e) k.1⟩
def rR {C}{a:Op}{j e:Nat}{b:Bool}(q:((ops[j]?).bind (·.dst),lk m e)=(some e,some (.bool b))) (k:QJ P ops C Q (⟨some d,a,ty,pos,af,none⟩::rest) n m):QJ P ops C Q (⟨some d,a,ty,pos,af,some (j,b)⟩::rest) n m:=
 ⟨YF rfl (uP (λz=>z.1) q) (uP (λz=>z.2) q) k.1⟩
def QJ.scA {C}{c v:Bool}{j t d:Nat}(e:sE ops l=some (j,t,d,true)) (a:lk m d=some (.bool c)) (b:QJ P ops C (PS n m d true t v) (l.take j) n ((d,.bool true)::m))
  (g:SD ops n.1 (l.take j) ((d,.bool false)::m)=some m2) (i:lk m2 t=some (.bool false)) (k:cS m2 m=true) (hd:m2.drop (m2.length-(m.length+1))=(d,.bool false)::m) (o:QJ P ops C Q (l.drop j) n ((t,.bool (c&&v))::m)):QJ P ops C Q l n m:=⟨mM e a b.1 g i k hd o.1⟩
def QJ.scO {C}{c v:Bool}{j t d:Nat}(e:sE ops l=some (j,t,d,false)) (a:lk m d=some (.bool c)) (b:QJ P ops C (PS n m d false t v) (l.take j) n ((d,.bool false)::m))
  (g:SD ops n.1 (l.take j) ((d,.bool true)::m)=some m2) (i:lk m2 t=some (.bool true)) (k:cS m2 m=true) (hd:m2.drop (m2.length-(m.length+1))=(d,.bool true)::m) (o:QJ P ops C Q (l.drop j) n ((t,.bool (c||v))::m)):QJ P ops C Q l n m:=⟨mK e a b.1 g i k hd o.1⟩
def QJ.scE {C}{d t:Nat}{b v:Bool}(a:lk m1 t=some (.bool v)) (c:cS m1 m=true) (g:m1.drop (m1.length-(m.length+1))=(d,.bool b)::m):QJ P ops C (PS n m d b t v) [] n m1:=⟨mL a c g⟩
def QJ.rp {C}{b:List (Nat×AP)}{R N:AP}{cs:List Code}(k:WJ P b R cs N B h n m):QJ P ops C (λa=>∀w,Wd B h w→W P b R cs N a w) [] n m:=⟨mN k.1⟩
def QJ.ln {C}{Q:Exit→Act→World→Prop}(k:LJ P ops Q l B h n m):QJ P ops C (λa=>∀w,Wd B h w→wpList P ops Q l a w) [] n m:=⟨Dk k.1⟩
def QJ.fao {C}{b o j off}[ht:Hc P t j off] (e:(CL m X,Nat.blt d n.1)=(some (.pointer (some ⟨b,o,none⟩)),true)) (k:QJ P ops C Q rest n ((d,.pointer (some ⟨b,o+off,none⟩))::m)):QJ P ops C Q (⟨some d,.fieldAddr t X j,ty,pos,af,none⟩::rest) n m:=
 ⟨HJ (uP (λz=>z.1) e) ht.out (uP (λz=>z.2) e) k.1⟩
def mW {C}{α}{A:Nat→Prop}{r:BU α}{x j off}(c:CL m X=some p) (k0:NK A S h r p x) (g:Zz P t j off=true) (hd:Nat.blt d n.1=true) (k:QF P ops C Q rest n ((d,Yb p off)::m)):QF P ops C Q (⟨some d,.fieldAddr t X j,ty,pos,af,none⟩::rest) n m:=λa b=>by
 obtain⟨cs,⟨i,rfl,_⟩,_⟩:=k0;exact Hf b hd (λw _=>by simp [execOp,b.eval c,NR g,Yb]) k
def QJ.fax {C}{α}{A:Nat→Prop}{r:BU α}{x j off}(e:(CL m X,Nat.blt d n.1)=(some p,true)) (k0:NK A S h r p x) [ht:Hc P t j off] (k:QJ P ops C Q rest n ((d,Yb p off)::m)):QJ P ops C Q (⟨some d,.fieldAddr t X j,ty,pos,af,none⟩::rest) n m:=
 ⟨mW (uP (λz=>z.1) e) k0 ht.out (uP (λz=>z.2) e) k.1⟩
def QJ.ld1 {T b o:Nat}{cs:List Value}(a:St S L h) (e:(CL m X,Nat.blt d n.1)=(some (.pointer (some ⟨b,o,none⟩)),true)) (c:Bx b T cs∈L) (g:cs[o]? =some v) [ht:Fc (LV P t 1 false=true)] (k:QJ P ops (Wd B h) Q rest n ((d,v)::m)):QJ P ops (Wd B h) Q (⟨some d,.load t X,ty,pos,af,none⟩::rest) n m:=
 ⟨Kb KP a (uP (λz=>z.1) e) c g ht.out (uP (λz=>z.2) e) k.1⟩
def YB {T b o:Nat}{cs:List Value}(a:St S L h) (e:(CL m X,Nat.blt d n.1)=(some (.pointer (some ⟨b,o,none⟩)),true)) (c:Bx b T cs∈L) (g:cs[o]? =some v) [ht:Fc (LV P t 1 false=true)] (k:QJ P ops (Cl B h) Q rest n ((d,v)::m)):QJ P ops (Cl B h) Q (⟨some d,.load t X,ty,pos,af,none⟩::rest) n m:=
 ⟨Kb SO a (uP (λz=>z.1) e) c g ht.out (uP (λz=>z.2) e) k.1⟩
def QJ.ldi {x:Int}(a:St S L h) (e:(CL m X,Nat.blt d n.1)=(some p,true)) (k0:Pt S h AY p x) [ht:Fc (LV P t 1 false=true)] (k:QJ P ops (Wd B h) Q rest n ((d,.int .i64 x)::m)):QJ P ops (Wd B h) Q (⟨some d,.load t X,ty,pos,af,none⟩::rest) n m:=
 ⟨GS KP a.1 (uP (λz=>z.1) e) k0 ht.out (uP (λz=>z.2) e) λ_=>k.1⟩
def QJ.len {C}{α}{S:Nat→Prop}{h:AX}{r:BU α}{x:List α}{aty e sz}(q:(CL m X,Nat.blt d n.1)=(some v,true)) (k0:Sl S h r v x) [ht:RE P t e sz] (a:r.sz=sz) (k:QJ P ops C Q rest n ((d,.int .i64 x.length)::m)):QJ P ops C Q (⟨some d,.call ⟨.builtin .len,#[X],#[t]⟩,aty,pos,af,none⟩::rest) n m:=
 ⟨U8 (uP (λz=>z.1) q) k0 (by rw[a];exact ht.out) (uP (λz=>z.2) q) λ_=>k.1⟩
def cB {C}{α β}{A S:Nat→Prop}{r:BU α}{r':BU β}{f:α→β}{x j off}(e:(CL m X,Nat.blt d n.1)=(some p,true)) (k0:NK A S h r p x) [ht:Hc P t j off] [hf:KJ r off r' f] (k:NK A S h r' (Yb p off) (f x)→QJ P ops C Q rest n ((d,Yb p off)::m)):QJ P ops C Q (⟨some d,.fieldAddr t X j,ty,pos,af,none⟩::rest) n m:=QJ.fax e k0 (k (k0.fl hf.out))
def U4 {C ag sz}(b:St S L h) (e:(CL m X,Nat.blt d n.1)=(some p,true)) (k0:Vl S h ag sz p v) [ck:cT C h] (c:LV P t sz ag=true) (g:(ag||Nat.beq sz 1)=true) (k:QJ P ops C Q rest n ((d,v)::m)):QJ P ops C Q (⟨some d,.load t X,ty,pos,af,none⟩::rest) n m:=by
 obtain⟨cs,i,j,rfl⟩:=k0.out;refine⟨λa l=>gA ck.out b.1 l (uP (λz=>z.1) e) i j c (λh=>?_) (uP (λz=>z.2) e) k.1⟩;subst h;exact uR g
def X9 {C}{x:Int}(a:St S L h) (e:(CL m X,Nat.blt d n.1)=(some p,true)) (k0:Pt S h AY p x) [ck:cT C h] [ht:Fc (LV P t 1 false=true)] (k:QJ P ops C Q rest n ((d,.int .i64 x)::m)):QJ P ops C Q (⟨some d,.load t X,ty,pos,af,none⟩::rest) n m:=
 ⟨GS ck.out a.1 (uP (λz=>z.1) e) k0 ht.out (uP (λz=>z.2) e) λ_=>k.1⟩
def YA {C}{x:Bool}(a:St S L h) (e:(CL m X,Nat.blt d n.1)=(some p,true)) (k0:Pt S h BU.bool p x) [ck:cT C h] [ht:Fc (LV P t 1 false=true)] (k:QJ P ops C Q rest n ((d,.bool x)::m)):QJ P ops C Q (⟨some d,.load t X,ty,pos,af,none⟩::rest) n m:=
 ⟨cI ck.out a.1 (uP (λz=>z.1) e) k0 ht.out (uP (λz=>z.2) e) k.1⟩
def X4 {C}{x:ByteArray}(a:St S L h) (e:(CL m X,Nat.blt d n.1)=(some p,true)) (k0:Pt S h BU.str p x) [ck:cT C h] [ht:Fc (LV P t 1 false=true)] (k:QJ P ops C Q rest n ((d,.string x)::m)):QJ P ops C Q (⟨some d,.load t X,ty,pos,af,none⟩::rest) n m:=
 ⟨mR ck.out a.1 (uP (λz=>z.1) e) k0 ht.out (uP (λz=>z.2) e) λ_=>k.1⟩
def X8 {C}{α}{r:BU α}{x}(b:St S L h) (e:(CL m X,Nat.blt d n.1)=(some p,true)) (k0:Pt S h r.sl p x) [ck:cT C h] [ht:Fc (LV P t 1 false=true)] (k:Sl S h r (UI h p 0) x→QJ P ops C Q rest n ((d,UI h p 0)::m)):QJ P ops C Q (⟨some d,.load t X,ty,pos,af,none⟩::rest) n m:=by
 obtain⟨cs,a,v,rfl,c⟩:=k0;have g:v=UI h p 0:=by have:=a.at_ (j:=0) (by simp);simpa using this
 subst g;exact U4 (ag:=false) (sz:=1) b e ⟨_,a,rfl,rfl⟩ ht.out rfl (k c)
def X5 {C}{α}{r:BU α}{x sz}(j:St S L h) (e:(CL m X,Nat.blt d n.1)=(some p,true)) (k0:Pt S h r p x) [ck:cT C h] [ht:QE P t sz] (a:(r.sz,r.ag)=(sz,true)) (k:Rd S h r (eK h p sz) x→QJ P ops C Q rest n ((d,eK h p sz)::m)):QJ P ops C Q (⟨some d,.load t X,ty,pos,af,none⟩::rest) n m:=by
 obtain⟨cs,b,c⟩:=k0;have l:r.sz=sz:=uP (λz=>z.1) a;have o:r.ag=true:=uP (λz=>z.2) a;have g:cs.length=sz:=by rw[←l];exact r.len c
 have i:eK h p sz= .agg cs.toArray:=by unfold eK;rw[←g,b.map]
 exact U4 (ag:=true) (sz:=sz) j e ⟨cs,b,g,by rw[i];rfl⟩ ht.out rfl (k ⟨cs,by rw[i];unfold BU.val;rw[o];rfl,c⟩)
def X7 {C}{T b sz:Nat}{cs:List Value}(c:St S L h) (e:(CL m X,Nat.blt d n.1)=(some (.pointer (some ⟨b,0,none⟩)),true)) (g:Bx b T cs∈L) [ck:cT C h] [ht:QE P t sz] (a:Nat.beq cs.length sz=true) (k:QJ P ops C Q rest n ((d,.agg cs.toArray)::m)):QJ P ops C Q (⟨some d,.load t X,ty,pos,af,none⟩::rest) n m:=
 ⟨Mb ck.out c (uP (λz=>z.1) e) g (by rw[List.drop_zero,←uR a,wQ]) a ht.out rfl (uP (λz=>z.2) e) k.1⟩
def X6 {C}{T b o sz:Nat}{cs:List Value}(a:St S L h) (e:(CL m X,Nat.blt d n.1)=(some (.pointer (some ⟨b,o,none⟩)),true)) (c:Bx b T cs∈L) [ck:cT C h] [ht:QE P t sz] (g:Nat.ble (o+sz) cs.length=true) (k:QJ P ops C Q rest n ((d,.agg ((cs.drop o).take sz).toArray)::m)):QJ P ops C Q (⟨some d,.load t X,ty,pos,af,none⟩::rest) n m:=
 ⟨Mb ck.out a (uP (λz=>z.1) e) c rfl (by have:=yF g;simp;omega) ht.out rfl (uP (λz=>z.2) e) k.1⟩
def QJ.leno {C}{α}{r:BU α}{l:List α}{T aty e sz}(a:St S L h) (q:(CL m X,Nat.blt d n.1)=(some v,true)) (b:OS r T v l∈L) [ht:RE P t e sz] (k:QJ P ops C Q rest n ((d,.int .i64 l.length)::m)):QJ P ops C Q (⟨some d,.call ⟨.builtin .len,#[X],#[t]⟩,aty,pos,af,none⟩::rest) n m:=
 ⟨eW a b (uP (λz=>z.1) q) ht.out (uP (λz=>z.2) q) λ_=>k.1⟩
def QJ.lens {C}{s:ByteArray}{aty}(q:(CL m X,Nat.blt d n.1)=(some (.string s),true)) [ht:Fc (P.underlying t=some .string)] (k:QJ P ops C Q rest n ((d,.int .i64 s.size)::m)):QJ P ops C Q (⟨some d,.call ⟨.builtin .len,#[X],#[t]⟩,aty,pos,af,none⟩::rest) n m:=
 ⟨eV (uP (λz=>z.1) q) ht.out (uP (λz=>z.2) q) k.1⟩
def LJ.q {Q:Exit→Act→World→Prop}{o:Oper}(e:qB o=true) (k:QJ P ops (Wd B h) (λa=>∀w,Wd B h w→wpList P ops Q ((o::l).drop (qN (o::l))) a w) ((o::l).take (qN (o::l))) n m):LJ P ops Q (o::l) B h n m:=⟨G3 _ k.1⟩
def LJ.nil {a:List (Nat×AP)}{R N:AP}{cs:List Code}(k:WJ P a R cs N B h n m):LJ P ops (Qx a R (W P a R cs N)) [] B h n m:=⟨nB k.1⟩
def WJ.seq {a:List (Nat×AP)}{R N:AP}{cs:List Code}{x y:Code}(k:WJ P a R (x::y::cs) N B h n m):WJ P a R (.seq x y::cs) N B h n m:=⟨ET k.1⟩
def WJ.skip {a:List (Nat×AP)}{R N:AP}{cs:List Code}(k:WJ P a R cs N B h n m):WJ P a R (.skip::cs) N B h n m:=⟨Kd k.1⟩
def WJ.rp {b:List (Nat×AP)}{R N:AP}{cs:List Code}{id:Nat}(e:l.all qB=true) (k:QJ P l.toArray (Wd B h) (λa=>∀w,Wd B h w→W P b R cs N a w) l n m):WJ P b R (.region id l.toArray false::cs) N B h n m:=⟨Ix (.inl rfl) k.1⟩
def WJ.rl {a:List (Nat×AP)}{R N:AP}{cs:List Code}{id:Nat}(e:(l.all qB||l.any fB)=false) (k:LJ P l.toArray (Qx a R (W P a R cs N)) l B h n m):WJ P a R (.region id l.toArray false::cs) N B h n m:=⟨Ej k.1⟩
end
def SC {A:Prop}(e:A:=by
 repeat' (first
  |refine gS rfl ?_
  |refine rR rfl ?_
  |refine QJ.fao rfl ?_
  |refine QJ.ld1 (by assumption) rfl (by repeat (first|exact mh|refine mt ?_)) (by rfl) ?_
  |(refine cB rfl (by assumption) ?_;intro _)
  |refine QJ.fax rfl (by assumption) ?_
  |refine X9 (by assumption) rfl (by assumption) ?_
  |refine U4 (by assumption) rfl (by assumption) (by first|exact Fc.out|exact QE.out) rfl ?_
  |(refine X8 (by assumption) rfl (by assumption) ?_;intro _)
  |refine YA (by assumption) rfl (by assumption) ?_
  |refine QJ.len rfl (by assumption) (by rfl) ?_
  |refine QJ.lens rfl ?_
  |refine QJ.leno (by assumption) rfl (by repeat (first|exact mh|refine mt ?_)) ?_
  |refine X4 (by assumption) rfl (by assumption) ?_
  |(refine X5 (by assumption) rfl (by assumption) rfl ?_;intro _)
  |refine X7 (by assumption) rfl (by repeat (first|exact mh|refine mt ?_)) rfl ?_
  |refine X6 (by assumption) rfl (by repeat (first|exact mh|refine mt ?_)) rfl ?_
  |refine YB (by assumption) rfl (by repeat (first|exact mh|refine mt ?_)) (by rfl) ?_
  |exact QJ.scE rfl (by kernel_rfl) (by kernel_rfl)
  |(apply QJ.scA rfl rfl ?_ rfl (by kernel_rfl) (by kernel_rfl) (by kernel_rfl) ?_;rotate_left)
  |(apply QJ.scO rfl rfl ?_ rfl (by kernel_rfl) (by kernel_rfl) (by kernel_rfl) ?_;rotate_left))
 first|done|fail):A:=e
structure Hd (A:Prop):Prop where out:A
def AU {A B:Prop}(k:A) (f:Hd A→B:=by
 intro k
 first
  |with_reducible refine QJ.out ?_
  |with_reducible refine LJ.out ?_
  |with_reducible refine WJ.out ?_
  |refine LJ.out ?_
 repeat (first
  |refine gS rfl ?_
  |refine rR rfl ?_
  |refine QJ.fao rfl ?_
  |refine QJ.ld1 (by assumption) rfl (by repeat (first|exact mh|refine mt ?_)) (by rfl) ?_
  |(refine cB rfl (by assumption) ?_;intro _)
  |refine QJ.fax rfl (by assumption) ?_
  |refine X9 (by assumption) rfl (by assumption) ?_
  |refine U4 (by assumption) rfl (by assumption) (by first|exact Fc.out|exact QE.out) rfl ?_
  |(refine X8 (by assumption) rfl (by assumption) ?_;intro _)
  |refine YA (by assumption) rfl (by assumption) ?_
  |refine QJ.len rfl (by assumption) (by rfl) ?_
  |refine QJ.lens rfl ?_
  |refine QJ.leno (by assumption) rfl (by repeat (first|exact mh|refine mt ?_)) ?_
  |refine X4 (by assumption) rfl (by assumption) ?_
  |(refine X5 (by assumption) rfl (by assumption) rfl ?_;intro _)
  |refine X7 (by assumption) rfl (by repeat (first|exact mh|refine mt ?_)) rfl ?_
  |refine X6 (by assumption) rfl (by repeat (first|exact mh|refine mt ?_)) rfl ?_
  |refine YB (by assumption) rfl (by repeat (first|exact mh|refine mt ?_)) (by rfl) ?_
  |refine QJ.ln ?_
  |refine QJ.rp ?_
  |refine LJ.q rfl ?_
  |refine LJ.nil ?_
  |refine WJ.seq ?_
  |refine WJ.skip ?_
  |refine WJ.rp rfl ?_
  |refine WJ.rl rfl ?_
  |(apply QJ.scA rfl rfl ?_ rfl (by kernel_rfl) (by kernel_rfl) (by kernel_rfl) ?_;rotate_left;exact SC)
  |(apply QJ.scO rfl rfl ?_ rfl (by kernel_rfl) (by kernel_rfl) (by kernel_rfl) ?_;rotate_left;exact SC)
  |fail)
 first
  |exact QJ.mk k.out
  |exact LJ.mk k.out
  |exact WJ.mk k.out):B:=f ⟨k⟩
def St.lt {S:Nat→Prop}{L:List HP}{h:AX}(k:St S L h):∀b,S b→b<h.size:=k.1
def EX {A:Prop}(e:A:=by
 first
  |assumption
  |exact Cc.refl _ _
  |repeat (first
    |assumption
    |refine Cc.trans ?_ (by assumption)
    |exact Gf.ext (by assumption) (St.lt (by assumption))
    |exact SN.ext (St.lt (by assumption)) (by assumption)
    |refine Cc.trans ?_ (Gf.ext (by assumption) (St.lt (by assumption)))
    |refine Cc.trans ?_ (SN.ext (St.lt (by assumption)) (by assumption))
    |refine Cc.trans ?_ (SX.ext (St.lt (by assumption)) (by assumption) (by assumption)))):A:=e
def Rd.nw {b:Type}{S S':Nat→Prop}{h h':AX}{r:BU b}{v:Value}{x:b}{L:List HP}(k:Rd S h r v x) (a:St S' L h':=by assumption) (e:Cc S h S' h':=by exact EX):Rd S' h' r v x:=k.mono e
def Sl.nw {b:Type}{S S':Nat→Prop}{h h':AX}{r:BU b}{v:Value}{l:List b}{L:List HP}(k:Sl S h r v l) (a:St S' L h':=by assumption) (e:Cc S h S' h':=by exact EX):Sl S' h' r v l:=k.mono' e
def NK.nw {b:Type}{S S':Nat→Prop}{h h':AX}{r:BU b}{v:Value}{x:b}{L:List HP}(k:Pt S h r v x) (a:St S' L h':=by assumption) (e:Cc S h S' h':=by exact EX):Pt S' h' r v x:=NK.mono k e
def et {S S' c:Nat→Prop}{h h' d:AX}(b:Cc S' h' c d) (a:Cc S h S' h':=by exact EX):Cc S h c d:=a.trans b
inductive Dl:List HP→List HP→Prop
 |refl {L:List HP}:Dl L L
 |keep {H:HP} {L1 L2:List HP}:Dl L1 L2→Dl (H::L1) (H::L2)
 |drop {H:HP} {L1 L2:List HP}:Dl L1 L2→Dl L1 (H::L2)
def Sp.dl {S:Nat→Prop}{h:AX}{L1 g:List HP}(d:Dl L1 g):∀{A:Nat→Prop},Sp S g h A→Sp S L1 h A:=by
 induction d with
 |refl=>exact λk=>k
 |keep _ a=>exact λ⟨F,j,i,c⟩=>⟨F,j,i,a c⟩
 |drop _ a=>exact λ⟨F,_,i,c⟩=>a (Sp.mono c λb l=>l.1)
def St.dl {S:Nat→Prop}{h:AX}{L1 a:List HP}(k:St S a h) (d:Dl L1 a):St S L1 h:=⟨k.1,k.2.dl d⟩
def DR {A:Prop}(e:A:=by
 first
  |assumption
  |refine St.dl (by assumption) ?_
   repeat (first|exact Dl.refl|refine Dl.keep ?_|refine Dl.drop ?_)):A:=e
section
variable {P:Program}{fn:Func}{B:World}{S S':Nat→Prop}{h h':AX}{ex:List (Nat×AP)}{N:AP}{cs:List Code}{m:SM}{post:Value→(Nat→Prop)→AX→Prop}{k t:Nat}{v:Value}
def Kt (kp:post v S' h') (b:fn.results= #[.tmp t]) (c:lk m t=some v) (e:Cc S h S' h'):WF P ex (Rt P fn B S h post) (.ret::cs) N B h' (k,[]) m:=WF.ret λa w d g=>rtT d g b c e kp
end
def CE {p:Prop}(e:true=false):p:=by cases e
section
variable {P:Program}{ops:Array Oper}{n:FN}{m:SM}{rest:List Oper}{d:Nat}{ty:TypeId}{pos:String}{af:Array Edge}{X Y:Operand}{f:Nat}{xs:Array Operand}{tys:Array TypeId}{args vs:List Value}{first cap:Array Value}{h:AX}{B:World}{S:Nat→Prop}{L:List HP}
variable {β ρ:Type}{F:Option β}{K:β→Option ρ}{r:ρ}
def BC {Q:Act→Prop}{v:β→Value}{Z:β→(Nat→Prop)→AX→Prop}(E:F.bind K=some r) (i:CL m X=some (.func (.func f) first cap)) (a:xs.toList.mapM (CL m)=some args) (c:first.toList++args++cap.toList=vs) (g:BG P f=true) (hd:Nat.blt d n.1=true)
  (j:∀y,F=some y→∀h',Gf h h'→CD P f vs.toArray (λb=>b<h'.size) h' (λu S' l=>u=v y∧Z y S' l))
  (k:∀y,K y=some r→QF P ops (Cl B h) Q rest n ((d,v y)::m)):QF P ops (Cl B h) Q (⟨some d,.call ⟨.value X,xs,tys⟩,ty,pos,af,none⟩::rest) n m:=by
 obtain⟨y,o,E⟩:=bd E;exact Lp i a c g hd (j y o) (k y E)
def BB {Q:Act→Prop}{v:β→Value}{Ψ:β→Prop}{Z:β→(Nat→Prop)→AX→Prop}(E:F.bind K=some r) (i:CL m X=some (.func (.func f) first cap)) (a:xs.toList.mapM (CL m)=some args) (c:first.toList++args++cap.toList=vs) (g:BG P f=true) (hd:Nat.blt d n.1=true)
  (j:∀y,F=some y→∀h',Gf h h'→CD P f vs.toArray (λb=>b<h'.size) h' (λu S' l=>u=v y∧Ψ y∧Z y S' l))
  (k:∀y,K y=some r→Ψ y→QF P ops (Cl B h) Q rest n ((d,v y)::m)):QF P ops (Cl B h) Q (⟨some d,.call ⟨.value X,xs,tys⟩,ty,pos,af,none⟩::rest) n m:=by
 obtain⟨y,o,E⟩:=bd E;exact In i a c g hd (j y o) (k y E)
def GA {Q:Exit→Act→World→Prop}{a:β→Value→(Nat→Prop)→AX→Prop}(E:F.bind K=some r) (i:CL m X=some (.func (.func f) first cap)) (b:xs.toList.mapM (CL m)=some args) (c:first.toList++args++cap.toList=vs) (g:BG P f=true) (hd:Nat.blt d n.1=true) (j:∀y,F=some y→CD P f vs.toArray S h (a y))
  (k:∀y,K y=some r→∀v S' h',Cc S h S' h'→a y v S' h'→LF P ops Q rest B h' n ((d,v)::m)):LF P ops Q (⟨some d,.call ⟨.value X,xs,tys⟩,ty,pos,af,none⟩::rest) B h n m:=by
 obtain⟨y,l,E⟩:=bd E;exact LP i b c g hd (j y l) (k y E)
def Hb {Q:Exit→Act→World→Prop}{a:β→Value→(Nat→Prop)→AX→Prop}(E:F.bind K=some r) (j:CL m X=some (.func (.func f) first cap)) (c:xs.toList.mapM (CL m)=some args) (g:first.toList++args++cap.toList=vs) (i:BG P f=true) (hd:Nat.blt d n.1=true) (l:St S L h) (o:∀y,F=some y→CD P f vs.toArray (λb=>b<h.size) h (a y))
  (k:∀y,K y=some r→∀v S' h',St S L h'→Cc S h S h'→Cc (λb=>b<h.size) h S' h'→a y v S' h'→LF P ops Q rest B h' n ((d,v)::m)):LF P ops Q (⟨some d,.call ⟨.value X,xs,tys⟩,ty,pos,af,none⟩::rest) B h n m:=by
 obtain⟨y,p,E⟩:=bd E;exact EQ j c g i hd l (o y p) (k y E)
def AN {o:Type}{C:World→Prop}{Q:Act→Prop}{a:BU o}{l:List o}{K:o→Option ρ}{t e:Nat}{v:Value}{i:Int}(E:(Go.Proofs.YtibidnaedddfdaaGreat.ix l i).bind K=some r) (c:CL m X=some v) (g:CL m Y=some (.int .i64 i)) (k0:Sl S h a v l) (j:RY P t e a.sz=true) (hd:Nat.blt d n.1=true)
  (k:∀x,K x=some r→∀q,Pt S h a q x→QF P ops C Q rest n ((d,q)::m)):QF P ops C Q (⟨some d,.indexAddr t X Y,ty,pos,af,none⟩::rest) n m:=by
 obtain⟨x,b,E⟩:=bd E;exact Mc c g k0 j b hd (k x E)
end
def Hv {P:Program}{ops:Array Oper}{n:FN}{m:SM}{rest:List Oper}{ty:TypeId}{pos:String}{af:Array Edge}{X Y:Operand}{h:AX}{B:World}{S:Nat→Prop}{L c:List HP}{Q:Exit→Act→World→Prop}{v:Value}{T d:TypeId}{b:Nat}{cs vs:List Value}{sz:Nat}{ag:Bool}(i:CL m X=some (.pointer (some ⟨b,0,none⟩))) (j:CL m Y=some v) (l:v.cells=vs.toArray) (o:∀u∈vs,u.oneCell'=true)
  (p:LV P T sz ag=true) (a:vs.length=sz) (q:St S L h) (r:Mp L (Bx b d cs) (Bx b d vs) c) (s:Nat.beq cs.length sz=true)
  (k:∀h',St S c h'→Cc S h S h'→LF P ops Q rest B h' n m):LF P ops Q (⟨none,.store T X Y,ty,pos,af,none⟩::rest) B h n m:=by
 have g:=uR s;refine cM i j l o p a q r (by simp [g]) ?_ k;unfold IA;simp [g,a]
def ON {A:Prop}(e:A:=by
 repeat (first
  |exact Ug
  |refine K9 rfl ?_
  |refine K9 (Sl.one (by assumption)) ?_)):A:=e
def PA.i {R:AR}{h:AX}{K:SM→Prop}{j d:Nat}{a:List (Nat×Nat)}{fr:SM}(k:∀u,R j u h→PA R h K a ((d,u)::fr)):PA R h K ((j,d)::a) fr:=k
def PA.n {R:AR}{h:AX}{K:SM→Prop}{fr:SM}(k:K fr):PA R h K [] fr:=k
def nI {a b:Prop}(k:a∧b):a∧b:=k
def EY {A:Prop}(e:A:=by
 intro b c o;have a:=Gf.st o (by assumption)
 repeat (refine PA.i (λu f=>?_);first|(obtain ⟨rfl,_⟩:=nI f)|cases f)
 refine PA.n ?_;refine AU ?_
 first
  |exact EB (Gf.refl _) rfl
  |exact EB (Gf.refl _) ⟨rfl,(by first|assumption|exact iq rfl|exact B1 _)⟩):A:=e
def St.ea {S:Nat→Prop}{L:List HP}{h:AX}(k:St S L h):Cc S h (λb=>b<h.size) h:=⟨λb a=>k.1 b a,λ_ _=>rfl,uW _⟩
def B0 {P:Program}{ops:Array Oper}{Q:Exit→Act→World→Prop}{B:World}{n:FN}{d:Nat}{R:Value→AX→Prop}{h:AX}{m:SM}{v:Value}(r:R v h):LF P ops (Exit.then (KS B n d R h m) Q) [] B h n ((d,v)::m):=EB (Gf.refl _) r
def Rd.sn {d:Type}{S:Nat→Prop}(h0:AX) {a:AX}{r:BU d}{v:Value}{x:d}(k:Rd S a r v x):Rd (SN S h0 a) a r v x:=k.mono ⟨λb c=> .inl c,λ_ _=>rfl,uW _⟩
def Sl.sn {d:Type}{S:Nat→Prop}(h0:AX) {a:AX}{r:BU d}{v:Value}{x:List d}(k:Sl S a r v x):Sl (SN S h0 a) a r v x:=k.mono' ⟨λb c=> .inl c,λ_ _=>rfl,uW _⟩
def jR {S:Nat→Prop}{L:List HP}{h a c:AX}(k:St S L h) (d:Gf h a) (g:Gf a c):Cc S a S c:=g.ext λb i=>vB (k.1 b i) d.siz
def MO {A:Prop}(e:A:=by
 intro i v d g c b a
 repeat (first
  |exact False.elim a
  |(rcases i with _|i;focus first
   |exact a
   |exact NK.mono a (jR (by assumption) c b)
   |exact Sl.mono' a (jR (by assumption) c b)
   |exact Rd.mono a (jR (by assumption) c b)
   |exact⟨Sl.mono' a.1 (SN.mono (St.lt (by assumption)) c b),a.2⟩
   |exact a.mono b
   |exact Sl.mono' a (SN.mono (St.lt (by assumption)) c b)
   |exact Rd.mono a (SN.mono (St.lt (by assumption)) c b)))):A:=e
def RT {A:Prop}(e:A:=by
 refine AU ?_;cases E
 first
  |exact Kt ⟨rfl,DR⟩ rfl rfl EX
  |exact Kt ⟨rfl,(by first|assumption|exact iq rfl|exact B1 _),DR⟩ rfl rfl EX):A:=e
end Go.Proofs.YtibidnaedddfdaaGreat
