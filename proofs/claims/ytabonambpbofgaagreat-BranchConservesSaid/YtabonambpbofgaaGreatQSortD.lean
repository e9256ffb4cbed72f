import Derived.Test.YtabonambpbofgaaGreatQCore31
import Derived.Test.YtabonambpbofgaaGreatQCore26
import Derived.Lib.AppendStr
import Derived.Lib.UnsafeStr
import Derived.Lib.Builder
import Derived.Laws.Strings3
import Derived.Laws.BytesArg
import Derived.Laws.Externs
namespace Go.Proofs.YtabonambpbofgaaGreat
set_option linter.all false
open Go.RowKit
variable {T b d e f fuel2 j k0 off:Nat}{m m1:SM}{a:Act}{n:FN}{ag c:Bool}{h h' h0:AV}{B w:World}{cs:List Code}{N R:AP}{y:Int}{X Y:Operand}{af:Array Edge}{S S' S2 g:Nat->Prop}{s:ByteArray}{o:Oper}{A:Prop}{L L1:List HP}{C:World->Prop}{vs:List Value}{l ls rest:List Oper}{ops:Array Oper}{P:Program}{xs:Array Operand}{K':Act->World->Prop}{As:List Nat}{p:Value}{listed2:Array Bool}
def Ae5(d:Nat):Nat->List Oper->Option (Nat×Nat)
 |_,[]=>none
 |j,o::r=>match o.op with
  | .pick (.tmp x) _ _=>cond (Nat.beq x d) (match o.dst with|some t=>some (j+1,t)|none=>none) (Ae5 d (j+1) r)
  |_=>Ae5 d (j+1) r
def Aem(ops:Array Oper)(l:List Oper):Option (Nat×Nat×Nat×Bool):=match l with
 |[]=>none
 |o::_=>match o.guard with
  |none=>none
  |some (g,b)=>match (ops[g]?).bind (·.dst)with
   |none=>none
   |some d=>match Ae5 d 0 l with
    |none=>none
    |some (j,t)=>some (j,t,d,b)
def nS(m1 m:SM):Bool:=(m1.take (m1.length-(m.length+1))).all λp=> !(m.any λq=>Nat.beq p.1 q.1)
def jW:∀{m:SM}{i:Nat}{u:Value},lk m i=some u->(m.any λq=>Nat.beq i q.1)=true
 |(j,v)::r,i,u,h=>by
  rw[List.any_cons];simp only[lk]at h;cases e:Nat.beq j i with
  |true=>
   have:=Ag1 e;subst this;rw[show Nat.beq j j=true by simp,Bool.true_or]
  |false=>
   rw[e,Agq]at h;rw[jW h,Bool.or_true]
def jU:∀{m:SM}{i:Nat},(∀p∈m,Nat.beq p.1 i=false)->lk m i=none
 |[],_,_=>rfl
 |(j,v)::r,i,h=>by
  simp only[lk];rw[h (j,v) Ahf,Agq];exact jU λp a=>h p (Aht _ a)
def tF{t:Nat}{b:Bool}{v:Value}(g:Fr n a m1)(l:lk m1 t=some v)(j:nS m1 m=true)(o:m1.drop (m1.length-(m.length+1))=(d,.bool b)::m)(hd:lk m d=some (.bool b)):Fr n a ((t,v)::m):=by
 refine⟨g.dfr,g.siz,λi u c=>?_⟩;simp only[lk]at c;cases e:Nat.beq t i with
 |true=>
  rw[e,Ago]at c;cases c;have:=Ag1 e;subst this;exact g.at_ _ _ l
 |false=>
  rw[e,Agq]at c;refine g.at_ _ _ ?_;rw[<-List.take_append_drop (m1.length-(m.length+1)) m1,o,Np];have q:lk (m1.take (m1.length-(m.length+1))) i=none:=jU λp s=>by
   unfold nS at j;rw[Agz]at j;have:=j p s;cases k:Nat.beq p.1 i with
   |false=>rfl
   |true=>
    have w:=Ag1 k;rw[w,jW c]at this;cases this
  rw[q,Option.none_or];simp only[lk];cases k:Nat.beq d i with
  |true=>
   have:=Ag1 k;subst this;rw[hd]at c;exact c
  |false=>exact c
def PS(n:FN)(m:SM)(d:Nat)(b:Bool)(t:Nat)(v:Bool)(a:Act):Prop:=∃m1,Fr n a m1/\lk m1 t=some (.bool v)/\nS m1 m=true/\m1.drop (m1.length-(m.length+1))=(d,.bool b)::m
section
variable{P:Program}{ops:Array Oper}{C:World->Prop}{Q:Act->Prop}{n:FN}{m m1 m2:SM}{l:List Oper}
def Aan{t:Nat}{b v:Bool}(c:lk m1 t=some (.bool v))(g:nS m1 m=true)(i:m1.drop (m1.length-(m.length+1))=(d,.bool b)::m):QF P ops C (PS n m d b t v) [] n m1:=QF.nil λa j=>⟨m1,j,c,g,i⟩
def Fr.lit{v:Value}(c:Fr n a m)(h:lk m d=some v):Fr n a ((d,v)::m):=⟨c.dfr,c.siz,λi u b=>by
 simp only[lk]at b;cases e:Nat.beq d i with
 |true=>
  have:=Ag1 e;subst this;rw[e,Ago]at b;cases b;exact c.at_ _ _ h
 |false=>
  rw[e,Agq]at b;exact c.at_ _ _ b⟩
def nA{v:Bool}(b:Bool){t:Nat}(k:lk m d=some (.bool c))(q:QF P ops C (PS n m d b t v) (l.take j) n ((d,.bool b)::m))
  (s:So ops n.1 (l.take j) ((d,.bool (!b))::m)=some m2) (u:lk m2 t=some (.bool (!b))) (w:nS m2 m=true) (hd:m2.drop (m2.length-(m.length+1))=(d,.bool (!b))::m) (p:QF P ops C Q (l.drop j) n ((t,.bool (cond b (c&&v) (c||v)))::m)):QF P ops C Q l n m:=by
 by_cases e:c=b
 ·subst e;intro a o;refine Vm j (PS n m d c t v) (q a (o.lit k)) λi ⟨m1,x,y,z,A⟩=>p i ?_;have:=tF x y z A k;cases c<;>exact this
 ·have e:c= !b:=by cases c<;>cases b<;>first|rfl|exact absurd rfl e
  subst e;intro a o;refine Vm j (λi=>Fr n i m2) (PL s (QF.nil λi g=>g) a (o.lit k)) λi g=>p i ?_;have:=tF g u w hd k;cases b<;>exact this
def Aao{v:Bool}{t:Nat}(e:Aem ops l=some (j,t,d,true))(a:lk m d=some (.bool c))(b:QF P ops C (PS n m d true t v) (l.take j) n ((d,.bool true)::m))
  (g:So ops n.1 (l.take j) ((d,.bool false)::m)=some m2) (i:lk m2 t=some (.bool false)) (k:nS m2 m=true) (hd:m2.drop (m2.length-(m.length+1))=(d,.bool false)::m) (o:QF P ops C Q (l.drop j) n ((t,.bool (c&&v))::m)):QF P ops C Q l n m:=nA true a b g i k hd o
def Aam{v:Bool}{t:Nat}(e:Aem ops l=some (j,t,d,false))(a:lk m d=some (.bool c))(b:QF P ops C (PS n m d false t v) (l.take j) n ((d,.bool false)::m))
  (g:So ops n.1 (l.take j) ((d,.bool true)::m)=some m2) (i:lk m2 t=some (.bool true)) (k:nS m2 m=true) (hd:m2.drop (m2.length-(m.length+1))=(d,.bool true)::m) (o:QF P ops C Q (l.drop j) n ((t,.bool (c||v))::m)):QF P ops C Q l n m:=nA false a b g i k hd o
def Aap{b:List (Nat×AP)}(k:WF P b R cs N B h n m):QF P ops C (λa=>∀w,Wd B h w->W P b R cs N a w) [] n m:=λa c w d=>k a w c d
def Aa2{b:List (Nat×AP)}(k:WF P b R cs N B h n m):LF P ops (Qx b R (W P b R cs N)) [] B h n m:=λa w c d=>tC (k a w c d)
end
def Aen:IntKind->Nat
 | .i8=>0| .i16=>1| .i32=>2| .i64=>3| .u8=>4| .u16=>5| .u32=>6| .u64=>7
def xG{a b:IntKind}(h:Nat.beq (Aen a) (Aen b)=true):a=b:=by cases a<;>cases b<;>first|rfl|cases h
def binI(o:BinOp)(k:IntKind)(x y:Int):Option Value:=match o with
 | .lss=>some (.bool (decide (x<y)))
 | .leq=>some (.bool (decide (x<=y)))
 | .gtr=>some (.bool (decide (y<x)))
 | .geq=>some (.bool (decide (y<=x)))
 | .eql=>some (.bool (decide (x=y)))
 | .neq=>some (.bool (decide (x≠y)))
 | .add=>some (.int k (k.wrap (x+y)))
 | .sub=>some (.int k (k.wrap (x-y)))
 | .mul=>some (.int k (k.wrap (x*y)))
 | .and=>some (.int k (Jz .and k x y))
 |_=>none
def Afd(a:Op)(m:SM):Option Value:=match a with
 | .move X=>B5 m X
 | .assign X=>B5 m X
 | .pick c x y=>match B5 m c with
  |some (.bool true)=>B5 m x
  |some (.bool false)=>B5 m y
  |_=>none
 | .extract X i=>match B5 m X with
  |some (.tuple xs)=>xs[i]?
  |_=>none
 | .nilCheck X=>match B5 m X with
  |some (.pointer (some d))=>some (.pointer (some d))
  |_=>none
 | .unOp .not _ X=>match B5 m X with
  |some (.bool b)=>some (.bool (!b))
  |_=>none
 | .binOp o _ X Y _=>match B5 m X with
  |some (.int k x)=>match B5 m Y with
   |some (.int g y)=>cond (Nat.beq (Aen k) (Aen g)) (binI o k x y) none
   |_=>none
  |_=>none
 |_=>none
section
variable{P:Program}{ops:Array Oper}{C:World->Prop}{Q:Act->Prop}{n:FN}{m:SM}{rest:List Oper}
def rQ{ty:TypeId}{pos:String}{o:BinOp}{t1 t2:TypeId}{k:IntKind}{x:Int}{v:Value}(a:B5 m X=some (.int k x))(b:B5 m Y=some (.int k y))(hd:Nat.blt d n.1=true)(e:Go.Proofs.YtabonambpbofgaaGreat.binI o k x y=some v)(c:QF P ops C Q rest n ((d,v)::m)):QF P ops C Q (⟨some d,.binOp o t1 X Y t2,ty,pos,af,none⟩::rest) n m:=by
 cases o<;>cases e
 ·exact rU a b hd c
 ·exact rD a b hd c
 ·exact rI a b hd c
 ·exact rR a b hd c
 ·exact nJ a b hd c
 ·exact nC a b hd c
 ·exact nD a b hd c
 ·exact Aas a b hd c
 ·exact nG a b hd c
 ·exact nH a b hd c
def Aaq{a:Op}{ty:TypeId}{pos:String}{v:Value}(e:Afd a m=some v)(hd:Nat.blt d n.1=true)(k:QF P ops C Q rest n ((d,v)::m)):QF P ops C Q (⟨some d,a,ty,pos,af,none⟩::rest) n m:=by
 unfold Afd at e;split at e
 ·exact uH e hd k
 ·exact nK e hd k
 ·split at e
  ·rename_i h;exact Sd h e hd k
  ·rename_i h;exact Sd h e hd k
  ·cases e
 ·split at e
  ·rename_i h;exact nI h e hd k
  ·cases e
 ·split at e
  ·rename_i h;cases e;exact J0 h hd k
  ·cases e
 ·split at e
  ·rename_i h;cases e;exact nB h hd k
  ·cases e
 ·split at e
  ·rename_i b;split at e
   ·rename_i c;obtain⟨g,i⟩:=Oz e;have:=xG g;subst this;exact rQ b c hd i k
   ·cases e
  ·cases e
 ·cases e
end
structure QJ(P:Program)(ops:Array Oper)(C:World->Prop)(Q:Act->Prop)(l:List Oper)(n:FN)(m:SM):Prop where out:QF P ops C Q l n m
structure LJ(P:Program)(ops:Array Oper)(Q:Exit->Act->World->Prop)(l:List Oper)(B:World)(h:AV)(n:FN)(m:SM):Prop where out:LF P ops Q l B h n m
structure WJ(P:Program)(ex:List (Nat×AP))(R:AP)(cs:List Code)(N:AP)(B:World)(h:AV)(n:FN)(m:SM):Prop where out:WF P ex R cs N B h n m
def padd:Value->Nat->Value
 | .pointer (some a),k=> .pointer (some (a.add k))
 |v,_=>v
def OJ.fl{α β A S h}{r:A9 α}{r':A9 β}{o f p x}(k:OJ A S h r p x)(b:FB r o r' f):OJ A S h r' (padd p o) (f x):=by
 obtain⟨a,rfl,c⟩:=k.fld b;exact c
def OJ.i{A S h p}{x:Int}(k:OJ A S h AC p x):AB x:=by
 obtain⟨cs,_,_,h⟩:=k;exact h
def Sl.le{α S h}{r:A9 α}{v}{l:List α}(k:Sl S h r v l):l.length<=maxLen:=by
 obtain⟨_,_,_,h⟩:=k.len;exact h
def WE(h:AV)(p:Value)(j:Nat):Value:=match p with
 | .pointer (some a)=>(KE h ⟨a.block,a.off+j,none⟩).getD undef
 |_=>undef
def O4.at_{A h p cs}(k:O4 A h p cs)(b:j<cs.length):cs[j]? =some (WE h p j):=by
 obtain⟨a,rfl,_,_,c⟩:=k;have:=c j b;show cs[j]? =some ((KE h ⟨a.block,a.off+j,none⟩).getD undef)
 rw[this,Agw b];rfl
def O4.map{A h p cs}(k:O4 A h p cs):(List.range cs.length).map (WE h p)=cs:=by
 apply Ah1;intro j;rw[Aig];by_cases a:j<cs.length
 ·rw[k.at_ a,List.getElem?_range a];rfl
 ·rw[Ahj (by simpa using a),Ahj (by simpa using a)];rfl
def qU(h:AV)(p:Value)(n:Nat):Value:= .agg ((List.range n).map (WE h p)).toArray
 class Fc (p:Prop):Prop where out:p
 class Gl (P:Program) (t j:Nat) (off:outParam Nat):Prop where out:eJ P t j off=true
 class Tf (P:Program) (t:Nat) (e sz:outParam Nat):Prop where out:Q4 P t e sz=true
 class Kv {α:Type} (r:A9 α) (o:Nat) {β:outParam Type} (r':outParam (A9 β)) (f:outParam (α->β)):Prop where out:FB r o r' f
 class nT (C:World->Prop) (h:outParam AV):Prop where out:CK C h
instance:nT (Wd B h) h:=⟨H4⟩
instance:nT (Cl B h) h:=⟨OK⟩
 class Sc (P:Program) (t:Nat) (sz:outParam Nat):Prop where out:LD P t sz true=true
structure Vl(A:Nat->Prop)(h:AV)(ag:Bool)(sz:Nat)(p v:Value):Prop where out:∃cs,O4 A h p cs/\cs.length=sz/\v=if ag then .agg cs.toArray else cs.headD undef
def OJ.lv{α A S h}{r:A9 α}{p x}(k:OJ A S h r p x):∃v,Vl A h r.ag r.sz p v/\Rd S h r v x:=by
 obtain⟨cs,b,a⟩:=k;exact⟨_,⟨cs,b,r.len a,rfl⟩,cs,rfl,a⟩
def OJ.ll{α A S h}{r:A9 α}{p x}(k:OJ A S h r.sl p x):∃v,Vl A h false 1 p v/\Sl S h r v x:=by
 obtain⟨v,a,b⟩:=k.lv;exact⟨v,a,b.sl⟩
def OJ.sz{A S h p}{x:ByteArray}(k:OJ A S h A9.str p x):x.size<=maxLen:=by
 obtain⟨cs,_,_,h⟩:=k;exact h
def qB(o:Oper):Bool:=match o.op with
 | .move _| .assign _| .pick _ _ _| .build _ _| .load _ _| .nilCheck _| .binOp _ _ _ _ _| .unOp _ _ _| .convert _ _ _| .makeFunc _ _ _| .fieldAddr _ _ _| .field _ _ _| .indexAddr _ _ _| .index _ _ _| .extract _ _=>true
 | .call ⟨.builtin .len,_,_⟩| .call ⟨.builtin .min,_,_⟩| .call ⟨.builtin .max,_,_⟩=>true
 |_=>false
def fB(o:Oper):Bool:=match o.op with
 | .call ⟨.value _,_,_⟩=>true
 |_=>false
def qN:List Oper->Nat
 |[]=>0
 |o::r=>cond (qB o) (qN r+1) 0
section
variable{P:Program}{ops:Array Oper}{Q:Act->Prop}{n:FN}{m m1 m2:SM}{rest l:List Oper}{B:World}{S:Nat->Prop}{L:List HP}{h:AV}
variable{d:Nat}{ty:TypeId}{pos:String}{af:Array Edge}{X Y:Operand}{t t1:TypeId}{v p:Value}
def uF{C}{a:Op}(e:(Afd a m,Nat.blt d n.1)=(some v,true))(k:QJ P ops C Q rest n ((d,v)::m)):QJ P ops C Q (⟨some d,a,ty,pos,af,none⟩::rest) n m:=
 ⟨Aaq (Agt (λz=>z.1) e) (Agt (λz=>z.2) e) k.1⟩
def Ad7{C}{a:Op}{b:Bool}(q:((ops[j]?).bind (·.dst),lk m e)=(some e,some (.bool b)))(k:QJ P ops C Q (⟨some d,a,ty,pos,af,none⟩::rest) n m):QJ P ops C Q (⟨some d,a,ty,pos,af,some (j,b)⟩::rest) n m:=
 ⟨bY rfl (Agt (λz=>z.1) q) (Agt (λz=>z.2) q) k.1⟩
def QJ.scA{C}{v:Bool}{t:Nat}(e:Aem ops l=some (j,t,d,true))(a:lk m d=some (.bool c))(b:QJ P ops C (PS n m d true t v) (l.take j) n ((d,.bool true)::m))
  (g:So ops n.1 (l.take j) ((d,.bool false)::m)=some m2) (i:lk m2 t=some (.bool false)) (k:nS m2 m=true) (hd:m2.drop (m2.length-(m.length+1))=(d,.bool false)::m) (o:QJ P ops C Q (l.drop j) n ((t,.bool (c&&v))::m)):QJ P ops C Q l n m:=⟨Aao e a b.1 g i k hd o.1⟩
def QJ.scO{C}{v:Bool}{t:Nat}(e:Aem ops l=some (j,t,d,false))(a:lk m d=some (.bool c))(b:QJ P ops C (PS n m d false t v) (l.take j) n ((d,.bool false)::m))
  (g:So ops n.1 (l.take j) ((d,.bool true)::m)=some m2) (i:lk m2 t=some (.bool true)) (k:nS m2 m=true) (hd:m2.drop (m2.length-(m.length+1))=(d,.bool true)::m) (o:QJ P ops C Q (l.drop j) n ((t,.bool (c||v))::m)):QJ P ops C Q l n m:=⟨Aam e a b.1 g i k hd o.1⟩
def QJ.scE{C}{t:Nat}{b v:Bool}(a:lk m1 t=some (.bool v))(c:nS m1 m=true)(g:m1.drop (m1.length-(m.length+1))=(d,.bool b)::m):QJ P ops C (PS n m d b t v) [] n m1:=⟨Aan a c g⟩
def QJ.rp{C}{b:List (Nat×AP)}(k:WJ P b R cs N B h n m):QJ P ops C (λa=>∀w,Wd B h w->W P b R cs N a w) [] n m:=⟨Aap k.1⟩
def QJ.ln{C}{Q:Exit->Act->World->Prop}(k:LJ P ops Q l B h n m):QJ P ops C (λa=>∀w,Wd B h w->wpList P ops Q l a w) [] n m:=⟨AG k.1⟩
def QJ.fao{C}{b o j off}[ht:Gl P t j off](e:(B5 m X,Nat.blt d n.1)=(some (.pointer (some ⟨b,o,none⟩)),true))(k:QJ P ops C Q rest n ((d,.pointer (some ⟨b,o+off,none⟩))::m)):QJ P ops C Q (⟨some d,.fieldAddr t X j,ty,pos,af,none⟩::rest) n m:=
 ⟨Gg (Agt (λz=>z.1) e) ht.out (Agt (λz=>z.2) e) k.1⟩
def Aay{C}{α}{A:Nat->Prop}{r:A9 α}{x j off}(c:B5 m X=some p)(k0:OJ A S h r p x)(g:eJ P t j off=true)(hd:Nat.blt d n.1=true)(k:QF P ops C Q rest n ((d,padd p off)::m)):QF P ops C Q (⟨some d,.fieldAddr t X j,ty,pos,af,none⟩::rest) n m:=λa b=>by
 obtain⟨cs,⟨i,rfl,_⟩,_⟩:=k0;exact GH b hd (λw _=>by simp[execOp,b.eval c,NG g,padd]) k
def QJ.fax{C}{α}{A:Nat->Prop}{r:A9 α}{x j off}(e:(B5 m X,Nat.blt d n.1)=(some p,true))(k0:OJ A S h r p x)[ht:Gl P t j off](k:QJ P ops C Q rest n ((d,padd p off)::m)):QJ P ops C Q (⟨some d,.fieldAddr t X j,ty,pos,af,none⟩::rest) n m:=
 ⟨Aay (Agt (λz=>z.1) e) k0 ht.out (Agt (λz=>z.2) e) k.1⟩
def QJ.ld1{o:Nat}{cs:List Value}(a:St S L h)(e:(B5 m X,Nat.blt d n.1)=(some (.pointer (some ⟨b,o,none⟩)),true))(c:Bx b T cs∈L)(g:cs[o]? =some v)[ht:Fc (LD P t 1 false=true)](k:QJ P ops (Wd B h) Q rest n ((d,v)::m)):QJ P ops (Wd B h) Q (⟨some d,.load t X,ty,pos,af,none⟩::rest) n m:=
 ⟨TL H4 a (Agt (λz=>z.1) e) c g ht.out (Agt (λz=>z.2) e) k.1⟩
def bU{o:Nat}{cs:List Value}(a:St S L h)(e:(B5 m X,Nat.blt d n.1)=(some (.pointer (some ⟨b,o,none⟩)),true))(c:Bx b T cs∈L)(g:cs[o]? =some v)[ht:Fc (LD P t 1 false=true)](k:QJ P ops (Cl B h) Q rest n ((d,v)::m)):QJ P ops (Cl B h) Q (⟨some d,.load t X,ty,pos,af,none⟩::rest) n m:=
 ⟨TL OK a (Agt (λz=>z.1) e) c g ht.out (Agt (λz=>z.2) e) k.1⟩
def QJ.ldi{x:Int}(a:St S L h)(e:(B5 m X,Nat.blt d n.1)=(some p,true))(k0:Pt S h AC p x)[ht:Fc (LD P t 1 false=true)](k:QJ P ops (Wd B h) Q rest n ((d,.int .i64 x)::m)):QJ P ops (Wd B h) Q (⟨some d,.load t X,ty,pos,af,none⟩::rest) n m:=
 ⟨FA H4 a.1 (Agt (λz=>z.1) e) k0 ht.out (Agt (λz=>z.2) e) λ_=>k.1⟩
def QJ.len{C}{α}{r:A9 α}{x:List α}{aty e sz}(q:(B5 m X,Nat.blt d n.1)=(some v,true))(k0:Sl S h r v x)[ht:Tf P t e sz](a:r.sz=sz)(k:QJ P ops C Q rest n ((d,.int .i64 x.length)::m)):QJ P ops C Q (⟨some d,.call ⟨.builtin .len,#[X],#[t]⟩,aty,pos,af,none⟩::rest) n m:=
 ⟨LX (Agt (λz=>z.1) q) k0 (by rw[a];exact ht.out) (Agt (λz=>z.2) q) λ_=>k.1⟩
def mZ{C}{α β}{A:Nat->Prop}{r:A9 α}{r':A9 β}{f:α->β}{x j off}(e:(B5 m X,Nat.blt d n.1)=(some p,true))(k0:OJ A S h r p x)[ht:Gl P t j off][hf:Kv r off r' f](k:OJ A S h r' (padd p off) (f x)->QJ P ops C Q rest n ((d,padd p off)::m)):QJ P ops C Q (⟨some d,.fieldAddr t X j,ty,pos,af,none⟩::rest) n m:=QJ.fax e k0 (k (k0.fl hf.out))
def XB{C ag sz}(b:St S L h)(e:(B5 m X,Nat.blt d n.1)=(some p,true))(k0:Vl S h ag sz p v)[ck:nT C h](c:LD P t sz ag=true)(g:(ag||Nat.beq sz 1)=true)(k:QJ P ops C Q rest n ((d,v)::m)):QJ P ops C Q (⟨some d,.load t X,ty,pos,af,none⟩::rest) n m:=by
 obtain⟨cs,i,j,rfl⟩:=k0.out;refine⟨λa l=>sY ck.out b.1 l (Agt (λz=>z.1) e) i j c (λh=>?_) (Agt (λz=>z.2) e) k.1⟩;subst h;exact Ag1 g
def bS{C}{x:Int}(a:St S L h)(e:(B5 m X,Nat.blt d n.1)=(some p,true))(k0:Pt S h AC p x)[ck:nT C h][ht:Fc (LD P t 1 false=true)](k:QJ P ops C Q rest n ((d,.int .i64 x)::m)):QJ P ops C Q (⟨some d,.load t X,ty,pos,af,none⟩::rest) n m:=
 ⟨FA ck.out a.1 (Agt (λz=>z.1) e) k0 ht.out (Agt (λz=>z.2) e) λ_=>k.1⟩
def bT{C}{x:Bool}(a:St S L h)(e:(B5 m X,Nat.blt d n.1)=(some p,true))(k0:Pt S h A9.bool p x)[ck:nT C h][ht:Fc (LD P t 1 false=true)](k:QJ P ops C Q rest n ((d,.bool x)::m)):QJ P ops C Q (⟨some d,.load t X,ty,pos,af,none⟩::rest) n m:=
 ⟨Aat ck.out a.1 (Agt (λz=>z.1) e) k0 ht.out (Agt (λz=>z.2) e) k.1⟩
def bN{C}{x:ByteArray}(a:St S L h)(e:(B5 m X,Nat.blt d n.1)=(some p,true))(k0:Pt S h A9.str p x)[ck:nT C h][ht:Fc (LD P t 1 false=true)](k:QJ P ops C Q rest n ((d,.string x)::m)):QJ P ops C Q (⟨some d,.load t X,ty,pos,af,none⟩::rest) n m:=
 ⟨XG ck.out a.1 (Agt (λz=>z.1) e) k0 ht.out (Agt (λz=>z.2) e) λ_=>k.1⟩
def bR{C}{α}{r:A9 α}{x}(b:St S L h)(e:(B5 m X,Nat.blt d n.1)=(some p,true))(k0:Pt S h r.sl p x)[ck:nT C h][ht:Fc (LD P t 1 false=true)](k:Sl S h r (WE h p 0) x->QJ P ops C Q rest n ((d,WE h p 0)::m)):QJ P ops C Q (⟨some d,.load t X,ty,pos,af,none⟩::rest) n m:=by
 obtain⟨cs,a,v,rfl,c⟩:=k0;have g:v=WE h p 0:=by have:=a.at_ (j:=0) (by simp);simpa using this
 subst g;exact XB (ag:=false) (sz:=1) b e ⟨_,a,rfl,rfl⟩ ht.out rfl (k c)
def bO{C}{α}{r:A9 α}{x sz}(j:St S L h)(e:(B5 m X,Nat.blt d n.1)=(some p,true))(k0:Pt S h r p x)[ck:nT C h][ht:Sc P t sz](a:(r.sz,r.ag)=(sz,true))(k:Rd S h r (qU h p sz) x->QJ P ops C Q rest n ((d,qU h p sz)::m)):QJ P ops C Q (⟨some d,.load t X,ty,pos,af,none⟩::rest) n m:=by
 obtain⟨cs,b,c⟩:=k0;have l:r.sz=sz:=Agt (λz=>z.1) a;have o:r.ag=true:=Agt (λz=>z.2) a;have g:cs.length=sz:=by rw[<-l];exact r.len c
 have i:qU h p sz= .agg cs.toArray:=by unfold qU;rw[<-g,b.map]
 exact XB (ag:=true) (sz:=sz) j e ⟨cs,b,g,by rw[i];rfl⟩ ht.out rfl (k ⟨cs,by rw[i];unfold A9.val;rw[o];rfl,c⟩)
def bQ{C}{sz:Nat}{cs:List Value}(c:St S L h)(e:(B5 m X,Nat.blt d n.1)=(some (.pointer (some ⟨b,0,none⟩)),true))(g:Bx b T cs∈L)[ck:nT C h][ht:Sc P t sz](a:Nat.beq cs.length sz=true)(k:QJ P ops C Q rest n ((d,.agg cs.toArray)::m)):QJ P ops C Q (⟨some d,.load t X,ty,pos,af,none⟩::rest) n m:=
 ⟨Fk ck.out c (Agt (λz=>z.1) e) g (by rw[List.drop_zero,<-Ag1 a,Ahe]) a ht.out rfl (Agt (λz=>z.2) e) k.1⟩
def bP{C}{o sz:Nat}{cs:List Value}(a:St S L h)(e:(B5 m X,Nat.blt d n.1)=(some (.pointer (some ⟨b,o,none⟩)),true))(c:Bx b T cs∈L)[ck:nT C h][ht:Sc P t sz](g:Nat.ble (o+sz) cs.length=true)(k:QJ P ops C Q rest n ((d,.agg ((cs.drop o).take sz).toArray)::m)):QJ P ops C Q (⟨some d,.load t X,ty,pos,af,none⟩::rest) n m:=
 ⟨Fk ck.out a (Agt (λz=>z.1) e) c rfl (by have:=Ajr g;simp;omega) ht.out rfl (Agt (λz=>z.2) e) k.1⟩
def QJ.leno{C}{α}{r:A9 α}{l:List α}{T aty e sz}(a:St S L h)(q:(B5 m X,Nat.blt d n.1)=(some v,true))(b:OS r T v l∈L)[ht:Tf P t e sz](k:QJ P ops C Q rest n ((d,.int .i64 l.length)::m)):QJ P ops C Q (⟨some d,.call ⟨.builtin .len,#[X],#[t]⟩,aty,pos,af,none⟩::rest) n m:=
 ⟨Qt a b (Agt (λz=>z.1) q) ht.out (Agt (λz=>z.2) q) λ_=>k.1⟩
def QJ.lens{C}{aty}(q:(B5 m X,Nat.blt d n.1)=(some (.string s),true))[ht:Fc (P.underlying t=some .string)](k:QJ P ops C Q rest n ((d,.int .i64 s.size)::m)):QJ P ops C Q (⟨some d,.call ⟨.builtin .len,#[X],#[t]⟩,aty,pos,af,none⟩::rest) n m:=
 ⟨Qr (Agt (λz=>z.1) q) ht.out (Agt (λz=>z.2) q) k.1⟩
def LJ.q{Q:Exit->Act->World->Prop}(e:qB o=true)(k:QJ P ops (Wd B h) (λa=>∀w,Wd B h w->wpList P ops Q ((o::l).drop (qN (o::l))) a w) ((o::l).take (qN (o::l))) n m):LJ P ops Q (o::l) B h n m:=⟨AN _ k.1⟩
def LJ.nil{a:List (Nat×AP)}(k:WJ P a R cs N B h n m):LJ P ops (Qx a R (W P a R cs N)) [] B h n m:=⟨Aa2 k.1⟩
def WJ.seq{a:List (Nat×AP)}{x y:Code}(k:WJ P a R (x::y::cs) N B h n m):WJ P a R (.seq x y::cs) N B h n m:=⟨CU k.1⟩
def WJ.skip{a:List (Nat×AP)}(k:WJ P a R cs N B h n m):WJ P a R (.skip::cs) N B h n m:=⟨D7 k.1⟩
def WJ.rp{b:List (Nat×AP)}{id:Nat}(e:l.all qB=true)(k:QJ P l.toArray (Wd B h) (λa=>∀w,Wd B h w->W P b R cs N a w) l n m):WJ P b R (.region id l.toArray false::cs) N B h n m:=⟨Ip (.inl rfl) k.1⟩
def WJ.rl{a:List (Nat×AP)}{id:Nat}(e:(l.all qB||l.any fB)=false)(k:LJ P l.toArray (Qx a R (W P a R cs N)) l B h n m):WJ P a R (.region id l.toArray false::cs) N B h n m:=⟨Cj k.1⟩
end
def SC(e:A:=by
 repeat' (first
  |refine uF rfl ?_
  |refine Ad7 rfl ?_
  |refine QJ.fao rfl ?_
  |refine QJ.ld1 (by assumption) rfl (by repeat (first|exact mh|refine mt ?_)) (by rfl) ?_
  |(refine mZ rfl (by assumption) ?_;intro _)
  |refine QJ.fax rfl (by assumption) ?_
  |refine bS (by assumption) rfl (by assumption) ?_
  |refine XB (by assumption) rfl (by assumption) (by first|exact Fc.out|exact Sc.out) rfl ?_
  |(refine bR (by assumption) rfl (by assumption) ?_;intro _)
  |refine bT (by assumption) rfl (by assumption) ?_
  |refine QJ.len rfl (by assumption) (by rfl) ?_
  |refine QJ.lens rfl ?_
  |refine QJ.leno (by assumption) rfl (by repeat (first|exact mh|refine mt ?_)) ?_
  |refine bN (by assumption) rfl (by assumption) ?_
  |(refine bO (by assumption) rfl (by assumption) rfl ?_;intro _)
  |refine bQ (by assumption) rfl (by repeat (first|exact mh|refine mt ?_)) rfl ?_
  |refine bP (by assumption) rfl (by repeat (first|exact mh|refine mt ?_)) rfl ?_
  |refine bU (by assumption) rfl (by repeat (first|exact mh|refine mt ?_)) (by rfl) ?_
  |exact QJ.scE rfl Γ Γ
  |(apply QJ.scA rfl rfl ?_ rfl Γ Γ Γ ?_;rotate_left)
  |(apply QJ.scO rfl rfl ?_ rfl Γ Γ Γ ?_;rotate_left))
 first|done|fail):A:=e
structure Hd(A:Prop):Prop where out:A
def AU{B:Prop}(k:A) (f:Hd A->B:=by
 intro k
 first
  |with_reducible refine QJ.out ?_
  |with_reducible refine LJ.out ?_
  |with_reducible refine WJ.out ?_
  |refine LJ.out ?_
 repeat (first
  |refine uF rfl ?_
  |refine Ad7 rfl ?_
  |refine QJ.fao rfl ?_
  |refine QJ.ld1 (by assumption) rfl (by repeat (first|exact mh|refine mt ?_)) (by rfl) ?_
  |(refine mZ rfl (by assumption) ?_;intro _)
  |refine QJ.fax rfl (by assumption) ?_
  |refine bS (by assumption) rfl (by assumption) ?_
  |refine XB (by assumption) rfl (by assumption) (by first|exact Fc.out|exact Sc.out) rfl ?_
  |(refine bR (by assumption) rfl (by assumption) ?_;intro _)
  |refine bT (by assumption) rfl (by assumption) ?_
  |refine QJ.len rfl (by assumption) (by rfl) ?_
  |refine QJ.lens rfl ?_
  |refine QJ.leno (by assumption) rfl (by repeat (first|exact mh|refine mt ?_)) ?_
  |refine bN (by assumption) rfl (by assumption) ?_
  |(refine bO (by assumption) rfl (by assumption) rfl ?_;intro _)
  |refine bQ (by assumption) rfl (by repeat (first|exact mh|refine mt ?_)) rfl ?_
  |refine bP (by assumption) rfl (by repeat (first|exact mh|refine mt ?_)) rfl ?_
  |refine bU (by assumption) rfl (by repeat (first|exact mh|refine mt ?_)) (by rfl) ?_
  |refine QJ.ln ?_
  |refine QJ.rp ?_
  |refine LJ.q rfl ?_
  |refine LJ.nil ?_
  |refine WJ.seq ?_
  |refine WJ.skip ?_
  |refine WJ.rp rfl ?_
  |refine WJ.rl rfl ?_
  |(apply QJ.scA rfl rfl ?_ rfl Γ Γ Γ ?_;rotate_left;exact SC)
  |(apply QJ.scO rfl rfl ?_ rfl Γ Γ Γ ?_;rotate_left;exact SC)
  |fail)
 first
  |exact QJ.mk k.out
  |exact LJ.mk k.out
  |exact WJ.mk k.out):B:=f ⟨k⟩
def St.lt(k:St S L h):∀b,S b->b<h.size:=k.1
def EX(e:A:=by
 first
  |assumption
  |exact CO.refl _ _
  |repeat (first
    |assumption
    |refine CO.trans ?_ (by assumption)
    |exact Ef.ext (by assumption) (St.lt (by assumption))
    |exact SN.ext (St.lt (by assumption)) (by assumption)
    |exact SX.ext (St.lt (by assumption)) (by assumption) (by assumption)
    |refine CO.trans ?_ (Ef.ext (by assumption) (St.lt (by assumption)))
    |refine CO.trans ?_ (SN.ext (St.lt (by assumption)) (by assumption))
    |refine CO.trans ?_ (SX.ext (St.lt (by assumption)) (by assumption) (by assumption)))):A:=e
def Rd.nw{b:Type}{r:A9 b}{v:Value}{x:b}(k:Rd S h r v x)(a:St S' L h':=by assumption)(e:CO S h S' h':=by exact EX):Rd S' h' r v x:=k.mono e
def Sl.nw{b:Type}{r:A9 b}{v:Value}{l:List b}(k:Sl S h r v l)(a:St S' L h':=by assumption)(e:CO S h S' h':=by exact EX):Sl S' h' r v l:=k.mono' e
def OJ.nw{b:Type}{r:A9 b}{v:Value}{x:b}(k:Pt S h r v x)(a:St S' L h':=by assumption)(e:CO S h S' h':=by exact EX):Pt S' h' r v x:=OJ.mono k e
def et{c:AV}(b:CO S' h' S2 c)(a:CO S h S' h':=by exact EX):CO S h S2 c:=a.trans b
inductive Dl:List HP->List HP->Prop
 |refl {L:List HP}:Dl L L
 |keep {H:HP} {L1 L2:List HP}:Dl L1 L2->Dl (H::L1) (H::L2)
 |drop {H:HP} {L1 L2:List HP}:Dl L1 L2->Dl L1 (H::L2)
def Sp.dl{g:List HP}(d:Dl L1 g):∀{A:Nat->Prop},Sp S g h A->Sp S L1 h A:=by
 induction d with
 |refl=>exact λk=>k
 |keep _ a=>exact λ⟨F,j,i,c⟩=>⟨F,j,i,a c⟩
 |drop _ a=>exact λ⟨F,_,i,c⟩=>a (Sp.mono c λb l=>l.1)
def St.dl{a:List HP}(k:St S a h)(d:Dl L1 a):St S L1 h:=⟨k.1,k.2.dl d⟩
def DR(e:A:=by
 first
  |assumption
  |refine St.dl (by assumption) ?_
   repeat (first|exact Dl.refl|refine Dl.keep ?_|refine Dl.drop ?_)):A:=e
section
variable{P:Program}{fn:Func}{B:World}{S S':Nat->Prop}{h h':AV}{ex:List (Nat×AP)}{N:AP}{cs:List Code}{m:SM}{post:Value->(Nat->Prop)->AV->Prop}{k t:Nat}{v:Value}
def GF(kp:post v S' h')(b:fn.results= #[.tmp t])(c:lk m t=some v)(e:CO S h S' h'):WF P ex (Rt P fn B S h post) (.ret::cs) N B h' (k,[]) m:=CM λa w d g=>T0 d g b c e kp
end
def CE{p:Prop}(e:true=false):p:=by cases e
section
variable{P:Program}{ops:Array Oper}{n:FN}{m:SM}{rest:List Oper}{d:Nat}{ty:TypeId}{pos:String}{af:Array Edge}{X Y:Operand}{f:Nat}{xs:Array Operand}{tys:Array TypeId}{args vs:List Value}{first cap:Array Value}{h:AV}{B:World}{S:Nat->Prop}{L:List HP}
variable{β ρ:Type}{F:Option β}{K:β->Option ρ}{r:ρ}
def BD{Q:Act->Prop}{v:β->Value}{Z:β->(Nat->Prop)->AV->Prop}(E:F.bind K=some r)(i:B5 m X=some (.func (.func f) first cap))(a:xs.toList.mapM (B5 m)=some args)(c:first.toList++args++cap.toList=vs)(g:BI P f=true)(hd:Nat.blt d n.1=true)
  (j:∀y,F=some y->∀h',Ef h h'->CG P f vs.toArray (λb=>b<h'.size) h' (λu S' l=>u=v y/\Z y S' l))
  (k:∀y,K y=some r->QF P ops (Cl B h) Q rest n ((d,v y)::m)):QF P ops (Cl B h) Q (⟨some d,.call ⟨.value X,xs,tys⟩,ty,pos,af,none⟩::rest) n m:=by
 obtain⟨y,o,E⟩:=bd E;exact Jk i a c g hd (j y o) (k y E)
def DO{Q:Act->Prop}{v:β->Value}{Ψ:β->Prop}{Z:β->(Nat->Prop)->AV->Prop}(E:F.bind K=some r)(i:B5 m X=some (.func (.func f) first cap))(a:xs.toList.mapM (B5 m)=some args)(c:first.toList++args++cap.toList=vs)(g:BI P f=true)(hd:Nat.blt d n.1=true)
  (j:∀y,F=some y->∀h',Ef h h'->CG P f vs.toArray (λb=>b<h'.size) h' (λu S' l=>u=v y/\Ψ y/\Z y S' l))
  (k:∀y,K y=some r->Ψ y->QF P ops (Cl B h) Q rest n ((d,v y)::m)):QF P ops (Cl B h) Q (⟨some d,.call ⟨.value X,xs,tys⟩,ty,pos,af,none⟩::rest) n m:=by
 obtain⟨y,o,E⟩:=bd E;exact Od i a c g hd (j y o) (k y E)
def DX{Q:Exit->Act->World->Prop}{a:β->Value->(Nat->Prop)->AV->Prop}(E:F.bind K=some r)(i:B5 m X=some (.func (.func f) first cap))(b:xs.toList.mapM (B5 m)=some args)(c:first.toList++args++cap.toList=vs)(g:BI P f=true)(hd:Nat.blt d n.1=true)(j:∀y,F=some y->CG P f vs.toArray S h (a y))
  (k:∀y,K y=some r->∀v S' h',CO S h S' h'->a y v S' h'->LF P ops Q rest B h' n ((d,v)::m)):LF P ops Q (⟨some d,.call ⟨.value X,xs,tys⟩,ty,pos,af,none⟩::rest) B h n m:=by
 obtain⟨y,l,E⟩:=bd E;exact Ch i b c g hd (j y l) (k y E)
def Dc{Q:Exit->Act->World->Prop}{a:β->Value->(Nat->Prop)->AV->Prop}(E:F.bind K=some r)(j:B5 m X=some (.func (.func f) first cap))(c:xs.toList.mapM (B5 m)=some args)(g:first.toList++args++cap.toList=vs)(i:BI P f=true)(hd:Nat.blt d n.1=true)(l:St S L h)(o:∀y,F=some y->CG P f vs.toArray (λb=>b<h.size) h (a y))
  (k:∀y,K y=some r->∀v S' h',St S L h'->CO S h S h'->CO (λb=>b<h.size) h S' h'->a y v S' h'->LF P ops Q rest B h' n ((d,v)::m)):LF P ops Q (⟨some d,.call ⟨.value X,xs,tys⟩,ty,pos,af,none⟩::rest) B h n m:=by
 obtain⟨y,p,E⟩:=bd E;exact El j c g i hd l (o y p) (k y E)
def BE{o:Type}{Q:Act->Prop}{a:A9 o}{l:List o}{K:o->Option ρ}{t:Nat}{v:Value}{i:Int}(E:(Go.Proofs.YtabonambpbofgaaGreat.ix l i).bind K=some r)(c:B5 m X=some v)(g:B5 m Y=some (.int .i64 i))(k0:Sl S h a v l)(j:Q4 P t e a.sz=true)(hd:Nat.blt d n.1=true)
  (k:∀x,K x=some r->∀q,Pt S h a q x->QF P ops C Q rest n ((d,q)::m)):QF P ops C Q (⟨some d,.indexAddr t X Y,ty,pos,af,none⟩::rest) n m:=by
 obtain⟨x,b,E⟩:=bd E;exact Oc c g k0 j b hd (k x E)
end
def H5{ty:TypeId}{pos:String}{c:List HP}{Q:Exit->Act->World->Prop}{v:Value}{T d:TypeId}{cs:List Value}{sz:Nat}(i:B5 m X=some (.pointer (some ⟨b,0,none⟩)))(j:B5 m Y=some v)(l:v.cells=vs.toArray)(o:∀u∈vs,u.oneCell'=true)
  (p:LD P T sz ag=true) (a:vs.length=sz) (q:St S L h) (r:Nm L (Bx b d cs) (Bx b d vs) c) (s:Nat.beq cs.length sz=true)
  (k:∀h',St S c h'->CO S h S h'->LF P ops Q rest B h' n m):LF P ops Q (⟨none,.store T X Y,ty,pos,af,none⟩::rest) B h n m:=by
 have g:=Ag1 s;refine NT i j l o p a q r (by simp[g]) ?_ k;unfold IY;simp[g,a]
def ON(e:A:=by
 repeat (first
  |exact KY
  |refine BH rfl ?_
  |refine BH (Sl.one (by assumption)) ?_)):A:=e
def PA.i{R:AR}{K:SM->Prop}{a:List (Nat×Nat)}{fr:SM}(k:∀u,R j u h->PA R h K a ((d,u)::fr)):PA R h K ((j,d)::a) fr:=k
def Af1{R:AR}{K:SM->Prop}{fr:SM}(k:K fr):PA R h K [] fr:=k
def Aa9{a b:Prop}(k:a/\b):a/\b:=k
def F9(e:A:=by
 intro b c o;have a:=Ef.st o (by assumption)
 repeat (refine PA.i (λu f=>?_);first|(obtain ⟨rfl,_⟩:=Aa9 f)|cases f)
 refine Af1 ?_;refine AU ?_
 first
  |exact BB (Ef.refl _) rfl
  |exact BB (Ef.refl _) ⟨rfl,(by first|assumption|exact iq rfl|exact BQ _)⟩):A:=e
def St.ea(k:St S L h):CO S h (λb=>b<h.size) h:=⟨λb a=>k.1 b a,λ_ _=>rfl,Ag5 _⟩
def B1{Q:Exit->Act->World->Prop}{R:Value->AV->Prop}{v:Value}(r:R v h):LF P ops (Exit.then (KS B n d R h m) Q) [] B h n ((d,v)::m):=BB (Ef.refl _) r
def Rd.sn{d:Type}(h0:AV){a:AV}{r:A9 d}{v:Value}{x:d}(k:Rd S a r v x):Rd (SN S h0 a) a r v x:=k.mono ⟨λb c=> .inl c,λ_ _=>rfl,Ag5 _⟩
def Sl.sn{d:Type}(h0:AV){a:AV}{r:A9 d}{v:Value}{x:List d}(k:Sl S a r v x):Sl (SN S h0 a) a r v x:=k.mono' ⟨λb c=> .inl c,λ_ _=>rfl,Ag5 _⟩
def wV{a c:AV}(k:St S L h)(d:Ef h a)(g:Ef a c):CO S a S c:=g.ext λb i=>Ag6 (k.1 b i) d.siz
def MO(e:A:=by
 intro i v d g c b a
 repeat (first
  |exact False.elim a
  |(rcases i with _|i;focus first
   |exact a
   |exact OJ.mono a (wV (by assumption) c b)
   |exact Sl.mono' a (wV (by assumption) c b)
   |exact Rd.mono a (wV (by assumption) c b)
   |exact⟨Sl.mono' a.1 (SN.mono (St.lt (by assumption)) c b),a.2⟩
   |exact a.mono b
   |exact Sl.mono' a (SN.mono (St.lt (by assumption)) c b)
   |exact Rd.mono a (SN.mono (St.lt (by assumption)) c b)))):A:=e
def RT(e:A:=by
 refine AU ?_;cases E
 first
  |exact GF ⟨rfl,DR⟩ rfl rfl EX
  |exact GF ⟨rfl,(by first|assumption|exact iq rfl|exact BQ _),DR⟩ rfl rfl EX):A:=e
def Tz{k:IntKind}{x:Int}(h:k.has x):k.wrap x=x:=by
 have:=D8 k x;cases k<;>simp only[IntKind.has,IntKind.min,IntKind.max,IntKind.signed,IntKind.bits,IntKind.wrap]at* <;>simp at* <;>omega
def Aeo:(0:Int)<=0/\(0:Int)<=1:=⟨by decide,by decide⟩
section
variable{P:Program}{ops:Array Oper}{C:World->Prop}{Q:Act->Prop}{n:FN}{m:SM}{rest:List Oper}
variable{d:Nat}{ty:TypeId}{pos:String}{af:Array Edge}{X Y:Operand}{t t1 t2:TypeId}{v:Value}{S:Nat->Prop}{L:List HP}{h:AV}{B:World}
def wJ{d:Option Nat}{c:Array TypeId}
  {b:List Value} (i:Fr n a m) (j:B5 m X=some (.func (.func f) #[] #[])) (g:xs.toList.mapM (B5 m)=some b) (k:(callFunc f b.toArray).run P w= .ok (.value v) w):
  (execOp a.eval ⟨d,.call ⟨.value X,xs,c⟩,ty,pos,af,none⟩).run P w= .ok (.value v) w:=by
 simp only[execOp,resolve,i.eval j,Deferred.ofValue,YR i g];simp[invoke,k]
def uG{c:Array TypeId}{b:List Value}(j:B5 m X=some (.func (.func f) #[] #[]))(g:xs.toList.mapM (B5 m)=some b)(l:∀w,(callFunc f b.toArray).run P w= .ok (.value v) w)(hd:Nat.blt d n.1=true)
  (k:QF P ops C Q rest n ((d,v)::m)):QF P ops C Q (⟨some d,.call ⟨.value X,xs,c⟩,ty,pos,af,none⟩::rest) n m:=λa i=>
 GH i hd (λw _=>wJ i j g (l w)) k
end
def MH(x y c:Int):Int×Int:=((x+y+c)%18446744073709551616,(x+y+c)/18446744073709551616)
def MG(x y c:Int):Int×Int:=((x-y-c)%18446744073709551616,if x<y+c then 1 else 0)
def WS{x:Int}:IntKind.has .u64 x↔0<=x/\x<=18446744073709551615:=by simp[IntKind.has,IntKind.min,IntKind.max,IntKind.signed,IntKind.bits]
def fE{x c:Int}(a:IntKind.has .u64 x)(b:IntKind.has .u64 y)(d:0<=c/\c<=1):IntKind.has .u64 (MH x y c).1/\IntKind.has .u64 (MH x y c).2/\0<=(MH x y c).2/\(MH x y c).2<=1:=by
 rw[WS]at *;unfold MH;simp only;rw[WS];omega
def fD{x c:Int}(a:IntKind.has .u64 x)(b:IntKind.has .u64 y)(d:0<=c/\c<=1):IntKind.has .u64 (MG x y c).1/\IntKind.has .u64 (MG x y c).2/\0<=(MG x y c).2/\(MG x y c).2<=1:=by
 rw[WS]at *;unfold MG;simp only;rw[WS];split<;>omega
def Ad3:Array Value->Sem Value:=λa=>do
 let (x,y,c) ←Extern.MathBitsCarry.three "Add64" a
 pure (Extern.MathBitsCarry.pair ((x+y+c)%Extern.MathBitsCarry.m64) ((x+y+c)/Extern.MathBitsCarry.m64))
def Abs:Array Value->Sem Value:=λa=>do
 let (x,y,b) ←Extern.MathBitsCarry.three "Sub64" a
 pure (Extern.MathBitsCarry.pair ((x+Extern.MathBitsCarry.m64-y-b)%Extern.MathBitsCarry.m64) (if x<y+b then 1 else 0))
def iX(x y c:Nat)(a:c<=1)(w:World):(Ad3 #[.int .u64 x,.int .u64 y,.int .u64 c]).run P w= .ok (.tuple #[.int .u64 (((x+y+c)%18446744073709551616:Nat):Int),.int .u64 (((x+y+c)/18446744073709551616:Nat):Int)]) w:=by
 have:c=0\/c=1:=Ω
 rcases this with rfl|rfl<;>rfl
def iV(x y c:Nat)(a:c<=1)(w:World):(Abs #[.int .u64 x,.int .u64 y,.int .u64 c]).run P w= .ok (.tuple #[.int .u64 (((x+18446744073709551616-y-c)%18446744073709551616:Nat):Int),.int .u64 ((if x<y+c then 1 else 0:Nat):Int)]) w:=by
 have:c=0\/c=1:=Ω
 rcases this with rfl|rfl<;>rfl
section
variable{P:Program}{f:Nat}{fn:Func}
def Xa (d:P.funcs[f]? =some fn) (g:(fn.name== "runtime.NumGoroutine")=false) (i:fn.body.isNone=true) (j:Extern.findNext fn=none) (k:Extern.find fn=some Ad3):
  ∀x y c:Int,IntKind.has .u64 x->IntKind.has .u64 y->(0<=c/\c<=1)->∀w,(callFunc f #[.int .u64 x,.int .u64 y,.int .u64 c]).run P w= .ok (.value (.tuple #[.int .u64 (MH x y c).1,.int .u64 (MH x y c).2])) w:=λx y c a b l w=>by
 rw[WS]at a b;obtain⟨x,rfl⟩:=Ajz a.1;obtain⟨y,rfl⟩:=Ajz b.1;obtain⟨c,rfl⟩:=Ajz l.1;rw[run_callFunc_extern d g i j k,iX x y c Ω];simp only[Result.andThen,MH];congr 5<;>omega
def XZ (d:P.funcs[f]? =some fn) (g:(fn.name== "runtime.NumGoroutine")=false) (i:fn.body.isNone=true) (j:Extern.findNext fn=none) (k:Extern.find fn=some Abs):
  ∀x y c:Int,IntKind.has .u64 x->IntKind.has .u64 y->(0<=c/\c<=1)->∀w,(callFunc f #[.int .u64 x,.int .u64 y,.int .u64 c]).run P w= .ok (.value (.tuple #[.int .u64 (MG x y c).1,.int .u64 (MG x y c).2])) w:=λx y c a b l w=>by
 rw[WS]at a b;obtain⟨x,rfl⟩:=Ajz a.1;obtain⟨y,rfl⟩:=Ajz b.1;obtain⟨c,rfl⟩:=Ajz l.1;rw[run_callFunc_extern d g i j k,iV x y c Ω];simp only[Result.andThen,MG];have m:(((x+18446744073709551616-y-c)%18446744073709551616:Nat):Int)=((x:Int)-y-c)%18446744073709551616:=Ω
 have n:((if x<y+c then 1 else 0:Nat):Int)=if(x:Int)<y+c then 1 else 0:=by split<;>split<;>omega
 rw[m,n]
end
section
variable{P:Program}{ex:List (Nat×AP)}{RR N:AP}{cs:List Code}{B:World}{h:AV}{n:FN}{m m0:SM}
end
section
variable{P:Program}{ops:Array Oper}{C:World->Prop}{Q:Act->Prop}{n:FN}{m:SM}{rest:List Oper}{a:Act}
variable{d:Nat}{ty:TypeId}{pos:String}{af:Array Edge}{X Y:Operand}{t t1 t2:TypeId}{kd:IntKind}{v:Value}{S:Nat->Prop}{h:AV}
end
def bL(s:ByteArray):xq:=s.data.toList.map λb=>(b.toNat:Int)
abbrev RB:A9 Int:=A9.intk .u8
section
variable{P:Program}{ops:Array Oper}{Q:Exit->Act->World->Prop}{n:FN}{m:SM}{rest:List Oper}{a:Act}
variable{d:Nat}{ty:TypeId}{pos:String}{af:Array Edge}{X Y:Operand}{B w:World}{h:AV}{S:Nat->Prop}{L L2:List HP}{v:Value}
end
def Agl(b T E:Nat)(s:ByteArray):HP where
 holds:=λS F h=>∃p v a d,(p= .pointer none\/p= .pointer (some ⟨b,0,none⟩))/\(s.size=0->v= .slice none 0 0)/\(Bx b T [p,v]).holds S a h/\(OS RB E v (bL s)).holds S d h/\(∀c,a c->F c)/\(∀c,d c->F c/\¬a c)
 loc:=by
  rintro S S' F h h' ⟨p,v,a,d,m,n,o,q,i,j⟩ k l;exact⟨p,v,a,d,m,n,HP.loc _ o k λb g=>l b (g.imp_right (i b)),HP.loc _ q k λb g=>l b (g.imp_right λx=>(j b x).1),i,j⟩
section
variable{P:Program}{ops:Array Oper}{Q:Exit->Act->World->Prop}{n:FN}{m:SM}{rest:List Oper}
variable{d:Nat}{ty:TypeId}{pos:String}{af:Array Edge}{X Y:Operand}{B w:World}{h:AV}{S:Nat->Prop}{L L2:List HP}{p v:Value}{b T E:Nat}{s:ByteArray}
def rA(j:p= .pointer none\/p= .pointer (some ⟨b,0,none⟩))(k:s.size=0->v= .slice none 0 0)(l:St S (Bx b T [p,v]::OS RB E v (bL s)::L) h):St S (Agl b T E s::L) h:=by
 obtain⟨m,d,n,o,g,q,i,t⟩:=l;exact⟨m,λc=>d c\/g c,⟨p,v,d,g,j,k,n,q,λc x=> .inl x,λc x=>⟨.inr x,(i c x).2⟩⟩,λc x=>x.elim (o c) λx=>(i c x).1,Sp.mono t λc a=>⟨a.1.1,λx=>x.elim a.1.2 a.2⟩⟩
def Af3(c:E8 P T=some [.pointer none,.slice none 0 0])(E:Nat)(hd:Nat.blt d n.1=true)(g:St S L h)(k:∀b h',St S (Agl b T E ByteArray.empty::L) h'->CO S h S h'->LF P ops Q rest B h' n ((d,.pointer (some ⟨b,0,none⟩))::m)):LF P ops Q (⟨some d,.alloc T,ty,pos,af,none⟩::rest) B h n m:=
 DT c hd (g.nil RB E) λb h' a e=>k b h' (rA (.inl rfl) (λ_=>rfl) a) e
def UC{Q:Act->Prop}{o:Option Addr}{t t2 c:TypeId}(g:B5 m X=some (.pointer o))(i:B5 m Y=some (.pointer none))(l:P.underlying t=some (.pointer c))(p:(P.info? c).map (·.size)=some k0)(hd:Nat.blt d n.1=true)(k:QF P ops C Q rest n ((d,.bool o.isNone)::m)):
  QF P ops C Q (⟨some d,.binOp .eql t X Y t2,ty,pos,af,none⟩::rest) n m:=λa b=>GH b hd (λw _=>by
 obtain⟨j,s,_⟩:=Ah6.1 p;have e:∀q:Nat,(Op.equalIn (q+1) t (.pointer o) (.pointer none)).run P w= .ok o.isNone w:=λq=>by
  cases o<;>simp[Op.equalIn,run_underlying l,sizeOf,typeInfo,s,sameAddr]
 have y:=e 9999;have u:∀w,(eqGuard .eql t X Y (.pointer o) (.pointer none)).run P w= .ok () w:=λw=>by cases o<;>(unfold eqGuard;simp)
 have v:(binOp .eql t (.pointer o) (.pointer none)).run P w= .ok (.bool o.isNone) w:=by
  simp only[binOp];have x:(Op.equalIn Op.maxDepth t (.pointer o) (.pointer none)).run P w= .ok o.isNone w:=e (Op.maxDepth-1);simp[Op.equal,x]
 simp[execOp,b.eval g,b.eval i,u,v]) k
end
def St.oscell{α}{r:A9 α}{v:Value}{l:List α}(a:St S L h)(b:OS r T v l∈L):v.cells=[v].toArray:=by
 obtain⟨c,cap,rfl,_⟩:=a.oslen b;rfl
section
variable{P:Program}{ex:List (Nat×AP)}{RR N:AP}{cs:List Code}{B:World}{h:AV}{n:FN}{m m':SM}{S:Nat->Prop}{L:List HP}{C:World->Prop}{l:List Oper}{fuel:Nat}{listed:Array Bool}
variable{d:Nat}{ty:TypeId}{pos:String}{af:Array Edge}{X Y:Operand}{t:TypeId}{v:Value}
def Aef(i:Nat){b:Addr}(g:l[i]? =some ⟨some d,.nilCheck X,ty,pos,af,none⟩)(c:V2 l listed i=true)(j:∀w,Wd B h w->C w)(o:B5 m X=some (.pointer (some b)))(hd:Nat.blt d n.1=true)(k:HF P l (QW P ex RR cs N) C fuel (listed.setIfInBounds i true) B h n ((d,.pointer (some b))::m)):HF P l (QW P ex RR cs N) C (fuel+1) listed B h n m:=
 Qa i g c j hd (λa w p _=>by simp[execOp,p.eval o]) k
def Aeu(i:Nat){o:Option Addr}{q z sz:Nat}(b:l[i]? =some ⟨some d,.call ⟨.builtin .len,#[X],#[t]⟩,ty,pos,af,none⟩)(c:V2 l listed i=true)(g:∀w,Wd B h w->C w)(j:B5 m X=some (.slice o q z))(p:Q4 P t e sz=true)(hd:Nat.blt d n.1=true)(k:HF P l (QW P ex RR cs N) C fuel (listed.setIfInBounds i true) B h n ((d,.int .i64 q)::m)):HF P l (QW P ex RR cs N) C (fuel+1) listed B h n m:=
 Qa i b c g hd (λa w s _=>by
  obtain⟨i,u,_⟩:=Nw p;simp[execOp,resolve,invoke,builtin,Builtin.len_,s.eval j,run_underlying u,goInt]) k
end
section
variable{P:Program}{ops:Array Oper}{n:FN}{m:SM}{d:Nat}{ty:TypeId}{pos:String}{af:Array Edge}{X Y:Operand}{t:TypeId}{kd:IntKind}{v:Value}{S:Nat->Prop}{h:AV}
end
section
variable{P:Program}{ex:List (Nat×AP)}{RR N:AP}{cs:List Code}{B:World}{h:AV}{n:FN}{m m0:SM}
end
section
variable{P:Program}{ops:Array Oper}{Q:Exit->Act->World->Prop}{a:Act}{w:World}
def Xb{K:Act->World->Prop}(m:o.guard=none)(g:∀a w,K a w->K' a w)(h:wpList P ops (Exit.then K Q) [o] a w):wpList P ops (Exit.then K' Q) [o] a w:=by
 unfold wpList at h ⊢;rw[Agp (by simp[Region.wanted,m])]at h ⊢;rcases h with b|⟨b,i,j,h2⟩
 ·refine .inl ?_;unfold Oper.wp at b ⊢;generalize (execOp a.eval o).run P w=r at b
  cases r with
  |ok n w'=>
   cases n<;>simp only[Oper.upon]at b ⊢
   case value v=>exact g _ _ b
   case skip=>exact g _ _ b
   case defer d=>exact g _ _ b
   case enter f args=>
    refine b.mono λe k l=>?_;cases e with
    |returned v=>exact g _ _ l
    |panicked c=>exact l
    |outgrown=>obtain⟨i,j,h0⟩:=l;exact⟨i,j,h0⟩
   case row r args=>exact Rows.mono b λv k p=>g _ _ p
  |halt x w'=>cases x<;>simp only[Oper.upon]at b ⊢;exact b
 ·exact .inr ⟨b,i,j,h2⟩
end
section
variable{P:Program}{ops:Array Oper}{Q:Exit->Act->World->Prop}{B:World}{n:FN}{m:SM}{h0:AV}
def YX(As:List Nat)(R:XR):FR:=λ_ X F i v h=>R X i v h/\∀b,F b↔i∈As/\Pf v=some b
def YX.fr{R:XR}{a:Nat->Value}{X:Nat->Prop}{i:Nat}{v:Value}(k:Aa7 (YX As R) a X i v h):R X i v h:=by
 obtain⟨_,_,_,k,_⟩:=k;exact k
def PA.sub{R b:AR}{h:AV}{K:SM->Prop}(c:∀i v,b i v h->R i v h):∀(a:List (Nat×Nat))(fr:SM),PA R h K a fr->PA b h K a fr
 |[],_,k=>k
 |(_,d)::a,fr,k=>λu g=>PA.sub c a _ (k u (c _ _ g))
def YX.step{R:XR}(q:∀X i,i∈As->∀v h,R X i v h->∃b,Pf v=some b/\h0.size<=b/\b<h.size)(y:∀i,i∈As->∀X s v h,R X i v h->R s i v h)
  (l:∀i v h h' X s,Ef h0 h->Ef h h'->(∀b,X b->s b)->(∀b,s b->X b\/h.size<=b)->R X i v h->R s i v h') {i:Nat} {o:Oper} {d:Nat} {D:List (Nat×Nat)} (k:VL P ops Q B n m h0 R As i o d D):XV P ops Q B n m h0 (YX As R) i o d D:=λF X mt h G U=>by
 have H:∀v h',Ef h h'->Abd (R X) As i h v h'->uE (YX As R) F X i h v h':=λv h' V ⟨t,z⟩=>by
  by_cases p:i∈As
  ·obtain⟨b,u,W⟩:=z (Ag2.2 p);obtain⟨b',I,e4,Y⟩:=q X i p v h' t;rw[u]at I;cases I;exact⟨λc=>c=b,λc A=>by subst A;exact⟨W,Y⟩,y i p _ _ _ _ t,λc=>⟨λh=>⟨p,by rw[h];exact u⟩,λh=>by rw[u]at h;exact(Ags h.2).symm⟩⟩
  ·refine⟨λ_=>False,λc A=>A.elim,?_,λc=>⟨λh=>h.elim,λh=>p h.1⟩⟩;exact l i v h' h' X _ (G.trans V) (Ef.refl h') (λb C=> .inl C) (λb C=> .inl (C.resolve_right id)) t
 refine PA.imp (λfr j=>?_) _ _ (PA.sub (λi v Z=>YX.fr Z) _ _ (k X mt h G U));have J:∀o:Oper,o.guard=none->LF P ops (Exit.then (KS B n d (Abd (R X) As i h) h (fr++(m++mt))) Q) [o] B h n (fr++(m++mt))->LF P ops (Exit.then (KS B n d (uE (YX As R) F X i h) h (fr++(m++mt))) Q) [o] B h n (fr++(m++mt)):=λo x k a w hf hw=>Xb x (λa w ⟨v,h',q1,q2,K,q4⟩=>⟨v,h',q1,q2,K,H v h' K q4⟩) (k a w hf hw);cases x:o.guard with
 |none=>rw[x]at j;exact J o x j
 |some g=>
  rw[x]at j;obtain⟨dg,e,k⟩:=j;refine⟨dg,e,k.imp (λk=>⟨k.1,J _ rfl k.2⟩) λ⟨v,t,z,M⟩=>⟨v,t,z,H _ _ (Ef.refl h) ⟨M,λp=>?_⟩⟩⟩;obtain⟨b,u,_⟩:=q X i (Ag2.1 p) _ _ M;cases u
def WO.x{R:AR}{i:Nat}{j:List (Nat×Nat)}(k:WO P ops Q B n m h0 R i o d j):VL P ops Q B n m h0 (λ_=>R) [] i o d j:=λX mt h p _=>by
 refine PA.imp (λfr b=>?_) _ _ (k mt h p);have l:∀o:Oper,o.guard=none->LF P ops (Exit.then (KS B n d (R i) h (fr++(m++mt))) Q) [o] B h n (fr++(m++mt))->LF P ops (Exit.then (KS B n d (Abd R [] i h) h (fr++(m++mt))) Q) [o] B h n (fr++(m++mt)):=λo c k a w q s=>Xb c (λa w ⟨v,h',t,u,y,z⟩=>⟨v,h',t,u,y,z,λh=>by cases h⟩) (k a w q s);cases c:o.guard with
 |none=>rw[c]at b;exact l o c b
 |some g=>
  rw[c]at b;obtain⟨A,e,k⟩:=b;exact⟨A,e,k.imp (λk=>⟨k.1,l _ rfl k.2⟩) λk=>k⟩
def Yd{R:XR}(ks As:List Nat)(V:∀X i,i∈As->∀v h,R X i v h->∃b,Pf v=some b/\h0.size<=b/\b<h.size)(W:∀i,i∈As->∀X z v h,R X i v h->R z i v h)(Y:∀t,t∈ks->t<ops.size)(Z:ks.Nodup)(A:SY ops=true)
  (F:List Nat) (I:ks=[]\/UT ops ks F=true) (aa:QC ops ks) (ab:Qq ops ks=true) (J:Region.noSelect ops=true) (hQ:∀c a w,¬Q (.panic c) a w)
  (ac:∀f,f∈F->f∉As) (hF:∀f,f∈F->(f<ops.size/\f∉ks)/\N5 ops f=true/\∃o d q,ops[f]? =some o/\o.dst=some d/\Uf ops o q=true/\∀X,Qe P ops n m h0 (R X) f o q)
  (K:Wj ops ks n (m.map (·.1))=true)
  (l:∀i v h h' X z,Ef h0 h->Ef h h'->(∀b,X b->z b)->(∀b,z b->X b\/h.size<=b)->R X i v h->R z i v h')
  (ad:∀i,i∈As->i∉ks) (step:∀i o d,i∉ks->ops[i]? =some o->o.dst=some d->∃q,Uf ops o q=true/\VL P ops Q B n m h0 R As i o d q)
  (ae:∀a w h X,Wd B h w->Ef h0 h->Fr n a m->(∀b,X b->h0.size<=b/\b<h.size)->(∀i,i<ops.size->i∉ks->∃d v,Io ops i=some d/\a.tmps[d]? =some v/\R X i v h)->sE (YT ops As) (λs=>a.tmps[s]?)->Aet (YT ops As) (λs=>a.tmps[s]?) X->wpList P ops Q (ks.filterMap λt=>ops[t]?) a w)
  (p:Nat) (g:Array Bool) (a:Act) (w:World) (C:Yu g=p) (x:Ty ops ks g) (af:∀i,g.getD i false=false) (h1:Wd B h0 w) (h2:Fr n a m):wpAny P .any ops Q p g a w:=by
 refine Yc (R:=YX As R) ks Y Z A F I aa ab J hQ (λf hf=>?_) K (λM i v h h' X z F o1 o2 _ x1 x2 k=>⟨l i v h h' X z o1 o2 x1 x2 k.1,k.2⟩) (λM al X F i v h _ k=>k) (λi o d x ho hd=>?_) (λa w h fp M g1 g2 g3 g4 g5 g6=>?_) p g a w C x ⟨λ_ _=>False,λ_=>undef,h0,h1,Ef.refl h0,h2,λ_ _ h=>h.elim,λ_ _ _ h=>h.elim,λ_ _ _ h=>h,λi _ hl=>by rw[af i]at hl;cases hl⟩
 ·obtain⟨q1,q2,o,d,q,q3,q4,q5,q6⟩:=hF f hf;exact⟨q1,q2,o,d,q,q3,q4,q5,λM X mt h hO=>PA.imp (λfr k a ha=>by
   obtain⟨v,y1,y2⟩:=k a ha;exact⟨v,y1,y2,λb=>⟨λh=>h.elim,λh=>ac f hf h.1⟩⟩) _ _ (PA.sub (λi v hv=>YX.fr hv) _ _ (q6 X mt h hO))⟩
 ·obtain⟨q,q1,q2⟩:=step i o d x ho hd;exact⟨q,q1,YX.step V W l q2⟩
 ·have D:∀s,s∈YT ops As->∀u,a.tmps[s]? =some u->∃i,i∈As/\Io ops i=some s/\u=M i/\∀b,Pf u=some b->fp i b:=λs U u C=>by
   obtain⟨i,x,e⟩:=Ajx.1 U;have ag:i<ops.size:=by
    rcases Ag7 i ops.size with h|h
    ·exact h
    ·unfold Io at e;rw[Aj5 h]at e;cases e
   obtain⟨d,G,y,_,H⟩:=g6 i ag (ad i x);rw[e]at G;cases G;rw[C]at y;cases y;exact⟨i,x,e,rfl,λb A=>(H b).2 ⟨x,A⟩⟩
  refine ae a w h (UX fp) g1 g2 g3 (λb ⟨j,hj⟩=>g4 j b hj) (λi x hk=>?_) (λs U s' ah ai u u' C aj b b' A ak e=>?_) (λs U u C b A=>?_)
  ·obtain⟨d,G,y,H,_⟩:=g6 i x hk;exact⟨d,M i,G,y,H⟩
  ·obtain⟨i,_,G,_,y⟩:=D s U u C;obtain⟨j,_,H,_,e4⟩:=D s' ah u' aj;subst e;have:=g5 i j b (y b A) (e4 b ak);subst this;rw[G]at H;exact ai (Ags H)
  ·obtain⟨i,_,_,_,y⟩:=D s U u C;exact⟨i,y b A⟩
end
def xZ(ops:Array Oper)(a:Nat)(F:List Nat):Bool:=Nat.ble a ops.size&&YW ops (List.range' a (ops.size-a)) F
def bA{α}(l:List α):∀(j a:Nat),l.length-a=j->(List.range' a j).filterMap (λt=>l[t]?)=l.drop a
 |0,a,h=>by rw[Ais Ω];rfl
 |j+1,a,h=>by
  have b:a<l.length:=Ω
  rw[List.range'_succ,List.filterMap_cons_some (Agw b),bA l j (a+1) Ω,<-Ai2 b]
section
variable{P:Program}{ex:List (Nat×AP)}{RR N:AP}{cs:List Code}{B:World}{h:AV}{n:FN}{m m0:SM}{S:Nat->Prop}{L:List HP}
def bJ{id:Nat}(ks F As:List Nat)(R:XR)(pss:List (List (Nat×Nat)))(fs:List (Nat×Nat))(hm:P.follows .mixedOrders=true)(hc:YW l.toArray ks F=true)(ms:List Nat)(aa:m.map (·.1)=ms)(G:Wj l.toArray ks n ms=true)
  (y:Wg l.toArray ks l pss=true) (ab:(fs.all λp=>Nat.blt p.1 l.length&& !ks.contains p.1&&(Io l.toArray p.1).any (Nat.beq p.2 ·))=true) (ac:(ks.filterMap λt=>l[t]?)=ls) (H:VZ m0 m)
  (A:∀i v C V X Y,Ef h C->Ef C V->(∀b,X b->Y b)->(∀b,Y b->X b\/C.size<=b)->R X i v C->R Y i v V)
  (ad:(As.all λi=> !ks.contains i&& !F.contains i)=true) (I:∀i,i∈As->rW h R i)
  (hF:RN P l.toArray ks n m h R F)
  (step:Fh P l.toArray (Qx ex RR (W P ex RR cs N)) B n m h R ks As 0 l pss)
  (ae:∀h' X,Ef h h'->(∀b,X b->h.size<=b/\b<h'.size)->PA (R X) h' (λfr=>sE (YT l.toArray As) (lk fr)->Aet (YT l.toArray As) (lk fr) X->LF P l.toArray (Qx ex RR (W P ex RR cs N)) ls B h' n (fr++m)) fs []):WF P ex RR (.region id l.toArray true::cs) N B h n m0:=by
 intro a w J hw;subst aa;simp only[YW,Agu,Ahg,Ahb]at hc;obtain⟨⟨⟨⟨⟨⟨C,V⟩,h3⟩,h4⟩,h5⟩,h6⟩,h7⟩:=hc;simp only[Wg,Agu]at y;have K:l.length=pss.length:=Ag1 y.1;have q:∀i,i∈As->i∉ks/\i∉F:=λi g=>by
  have:=Agz.1 ad i g;simp only[Agu,Ahn]at this;exact⟨λh=>(by rw[Ag2.2 h]at this;cases this.1),λh=>(by rw[Ag2.2 h]at this;cases this.2)⟩
 refine λrd af=>RZ af OY hm (Yd (R:=R) (B:=B) (h0:=h) (n:=n) (m:=m) ks As (λX i g v h' M=>by obtain⟨r,Q,Z⟩:=I i g;rw[Q]at M;exact Z v h' M) (λi g X Y v h' M=>by obtain⟨r,Q,_⟩:=I i g;rw[Q]at M ⊢;exact M) (λt ht=>by have:=Agz.1 C t ht;simp[Nat.blt]at this ⊢;omega) V h6 F (h3.imp (λe=>by cases ks with|nil=>rfl|cons _ _=>simp at e) λx=>x) (Nr h4) h5 h7 (λc a w hq=>hq) (λf J hA=>(q f hA).2 J) (λf J=>hF.at_ f J) G A (λi g=>(q i g).1) (λi o d g ho hd=>?_) (λa w h' X g1 g2 g3 gX g4 g5 g6=>?_) _ _ _ _ ?_ ⟨by simp,λj oj _ hl=>(by rw[getD_replicate_false]at hl;cases hl),λt ht=>getD_in (by have:=Agz.1 C t ht;simp[Nat.blt]at this ⊢;omega) (getD_replicate_false _ _)⟩ (λi=>getD_replicate_false _ _) hw.drew (J.sub H))
 ·have D:l[i]? =some o:=by simpa using ho
  obtain⟨ps,q1,q2⟩:=Fh.at_ (k:=0) step K (by rw[Ahw];exact g) D hd;rw[Ahw]at q2;refine⟨ps,?_,q2⟩;have ai:i<l.length:=(Ag0.1 D).1;have hz:((o,ps),i)∈(l.zip pss).zipIdx:=by
   rw[Aio];exact⟨i,by rw[List.getElem?_zipIdx,(Aki (z:=(o,ps))).2 ⟨D,q1⟩];simp⟩
  have:=Agz.1 y.2 _ hz;simp only[Ahg,Ag2,g,Aid]at this;exact this
 ·obtain⟨fr,k1,k2⟩:=OB (a:=a) (n:=n) _ _ (ae h' X g2 gX) (λp hp=>by
   have e:=Agz.1 ab p hp;simp only[Agu,Ahn]at e;have Q:p.1<l.toArray.size:=by have:=e.1.1;simp[Nat.blt]at this ⊢;omega
   obtain⟨d,v,q1,q2,q3⟩:=g4 p.1 Q (λh=>by rw[Ag2.2 h]at e;cases e.1.2);have Z:=e.2;rw[q1]at Z;have:p.2=d:=Ag1 (by simpa using Z);exact⟨v,by rw[this];exact q2,q3⟩) ⟨g3.dfr,g3.siz,λi v g=>by simp[lk]at g⟩
  have U:(ks.filterMap λt=>l.toArray[t]?)=ls:=by rw[<-ac];congr 1;funext t;simp
  rw[U];exact k1 (λs hs s' ag ah u u' e e'=>g5 s hs s' ag ah u u' (k2.at_ _ _ e) (k2.at_ _ _ e')) (λs hs u e=>g6 s hs u (k2.at_ _ _ e)) a w (k2.append g3) g1
 ·unfold Yu;rw[Array.toList_replicate];simp
def U5{id:Nat}(b:Nat)(F:List Nat)(R:AR)(pss:List (List (Nat×Nat)))(fs:List (Nat×Nat))(hm:P.follows .mixedOrders=true)(hc:xZ l.toArray b F=true)(ms:List Nat)(G:m.map (·.1)=ms)(z:Wj l.toArray (List.range' b (l.toArray.size-b)) n ms=true)
  (H:ZA l.toArray (l.take b) pss=true) (I:(fs.all λp=>Nat.blt p.1 b&&(Io l.toArray p.1).any (Nat.beq p.2 ·))=true) (A:VZ m0 m)
  (q:∀i v s u,Ef h s->Ef s u->R i v s->R i v u)
  (hF:TQ P l.toArray b n m h R F)
  (step:A7 P l.toArray (Qx ex RR (W P ex RR cs N)) B n m h R 0 (l.take b) pss)
  (J:∀h',Ef h h'->PA R h' (λfr=>LF P l.toArray (Qx ex RR (W P ex RR cs N)) (l.drop b) B h' n (fr++m)) fs []):WF P ex RR (.region id l.toArray true::cs) N B h n m0:=by
 intro a w C hw;subst G;simp only[xZ,YW,Agu,Ahg,Ahb]at hc;obtain⟨h0,⟨⟨⟨⟨⟨s,u⟩,h3⟩,h4⟩,h5⟩,h6⟩,h7⟩:=hc;have ac:b<=l.toArray.size:=Ajr h0;have g:∀t,t∈List.range' b (l.toArray.size-b)↔b<=t/\t<l.toArray.size:=λt=>by rw[List.mem_range'_1];omega
 refine λrd K=>RZ K OY hm (Yd (R:=λ_=>R) (B:=B) (h0:=h) (n:=n) (m:=m) (List.range' b (l.toArray.size-b)) [] (λX i k=>by cases k) (λi k=>by cases k) (λt M=>((g t).1 M).2) u h6 F (h3.imp (λe=>List.isEmpty_iff.1 e) λx=>x) (Nr h4) h5 h7 (λc a w hq=>hq) (λf C hA=>by cases hA) (λf C=>by
  obtain⟨D,y,o,d,Q,U,q4,q5,q6⟩:=hF.at_ f C;exact⟨⟨Ω,λh=>by have:=(g f).1 h;omega⟩,y,o,d,Q,U,q4,q5,λ_=>q6⟩) z (λi v s u _ _ o1 o2 _ _ r=>q i v s u o1 o2 r) (λi k=>by cases k) (λi o d k V hd=>?_) (λa w h' X g1 g2 Y gX g4 g5 g6=>?_) _ _ _ _ ?_ ⟨by simp,λj oj _ hl=>(by rw[getD_replicate_false]at hl;cases hl),λt M=>getD_in (by have:=((g t).1 M).2;simp at this ⊢;omega) (getD_replicate_false _ _)⟩ (λi=>getD_replicate_false _ _) hw.drew (C.sub A))
 ·have Z:i<l.toArray.size:=by
   rcases Ag7 i l.toArray.size with h|h
   ·exact h
   ·rw[Aj5 h]at V;cases V
  have aa:i<b:=by
   rcases Ag7 i b with h|h
   ·exact h
   ·exact absurd ((g i).2 ⟨h,Z⟩) k
  have ab:(l.take b)[i]? =some o:=by rw[Aif aa];simpa using V
  obtain⟨Q,D,y⟩:=A7.at_ step H ab hd;rw[Ahw]at y;exact⟨Q,D,y.x⟩
 ·obtain⟨fr,k1,k2⟩:=OB (a:=a) (n:=n) _ _ (J h' g2) (λp hp=>by
   have e:=Agz.1 I p hp;simp only[Agu]at e;have e1:p.1<b:=(by simpa[Nat.blt]using e.1:p.1+1<=b)
   obtain⟨d,v,D,y,U⟩:=g4 p.1 Ω (λh=>by have:=(g p.1).1 h;omega);have e2:=e.2;rw[D]at e2;have:p.2=d:=Ag1 (by simpa using e2);exact⟨v,by rw[this];exact y,U⟩) ⟨Y.dfr,Y.siz,λi v k=>by simp[lk]at k⟩
  rw[show(List.range' b (l.toArray.size-b)).filterMap (λt=>l.toArray[t]?)=l.drop b from by
   simp only[List.getElem?_toArray,Ajv];exact bA l _ b rfl]
  exact k1 a w (k2.append Y) g1
 ·unfold Yu;rw[Array.toList_replicate];simp
def OA{id:Nat}(a:Nat)(R:AR)(pss:List (List (Nat×Nat)))(g:List (Nat×Nat))(u:P.follows .mixedOrders=true)(w:xZ l.toArray a []=true)(ms:List Nat)(j:m.map (·.1)=ms)(c:Wj l.toArray (List.range' a (l.toArray.size-a)) n ms=true)
  (k:ZA l.toArray (l.take a) pss=true) (o:(g.all λp=>Nat.blt p.1 a&&(Io l.toArray p.1).any (Nat.beq p.2 ·))=true) (d:VZ m0 m)
  (b:∀i v q t,Ef h q->Ef q t->R i v q->R i v t)
  (step:A7 P l.toArray (Qx ex RR (W P ex RR cs N)) B n m h R 0 (l.take a) pss)
  (s:∀h',Ef h h'->PA R h' (λfr=>LF P l.toArray (Qx ex RR (W P ex RR cs N)) (l.drop a) B h' n (fr++m)) g []):WF P ex RR (.region id l.toArray true::cs) N B h n m0:=U5 a [] R pss g u w ms j c k o d b trivial step s
end
def Acj:SM->SM->List Nat->Option SM
 |[],_,_=>some []
 |(k,v)::r,m,s=>match cond (s.any λj=>Nat.beq k j) (some v) (lk m k)with
  |some w=>match Acj r m (k::s)with
   |some l=>some ((k,w)::l)
   |none=>none
  |none=>none
def kq:∀{c m l:SM}(s:List Nat),Acj c m s=some l->c=l->∀i u,(s.any λj=>Nat.beq i j)=false->lk c i=some u->lk m i=some u
 |[],m,l,s,_,_,i,u,_,y=>by cases y
 |(k,v)::r,m,l,s,y,e,i,u,d,a=>by
  simp only[Acj]at y;split at y
  ·rename_i w g;split at y
   ·rename_i x n;cases y;injection e with o p
    injection o with _ q
    simp only[lk]at a;cases b:Nat.beq k i with
    |true=>
     have:=Ag1 b;subst this;rw[b,Ago]at a;rw[d,Agq]at g;rw[g,<-q,a]
    |false=>
     rw[b,Agq]at a;refine kq (k::s) n p i u ?_ a;rw[List.any_cons,d,Bool.or_false];cases t:Nat.beq i k with
     |false=>rfl
     |true=>
      have:=Ag1 t;subst this;rw[show Nat.beq i i=true by simp]at b;cases b
   ·cases y
  ·cases y
section
variable{P:Program}{ops:Array Oper}{C:World->Prop}{n:FN}{m:SM}
def cB{b:SM}(d:Acj b m []=some b):QF P ops C (λa=>Fr n a b) [] n m:=QF.nil λa c=>⟨c.dfr,c.siz,λi u g=>c.at_ i u (kq [] d rfl i u rfl g)⟩
def Aal{c b:SM}(g:So ops n.1 l m=some c)(d:Acj b c []=some b):QF P ops C (λa=>Fr n a b) l n m:=PL g (cB d)
end
section
variable{P:Program}{ex:List (Nat×AP)}{RR N:AP}{cs:List Code}{B:World}{h:AV}{n:FN}{m m':SM}{S:Nat->Prop}{L:List HP}{C:World->Prop}{l:List Oper}{fuel:Nat}{listed:Array Bool}
variable{d:Nat}{ty:TypeId}{pos:String}{af:Array Edge}{X Y:Operand}{t:TypeId}{v:Value}
def nR(l:List Oper)(m:SM)(g:Option (Nat×Bool)):Bool:=match g with
 |none=>true
 |some (j,b)=>match (l[j]?).bind (·.dst)with
  |none=>false
  |some e=>match lk m e with
   |some (.bool c)=>c==b
   |_=>false
def V3(k:Fr n a m)(d:nR l m o.guard=true):Region.wanted o (yielded l.toArray a.tmps)=true:=by
 unfold nR at d;unfold Region.wanted;cases p:o.guard with
 |none=>rfl
 |some q=>
  obtain⟨j,b⟩:=q;rw[p]at d;simp only at d ⊢;cases g:(l[j]?).bind (·.dst)with
  |none=>rw[g]at d;cases d
  |some e=>
   rw[g]at d;simp only at d;cases i:lk m e with
   |none=>rw[i]at d;cases d
   |some u=>
    rw[i]at d;cases u with
    |bool c=>
     have s:c=b:=by simpa using d
     have:=k.at_ e _ i;subst s;simp[yielded,g,this]
    |_=>cases d
def Afj(l:List Oper)(m:SM)(g:Option (Nat×Bool)):Bool:=match g with
 |none=>false
 |some (j,b)=>match (l[j]?).bind (·.dst)with
  |none=>false
  |some e=>match lk m e with
   |some (.bool c)=> !(c==b)
   |some _=>true
   |none=>false
def xJ(p:Fr n a m)(d:Afj l m o.guard=true):Region.wanted o (yielded l.toArray a.tmps)=false:=by
 unfold Afj at d;unfold Region.wanted;cases s:o.guard with
 |none=>rw[s]at d;cases d
 |some q=>
  obtain⟨j,b⟩:=q;rw[s]at d;simp only at d ⊢;cases g:(l[j]?).bind (·.dst)with
  |none=>rw[g]at d;cases d
  |some e=>
   rw[g]at d;simp only at d;cases i:lk m e with
   |none=>rw[i]at d;cases d
   |some u=>
    rw[i]at d;cases u with
    |bool c=>
     have t:(c==b)=false:=by simpa using d
     have:=p.at_ e _ i;have k:¬c=b:=by simpa using t
     simp[yielded,g,this,k]
    |_=>
     have:=p.at_ e _ i;simp[yielded,g,this]
def Qu{o:Op}{gd:Option (Nat×Bool)}(i:Nat)(q:l[i]? =some ⟨some d,o,ty,pos,af,gd⟩)(c:V2 l listed i=true)(s:nR l m gd=true)(t:∀w,Wd B h w->C w)(hd:Nat.blt d n.1=true)
  (b:∀a w,Fr n a m->C w->(execOp a.eval ⟨some d,o,ty,pos,af,gd⟩).run P w= .ok (.value v) w) (k:HF P l (QW P ex RR cs N) C fuel (listed.setIfInBounds i true) B h n ((d,v)::m)):HF P l (QW P ex RR cs N) C (fuel+1) listed B h n m:=by
 intro a w g p;simp only[V2,Agu]at c;exact wpAnyH_take (oi:=⟨some d,o,ty,pos,af,gd⟩) (v:=v) (by simpa using q) c.1.1 c.1.2 c.2 (λ_ _ _ u=>u.elim) (.inl ⟨V3 g s,λw' j=>b a w' g j⟩) (t w p) (k _ _ (g.put hd v) p)
def Af5{o:Op}{gd:Option (Nat×Bool)}(i:Nat)(j:l[i]? =some ⟨some d,o,ty,pos,af,gd⟩)(c:V2 l listed i=true)(p:Afj l m gd=true)(q:∀w,Wd B h w->C w)(hd:Nat.blt d n.1=true)
  (k:HF P l (QW P ex RR cs N) C fuel (listed.setIfInBounds i true) B h n ((d,undef)::m)):HF P l (QW P ex RR cs N) C (fuel+1) listed B h n m:=by
 intro a w b g;simp only[V2,Agu]at c;exact wpAnyH_take (oi:=⟨some d,o,ty,pos,af,gd⟩) (v:=undef) (by simpa using j) c.1.1 c.1.2 c.2 (λ_ _ _ s=>s.elim) (.inr ⟨xJ b p,rfl⟩) (q w g) (k _ _ (b.put hd undef) g)
def L6{gd:Option (Nat×Bool)}(i:Nat)(b:l[i]? =some ⟨some d,.move X,ty,pos,af,gd⟩)(c:V2 l listed i=true)(g:nR l m gd=true)(j:∀w,Wd B h w->C w)(o:B5 m X=some v)(hd:Nat.blt d n.1=true)(k:HF P l (QW P ex RR cs N) C fuel (listed.setIfInBounds i true) B h n ((d,v)::m)):HF P l (QW P ex RR cs N) C (fuel+1) listed B h n m:=
 Qu i b c g j hd (λa w p _=>by simp[execOp,p.eval o]) k
def TO{gd:Option (Nat×Bool)}(i:Nat)(b:l[i]? =some ⟨some d,.assign X,ty,pos,af,gd⟩)(c:V2 l listed i=true)(g:nR l m gd=true)(j:∀w,Wd B h w->C w)(o:B5 m X=some v)(hd:Nat.blt d n.1=true)(k:HF P l (QW P ex RR cs N) C fuel (listed.setIfInBounds i true) B h n ((d,v)::m)):HF P l (QW P ex RR cs N) C (fuel+1) listed B h n m:=
 Qu i b c g j hd (λa w p _=>by simp[execOp,p.eval o]) k
def Sg{gd:Option (Nat×Bool)}{xs:Array Value}(i:Nat)(b:l[i]? =some ⟨some d,.extract X j,ty,pos,af,gd⟩)(c:V2 l listed i=true)(g:nR l m gd=true)(o:∀w,Wd B h w->C w)(p:B5 m X=some (.tuple xs))(q:xs[j]? =some v)(hd:Nat.blt d n.1=true)(k:HF P l (QW P ex RR cs N) C fuel (listed.setIfInBounds i true) B h n ((d,v)::m)):HF P l (QW P ex RR cs N) C (fuel+1) listed B h n m:=
 Qu i b c g o hd (λa w s _=>by simp[execOp,s.eval p,Instr.extract,q]) k
def SK(S:Nat->Prop)(h:AV)(w:World):Prop:=∀b,S b->w.heap[b]? =h[b]?
def SK.of(e:CO S h S' h'):Wd B h' w->SK S h w:=λa b c=>by rw[a.heap];exact e.same b c
def XO{α}{r:A9 α}{xs:List α}{gd:Option (Nat×Bool)}{j:Int}{x:α}(i:Nat)(p:l[i]? =some ⟨some d,.indexAddr t X Y,ty,pos,af,gd⟩)(c:V2 l listed i=true)(s:nR l m gd=true)(u:∀w,Wd B h w->C w)(y:B5 m X=some v)(z:B5 m Y=some (.int .i64 j))(k0:Sl g h0 r v xs)(A:Q4 P t e r.sz=true)(b:Go.Proofs.YtabonambpbofgaaGreat.ix xs j=some x)(hd:Nat.blt d n.1=true)
  (k:∀q,Pt g h0 r q x->HF P l (QW P ex RR cs N) C fuel (listed.setIfInBounds i true) B h n ((d,q)::m)):HF P l (QW P ex RR cs N) C (fuel+1) listed B h n m:=by
 obtain⟨D,cap,rfl,F⟩:=k0.at_ (FQ b).2;have G:j.toNat<xs.length:=(Ag0.1 (FQ b).2).1;exact Qu i p c s u hd (λa w o _=>by simp[execOp,o.eval y,o.eval z,NF (P:=P) (w:=w) (cap:=cap) (a:=D) A (FQ b).1 G]) (k _ F)
def XQ{α β}{r:A9 α}{r':A9 β}{f:α->β}{x:α}{b:Nat->Prop}{gd:Option (Nat×Bool)}(i:Nat)(g:l[i]? =some ⟨some d,.fieldAddr t X j,ty,pos,af,gd⟩)(c:V2 l listed i=true)(o:nR l m gd=true)(s:∀w,Wd B h w->C w)(u:B5 m X=some p)(k0:Pt b h0 r p x)(v:FB r off r' f)(y:eJ P t j off=true)(hd:Nat.blt d n.1=true)
  (k:∀q,Pt b h0 r' q (f x)->HF P l (QW P ex RR cs N) C fuel (listed.setIfInBounds i true) B h n ((d,q)::m)):HF P l (QW P ex RR cs N) C (fuel+1) listed B h n m:=by
 obtain⟨a,rfl,z⟩:=k0.fld v;exact Qu i g c o s hd (λa w A _=>by simp[execOp,A.eval u,NG y]) (k _ z)
def TN{α}{r:A9 α}{x:α}{gd:Option (Nat×Bool)}(i:Nat)(q:l[i]? =some ⟨some d,.load t X,ty,pos,af,gd⟩)(c:V2 l listed i=true)(s:nR l m gd=true)(u:∀w,Wd B h w->C w)(y:∀w,C w->SK g h0 w)(z:B5 m X=some p)(k0:Pt g h0 r p x)(A:LD P t r.sz r.ag=true)(D:r.ag=false->r.sz=1)(hd:Nat.blt d n.1=true)
  (k:∀v,Rd g h0 r v x->HF P l (QW P ex RR cs N) C fuel (listed.setIfInBounds i true) B h n ((d,v)::m)):HF P l (QW P ex RR cs N) C (fuel+1) listed B h n m:=by
 obtain⟨cs',F,o⟩:=k0;have b:=r.len o;refine Qu (v:=if r.ag then .agg cs'.toArray else cs'.headD undef) i q c s u hd (λa w G H=>?_) (k _ ⟨cs',rfl,o⟩);have j:O4 g w.heap p cs':=F.mono (λ_ x=>x) (y w H);have:=Nx (P:=P) (w:=w) (t:=t) j b A D;simp[execOp,G.eval z,this]
def Ym(i j:Nat){d g:Oper}(v:l[i]? =some d)(x:l[j]? =some g)(p:d.guard=none)(s:g.guard=none)(c:Region.ready .any l.toArray listed=[i,j])
  (y:LF P l.toArray (Exit.then (λo w'=>C w'/\wpAnyH P .any l.toArray (QW P ex RR cs N) C fuel (listed.setIfInBounds i true) o w') (QW P ex RR cs N)) [d] B h n m)
  (z:LF P l.toArray (Exit.then (λo w'=>C w'/\wpAnyH P .any l.toArray (QW P ex RR cs N) C fuel (listed.setIfInBounds j true) o w') (QW P ex RR cs N)) [g] B h n m):HF P l (QW P ex RR cs N) C (fuel+1) listed B h n m:=by
 intro a w t u;refine wpAnyH_all c (by simp) λq k=>?_;rcases Agv.1 k with rfl|k
 ·unfold wpOp;have b:l.toArray[q]? =some d:=by simpa using v
  simp only[b];rw[Agp (by simp[Region.wanted,p])];exact KV p (y a w t u)
 ·rw[Aho]at k;subst k;unfold wpOp;have b:l.toArray[q]? =some g:=by simpa using x
  simp only[b];rw[Agp (by simp[Region.wanted,s])];exact KV s (z a w t u)
def Aee(i j u:Nat){p s t:Oper}(v:l[i]? =some p)(z:l[j]? =some s)(A:l[u]? =some t)(k:p.guard=none)(D:s.guard=none)(F:t.guard=none)(c:Region.ready .any l.toArray listed=[i,j,u])
  (x:LF P l.toArray (Exit.then (λb w'=>C w'/\wpAnyH P .any l.toArray (QW P ex RR cs N) C fuel (listed.setIfInBounds i true) b w') (QW P ex RR cs N)) [p] B h n m)
  (G:LF P l.toArray (Exit.then (λb w'=>C w'/\wpAnyH P .any l.toArray (QW P ex RR cs N) C fuel (listed.setIfInBounds j true) b w') (QW P ex RR cs N)) [s] B h n m)
  (H:LF P l.toArray (Exit.then (λb w'=>C w'/\wpAnyH P .any l.toArray (QW P ex RR cs N) C fuel (listed.setIfInBounds u true) b w') (QW P ex RR cs N)) [t] B h n m):HF P l (QW P ex RR cs N) C (fuel+1) listed B h n m:=by
 intro a w I J;refine wpAnyH_all c (by simp) λq d=>?_;have one:∀{g:Nat}{o:Oper},l[g]? =some o->o.guard=none->LF P l.toArray (Exit.then (λb w'=>C w'/\wpAnyH P .any l.toArray (QW P ex RR cs N) C fuel (listed.setIfInBounds g true) b w') (QW P ex RR cs N)) [o] B h n m->wpOp P l.toArray (QW P ex RR cs N) g (λb w'=>C w'/\wpAnyH P .any l.toArray (QW P ex RR cs N) C fuel (listed.setIfInBounds g true) b w') a w:=by
  intro g o v k x;unfold wpOp;have y:l.toArray[g]? =some o:=by simpa using v
  simp only[y];rw[Agp (by simp[Region.wanted,k])];exact KV k (x a w I J)
 rcases Agv.1 d with rfl|d
 ·exact one v k x
 rcases Agv.1 d with rfl|d
 ·exact one z D G
 ·rw[Aho]at d;subst d;exact one A F H
def Aa5{Q:Exit->Act->World->Prop}{mk:Value->SM}{R:Value->AV->Prop}(k:∀v h',R v h'->HF P l Q C fuel2 listed2 B h' n (mk v))(j:(∀v h',R v h'->HF P l Q C fuel2 listed2 B h' n (mk v))->HF P l Q C fuel listed B h n m):HF P l Q C fuel listed B h n m:=j k
def Tg{Q:Exit->Act->World->Prop}(b:listed=listed2)(c:VZ m m')(k:HF P l Q C fuel listed2 B h n m'):HF P l Q C fuel listed B h n m:=by
 subst b;exact λa w d g=>k a w (d.sub c) g
def Ru{α}{c:Array Oper}{Q:Exit->Act->World->Prop}{a:List Oper}{r:A9 α}{x:α}{sz i:Nat}{z:List Value}(u:OI P T=some (e,sz,i,z))(j:r.sz=sz)(l:r.ag=true)(s:B5 m X=some v)(k0:Rd S h r v x)(h0:Nat.blt 0 1=true)(o:Nat.ble (1*sz) 16777216=true)(hd:Nat.blt d n.1=true)(w:St S L h)
  (k:∀b cs h',St S (Bx b e cs::L) h'->CO S h S h'->M6 S h' r cs [x]->LF P c Q a B h' n ((d,.slice (some ⟨b,0,none⟩) 1 1)::m)):LF P c Q (⟨some d,.buildSlice T 1 #[(0,X)],ty,pos,af,none⟩::a) B h n m:=by
 obtain⟨cs,rfl,t⟩:=k0;have y:r.val cs= .agg cs.toArray:=by unfold A9.val;rw[l];rfl
 have g:=r.len t;rw[y]at s;refine IX (cs:=cs) (pv:=[(0,.agg cs.toArray)]) u (by simp[cZ,s]) ?_ rfl (by simp[Value.cells]) h0 o hd w λb h' p q=>k b cs h' p q ⟨cs,[],(Ahz _).symm,r.mono t q.sub q.same,rfl⟩;simp[Y6,Value.cells,g,j]
def Kk(i:Nat){b:Option Nat}{o:Op}{gd:Option (Nat×Bool)}(s:l[i]? =some ⟨b,o,ty,pos,af,gd⟩)(t:nR l m gd=true)(c:Region.ready .any l.toArray listed=[i])
  (k:LF P l.toArray (Exit.then (λu w'=>C w'/\wpAnyH P .any l.toArray (QW P ex RR cs N) C fuel (listed.setIfInBounds i true) u w') (QW P ex RR cs N)) [⟨b,o,ty,pos,af,none⟩] B h n m):HF P l (QW P ex RR cs N) C (fuel+1) listed B h n m:=by
 intro a w g v;refine wpAnyH_all c (by simp) λj p=>?_;rw[Aho]at p;subst p;unfold wpOp;have d:l.toArray[j]? =some ⟨b,o,ty,pos,af,gd⟩:=by simpa using s
 simp only[d];rw[Agp (V3 (o:=⟨b,o,ty,pos,af,gd⟩) g t)];have:=KV (o:=⟨b,o,ty,pos,af,none⟩) rfl (k a w g v);cases gd with
 |none=>exact this
 |some q=>exact RQ this
end
def Tq(R:Nat->Int)(a b:Nat):Bool:=cond (!decide (R a=R b)) (decide (R b<R a)) (decide (a<b))
def VU(lt:Int->Int->Bool)(x:Int):xq->xq
 |[]=>[x]
 |y::l=>cond (lt y x) (y::VU lt x l) (x::y::l)
def Ou(lt:Int->Int->Bool):xq->xq
 |[]=>[]
 |x::l=>VU lt x (Ou lt l)
def TV(c:xq)(a b:Int):Bool:=Tq (λt=>c.getD t 0) a.toNat b.toNat
def UU(a b:xq):Option xq:=
 if a.length=b.length/\1<=a.length/\a.length<=64/\(a.all λx=>decide (0<=x)&&decide (x<a.length))=true then some (Ou (TV b) a) else none
def Qm(lt:Int->Int->Bool)(x:Int):∀l,(VU lt x l).Perm (x::l)
 |[]=> .refl _
 |y::l=>by
  unfold VU;cases lt y x with
  |true=>exact((Qm lt x l).cons y).trans (.swap x y l)
  |false=>exact .refl _
def N4(lt:Int->Int->Bool):∀l,(Ou lt l).Perm l
 |[]=> .refl _
 |x::l=>(Qm lt x _).trans ((N4 lt l).cons x)
end Go.Proofs.YtabonambpbofgaaGreat
