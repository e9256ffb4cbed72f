import Derived.Test.YtibidnaedddfdaaGreatTCore26
import Derived.OrdersHeld
import Derived.Test.YtibidnaedddfdaaGreatTCore10
namespace Go.Proofs.YtibidnaedddfdaaGreat
set_option linter.all false
open Go.RowKit
abbrev FR:=(Nat→Value)→(Nat→Prop)→(Nat→Prop)→AR
def uD (R:FR) (a:Nat→Value) (X:Nat→Prop):AR:=λi v h=>v=a i∧∃F:Nat→Prop,(∀b,F b→X b)∧R a X F i v h
abbrev UX (fp:Nat→Nat→Prop):Nat→Prop:=λb=>∃j,fp j b
def vK (R:FR) (a:Nat→Value) (X:Nat→Prop) (i:Nat) (h:A4) (v:Value) (h':A4):Prop:=∃F:Nat→Prop,(∀b,F b→h.size≤b∧b<h'.size)∧R a (λb=>X b∨F b) F i v h'
def eD (P:Program) (ops:Array Oper) (Q:Exit→Act→World→Prop) (B:World) (n:FN) (m:SM) (h0:A4) (R:FR) (i:Nat) (o:Oper) (d:Nat) (j:List (Nat×Nat)):Prop:=
 ∀a X mt h,HS h0 h→(∀b,X b→h0.size≤b∧b<h.size)→PA (uD R a X) h (λfr=>match o.guard with
  |none=>LF P ops (Exit.then (KS B n d (vK R a X i h) h (fr++(m++mt))) Q) [o] B h n (fr++(m++mt))
  |some (k,b)=>∃c,HW ops k=some c∧((lk fr c=some (.bool b)∧LF P ops (Exit.then (KS B n d (vK R a X i h) h (fr++(m++mt))) Q) [{ o with guard:=none}] B h n (fr++(m++mt)))∨∃v,lk fr c=some v∧yb v≠some b∧vK R a X i h undef h)) j []
def eB (P:Program) (ops:Array Oper) (n:FN) (m:SM) (h0:A4) (R:FR) (f:Nat) (o:Oper) (c:List (Nat×Nat)):Prop:=
 ∀b X mt h,HS h0 h→PA (uD R b X) h (λfr=>∀a,Fr n a (fr++(m++mt))→∃v,Yields P ops o v a∧R b X (λ_=>False) f v h) c []
section
variable {P:Program}{ops:Array Oper}{Q:Exit→Act→World→Prop}
end
def US (P:Program) (ops:Array Oper) (ks:List Nat) (n:FN) (m:SM) (h0:A4) (R:FR):List Nat→Prop
 |[]=>True
 |f::F=>((f<ops.size∧f∉ks)∧N2 ops f=true∧∃o d a,ops[f]? =some o∧o.dst=some d∧UU ops o a=true∧eB P ops n m h0 R f o a)∧US P ops ks n m h0 R F
def US.at_ {P:Program}{ops:Array Oper}{ks:List Nat}{n:FN}{m:SM}{h0:A4}{R:FR}:∀{F:List Nat},US P ops ks n m h0 R F→∀f,f∈F→(f<ops.size∧f∉ks)∧N2 ops f=true∧∃o d b,ops[f]? =some o∧o.dst=some d∧UU ops o b=true∧eB P ops n m h0 R f o b
 |[],_,f,a=>by cases a
 |i::F,⟨c,h2⟩,f,a=>by
  rcases wN.1 a with rfl|a
  ·exact c
  ·exact US.at_ h2 f a
def US.cons {P:Program}{ops:Array Oper}{ks:List Nat}{n:FN}{m:SM}{h0:A4}{R:FR}{f d:Nat}{o:Oper}{F:List Nat}(c:List (Nat×Nat)) (b:(Nat.blt f ops.size&& !ks.contains f&&N2 ops f)=true) (j:ops[f]? =some o) (hd:o.dst=some d) (g:UU ops o c=true)
  (k:∀i X mt h,HS h0 h→PA (uD R i X) h (λfr=>∀a,Fr n a (fr++(m++mt))→∃v,Yields P ops o v a∧R i X (λ_=>False) f v h) c []) (t:US P ops ks n m h0 R F):US P ops ks n m h0 R (f::F):=by
 simp only[wI,xC] at b;exact⟨⟨⟨(by simpa [Nat.blt] using b.1.1:f+1≤ops.size),λh=>by rw[wS.2 h] at b;cases b.1.2⟩,b.2,o,d,c,j,hd,g,k⟩,t⟩
def PP (P:Program) (ops:Array Oper) (Q:Exit→Act→World→Prop) (B:World) (n:FN) (m:SM) (h0:A4) (R:FR) (ks:List Nat):Nat→List Oper→List (List (Nat×Nat))→Prop
 |i,o::l,a::pss=>(i∈ks∨match o.dst with|some d=>eD P ops Q B n m h0 R i o d a|none=>False)∧PP P ops Q B n m h0 R ks (i+1) l pss
 |_,_,_=>True
section
variable {P:Program}{ops:Array Oper}{Q:Exit→Act→World→Prop}{B:World}{n:FN}{m:SM}{h0:A4}{R:FR}{ks:List Nat}
def PP.at_:∀{l:List Oper}{pss:List (List (Nat×Nat))}{k i:Nat}{o:Oper}{d:Nat},PP P ops Q B n m h0 R ks k l pss→l.length=pss.length→k+i∉ks→l[i]? =some o→o.dst=some d→∃a,pss[i]? =some a∧eD P ops Q B n m h0 R (k+i) o d a
 |[],_,_,_,_,_,_,_,_,h,_=>by simp at h
 |_::_,[],_,_,_,_,_,c,_,_,_=>by simp at c
 |p::l,a::pss,k,0,o,d,g,c,j,b,hd=>by
  simp only[zI,xO] at b;subst b;simp only[PP,hd] at g;exact⟨a,rfl,g.1.resolve_left j⟩
 |p::l,a::pss,k,i+1,o,d,g,c,j,b,hd=>by
  simp only[zJ] at b;obtain⟨q,s,t⟩:=PP.at_ (l:=l) (pss:=pss) (k:=k+1) (i:=i) g.2 (by simpa using c) (by rw[show k+1+i=k+(i+1) by omega];exact j) b hd;rw[show k+(i+1)=k+1+i by omega];exact⟨q,by simpa using s,t⟩
def PP.cons {i:Nat}{o:Oper}{l:List Oper}{g:List (Nat×Nat)}{pss:List (List (Nat×Nat))}{d:Nat}(hd:o.dst=some d) (j:o.guard=none)
  (h:∀c X mt h,HS h0 h→(∀b,X b→h0.size≤b∧b<h.size)→PA (uD R c X) h (λfr=>LF P ops (Exit.then (KS B n d (R c X (λ_=>False) i) h (fr++(m++mt))) Q) [o] B h n (fr++(m++mt))) g []) (t:PP P ops Q B n m h0 R ks (i+1) l pss):PP P ops Q B n m h0 R ks i (o::l) (g::pss):=by
 simp only[PP,hd];refine⟨.inr λc X mt p s u=>PA.imp (λfr k=>?_) _ _ (h c X mt p s u),t⟩;rw[j];refine λa w y z=>Ig (λe a w q=>?_) _ a w (k a w y z);cases e<;>first|exact q|skip
 obtain⟨v,h2,A,C,D,F⟩:=q;exact⟨v,h2,A,C,D,λ_=>False,λ_ x=>x.elim,by have e:(λb=>X b∨False)=X:=funext λb=>propext (or_iff_left id);rw[e];exact F⟩
def PP.skip {i:Nat}{o:Oper}{l:List Oper}{a:List (Nat×Nat)}{pss:List (List (Nat×Nat))}(h:ks.contains i=true) (t:PP P ops Q B n m h0 R ks (i+1) l pss):PP P ops Q B n m h0 R ks i (o::l) (a::pss):=
 ⟨.inl (wS.1 h),t⟩
end
section
variable {P:Program}{ex:List (Nat×AP)}{RR N:AP}{cs:List Code}{B:World}{h:A4}{n:FN}{m m0:SM}{S:Nat→Prop}{L:List HP}
end
abbrev OW (S:Nat→Prop) (h0:A4) (X F:Nat→Prop) (M:List HP) (h:A4):Prop:=Sp (SX S h0 h X) M h F
def OW.mono {S X a F:Nat→Prop}{h0 h h':A4}{M:List HP}(c:∀b,S b→b<h0.size) (d:HS h0 h) (g:HS h h') (i:∀b,F b→h0.size≤b∧b<h.size) (u:∀b,X b→a b) (j:∀b,a b→X b∨h.size≤b) (k:OW S h0 X F M h):OW S h0 a F M h':=
 Sp.ext k (SX.mono c d g u j).sub (λb l=>g.same b (l.elim (SX.lt c d b) λx=>(i b x).2)) λ_ x=>x
def SX.fz {S:Nat→Prop}{L:List HP}{h0 h:A4}{X:Nat→Prop}(a:St S L h0) (o:HS h0 h):St (SX S h0 h X) [tU (SX S h0 h X) h] h:=(nM (X:=X) a o).fz
def OW.done {S d:Nat→Prop}{h0 h h2:A4}{X:Nat→Prop}{M:List HP}(v:∀b,S b→b<h0.size) (o:HS h0 h) (q:∀b,X b→h0.size≤b∧b<h.size) (e:CX (SX S h0 h X) h d h2) (l:St d (tU (SX S h0 h X) h::M) h2):
  ∃F:Nat→Prop,(∀b,F b→h.size≤b∧b<h2.size)∧HS h h2∧CX d h2 (SX S h0 h2 λb=>X b∨F b) h2∧OW S h0 (λb=>X b∨F b) F M h2:=by
 obtain⟨m,⟨n,s⟩,t,u⟩:=l.2;have i:∀b,((b<h2.size∧¬d b)∧¬m b)→h.size≤b∧b<h2.size:=λb a=>by
  refine⟨Nat.le_of_not_lt λc=>?_,a.1.1⟩;rcases Classical.em (SX S h0 h X b) with w|w
  ·exact a.1.2 (e.sub b w)
  ·exact a.2 ((n b).2 ⟨c,w⟩)
 have p:CX d h2 (SX S h0 h2 λb=>X b∨((b<h2.size∧¬d b)∧¬m b)) h2:=by
  refine⟨λb a=>?_,λ_ _=>rfl,wV _⟩;have c:=l.1 b a;rcases xB b h.size with w|w
  ·rcases Classical.em (SX S h0 h X b) with j|j
   ·exact⟨j.1.imp_right λx=>⟨x.1,c⟩,λk=>k.elim j.2 λx=>x.1.2 a⟩
   ·exact absurd a (t b ((n b).2 ⟨w,j⟩)).2
  ·exact⟨.inr ⟨yI o.siz w,c⟩,λk=>k.elim (λx=>by have:=(q b x).2;omega) λx=>x.1.2 a⟩
 refine⟨_,i,⟨e.siz,λb a=>?_⟩,p,?_⟩
 ·rcases Classical.em (SX S h0 h X b) with w|w
  ·exact e.same b w
  ·exact s b ⟨a,w⟩
 ·exact Sp.ext u p.sub (λ_ _=>rfl) λ_ x=>x
def oH (S:Nat→Prop) (fp:Nat→Nat→Prop) (h h2:A4) (js:List Nat) (L:List HP):Prop:=(∀b,S b→b<h.size)∧HS h h2∧(∀i b,fp i b→h.size≤b∧b<h2.size)∧Sp (SX S h h2 (UX fp)) L h2 (λb=>(b<h.size∧¬S b)∨∃j,j∈js∧fp j b)
section
variable {S:Nat→Prop}{L M:List HP}{h h2:A4}{fp:Nat→Nat→Prop}{js:List Nat}{j:Nat}
def uxb (a:∀i b,fp i b→h.size≤b∧b<h2.size):∀b,UX fp b→h.size≤b∧b<h2.size:=λb ⟨j,x⟩=>a j b x
def oH.nil (a:St S L h) (o:HS h h2) (g:∀i b,fp i b→h.size≤b∧b<h2.size):oH S fp h h2 [] L:=
 ⟨a.1,o,g,Sp.ext a.2 (λb x=>(SX.ext a.1 o (uxb g)).sub b x) (λc d=>o.same c (d.elim (a.1 c) (·.1))) λc d=> .inl d⟩
def Yf {S:Nat→Prop}{h:A4}{L:List HP}:∀{M:List HP}{c d A:Nat→Prop},Sp S M h c→Sp S L h d→(∀b,c b→A b)→(∀b,d b→A b)→(∀b,c b→¬d b)→Sp S (M++L) h A
 |[],c,d,A,_,h2,_,g,_=>h2.mono g
 |H::M,c,d,A,⟨F,l,i,m⟩,h2,j,g,k=>
  ⟨F,l,λb a=>j b (i b a),Yf m h2 (λb a=>⟨j b a.1,a.2⟩) (λb a=>⟨g b a,λn=>k b (i b n) a⟩) λb a=>k b a.1⟩
def oH.cons (k:oH S fp h h2 js L) (m:∀i j b,fp i b→fp j b→i=j) (d:js.contains j=false) (q:OW S h (UX fp) (fp j) M h2):oH S fp h h2 (j::js) (M++L):=by
 obtain⟨n,o,g,p⟩:=k;refine⟨n,o,g,Yf q p (λb a=> .inr ⟨j,xL ..,a⟩) (λb a=>a.imp_right λ⟨i,c,x⟩=>⟨i,xP _ c,x⟩) λb a l=>?_⟩;rcases l with l|⟨i,c,x⟩
 ·have:=(g j b a).1;omega
 ·have:=m _ _ _ a x;subst this;rw[wS.2 c] at d;cases d
def oH.st (k:oH S fp h h2 js L):St (SX S h h2 (UX fp)) L h2:=by
 obtain⟨g,d,j,l⟩:=k;refine⟨SX.lt g d,l.mono λc a=>?_⟩;rcases a with a|⟨i,_,a⟩
 ·exact⟨wX a.1 d.siz,λb=>b.1.elim a.2 λx=>by omega⟩
 ·exact⟨(j i c a).2,λb=>b.2 ⟨i,a⟩⟩
end
section
variable {α:Type}{r:BX α}{e T:TypeId}{v u:Value}{l:List α}{vs:List Value}{ll:List (List α)}{S F:Nat→Prop}{h:A4}{L L2:List HP}
def St.one {H:HP}(a:St S L h) (b:H∈L):St S [H] h:=by
 obtain⟨F,k,c⟩:=a.get b;exact⟨a.1,F,k,c,trivial⟩
def OW.oslen {S X F:Nat→Prop}{h0 h:A4}{M:List HP}(k:OW S h0 X F M h) (a:OS r T v l∈M):∃b cap,v= .slice b l.length cap∧l.length≤maxLen:=by
 obtain⟨F,k,_⟩:=Sp.get a k;exact OS.len k
end
section
variable {P:Program}{ops:Array Oper}{C:World→Prop}{Q:Act→Prop}{Q2:Exit→Act→World→Prop}{n:FN}{m m':SM}{rest:List Oper}
variable {d:Nat}{ty:TypeId}{pos:String}{af:Array Edge}{X Y:Operand}{t:TypeId}{v p:Value}{B:World}{h:A4}{S:Nat→Prop}{L L2:List HP}
end
def St.zs {α}{S:Nat→Prop}{L:List HP}{h:A4}(b:St S L h) (r:BX α) (T:TypeId) (a:Option Addr):St S (OS r T (.slice a 0 0) ([]:List α)::L) h:=
 (b.add (wV _) (λ_ _=>rfl) ⟨λ_=>False,Or.inl ⟨⟨a,rfl⟩,rfl,λ_ x=>x⟩,λ_ x=>x.elim⟩).1
section
variable {P:Program}{ops:Array Oper}{C:World→Prop}{Q:Act→Prop}{Q2:Exit→Act→World→Prop}{n:FN}{m m':SM}{rest:List Oper}
variable {d:Nat}{ty:TypeId}{pos:String}{af:Array Edge}{X Y Z:Operand}{t:TypeId}{kd kd2:IntKind}{v p:Value}{S:Nat→Prop}{h:A4}{B:World}{L:List HP}
def vO {e sz:Nat}(g:CF m X=some (.slice none 0 0)) (i:CF m Y=some (.int kd 0)) (j:TI P t e sz=true) (hd:Nat.blt d n.1=true)
  (k:QF P ops C Q rest n ((d,.slice none 0 0)::m)):QF P ops C Q (⟨some d,.slice t X none (some Y) none,ty,pos,af,none⟩::rest) n m:=λa b=>by
 obtain⟨c,l⟩:=OR j;refine HT b hd (λw _=>?_) k;simp [execOp,b.eval g,b.eval i,run_sliceAt_slice _ _ _ _ _ _ c,run_slice_h w t none 0 0 c kd 0 (by omega) (by omega),l,sliced]
def vZ {o:Oper}{j e:Nat}{b:Bool}(g:o.guard=some (j,b)) (i:(ops[j]?).bind (·.dst)=some e) (l:lk m e=some (.bool b)) (k:LF P ops Q2 ({ o with guard:=none}::rest) B h n m):LF P ops Q2 (o::rest) B h n m:=by
 intro a w d p;have q:Region.wanted o (yielded ops a.tmps)=true:=by
  have:=d.at_ e _ l;simp [Region.wanted,g,yielded,i,this]
 have c:=k a w d p;unfold wpList at c ⊢;rw[wG (by simp [Region.wanted])] at c;rw[wG q];exact c
end
section
variable {P:Program}{ex:List (Nat×AP)}{RR N:AP}{cs:List Code}{B:World}{h:A4}{n:FN}{m m':SM}{S:Nat→Prop}{L:List HP}{C:World→Prop}{l:List Oper}{fuel:Nat}{listed:Array Bool}
variable {d:Nat}{ty:TypeId}{pos:String}{af:Array Edge}{X Y:Operand}{t:TypeId}{v:Value}
def HF (P:Program) (l:List Oper) (Q:Exit→Act→World→Prop) (C:World→Prop) (fuel:Nat) (listed:Array Bool) (B:World) (h:A4) (n:FN) (m:SM):Prop:=
 ∀a w,Fr n a m→Wd B h w→wpAnyH P .any l.toArray Q C fuel listed a w
abbrev QW (P:Program) (ex:List (Nat×AP)) (RR:AP) (cs:List Code) (N:AP):Exit→Act→World→Prop:=Qx ex RR (W P ex RR cs N)
def lF (l:List Oper) (listed:Array Bool) (i:Nat):Bool:=Region.noSelect l.toArray&&Region.free .any l.toArray listed i&&(Region.ready .any l.toArray listed).contains i
def UO {o:Op}(i:Nat) (q:l[i]? =some ⟨some d,o,ty,pos,af,none⟩) (c:lF l listed i=true) (s:∀w,Wd B h w→C w) (hd:Nat.blt d n.1=true)
  (b:∀a w,Fr n a m→C w→(execOp a.eval ⟨some d,o,ty,pos,af,none⟩).run P w= .ok (.value v) w) (k:HF P l (QW P ex RR cs N) C fuel (listed.setIfInBounds i true) B h n ((d,v)::m)):HF P l (QW P ex RR cs N) C (fuel+1) listed B h n m:=by
 intro a w j p;simp only[lF,wI] at c;exact wpAnyH_take (oi:=⟨some d,o,ty,pos,af,none⟩) (v:=v) (by simpa using q) c.1.1 c.1.2 c.2 (λ_ _ _ t=>t.elim) (.inl ⟨by simp [Region.wanted],λu g=>b a u j g⟩) (s w p) (k _ _ (j.put hd v) p)
def wB (i:Nat) (b:l[i]? =some ⟨some d,.move X,ty,pos,af,none⟩) (c:lF l listed i=true) (g:∀w,Wd B h w→C w) (j:CF m X=some v) (hd:Nat.blt d n.1=true) (k:HF P l (QW P ex RR cs N) C fuel (listed.setIfInBounds i true) B h n ((d,v)::m)):HF P l (QW P ex RR cs N) C (fuel+1) listed B h n m:=
 UO i b c g hd (λa w o _=>by simp [execOp,o.eval j]) k
def vW (i:Nat) (b:l[i]? =some ⟨some d,.assign X,ty,pos,af,none⟩) (c:lF l listed i=true) (g:∀w,Wd B h w→C w) (j:CF m X=some v) (hd:Nat.blt d n.1=true) (k:HF P l (QW P ex RR cs N) C fuel (listed.setIfInBounds i true) B h n ((d,v)::m)):HF P l (QW P ex RR cs N) C (fuel+1) listed B h n m:=
 UO i b c g hd (λa w o _=>by simp [execOp,o.eval j]) k
def vV (i:Nat) {b o j g:Nat}(q:l[i]? =some ⟨some d,.fieldAddr t X j,ty,pos,af,none⟩) (c:lF l listed i=true) (s:∀w,Wd B h w→C w) (u:CF m X=some (.pointer (some ⟨b,o,none⟩))) (v:bK P t j g=true) (hd:Nat.blt d n.1=true) (k:HF P l (QW P ex RR cs N) C fuel (listed.setIfInBounds i true) B h n ((d,.pointer (some ⟨b,o+g,none⟩))::m)):HF P l (QW P ex RR cs N) C (fuel+1) listed B h n m:=
 have p:(⟨b,o,none⟩:Addr).add g=⟨b,o+g,none⟩:=by unfold Addr.add;split<;>simp_all
 UO i q c s hd (λa w x _=>by simp [execOp,x.eval u,N0 v,p]) k
def vT (i:Nat) {b o sz T:Nat}{ag:Bool}{q vs:List Value}(s:l[i]? =some ⟨some d,.load t X,ty,pos,af,none⟩) (c:lF l listed i=true) (u:∀w,Wd B h w→C w) (v:CF m X=some (.pointer (some ⟨b,o,none⟩))) (y:∀w,C w→w.heap[b]? =some (.cells q.toArray T (0,0))) (z:(q.drop o).take sz=vs) (A:Nat.beq vs.length sz=true) (D:L5 P t sz ag=true) (F:(ag||Nat.beq sz 1)=true) (hd:Nat.blt d n.1=true)
  (k:HF P l (QW P ex RR cs N) C fuel (listed.setIfInBounds i true) B h n ((d,if ag then .agg vs.toArray else vs.headD undef)::m)):HF P l (QW P ex RR cs N) C (fuel+1) listed B h n m:=
 UO i s c u hd (λa w G H=>by
  have I:(Bx b T q).holds (λ_=>True) (λx=>x=b) w.heap:=⟨λ_=>yC,y w H⟩
  have g:=wQ A;have:=Oq (P:=P) (w:=w) (S:=λ_=>True) (p:= .pointer (some ⟨b,o,none⟩)) (cs:=vs) (sz:=sz) (ag:=ag) (t:=t) ⟨⟨b,o,none⟩,rfl,rfl,trivial,λj J=>by
   rw[Bx.cell I,←z,yR (by omega),yS]⟩ g D (λe=>by subst e;simpa using F)
  simp [execOp,G.eval v,this]) k
def vU (i:Nat) {α}{r:BX α}{xs:List α}{T e:Nat}{j:Int}{x:α}(s:l[i]? =some ⟨some d,.indexAddr t X Y,ty,pos,af,none⟩) (c:lF l listed i=true) (u:∀w,Wd B h w→C w) (y:St S L h) (z:OS r T v xs∈L) (A:CF m X=some v) (D:CF m Y=some (.int .i64 j)) (F:TI P t e r.sz=true) (o:ix xs j=some x) (hd:Nat.blt d n.1=true)
  (k:∀q,EP v (j.toNat*r.sz+0) q→HF P l (QW P ex RR cs N) C fuel (listed.setIfInBounds i true) B h n ((d,q)::m)):HF P l (QW P ex RR cs N) C (fuel+1) listed B h n m:=by
 obtain⟨J,cap,rfl,H⟩:=y.osAt z (Lp o).2;have G:j.toNat<xs.length:=(wU.1 (Lp o).2).1;have b:(⟨J,0,none⟩:Addr).add (j.toNat*r.sz)=⟨J,j.toNat*r.sz,none⟩:=by unfold Addr.add;split<;>simp_all
 exact UO i s c u hd (λa w p I=>by simp [execOp,p.eval A,p.eval D,P3 (P:=P) (w:=w) (cap:=cap) (a:=⟨J,0,none⟩) F (Lp o).1 G,b]) (k _ ⟨J,_,_,rfl,rfl⟩)
def HF.w (i:Nat) {o:Oper}(q:l[i]? =some o) (d:o.guard=none) (c:Region.ready .any l.toArray listed=[i])
  (k:LF P l.toArray (Exit.then (λs g=>C g∧wpAnyH P .any l.toArray (QW P ex RR cs N) C fuel (listed.setIfInBounds i true) s g) (QW P ex RR cs N)) [o] B h n m):HF P l (QW P ex RR cs N) C (fuel+1) listed B h n m:=by
 intro a w t u;refine wpAnyH_all c (by simp) λj p=>?_;rw[xV] at p;subst p;unfold wpOp;have b:l.toArray[j]? =some o:=by simpa using q
 simp only[b];rw[wG (by simp [Region.wanted,d])];exact LC d (k a w t u)
def uC (c:Region.ready .any l.toArray listed=[]) (b:Ud m m') (k:WF P ex RR cs N B h n m'):HF P l (QW P ex RR cs N) C fuel listed B h n m:=
 λa w d g=>wpAnyH_done c (k a w (d.sub b) g) _
end
section
variable {P:Program}
def VU (P:Program):List Field→Nat→Option (List Nat)
 |[],_=>some []
 |f::a,i=>if f.name== "_" || !Nat.beq f.offset i then none else
  match P.underlying f.type with
  |some (.int _)=>(VU P a (i+1)).map (1:: ·)
  |some .bool=>(VU P a (i+1)).map (2:: ·)
  |some .string=>(VU P a (i+1)).map (3:: ·)
  |some (.struct _)=>(ZV P f.type).bind λb=>if (P.info? f.type).isSome&&Nat.beq (P.cellsOf f.type) b.length then (VU P a (i+b.length)).map (b++ ·) else none
  |_=>none
def rJ (P:Program) (T:TypeId):Option (List Nat):=
 if P.stoodInHeld T||P.eqGuardType P.depth T then none else
 match P.underlying T with
 |some (.struct a)=>VU P a.toList 0
 |_=>none
def lM {T:TypeId}{c:List Nat}{xs a:List Value}{w:World}(d:Nat) (h:ZV P T=some c) (n:xs.map II=c) (o:a.map II=c) (p:∀(j:Nat) (g:IntKind) (q:Int) (i:IntKind) (s:Int),xs[j]? =some (Value.int g q)→a[j]? =some (Value.int i s)→g=i):
  (Op.equalIn (d+2) T (.agg xs.toArray) (.agg a.toArray)).run P w= .ok (M8 xs a) w:=by
 unfold ZV at h;split at h
 ·cases h
 ·rename_i k;simp only[wZ,not_or,yN] at k;split at h
  ·rename_i l m;have b:P.fieldsOf T=l:=by simp [Program.fieldsOf,m]
   have:=run_equalIn_struct (P:=P) w (d+1) T xs.toArray a.toArray (by rw[b];exact m) k.1;rw[this,b];exact Ot l.toList c 0 d xs a h (by simpa using n) (by simpa using o) p
  ·cases h
def YN:∀{a b r s:List Value},a.length=b.length→M8 (a++r) (b++s)=(M8 a b&&M8 r s)
 |[],[],r,s,_=>rfl
 |x::a,y::b,r,s,h=>by
  simp only[yY,M8,YN (a:=a) (b:=b) (r:=r) (s:=s) (by simpa using h),Bool.and_assoc]
def VI {w:World}:∀(D:List Field) (F:List Nat) (i d:Nat) (xs b:List Value),
  VU P D i=some F→(xs.drop i).map II=F→(b.drop i).map II=F→(∀(j:Nat) (g:IntKind) (G:Int) (k:IntKind) (H:Int),xs[j]? =some (Value.int g G)→b[j]? =some (Value.int k H)→g=k)→
  (Op.eqFields (d+2) xs.toArray b.toArray D).run P w= .ok (M8 (xs.drop i) (b.drop i)) w
 |[],F,i,d,xs,b,h,t,B,I=>by
  simp only[VU,xO] at h;subst h;have m:xs.drop i=[]:=by simpa using t
  rw[m];rfl
 |f::D,F,i,d,xs,b,h,t,B,I=>by
  unfold VU at h;split at h
  ·cases h
  ·rename_i n;simp only[wZ,not_or,yN,xC,Bool.not_eq_false] at n;obtain⟨X,Y⟩:=n;have C:=wQ Y;have J:f.name≠ "_" :=by simpa using X
   have o:∀{c:Nat} {a:List Nat} {Z},VU P D (i+1)=some a→c::a=F→P.underlying f.type=some Z→Zb Z=false→
     (∀x y w,II x=c→II y=c→(∀g G k H,x=Value.int g G→y=Value.int k H→g=k)→(Op.equalIn (d+2) f.type x y).run P w= .ok (VV x y) w)→
     (Op.eqFields (d+2) xs.toArray b.toArray (f::D)).run P w= .ok (M8 (xs.drop i) (b.drop i)) w:=by
    intro c a Z m p l aa hv;subst p;cases u:xs.drop i with
    |nil=>rw[u] at t;simp at t
    |cons x xr=>
    cases v:b.drop i with
    |nil=>rw[v] at B;simp at B
    |cons y yr=>
    rw[u] at t;rw[v] at B;simp only[xQ,Aa0] at t B;have K:xs[i]? =some x:=by have:=wH (·[0]?) u;simpa using this
    have M:b[i]? =some y:=by have:=wH (·[0]?) v;simpa using this
    have Q:xs.drop (i+1)=xr:=by have:=wH List.tail u;simpa [List.tail_drop] using this
    have U:b.drop (i+1)=yr:=by have:=wH List.tail v;simpa [List.tail_drop] using this
    have V:=VI (w:=w) D a (i+1) d xs b m (by rw[Q];exact t.2) (by rw[U];exact B.2) I;rw[Q,U] at V;have hp:∀(q:List Value) z,q[i]? =some z→(part f.type q.toArray f.offset).run P w= .ok z w:=by
     intro q z W;simp [part,Qe l,aa,C,W]
    simp only[Op.eqFields,wG J,Sem.run_bind,M8];rw[hp xs x K];simp only[Result.andThen_ok];rw[hp b y M];simp only[Result.andThen_ok];rw[hv x y w t.1 B.1 λg G k H s A=>I i g G k H (s▸K) (A▸M)];simp only[Result.andThen_ok,Sem.run_ite,Sem.run_pure];cases VV x y<;>simp [V]
   split at h
   ·rename_i kk l;obtain⟨a,m,p⟩:=xZ.1 h;refine o m p l rfl λx y w g k k3=>?_;cases x<;>simp [II] at g;cases y<;>simp [II] at k;rename_i ka na kb nb;have:=k3 ka na kb nb rfl rfl;subst this;rw[run_equalIn_int w (d+1) f.type ka kk na nb l,VV,Rz]
   ·rename_i l;obtain⟨a,m,p⟩:=xZ.1 h;refine o m p l rfl λx y w g k k3=>?_;cases x<;>simp [II] at g;cases y<;>simp [II] at k;rw[run_equalIn_bool' w (d+1) f.type _ _ l,VV]
   ·rename_i l;obtain⟨a,m,p⟩:=xZ.1 h;refine o m p l rfl λx y w g k k3=>?_;cases x<;>simp [II] at g;cases y<;>simp [II] at k;rw[run_equalIn_string w (d+1) f.type _ _ l,VV,beq_toListBytes]
   ·rename_i gs l;obtain⟨k0,m,p⟩:=yW.1 h;split at p
    ·rename_i hc;simp only[wI] at hc;obtain⟨ti,ab⟩:=Option.isSome_iff_exists.1 hc.1;have ac:=wQ hc.2;obtain⟨a,h3,h4⟩:=xZ.1 p;subst h4;have sp:∀q:List Value,(q.drop i).map II=k0++a→((q.drop i).take k0.length).map II=k0∧(q.drop (i+k0.length)).map II=a∧(part f.type q.toArray f.offset).run P w= .ok (.agg ((q.drop i).take k0.length).toArray) w:=by
      intro q W;refine⟨by rw[List.map_take,W];simp,by rw[←zK,List.map_drop,W];simp,?_⟩;simp only[part,Sem.run_bind,Qe l,Result.andThen_ok,Zb,if_true,run_sizeOf w ab,C,ac];simp [List.extract_toArray,List.extract_eq_take_drop]
     obtain⟨a1,a2,a3⟩:=sp xs t;obtain⟨b1,b2,b3⟩:=sp b B;have V:=VI (w:=w) D a (i+k0.length) d xs b h3 a2 b2 I;have ad:=lM (P:=P) (w:=w) d m a1 b1 λj g G k H s A=>by
      rw[zR] at s A;split at s
      ·rename_i hj;rw[wG hj] at A;rw[yS] at s A;exact I _ _ _ _ _ s A
      ·cases s
     have lx:((xs.drop i).take k0.length).length=((b.drop i).take k0.length).length:=by
      have s:=wH List.length a1;have A:=wH List.length b1;rw[xH] at s A;rw[s,A]
     have hE:M8 (xs.drop i) (b.drop i)=(M8 ((xs.drop i).take k0.length) ((b.drop i).take k0.length)&&M8 (xs.drop (i+k0.length)) (b.drop (i+k0.length))):=by
      rw[←YN lx,←zK,←zK,zD,zD]
     simp only[Op.eqFields,wG J,Sem.run_bind];rw[a3];simp only[Result.andThen_ok];rw[b3];simp only[Result.andThen_ok];rw[ad,hE];simp only[Result.andThen_ok,Sem.run_ite,Sem.run_pure];cases M8 ((xs.drop i).take k0.length) ((b.drop i).take k0.length)<;>simp [V]
    ·cases p
   ·cases h
def bH {T:TypeId}{c:List Nat}{xs a:List Value}{w:World}(h:rJ P T=some c) (k:xs.map II=c) (l:a.map II=c) (m:OT xs a=true):
  (Op.equalIn 10000 T (.agg xs.toArray) (.agg a.toArray)).run P w= .ok (M8 xs a) w∧∀(d:BinOp) (x y:Operand),(eqGuard d T x y (.agg xs.toArray) (.agg a.toArray)).run P w= .ok () w:=by
 unfold rJ at h;split at h
 ·cases h
 ·rename_i g;simp only[wZ,not_or,yN] at g;split at h
  ·rename_i i j;refine⟨?_,λd x y=>run_eqGuard_agg w d T x y _ _ g.2⟩;have b:P.fieldsOf T=i:=by simp [Program.fieldsOf,j]
   have:=run_equalIn_struct (P:=P) w 9999 T xs.toArray a.toArray (by rw[b];exact j) g.1;rw[this,b];exact VI i.toList c 0 9997 xs a h (by simpa using k) (by simpa using l) (RS xs a m)
  ·cases h
end
section
variable {P:Program}{ops:Array Oper}{C:World→Prop}{Q:Act→Prop}{n:FN}{m:SM}{rest:List Oper}{d:Nat}{ty:TypeId}{pos:String}{af:Array Edge}{X Y:Operand}{t2:TypeId}
def dQ {T:TypeId}{ks xs ys}(g:CF m X=some (.agg xs)) (i:CF m Y=some (.agg ys)) (j:rJ P T=some ks) (l:xs.toList.map II=ks) (o:ys.toList.map II=ks) (p:OT xs.toList ys.toList=true) (hd:Nat.blt d n.1=true) (k:QF P ops C Q rest n ((d,.bool (!M8 xs.toList ys.toList))::m)):QF P ops C Q (⟨some d,.binOp .neq T X Y t2,ty,pos,af,none⟩::rest) n m:=λ_ a=>
 HT a hd (λw _=>by
  obtain⟨b,c⟩:=bH (w:=w) j l o p;simp only[Array.toArray_toList] at b c;simp [execOp,a.eval g,a.eval i,c,run_neq_struct,b]) k
end
def iK (a:Array Oper) (c f:Nat) (b:List Nat):Bool:=
 (c::b).all (λt=>Nat.blt t a.size)&&decide (f::c::b).Nodup&&Uh a (c::b) [f]&&O3 a (c::b)&&O3 a (f::b)&&SB a (c::b)&&Oe a&&Region.noSelect a&&Nat.blt f a.size
section
variable {P:Program}{ex:List (Nat×AP)}{RR N:AP}{cs:List Code}{B:World}{h:A4}{n:FN}{m m0:SM}
def Yc {l:List Oper}{id:Nat}(g f:Nat) (s:List Nat) (R:AR) (pss:List (List (Nat×Nat))) (af ag:List (Nat×Nat)) {V of:Oper}{ls:List Oper}(hm:P.follows .mixedOrders=true) (hc:iK l.toArray g f s=true) (ms:List Nat) (ay:m.map (·.1)=ms) (ah:ZC l.toArray (g::s) n ms=true)
  (aa:UW l.toArray (g::s) l pss=true) (aj:(af.all λp=>Nat.blt p.1 l.length&& !(g::s).contains p.1&&(HW l.toArray p.1).any (Nat.beq p.2 ·))=true)
  (ak:(ag.all λp=>Nat.blt p.1 l.length&& !(g::s).contains p.1&& !Nat.beq p.1 f&&(HW l.toArray p.1).any (Nat.beq p.2 ·))=true)
  (az:l[g]? =some V) (a0:l[f]? =some of) (ab:V.guard=none) (a1:(s.filterMap λt=>l[t]?)=ls) (al:Ud m0 m)
  (ac:∀i v h1 h2,HS h h1→HS h1 h2→R i v h1→R i v h2) (a3:∀i,i∈[f]→Sm (R i))
  (step:BD P l.toArray (Qx ex RR (W P ex RR cs N)) B n m h R (g::s) [f] ZB.none 0 l pss)
  (am:∀h',HS h h'→PA R h' (λfr=>LF P l.toArray (Qx ex RR (W P ex RR cs N)) (V::ls) B h' n (fr++m)) af [])
  (an:∀h',HS h h'→PA R h' (λfr=>LF P l.toArray (Qx ex RR (W P ex RR cs N)) (V::of::ls) B h' n (fr++m)) ag []):WF P ex RR (.region id l.toArray true::cs) N B h n m0:=by
 intro a w hf hw;subst ay;simp only[iK,wI,wW] at hc;obtain⟨⟨⟨⟨⟨⟨⟨⟨c1,c2⟩,c3⟩,c4⟩,a4⟩,c5⟩,c6⟩,c7⟩,c8⟩:=hc;simp only[UW,wI] at aa;have ao:l.length=pss.length:=wQ aa.1;obtain⟨nf,ap⟩:=zH.1 c2;obtain⟨n1,X⟩:=zH.1 ap;have a5:f∉s:=λh=>nf (xP _ h);have a6:f≠g:=λh=>nf (h▸xL);have aq:f<l.toArray.size:=zX c8;have hQ:∀c a w,¬(Qx ex RR (W P ex RR cs N)) (.panic c) a w:=λc a w hq=>hq;have J:∀t,t∈g::s→t<l.toArray.size:=λt G=>by have:=wO.1 c1 t G;simp [Nat.blt] at this ⊢;omega
 have H:(s.filterMap λt=>l.toArray[t]?)=ls:=by rw[←a1];congr 1;funext t;simp
 have ho:l.toArray[g]? =some V:=by simpa using az
 have ar:l.toArray[f]? =some of:=by simpa using a0
 have hA:∀(a:Act) (w:World) (h':A4),Wd B h' w→HS h h'→Fr n a m→(∀i,i<l.toArray.size→i∉g::s→∃d v,HW l.toArray i=some d∧a.tmps[d]? =some v∧R i v h')→wpList P l.toArray (Qx ex RR (W P ex RR cs N)) (V::ls) a w:=by
  intro a w h' Y Z D g4;obtain⟨fr,K,I⟩:=MN (a:=a) (n:=n) _ _ (am h' Z) (λp hp=>by
   have e:=wO.1 aj p hp;simp only[wI,xC] at e;have M:p.1<l.toArray.size:=by have:=e.1.1;simp [Nat.blt] at this ⊢;omega
   obtain⟨d,v,K,I,q3⟩:=g4 p.1 M (λh=>by rw[wS.2 h] at e;cases e.1.2);have e2:=e.2;rw[K] at e2;have:p.2=d:=wQ (by simpa using e2);exact⟨v,by rw[this];exact I,q3⟩) ⟨D.dfr,D.siz,λi v y=>by simp [lk] at y⟩
  exact K a w (I.append D) Y
 have hB:∀(a:Act) (w:World) (h':A4),Wd B h' w→HS h h'→Fr n a m→(∀i,i<l.toArray.size→i∉g::s→i≠f→∃d v,HW l.toArray i=some d∧a.tmps[d]? =some v∧R i v h')→wpList P l.toArray (Qx ex RR (W P ex RR cs N)) (V::of::ls) a w:=by
  intro a w h' Y Z D g4;obtain⟨fr,K,I⟩:=MN (a:=a) (n:=n) _ _ (an h' Z) (λp hp=>by
   have e:=wO.1 ak p hp;simp only[wI,xC] at e;have M:p.1<l.toArray.size:=by have:=e.1.1.1;simp [Nat.blt] at this ⊢;omega
   obtain⟨d,v,K,I,q3⟩:=g4 p.1 M (λh=>by rw[wS.2 h] at e;cases e.1.1.2) (λx=>by
    have:=e.1.2;rw[x] at this;simp at this)
   have e2:=e.2;rw[K] at e2;have:p.2=d:=wQ (by simpa using e2);exact⟨v,by rw[this];exact I,q3⟩) ⟨D.dfr,D.siz,λi v y=>by simp [lk] at y⟩
  exact K a w (I.append D) Y
 have a7:∀(q:Nat) (b:Array Bool) (a:Act) (w:World),TF b=q+1→TQ l.toArray (g::s) b→U8 B h n m l.toArray (g::s++[]) [f] ZB.none R b a w→(∀i,i<l.toArray.size→i∉g::s→i∉[f]→b.getD i false=true)→g∈Region.ready .any l.toArray b→wpOp P l.toArray (Qx ex RR (W P ex RR cs N)) g (wpAny P .any l.toArray (Qx ex RR (W P ex RR cs N)) q (b.setIfInBounds g true)) a w:=by
  intro q b a w hu Q ai u hr;obtain⟨h1,Y,Z,D,g4⟩:=ai.ex;have au:∀i,i∉g::s→b.getD i false=true→∃d v,HW l.toArray i=some d∧a.tmps[d]? =some v∧R i v h1:=λi y u=>g4 i (by rw[xK];exact y) u;have av:TF (b.setIfInBounds g true)=q:=by have:=Nz (mem_ready.1 hr).1;omega
  have A:=Q.head hr n1;have aw:∀i,i<l.toArray.size→∀(L:Array Bool),L.size=l.toArray.size→L.getD i false=true→L.getD i true=true:=λi y L hs U=>by
   have:i<L.size:=by omega
   simpa [this] using U
  unfold wpOp;simp only[ho];rw[wG (by simp [Region.wanted,ab])];cases ad:b.getD f false with
  |true=>
   have U:=hA a w h1 Y Z D λi C F=>au i F (by
    by_cases e:i=f
    ·rw[e];exact ad
    ·exact u i C F λh=>e (by simpa using h))
   unfold wpList at U;rw[wG (by simp [Region.wanted,ab])] at U;refine U.imp (Oper.wp_mono λa2 w2 hk=>?_) λx=>x;refine Mr c6 s q _ a2 w2 av A.size (λi C F=>aw i C _ A.size ?_) (λt G=>⟨J t (xP _ G),A.tail t G⟩) ?_ X (by rw[H];exact hk)
   ·by_cases M:g=i
    ·subst M;have:g<b.size:=by rw[Q.size];exact C
     simp [this]
    ·refine getD_set_true ?_;by_cases e:i=f
     ·rw[e];exact ad
     ·exact u i C (λh=>(wN.1 h).elim (λx=>M x.symm) F) λh=>e (by simpa using h)
   ·have:=Mi c4;cases s with
    |nil=>trivial
    |cons t r=>exact this.2
  |false=>
   have U:=hB a w h1 Y Z D λi C F p3=>au i F (u i C F λh=>p3 (by simpa using h));unfold wpList at U;rw[wG (by simp [Region.wanted,ab])] at U;refine U.imp (Oper.wp_mono λa2 w2 hk=>?_) λx=>x;refine Mr c6 (f::s) q _ a2 w2 av A.size (λi C F=>aw i C _ A.size ?_) (λt G=>?_) (Mi a4) (zH.2 ⟨a5,X⟩) (by rw[List.filterMap_cons,ar];simp only;rw[H];exact hk)
   ·by_cases M:g=i
    ·subst M;have:g<b.size:=by rw[Q.size];exact C
     simp [this]
    ·refine getD_set_true (u i C (λh=>(wN.1 h).elim (λx=>M x.symm) λx=>F (xP _ x)) λh=>F ?_);rw[xV.1 h];exact xL
   ·rcases wN.1 G with rfl|G
    ·refine⟨aq,?_⟩;rw[getD_set_ne true (λe=>a6 e.symm)];exact getD_in (by rw[Q.size];exact aq) ad
    ·exact⟨J t (xP _ G),A.tail t G⟩
 refine λrd a8=>RU a8 OD hm (SE (R:=R) (B:=B) (h0:=h) (n:=n) (m:=m) (g::s) [] [f] ZB.none jK.none (λz hz=>by cases hz) a3 J ap c6 [] [f] (.inr rfl) (.inr (by simpa using c3)) (Mi c4) c5 c7 hQ (λf hf=>by cases hf) (λf hf=>by cases hf) (by rw[xK];exact ah) ac (λi y=>by rw[xK,xV.1 y];exact nf) (λi o d y ho hd=>?_) (λa w h' Y Z D g4 _ _=>?_) (.inr ⟨λf hf=>(by cases hf),λa9 ba e q b a w=>by cases e;exact a7 q b a w⟩) _ _ _ _ ?_ ⟨by simp,λj oj _ u=>(by rw[getD_replicate_false] at u;cases u),λt G=>getD_in (by simpa using J t G) (getD_replicate_false _ _)⟩ (λi y=>by cases y) ⟨⟨h,hw.drew,HS.refl h,hf.sub al,λi _ u=>(by rw[getD_replicate_false] at u;cases u)⟩,λi _ j _ _ u=>(by rw[getD_replicate_false] at u;cases u),λz hz=>by cases hz⟩)
 ·rw[xK] at y;have ax:l[i]? =some o:=by simpa using ho
  obtain⟨ps,K,I⟩:=BD.at_ (k:=0) step ao (by rw[xM];exact y) ax hd;rw[xM] at I;refine⟨ps,?_,λ_ _=>wY,I⟩;have hz:((o,ps),i)∈(l.zip pss).zipIdx:=by
   rw[xY];exact⟨i,by rw[List.getElem?_zipIdx,(Abi (z:=(o,ps))).2 ⟨ax,K⟩];simp⟩
  have:=wO.1 aa.2 _ hz;rw[wZ] at this;exact this.resolve_left λh=>y (wS.1 h)
 ·have ae:((g::s).filterMap λt=>l.toArray[t]?)=V::ls:=by
   rw[List.filterMap_cons,ho];simp only;rw[H]
  rw[ae];exact hA a w h' Y Z D λi C F=>g4 i C (by rw[xK];exact F)
 ·unfold TF;rw[Abe];simp
end
abbrev vI (n:Int):Value:= .int .i64 n
abbrev vP (b o:Nat):Value:= .pointer (some ⟨b,o,none⟩)
abbrev vN:Value:= .slice none 0 0
section
variable {P:Program}{ops:Array Oper}{C:World→Prop}{Q:Act→Prop}{n:FN}{m m':SM}{rest:List Oper}
variable {d:Nat}{ty:TypeId}{pos:String}{af:Array Edge}{X Y:Operand}{t t1 t2:TypeId}{x y:Int}{kd:IntKind}{v p:Value}
def Cv (e:(CF m X,Nat.blt d n.1)=(some v,true)) (k:QF P ops C Q rest n ((d,v)::m)):QF P ops C Q (⟨some d,.move X,ty,pos,af,none⟩::rest) n m:=
 G7 (wH (λz=>z.1) e) (wH (λz=>z.2) e) k
def Rk (e:(CF m X,Nat.blt d n.1)=(some v,true)) (k:QF P ops C Q rest n ((d,v)::m)):QF P ops C Q (⟨some d,.assign X,ty,pos,af,none⟩::rest) n m:=
 OH (wH (λz=>z.1) e) (wH (λz=>z.2) e) k
def NP {b}(e:(CF m X,Nat.blt d n.1)=(some (.bool b),true)) (k:QF P ops C Q rest n ((d,.bool (!b))::m)):QF P ops C Q (⟨some d,.unOp .not t1 X,ty,pos,af,none⟩::rest) n m:=
 XS (wH (λz=>z.1) e) (wH (λz=>z.2) e) k
def Dw {o:Oper}{j e:Nat}{b:Bool}(e:(o.guard,(ops[j]?).bind (·.dst),lk m e)=(some (j,b),some e,some (.bool b))) (k:QF P ops C Q ({ o with guard:=none}::rest) n m):QF P ops C Q (o::rest) n m:=
 Ys (wH (λz=>z.1) e) (wH (λz=>z.2.1) e) (wH (λz=>z.2.2) e) k
def Ho {c X Y:Operand}{b:Bool}(e:(CF m c,CF m (if b then X else Y),Nat.blt d n.1)=(some (.bool b),some v,true)) (k:QF P ops C Q rest n ((d,v)::m)):QF P ops C Q (⟨some d,.pick c X Y,ty,pos,af,none⟩::rest) n m:=
 SH (wH (λz=>z.1) e) (wH (λz=>z.2.1) e) (wH (λz=>z.2.2) e) k
def SJ (e:(CF m X,CF m Y,Nat.blt d n.1)=(some (.int kd x),some (.int kd y),true)) (k:QF P ops C Q rest n ((d,.bool (decide (x<y)))::m)):QF P ops C Q (⟨some d,.binOp .lss t1 X Y t2,ty,pos,af,none⟩::rest) n m:=
 dS (wH (λz=>z.1) e) (wH (λz=>z.2.1) e) (wH (λz=>z.2.2) e) k
def Vr (e:(CF m X,CF m Y,Nat.blt d n.1)=(some (.int kd x),some (.int kd y),true)) (k:QF P ops C Q rest n ((d,.bool (decide (x≤y)))::m)):QF P ops C Q (⟨some d,.binOp .leq t1 X Y t2,ty,pos,af,none⟩::rest) n m:=
 dT (wH (λz=>z.1) e) (wH (λz=>z.2.1) e) (wH (λz=>z.2.2) e) k
def Yt (e:(CF m X,CF m Y,Nat.blt d n.1)=(some (.int kd x),some (.int kd y),true)) (k:QF P ops C Q rest n ((d,.bool (decide (y<x)))::m)):QF P ops C Q (⟨some d,.binOp .gtr t1 X Y t2,ty,pos,af,none⟩::rest) n m:=
 XT (wH (λz=>z.1) e) (wH (λz=>z.2.1) e) (wH (λz=>z.2.2) e) k
def SK (e:(CF m X,CF m Y,Nat.blt d n.1)=(some (.int kd x),some (.int kd y),true)) (k:QF P ops C Q rest n ((d,.bool (decide (y≤x)))::m)):QF P ops C Q (⟨some d,.binOp .geq t1 X Y t2,ty,pos,af,none⟩::rest) n m:=
 dV (wH (λz=>z.1) e) (wH (λz=>z.2.1) e) (wH (λz=>z.2.2) e) k
def Yr (e:(CF m X,CF m Y,Nat.blt d n.1)=(some (.int kd x),some (.int kd y),true)) (k:QF P ops C Q rest n ((d,.bool (decide (x≠y)))::m)):QF P ops C Q (⟨some d,.binOp .neq t1 X Y t2,ty,pos,af,none⟩::rest) n m:=
 dO (wH (λz=>z.1) e) (wH (λz=>z.2.1) e) (wH (λz=>z.2.2) e) k
def QY (e:(CF m X,CF m Y,Nat.blt d n.1)=(some (.int .i64 x),some (.int .i64 y),true)) (k:QF P ops C Q rest n ((d,.int .i64 (BV (x+y)))::m)):QF P ops C Q (⟨some d,.binOp .add t1 X Y t2,ty,pos,af,none⟩::rest) n m:=
 Yv (wH (λz=>z.1) e) (wH (λz=>z.2.1) e) (wH (λz=>z.2.2) e) k
def Wp (e:(CF m X,CF m Y,Nat.blt d n.1)=(some (.int .i64 x),some (.int .i64 y),true)) (k:QF P ops C Q rest n ((d,.int .i64 (BV (x-y)))::m)):QF P ops C Q (⟨some d,.binOp .sub t1 X Y t2,ty,pos,af,none⟩::rest) n m:=
 Yp (wH (λz=>z.1) e) (wH (λz=>z.2.1) e) (wH (λz=>z.2.2) e) k
def Tf {xs:Array Value}{i:Nat}{u:Value}(e:(CF m X,xs[i]?,Nat.blt d n.1)=(some (.tuple xs),some u,true)) (k:QF P ops C Q rest n ((d,u)::m)):QF P ops C Q (⟨some d,.extract X i,ty,pos,af,none⟩::rest) n m:=
 dW (wH (λz=>z.1) e) (wH (λz=>z.2.1) e) (wH (λz=>z.2.2) e) k
end
section
variable {P:Program}{ex:List (Nat×AP)}{R N:AP}{cs:List Code}{B:World}{h:A4}{n:FN}{m m':SM}
def LX {l:List Oper}{id:Nat}{y:Code}(k:QF P l.toArray (Wd B h) (λa=>∀w,Wd B h w→W P ex R (y::cs) N a w) l n m):WF P ex R (.seq (.region id l.toArray false) y::cs) N B h n m:=Dj (JL (.inl rfl) k)
def WF.sl {l:List Oper}{id:Nat}{y:Code}(k:LF P l.toArray (Qx ex R (W P ex R (y::cs) N)) l B h n m):WF P ex R (.seq (.region id l.toArray false) y::cs) N B h n m:=Dj (Es k)
def ND {ops:Array Oper}{C:World→Prop}{d:Nat}{ty:TypeId}{pos:String}{af:Array Edge}{X:Operand}{v:Value}(e:(CF m X,Nat.blt d n.1)=(some v,true)) (b:Ud ((d,v)::m) m') (k:WF P ex R cs N B h n m'):QF P ops C (λa=>∀w,Wd B h w→W P ex R cs N a w) [⟨some d,.assign X,ty,pos,af,none⟩] n m:=Rk e (Ip b k)
def AE {ex:List (Nat×AP)}{R N:AP}{m:SM}{b:Bool}{α:Type}{a d r:α}{X:Operand}{x y:Code}(g:CF m X=some (.bool b)) (E:cond b a d=r) (i:b=true→a=r→WF P ex R (x::cs) N B h n m) (j:b=false→d=r→WF P ex R (y::cs) N B h n m):WF P ex R (.cond X x y::cs) N B h n m:=Rg g (λc=>i c (HU c E)) (λc=>j c (HX c E))
end
def uM (d:Nat):Nat→List Oper→Option (Nat×Nat)
 |_,[]=>none
 |j,o::r=>match o.op with
  | .pick (.tmp x) _ _=>cond (Nat.beq x d) (match o.dst with|some t=>some (j+1,t)|none=>none) (uM d (j+1) r)
  |_=>uM d (j+1) r
def tW (ops:Array Oper) (l:List Oper):Option (Nat×Nat×Nat×Bool):=match l with
 |[]=>none
 |o::_=>match o.guard with
  |none=>none
  |some (a,b)=>match (ops[a]?).bind (·.dst) with
   |none=>none
   |some d=>match uM d 0 l with
    |none=>none
    |some (j,t)=>some (j,t,d,b)
def eJ (m1 m:SM):Bool:=(m1.take (m1.length-(m.length+1))).all λp=> !(m.any λq=>Nat.beq p.1 q.1)
def aT:∀{m:SM}{i:Nat}{u:Value},lk m i=some u→(m.any λq=>Nat.beq i q.1)=true
 |(j,v)::r,i,u,h=>by
  rw[List.any_cons];simp only[lk] at h;cases e:Nat.beq j i with
  |true=>
   have:=wQ e;subst this;rw[show Nat.beq j j=true by simp,Bool.true_or]
  |false=>
   rw[e,wE] at h;rw[aT h,Bool.or_true]
def aS:∀{m:SM}{i:Nat},(∀p∈m,Nat.beq p.1 i=false)→lk m i=none
 |[],_,_=>rfl
 |(j,v)::r,i,h=>by
  simp only[lk];rw[h (j,v) xL,wE];exact aS λp a=>h p (xP _ a)
def iI {n:FN}{a:Act}{m m1:SM}{d t:Nat}{b:Bool}{v:Value}(g:Fr n a m1) (l:lk m1 t=some v) (j:eJ m1 m=true) (o:m1.drop (m1.length-(m.length+1))=(d,.bool b)::m) (hd:lk m d=some (.bool b)):Fr n a ((t,v)::m):=by
 refine⟨g.dfr,g.siz,λi u c=>?_⟩;simp only[lk] at c;cases e:Nat.beq t i with
 |true=>
  rw[e,wD] at c;cases c;have:=wQ e;subst this;exact g.at_ _ _ l
 |false=>
  rw[e,wE] at c;refine g.at_ _ _ ?_;rw[←zD (m1.length-(m.length+1)) m1,o,K0];have q:lk (m1.take (m1.length-(m.length+1))) i=none:=aS λp s=>by
   unfold eJ at j;rw[wO] at j;have:=j p s;cases k:Nat.beq p.1 i with
   |false=>rfl
   |true=>
    have w:=wQ k;rw[w,aT c] at this;cases this
  rw[q,Option.none_or];simp only[lk];cases k:Nat.beq d i with
  |true=>
   have:=wQ k;subst this;rw[hd] at c;exact c
  |false=>exact c
def PS (n:FN) (m:SM) (d:Nat) (b:Bool) (t:Nat) (v:Bool) (a:Act):Prop:=∃m1,Fr n a m1∧lk m1 t=some (.bool v)∧eJ m1 m=true∧m1.drop (m1.length-(m.length+1))=(d,.bool b)::m
section
variable {P:Program}{ops:Array Oper}{C:World→Prop}{Q:Act→Prop}{n:FN}{m m1 m2:SM}{l:List Oper}
def nO {d t:Nat}{b v:Bool}(c:lk m1 t=some (.bool v)) (g:eJ m1 m=true) (i:m1.drop (m1.length-(m.length+1))=(d,.bool b)::m):QF P ops C (PS n m d b t v) [] n m1:=QF.nil λa j=>⟨m1,j,c,g,i⟩
def Fr.lit {n:FN}{a:Act}{m:SM}{d:Nat}{v:Value}(c:Fr n a m) (h:lk m d=some v):Fr n a ((d,v)::m):=⟨c.dfr,c.siz,λi u b=>by
 simp only[lk] at b;cases e:Nat.beq d i with
 |true=>
  have:=wQ e;subst this;rw[e,wD] at b;cases b;exact c.at_ _ _ h
 |false=>
  rw[e,wE] at b;exact c.at_ _ _ b⟩
def dN {c v:Bool}(b:Bool) {j t d:Nat}(k:lk m d=some (.bool c)) (q:QF P ops C (PS n m d b t v) (l.take j) n ((d,.bool b)::m))
  (s:TJ ops n.1 (l.take j) ((d,.bool (!b))::m)=some m2) (u:lk m2 t=some (.bool (!b))) (w:eJ m2 m=true) (hd:m2.drop (m2.length-(m.length+1))=(d,.bool (!b))::m) (p:QF P ops C Q (l.drop j) n ((t,.bool (cond b (c&&v) (c||v)))::m)):QF P ops C Q l n m:=by
 by_cases e:c=b
 ·subst e;intro a o;refine Ul j (PS n m d c t v) (q a (o.lit k)) λi ⟨m1,x,y,z,A⟩=>p i ?_;have:=iI x y z A k;cases c<;>exact this
 ·have e:c= !b:=by cases c<;>cases b<;>first|rfl|exact absurd rfl e
  subst e;intro a o;refine Ul j (λi=>Fr n i m2) (Qn s (QF.nil λi g=>g) a (o.lit k)) λi g=>p i ?_;have:=iI g u w hd k;cases b<;>exact this
def nP {c v:Bool}{j t d:Nat}(e:tW ops l=some (j,t,d,true)) (a:lk m d=some (.bool c)) (b:QF P ops C (PS n m d true t v) (l.take j) n ((d,.bool true)::m))
  (g:TJ ops n.1 (l.take j) ((d,.bool false)::m)=some m2) (i:lk m2 t=some (.bool false)) (k:eJ m2 m=true) (hd:m2.drop (m2.length-(m.length+1))=(d,.bool false)::m) (o:QF P ops C Q (l.drop j) n ((t,.bool (c&&v))::m)):QF P ops C Q l n m:=dN true a b g i k hd o
def nN {c v:Bool}{j t d:Nat}(e:tW ops l=some (j,t,d,false)) (a:lk m d=some (.bool c)) (b:QF P ops C (PS n m d false t v) (l.take j) n ((d,.bool false)::m))
  (g:TJ ops n.1 (l.take j) ((d,.bool true)::m)=some m2) (i:lk m2 t=some (.bool true)) (k:eJ m2 m=true) (hd:m2.drop (m2.length-(m.length+1))=(d,.bool true)::m) (o:QF P ops C Q (l.drop j) n ((t,.bool (c||v))::m)):QF P ops C Q l n m:=dN false a b g i k hd o
def nQ {b:List (Nat×AP)}{R N:AP}{cs:List Code}{B:World}{h:A4}(k:WF P b R cs N B h n m):QF P ops C (λa=>∀w,Wd B h w→W P b R cs N a w) [] n m:=λa c w d=>k a w c d
def oD {b:List (Nat×AP)}{R N:AP}{cs:List Code}{B:World}{h:A4}(k:WF P b R cs N B h n m):LF P ops (Qx b R (W P b R cs N)) [] B h n m:=λa w c d=>iF (k a w c d)
end
def tX:IntKind→Nat
 | .i8=>0| .i16=>1| .i32=>2| .i64=>3| .u8=>4| .u16=>5| .u32=>6| .u64=>7
def lE {a b:IntKind}(h:Nat.beq (tX a) (tX b)=true):a=b:=by cases a<;>cases b<;>first|rfl|cases h
def binI (o:BinOp) (k:IntKind) (x y:Int):Option Value:=match o with
 | .lss=>some (.bool (decide (x<y)))
 | .leq=>some (.bool (decide (x≤y)))
 | .gtr=>some (.bool (decide (y<x)))
 | .geq=>some (.bool (decide (y≤x)))
 | .eql=>some (.bool (decide (x=y)))
 | .neq=>some (.bool (decide (x≠y)))
 | .add=>some (.int k (k.wrap (x+y)))
 | .sub=>some (.int k (k.wrap (x-y)))
 | .mul=>some (.int k (k.wrap (x*y)))
 | .and=>some (.int k (Jp .and k x y))
 |_=>none
def uV (a:Op) (m:SM):Option Value:=match a with
 | .move X=>CF m X
 | .assign X=>CF m X
 | .pick c x y=>match CF m c with
  |some (.bool true)=>CF m x
  |some (.bool false)=>CF m y
  |_=>none
 | .extract X i=>match CF m X with
  |some (.tuple xs)=>xs[i]?
  |_=>none
 | .nilCheck X=>match CF m X with
  |some (.pointer (some d))=>some (.pointer (some d))
  |_=>none
 | .unOp .not _ X=>match CF m X with
  |some (.bool b)=>some (.bool (!b))
  |_=>none
 | .binOp o _ X Y _=>match CF m X with
  |some (.int k x)=>match CF m Y with
   |some (.int g y)=>cond (Nat.beq (tX k) (tX g)) (binI o k x y) none
   |_=>none
  |_=>none
 |_=>none
section
variable {P:Program}{ops:Array Oper}{C:World→Prop}{Q:Act→Prop}{n:FN}{m:SM}{rest:List Oper}
def gK {d:Nat}{ty:TypeId}{pos:String}{af:Array Edge}{o:BinOp}{t1 t2:TypeId}{X Y:Operand}{k:IntKind}{x y:Int}{v:Value}(a:CF m X=some (.int k x)) (b:CF m Y=some (.int k y)) (hd:Nat.blt d n.1=true) (e:Go.Proofs.YtibidnaedddfdaaGreat.binI o k x y=some v) (kk:QF P ops C Q rest n ((d,v)::m)):QF P ops C Q (⟨some d,.binOp o t1 X Y t2,ty,pos,af,none⟩::rest) n m:=by
 cases o<;>cases e
 ·exact gM a b hd kk
 ·exact fZ a b hd kk
 ·exact gB a b hd kk
 ·exact gL a b hd kk
 ·exact XW a b hd kk
 ·exact dO a b hd kk
 ·exact dS a b hd kk
 ·exact dT a b hd kk
 ·exact XT a b hd kk
 ·exact dV a b hd kk
def nR {d:Nat}{a:Op}{ty:TypeId}{pos:String}{af:Array Edge}{v:Value}(e:uV a m=some v) (hd:Nat.blt d n.1=true) (k:QF P ops C Q rest n ((d,v)::m)):QF P ops C Q (⟨some d,a,ty,pos,af,none⟩::rest) n m:=by
 unfold uV at e;split at e
 ·exact G7 e hd k
 ·exact OH e hd k
 ·split at e
  ·rename_i h;exact SH h e hd k
  ·rename_i h;exact SH h e hd k
  ·cases e
 ·split at e
  ·rename_i h;exact dW h e hd k
  ·cases e
 ·split at e
  ·rename_i h;cases e;exact U6 h hd k
  ·cases e
 ·split at e
  ·rename_i h;cases e;exact XS h hd k
  ·cases e
 ·split at e
  ·rename_i b;split at e
   ·rename_i c;obtain⟨g,i⟩:=Oc e;have:=lE g;subst this;exact gK b c hd i k
   ·cases e
  ·cases e
 ·cases e
end
structure QJ (P:Program) (ops:Array Oper) (C:World→Prop) (Q:Act→Prop) (l:List Oper) (n:FN) (m:SM):Prop where out:QF P ops C Q l n m
structure LJ (P:Program) (ops:Array Oper) (Q:Exit→Act→World→Prop) (l:List Oper) (B:World) (h:A4) (n:FN) (m:SM):Prop where out:LF P ops Q l B h n m
structure WJ (P:Program) (ex:List (Nat×AP)) (R:AP) (cs:List Code) (N:AP) (B:World) (h:A4) (n:FN) (m:SM):Prop where out:WF P ex R cs N B h n m
def ZA:Value→Nat→Value
 | .pointer (some a),k=> .pointer (some (a.add k))
 |v,_=>v
def Ny.fl {α β A S h}{r:BX α}{r':BX β}{o f p x}(k:Ny A S h r p x) (b:Gs r o r' f):Ny A S h r' (ZA p o) (f x):=by
 obtain⟨a,rfl,c⟩:=k.fld b;exact c
def Ny.i {A S h p}{x:Int}(k:Ny A S h AW p x):AA x:=by
 obtain⟨cs,_,_,h⟩:=k;exact h
def Sl.le {α S h}{r:BX α}{v}{l:List α}(k:Sl S h r v l):l.length≤maxLen:=by
 obtain⟨_,_,_,h⟩:=k.len;exact h
def U1 (h:A4) (p:Value) (j:Nat):Value:=match p with
 | .pointer (some a)=>(Ji h ⟨a.block,a.off+j,none⟩).getD undef
 |_=>undef
def Qb.at_ {A h p cs}(k:Qb A h p cs) {j:Nat}(b:j<cs.length):cs[j]? =some (U1 h p j):=by
 obtain⟨a,rfl,_,_,c⟩:=k;have:=c j b;show cs[j]? =some ((Ji h ⟨a.block,a.off+j,none⟩).getD undef)
 rw[this,wR b];rfl
def Qb.map {A h p cs}(k:Qb A h p cs):(List.range cs.length).map (U1 h p)=cs:=by
 apply List.ext_getElem?;intro j;rw[zQ];by_cases a:j<cs.length
 ·rw[k.at_ a,Abb a];rfl
 ·rw[zM (by simpa using a),zM (by simpa using a)];rfl
def fW (h:A4) (p:Value) (n:Nat):Value:= .agg ((List.range n).map (U1 h p)).toArray
 class Fc (p:Prop):Prop where out:p
 class Hq (P:Program) (t j:Nat) (off:outParam Nat):Prop where out:bK P t j off=true
 class TC (P:Program) (t:Nat) (e sz:outParam Nat):Prop where out:TI P t e sz=true
 class LB {α:Type} (r:BX α) (o:Nat) {β:outParam Type} (r':outParam (BX β)) (f:outParam (α→β)):Prop where out:Gs r o r' f
 class eL (C:World→Prop) (h:outParam A4):Prop where out:CK C h
instance {B:World}{h:A4}:eL (Wd B h) h:=⟨K1⟩
instance {B:World}{h:A4}:eL (Cl B h) h:=⟨RG⟩
 class Rh (P:Program) (t:Nat) (sz:outParam Nat):Prop where out:L5 P t sz true=true
structure Vl (A:Nat→Prop) (h:A4) (ag:Bool) (sz:Nat) (p v:Value):Prop where out:∃cs,Qb A h p cs∧cs.length=sz∧v=if ag then .agg cs.toArray else cs.headD undef
def Ny.lv {α A S h}{r:BX α}{p x}(k:Ny A S h r p x):∃v,Vl A h r.ag r.sz p v∧Rd S h r v x:=by
 obtain⟨cs,b,a⟩:=k;exact⟨_,⟨cs,b,r.len a,rfl⟩,cs,rfl,a⟩
def Ny.ll {α A S h}{r:BX α}{p x}(k:Ny A S h r.sl p x):∃v,Vl A h false 1 p v∧Sl S h r v x:=by
 obtain⟨v,a,b⟩:=k.lv;exact⟨v,a,b.sl⟩
def Ny.sz {A S h p}{x:ByteArray}(k:Ny A S h BX.str p x):x.size≤maxLen:=by
 obtain⟨cs,_,_,h⟩:=k;exact h
def qB (o:Oper):Bool:=match o.op with
 | .move _| .assign _| .pick _ _ _| .build _ _| .load _ _| .nilCheck _| .binOp _ _ _ _ _| .unOp _ _ _| .convert _ _ _| .makeFunc _ _ _| .fieldAddr _ _ _| .field _ _ _| .indexAddr _ _ _| .index _ _ _| .extract _ _=>true
 | .call ⟨.builtin .len,_,_⟩| .call ⟨.builtin .min,_,_⟩| .call ⟨.builtin .max,_,_⟩=>true
 |_=>false
def fB (o:Oper):Bool:=match o.op with
 | .call ⟨.value _,_,_⟩=>true
 |_=>false
def qN:List Oper→Nat
 |[]=>0
 |o::r=>cond (qB o) (qN r+1) 0
section
variable {P:Program}{ops:Array Oper}{Q:Act→Prop}{n:FN}{m m1 m2:SM}{rest l:List Oper}{B:World}{S:Nat→Prop}{L:List HP}{h:A4}
variable {d:Nat}{ty:TypeId}{pos:String}{af:Array Edge}{X Y:Operand}{t t1:TypeId}{v p:Value}
def iZ {C}{a:Op}(e:(uV a m,Nat.blt d n.1)=(some v,true)) (k:QJ P ops C Q rest n ((d,v)::m)):QJ P ops C Q (⟨some d,a,ty,pos,af,none⟩::rest) n m:=
 ⟨nR (wH (λz=>z.1) e) (wH (λz=>z.2) e) k.1⟩
def tM {C}{a:Op}{j e:Nat}{b:Bool}(q:((ops[j]?).bind (·.dst),lk m e)=(some e,some (.bool b))) (k:QJ P ops C Q (⟨some d,a,ty,pos,af,none⟩::rest) n m):QJ P ops C Q (⟨some d,a,ty,pos,af,some (j,b)⟩::rest) n m:=
 ⟨Ys rfl (wH (λz=>z.1) q) (wH (λz=>z.2) q) k.1⟩
def QJ.scA {C}{c v:Bool}{j t d:Nat}(e:tW ops l=some (j,t,d,true)) (a:lk m d=some (.bool c)) (b:QJ P ops C (PS n m d true t v) (l.take j) n ((d,.bool true)::m))
  (g:TJ ops n.1 (l.take j) ((d,.bool false)::m)=some m2) (i:lk m2 t=some (.bool false)) (k:eJ m2 m=true) (hd:m2.drop (m2.length-(m.length+1))=(d,.bool false)::m) (o:QJ P ops C Q (l.drop j) n ((t,.bool (c&&v))::m)):QJ P ops C Q l n m:=⟨nP e a b.1 g i k hd o.1⟩
def QJ.scO {C}{c v:Bool}{j t d:Nat}(e:tW ops l=some (j,t,d,false)) (a:lk m d=some (.bool c)) (b:QJ P ops C (PS n m d false t v) (l.take j) n ((d,.bool false)::m))
  (g:TJ ops n.1 (l.take j) ((d,.bool true)::m)=some m2) (i:lk m2 t=some (.bool true)) (k:eJ m2 m=true) (hd:m2.drop (m2.length-(m.length+1))=(d,.bool true)::m) (o:QJ P ops C Q (l.drop j) n ((t,.bool (c||v))::m)):QJ P ops C Q l n m:=⟨nN e a b.1 g i k hd o.1⟩
def QJ.scE {C}{d t:Nat}{b v:Bool}(a:lk m1 t=some (.bool v)) (c:eJ m1 m=true) (g:m1.drop (m1.length-(m.length+1))=(d,.bool b)::m):QJ P ops C (PS n m d b t v) [] n m1:=⟨nO a c g⟩
def QJ.rp {C}{b:List (Nat×AP)}{R N:AP}{cs:List Code}(k:WJ P b R cs N B h n m):QJ P ops C (λa=>∀w,Wd B h w→W P b R cs N a w) [] n m:=⟨nQ k.1⟩
def QJ.ln {C}{Q:Exit→Act→World→Prop}(k:LJ P ops Q l B h n m):QJ P ops C (λa=>∀w,Wd B h w→wpList P ops Q l a w) [] n m:=⟨EI k.1⟩
def QJ.fao {C}{b o j off}[ht:Hq P t j off] (e:(CF m X,Nat.blt d n.1)=(some (.pointer (some ⟨b,o,none⟩)),true)) (k:QJ P ops C Q rest n ((d,.pointer (some ⟨b,o+off,none⟩))::m)):QJ P ops C Q (⟨some d,.fieldAddr t X j,ty,pos,af,none⟩::rest) n m:=
 ⟨GH (wH (λz=>z.1) e) ht.out (wH (λz=>z.2) e) k.1⟩
def nZ {C}{α}{A:Nat→Prop}{r:BX α}{x j off}(c:CF m X=some p) (k0:Ny A S h r p x) (g:bK P t j off=true) (hd:Nat.blt d n.1=true) (k:QF P ops C Q rest n ((d,ZA p off)::m)):QF P ops C Q (⟨some d,.fieldAddr t X j,ty,pos,af,none⟩::rest) n m:=λa b=>by
 obtain⟨cs,⟨i,rfl,_⟩,_⟩:=k0;exact HT b hd (λw _=>by simp [execOp,b.eval c,N0 g,ZA]) k
def QJ.fax {C}{α}{A:Nat→Prop}{r:BX α}{x j off}(e:(CF m X,Nat.blt d n.1)=(some p,true)) (k0:Ny A S h r p x) [ht:Hq P t j off] (k:QJ P ops C Q rest n ((d,ZA p off)::m)):QJ P ops C Q (⟨some d,.fieldAddr t X j,ty,pos,af,none⟩::rest) n m:=
 ⟨nZ (wH (λz=>z.1) e) k0 ht.out (wH (λz=>z.2) e) k.1⟩
def QJ.ld1 {T b o:Nat}{cs:List Value}(a:St S L h) (e:(CF m X,Nat.blt d n.1)=(some (.pointer (some ⟨b,o,none⟩)),true)) (c:Bx b T cs∈L) (g:cs[o]? =some v) [ht:Fc (L5 P t 1 false=true)] (k:QJ P ops (Wd B h) Q rest n ((d,v)::m)):QJ P ops (Wd B h) Q (⟨some d,.load t X,ty,pos,af,none⟩::rest) n m:=
 ⟨Jz K1 a (wH (λz=>z.1) e) c g ht.out (wH (λz=>z.2) e) k.1⟩
def Yo {T b o:Nat}{cs:List Value}(a:St S L h) (e:(CF m X,Nat.blt d n.1)=(some (.pointer (some ⟨b,o,none⟩)),true)) (c:Bx b T cs∈L) (g:cs[o]? =some v) [ht:Fc (L5 P t 1 false=true)] (k:QJ P ops (Cl B h) Q rest n ((d,v)::m)):QJ P ops (Cl B h) Q (⟨some d,.load t X,ty,pos,af,none⟩::rest) n m:=
 ⟨Jz RG a (wH (λz=>z.1) e) c g ht.out (wH (λz=>z.2) e) k.1⟩
def QJ.ldi {x:Int}(a:St S L h) (e:(CF m X,Nat.blt d n.1)=(some p,true)) (k0:Pt S h AW p x) [ht:Fc (L5 P t 1 false=true)] (k:QJ P ops (Wd B h) Q rest n ((d,.int .i64 x)::m)):QJ P ops (Wd B h) Q (⟨some d,.load t X,ty,pos,af,none⟩::rest) n m:=
 ⟨G0 K1 a.1 (wH (λz=>z.1) e) k0 ht.out (wH (λz=>z.2) e) λ_=>k.1⟩
def QJ.len {C}{α}{S:Nat→Prop}{h:A4}{r:BX α}{x:List α}{aty e sz}(q:(CF m X,Nat.blt d n.1)=(some v,true)) (k0:Sl S h r v x) [ht:TC P t e sz] (a:r.sz=sz) (k:QJ P ops C Q rest n ((d,.int .i64 x.length)::m)):QJ P ops C Q (⟨some d,.call ⟨.builtin .len,#[X],#[t]⟩,aty,pos,af,none⟩::rest) n m:=
 ⟨Vt (wH (λz=>z.1) q) k0 (by rw[a];exact ht.out) (wH (λz=>z.2) q) λ_=>k.1⟩
def dL {C}{α β}{A S:Nat→Prop}{r:BX α}{r':BX β}{f:α→β}{x j off}(e:(CF m X,Nat.blt d n.1)=(some p,true)) (k0:Ny A S h r p x) [ht:Hq P t j off] [hf:LB r off r' f] (k:Ny A S h r' (ZA p off) (f x)→QJ P ops C Q rest n ((d,ZA p off)::m)):QJ P ops C Q (⟨some d,.fieldAddr t X j,ty,pos,af,none⟩::rest) n m:=QJ.fax e k0 (k (k0.fl hf.out))
def Vo {C ag sz}(b:St S L h) (e:(CF m X,Nat.blt d n.1)=(some p,true)) (k0:Vl S h ag sz p v) [ck:eL C h] (c:L5 P t sz ag=true) (g:(ag||Nat.beq sz 1)=true) (k:QJ P ops C Q rest n ((d,v)::m)):QJ P ops C Q (⟨some d,.load t X,ty,pos,af,none⟩::rest) n m:=by
 obtain⟨cs,i,j,rfl⟩:=k0.out;refine⟨λa l=>iC ck.out b.1 l (wH (λz=>z.1) e) i j c (λh=>?_) (wH (λz=>z.2) e) k.1⟩;subst h;exact wQ g
def Ym {C}{x:Int}(a:St S L h) (e:(CF m X,Nat.blt d n.1)=(some p,true)) (k0:Pt S h AW p x) [ck:eL C h] [ht:Fc (L5 P t 1 false=true)] (k:QJ P ops C Q rest n ((d,.int .i64 x)::m)):QJ P ops C Q (⟨some d,.load t X,ty,pos,af,none⟩::rest) n m:=
 ⟨G0 ck.out a.1 (wH (λz=>z.1) e) k0 ht.out (wH (λz=>z.2) e) λ_=>k.1⟩
def Yn {C}{x:Bool}(a:St S L h) (e:(CF m X,Nat.blt d n.1)=(some p,true)) (k0:Pt S h BX.bool p x) [ck:eL C h] [ht:Fc (L5 P t 1 false=true)] (k:QJ P ops C Q rest n ((d,.bool x)::m)):QJ P ops C Q (⟨some d,.load t X,ty,pos,af,none⟩::rest) n m:=
 ⟨nV ck.out a.1 (wH (λz=>z.1) e) k0 ht.out (wH (λz=>z.2) e) k.1⟩
def Yh {C}{x:ByteArray}(a:St S L h) (e:(CF m X,Nat.blt d n.1)=(some p,true)) (k0:Pt S h BX.str p x) [ck:eL C h] [ht:Fc (L5 P t 1 false=true)] (k:QJ P ops C Q rest n ((d,.string x)::m)):QJ P ops C Q (⟨some d,.load t X,ty,pos,af,none⟩::rest) n m:=
 ⟨nU ck.out a.1 (wH (λz=>z.1) e) k0 ht.out (wH (λz=>z.2) e) λ_=>k.1⟩
def Yl {C}{α}{r:BX α}{x}(b:St S L h) (e:(CF m X,Nat.blt d n.1)=(some p,true)) (k0:Pt S h r.sl p x) [ck:eL C h] [ht:Fc (L5 P t 1 false=true)] (k:Sl S h r (U1 h p 0) x→QJ P ops C Q rest n ((d,U1 h p 0)::m)):QJ P ops C Q (⟨some d,.load t X,ty,pos,af,none⟩::rest) n m:=by
 obtain⟨cs,a,v,rfl,c⟩:=k0;have g:v=U1 h p 0:=by have:=a.at_ (j:=0) (by simp);simpa using this
 subst g;exact Vo (ag:=false) (sz:=1) b e ⟨_,a,rfl,rfl⟩ ht.out rfl (k c)
def Yi {C}{α}{r:BX α}{x sz}(j:St S L h) (e:(CF m X,Nat.blt d n.1)=(some p,true)) (k0:Pt S h r p x) [ck:eL C h] [ht:Rh P t sz] (a:(r.sz,r.ag)=(sz,true)) (k:Rd S h r (fW h p sz) x→QJ P ops C Q rest n ((d,fW h p sz)::m)):QJ P ops C Q (⟨some d,.load t X,ty,pos,af,none⟩::rest) n m:=by
 obtain⟨cs,b,c⟩:=k0;have l:r.sz=sz:=wH (λz=>z.1) a;have o:r.ag=true:=wH (λz=>z.2) a;have g:cs.length=sz:=by rw[←l];exact r.len c
 have i:fW h p sz= .agg cs.toArray:=by unfold fW;rw[←g,b.map]
 exact Vo (ag:=true) (sz:=sz) j e ⟨cs,b,g,by rw[i];rfl⟩ ht.out rfl (k ⟨cs,by rw[i];unfold BX.val;rw[o];rfl,c⟩)
def Yk {C}{T b sz:Nat}{cs:List Value}(c:St S L h) (e:(CF m X,Nat.blt d n.1)=(some (.pointer (some ⟨b,0,none⟩)),true)) (g:Bx b T cs∈L) [ck:eL C h] [ht:Rh P t sz] (a:Nat.beq cs.length sz=true) (k:QJ P ops C Q rest n ((d,.agg cs.toArray)::m)):QJ P ops C Q (⟨some d,.load t X,ty,pos,af,none⟩::rest) n m:=
 ⟨L0 ck.out c (wH (λz=>z.1) e) g (by rw[List.drop_zero,←wQ a,xU]) a ht.out rfl (wH (λz=>z.2) e) k.1⟩
def Yj {C}{T b o sz:Nat}{cs:List Value}(a:St S L h) (e:(CF m X,Nat.blt d n.1)=(some (.pointer (some ⟨b,o,none⟩)),true)) (c:Bx b T cs∈L) [ck:eL C h] [ht:Rh P t sz] (g:Nat.ble (o+sz) cs.length=true) (k:QJ P ops C Q rest n ((d,.agg ((cs.drop o).take sz).toArray)::m)):QJ P ops C Q (⟨some d,.load t X,ty,pos,af,none⟩::rest) n m:=
 ⟨L0 ck.out a (wH (λz=>z.1) e) c rfl (by have:=zX g;simp;omega) ht.out rfl (wH (λz=>z.2) e) k.1⟩
def QJ.leno {C}{α}{r:BX α}{l:List α}{T aty e sz}(a:St S L h) (q:(CF m X,Nat.blt d n.1)=(some v,true)) (b:OS r T v l∈L) [ht:TC P t e sz] (k:QJ P ops C Q rest n ((d,.int .i64 l.length)::m)):QJ P ops C Q (⟨some d,.call ⟨.builtin .len,#[X],#[t]⟩,aty,pos,af,none⟩::rest) n m:=
 ⟨gD a b (wH (λz=>z.1) q) ht.out (wH (λz=>z.2) q) λ_=>k.1⟩
def QJ.lens {C}{s:ByteArray}{aty}(q:(CF m X,Nat.blt d n.1)=(some (.string s),true)) [ht:Fc (P.underlying t=some .string)] (k:QJ P ops C Q rest n ((d,.int .i64 s.size)::m)):QJ P ops C Q (⟨some d,.call ⟨.builtin .len,#[X],#[t]⟩,aty,pos,af,none⟩::rest) n m:=
 ⟨gC (wH (λz=>z.1) q) ht.out (wH (λz=>z.2) q) k.1⟩
def LJ.q {Q:Exit→Act→World→Prop}{o:Oper}(e:qB o=true) (k:QJ P ops (Wd B h) (λa=>∀w,Wd B h w→wpList P ops Q ((o::l).drop (qN (o::l))) a w) ((o::l).take (qN (o::l))) n m):LJ P ops Q (o::l) B h n m:=⟨IA _ k.1⟩
def LJ.nil {a:List (Nat×AP)}{R N:AP}{cs:List Code}(k:WJ P a R cs N B h n m):LJ P ops (Qx a R (W P a R cs N)) [] B h n m:=⟨oD k.1⟩
def WJ.seq {a:List (Nat×AP)}{R N:AP}{cs:List Code}{x y:Code}(k:WJ P a R (x::y::cs) N B h n m):WJ P a R (.seq x y::cs) N B h n m:=⟨Dj k.1⟩
def WJ.skip {a:List (Nat×AP)}{R N:AP}{cs:List Code}(k:WJ P a R cs N B h n m):WJ P a R (.skip::cs) N B h n m:=⟨KT k.1⟩
def WJ.rp {b:List (Nat×AP)}{R N:AP}{cs:List Code}{id:Nat}(e:l.all qB=true) (k:QJ P l.toArray (Wd B h) (λa=>∀w,Wd B h w→W P b R cs N a w) l n m):WJ P b R (.region id l.toArray false::cs) N B h n m:=⟨JL (.inl rfl) k.1⟩
def WJ.rl {a:List (Nat×AP)}{R N:AP}{cs:List Code}{id:Nat}(e:(l.all qB||l.any fB)=false) (k:LJ P l.toArray (Qx a R (W P a R cs N)) l B h n m):WJ P a R (.region id l.toArray false::cs) N B h n m:=⟨Es k.1⟩
end
def SC {A:Prop}(e:A:=by
 repeat' (first
  |refine iZ rfl ?_
  |refine tM rfl ?_
  |refine QJ.fao rfl ?_
  |refine QJ.ld1 (by assumption) rfl (by repeat (first|exact mh|refine mt ?_)) (by rfl) ?_
  |(refine dL rfl (by assumption) ?_;intro _)
  |refine QJ.fax rfl (by assumption) ?_
  |refine Ym (by assumption) rfl (by assumption) ?_
  |refine Vo (by assumption) rfl (by assumption) (by first|exact Fc.out|exact Rh.out) rfl ?_
  |(refine Yl (by assumption) rfl (by assumption) ?_;intro _)
  |refine Yn (by assumption) rfl (by assumption) ?_
  |refine QJ.len rfl (by assumption) (by rfl) ?_
  |refine QJ.lens rfl ?_
  |refine QJ.leno (by assumption) rfl (by repeat (first|exact mh|refine mt ?_)) ?_
  |refine Yh (by assumption) rfl (by assumption) ?_
  |(refine Yi (by assumption) rfl (by assumption) rfl ?_;intro _)
  |refine Yk (by assumption) rfl (by repeat (first|exact mh|refine mt ?_)) rfl ?_
  |refine Yj (by assumption) rfl (by repeat (first|exact mh|refine mt ?_)) rfl ?_
  |refine Yo (by assumption) rfl (by repeat (first|exact mh|refine mt ?_)) (by rfl) ?_
  |exact QJ.scE rfl (by kernel_rfl) (by kernel_rfl)
  |(apply QJ.scA rfl rfl ?_ rfl (by kernel_rfl) (by kernel_rfl) (by kernel_rfl) ?_;rotate_left)
  |(apply QJ.scO rfl rfl ?_ rfl (by kernel_rfl) (by kernel_rfl) (by kernel_rfl) ?_;rotate_left))
 first|done|fail):A:=e
structure Hd (A:Prop):Prop where out:A
def AU {A B:Prop}(k:A) (f:Hd A→B:=by
 intro k
 first
  |with_reducible refine QJ.out ?_
  |with_reducible refine LJ.out ?_
  |with_reducible refine WJ.out ?_
  |refine LJ.out ?_
 repeat (first
  |refine iZ rfl ?_
  |refine tM rfl ?_
  |refine QJ.fao rfl ?_
  |refine QJ.ld1 (by assumption) rfl (by repeat (first|exact mh|refine mt ?_)) (by rfl) ?_
  |(refine dL rfl (by assumption) ?_;intro _)
  |refine QJ.fax rfl (by assumption) ?_
  |refine Ym (by assumption) rfl (by assumption) ?_
  |refine Vo (by assumption) rfl (by assumption) (by first|exact Fc.out|exact Rh.out) rfl ?_
  |(refine Yl (by assumption) rfl (by assumption) ?_;intro _)
  |refine Yn (by assumption) rfl (by assumption) ?_
  |refine QJ.len rfl (by assumption) (by rfl) ?_
  |refine QJ.lens rfl ?_
  |refine QJ.leno (by assumption) rfl (by repeat (first|exact mh|refine mt ?_)) ?_
  |refine Yh (by assumption) rfl (by assumption) ?_
  |(refine Yi (by assumption) rfl (by assumption) rfl ?_;intro _)
  |refine Yk (by assumption) rfl (by repeat (first|exact mh|refine mt ?_)) rfl ?_
  |refine Yj (by assumption) rfl (by repeat (first|exact mh|refine mt ?_)) rfl ?_
  |refine Yo (by assumption) rfl (by repeat (first|exact mh|refine mt ?_)) (by rfl) ?_
  |refine QJ.ln ?_
  |refine QJ.rp ?_
  |refine LJ.q rfl ?_
  |refine LJ.nil ?_
  |refine WJ.seq ?_
  |refine WJ.skip ?_
  |refine WJ.rp rfl ?_
  |refine WJ.rl rfl ?_
  |(apply QJ.scA rfl rfl ?_ rfl (by kernel_rfl) (by kernel_rfl) (by kernel_rfl) ?_;rotate_left;exact SC)
  |(apply QJ.scO rfl rfl ?_ rfl (by kernel_rfl) (by kernel_rfl) (by kernel_rfl) ?_;rotate_left;exact SC)
  |fail)
 first
  |exact QJ.mk k.out
  |exact LJ.mk k.out
  |exact WJ.mk k.out):B:=f ⟨k⟩
def St.lt {S:Nat→Prop}{L:List HP}{h:A4}(k:St S L h):∀b,S b→b<h.size:=k.1
def EX {A:Prop}(e:A:=by
 first
  |assumption
  |exact CX.refl _ _
  |repeat (first
    |assumption
    |refine CX.trans ?_ (by assumption)
    |exact HS.ext (by assumption) (St.lt (by assumption))
    |exact SN.ext (St.lt (by assumption)) (by assumption)
    |refine CX.trans ?_ (HS.ext (by assumption) (St.lt (by assumption)))
    |refine CX.trans ?_ (SN.ext (St.lt (by assumption)) (by assumption))
    |refine CX.trans ?_ (SX.ext (St.lt (by assumption)) (by assumption) (by assumption)))):A:=e
def Rd.nw {α:Type}{S S':Nat→Prop}{h h':A4}{r:BX α}{v:Value}{x:α}{L:List HP}(k:Rd S h r v x) (a:St S' L h':=by assumption) (e:CX S h S' h':=by exact EX):Rd S' h' r v x:=k.mono e
def Sl.nw {α:Type}{S S':Nat→Prop}{h h':A4}{r:BX α}{v:Value}{l:List α}{L:List HP}(k:Sl S h r v l) (a:St S' L h':=by assumption) (e:CX S h S' h':=by exact EX):Sl S' h' r v l:=k.mono' e
def Ny.nw {α:Type}{S S':Nat→Prop}{h h':A4}{r:BX α}{v:Value}{x:α}{L:List HP}(k:Pt S h r v x) (a:St S' L h':=by assumption) (e:CX S h S' h':=by exact EX):Pt S' h' r v x:=Ny.mono k e
def et {S S' c:Nat→Prop}{h h' d:A4}(b:CX S' h' c d) (a:CX S h S' h':=by exact EX):CX S h c d:=a.trans b
inductive Dl:List HP→List HP→Prop
 |refl {L:List HP}:Dl L L
 |keep {H:HP} {L1 L2:List HP}:Dl L1 L2→Dl (H::L1) (H::L2)
 |drop {H:HP} {L1 L2:List HP}:Dl L1 L2→Dl L1 (H::L2)
def Sp.dl {S:Nat→Prop}{h:A4}{L1 g:List HP}(d:Dl L1 g):∀{A:Nat→Prop},Sp S g h A→Sp S L1 h A:=by
 induction d with
 |refl=>exact λk=>k
 |keep _ a=>exact λ⟨F,j,i,c⟩=>⟨F,j,i,a c⟩
 |drop _ a=>exact λ⟨F,_,i,c⟩=>a (Sp.mono c λb l=>l.1)
def St.dl {S:Nat→Prop}{h:A4}{L1 a:List HP}(k:St S a h) (d:Dl L1 a):St S L1 h:=⟨k.1,k.2.dl d⟩
def DR {A:Prop}(e:A:=by
 first
  |assumption
  |refine St.dl (by assumption) ?_
   repeat (first|exact Dl.refl|refine Dl.keep ?_|refine Dl.drop ?_)):A:=e
section
variable {P:Program}{fn:Func}{B:World}{S S':Nat→Prop}{h h':A4}{ex:List (Nat×AP)}{N:AP}{cs:List Code}{m:SM}{post:Value→(Nat→Prop)→A4→Prop}{k t:Nat}{v:Value}
def Ma (kp:post v S' h') (b:fn.results= #[.tmp t]) (c:lk m t=some v) (e:CX S h S' h'):WF P ex (Rt P fn B S h post) (.ret::cs) N B h' (k,[]) m:=WF.ret λa w d g=>rtT d g b c e kp
end
def CE {p:Prop}(e:true=false):p:=by cases e
section
variable {P:Program}{ops:Array Oper}{n:FN}{m:SM}{rest:List Oper}{d:Nat}{ty:TypeId}{pos:String}{af:Array Edge}{X Y:Operand}{f:Nat}{xs:Array Operand}{tys:Array TypeId}{args vs:List Value}{first cap:Array Value}{h:A4}{B:World}{S:Nat→Prop}{L:List HP}
variable {β ρ:Type}{F:Option β}{K:β→Option ρ}{r:ρ}
def BE {Q:Act→Prop}{v:β→Value}{Z:β→(Nat→Prop)→A4→Prop}(E:F.bind K=some r) (i:CF m X=some (.func (.func f) first cap)) (a:xs.toList.mapM (CF m)=some args) (c:first.toList++args++cap.toList=vs) (g:BK P f=true) (hd:Nat.blt d n.1=true)
  (j:∀y,F=some y→∀h',HS h h'→CA P f vs.toArray (λb=>b<h'.size) h' (λu l o=>u=v y∧Z y l o))
  (k:∀y,K y=some r→QF P ops (Cl B h) Q rest n ((d,v y)::m)):QF P ops (Cl B h) Q (⟨some d,.call ⟨.value X,xs,tys⟩,ty,pos,af,none⟩::rest) n m:=by
 obtain⟨y,p,E⟩:=bd E;exact KN i a c g hd (j y p) (k y E)
def A5 {Q:Act→Prop}{v:β→Value}{Ψ:β→Prop}{Z:β→(Nat→Prop)→A4→Prop}(E:F.bind K=some r) (i:CF m X=some (.func (.func f) first cap)) (a:xs.toList.mapM (CF m)=some args) (c:first.toList++args++cap.toList=vs) (g:BK P f=true) (hd:Nat.blt d n.1=true)
  (j:∀y,F=some y→∀h',HS h h'→CA P f vs.toArray (λb=>b<h'.size) h' (λu l o=>u=v y∧Ψ y∧Z y l o))
  (k:∀y,K y=some r→Ψ y→QF P ops (Cl B h) Q rest n ((d,v y)::m)):QF P ops (Cl B h) Q (⟨some d,.call ⟨.value X,xs,tys⟩,ty,pos,af,none⟩::rest) n m:=by
 obtain⟨y,p,E⟩:=bd E;exact IZ i a c g hd (j y p) (k y E)
def E4 {Q:Exit→Act→World→Prop}{a:β→Value→(Nat→Prop)→A4→Prop}(E:F.bind K=some r) (j:CF m X=some (.func (.func f) first cap)) (b:xs.toList.mapM (CF m)=some args) (c:first.toList++args++cap.toList=vs) (g:BK P f=true) (hd:Nat.blt d n.1=true) (l:∀y,F=some y→CA P f vs.toArray S h (a y))
  (k:∀y,K y=some r→∀v i h',CX S h i h'→a y v i h'→LF P ops Q rest B h' n ((d,v)::m)):LF P ops Q (⟨some d,.call ⟨.value X,xs,tys⟩,ty,pos,af,none⟩::rest) B h n m:=by
 obtain⟨y,o,E⟩:=bd E;exact KG j b c g hd (l y o) (k y E)
def Ia {Q:Exit→Act→World→Prop}{a:β→Value→(Nat→Prop)→A4→Prop}(E:F.bind K=some r) (l:CF m X=some (.func (.func f) first cap)) (c:xs.toList.mapM (CF m)=some args) (g:first.toList++args++cap.toList=vs) (i:BK P f=true) (hd:Nat.blt d n.1=true) (o:St S L h) (p:∀y,F=some y→CA P f vs.toArray (λb=>b<h.size) h (a y))
  (k:∀y,K y=some r→∀v j h',St S L h'→CX S h S h'→CX (λb=>b<h.size) h j h'→a y v j h'→LF P ops Q rest B h' n ((d,v)::m)):LF P ops Q (⟨some d,.call ⟨.value X,xs,tys⟩,ty,pos,af,none⟩::rest) B h n m:=by
 obtain⟨y,q,E⟩:=bd E;exact Cj l c g i hd o (p y q) (k y E)
def AO {α:Type}{C:World→Prop}{Q:Act→Prop}{a:BX α}{l:List α}{K:α→Option ρ}{t e:Nat}{v:Value}{i:Int}(E:(Go.Proofs.YtibidnaedddfdaaGreat.ix l i).bind K=some r) (c:CF m X=some v) (g:CF m Y=some (.int .i64 i)) (k0:Sl S h a v l) (j:TI P t e a.sz=true) (hd:Nat.blt d n.1=true)
  (k:∀x,K x=some r→∀q,Pt S h a q x→QF P ops C Q rest n ((d,q)::m)):QF P ops C Q (⟨some d,.indexAddr t X Y,ty,pos,af,none⟩::rest) n m:=by
 obtain⟨x,b,E⟩:=bd E;exact MK c g k0 j b hd (k x E)
end
def G1 {P:Program}{ops:Array Oper}{n:FN}{m:SM}{rest:List Oper}{ty:TypeId}{pos:String}{af:Array Edge}{X Y:Operand}{h:A4}{B:World}{S:Nat→Prop}{L c:List HP}{Q:Exit→Act→World→Prop}{v:Value}{T d:TypeId}{b:Nat}{cs vs:List Value}{sz:Nat}{ag:Bool}(i:CF m X=some (.pointer (some ⟨b,0,none⟩))) (j:CF m Y=some v) (l:v.cells=vs.toArray) (o:∀u∈vs,u.oneCell'=true)
  (p:L5 P T sz ag=true) (a:vs.length=sz) (q:St S L h) (r:Np L (Bx b d cs) (Bx b d vs) c) (s:Nat.beq cs.length sz=true)
  (k:∀h',St S c h'→CX S h S h'→LF P ops Q rest B h' n m):LF P ops Q (⟨none,.store T X Y,ty,pos,af,none⟩::rest) B h n m:=by
 have g:=wQ s;refine dX i j l o p a q r (by simp [g]) ?_ k;unfold JN;simp [g,a]
def ON {A:Prop}(e:A:=by
 repeat (first
  |exact Ru
  |refine IL rfl ?_
  |refine IL (Sl.one (by assumption)) ?_)):A:=e
def PA.i {R:AR}{h:A4}{K:SM→Prop}{j d:Nat}{a:List (Nat×Nat)}{fr:SM}(k:∀u,R j u h→PA R h K a ((d,u)::fr)):PA R h K ((j,d)::a) fr:=k
def PA.n {R:AR}{h:A4}{K:SM→Prop}{fr:SM}(k:K fr):PA R h K [] fr:=k
def oG {a b:Prop}(k:a∧b):a∧b:=k
def DM {A:Prop}(e:A:=by
 intro b c o;have a:=HS.st o (by assumption)
 repeat (refine PA.i (λu f=>?_);first|(obtain ⟨rfl,_⟩:=oG f)|cases f)
 refine PA.n ?_;refine AU ?_
 first
  |exact B7 (HS.refl _) rfl
  |exact B7 (HS.refl _) ⟨rfl,(by first|assumption|exact iq rfl|exact BY _)⟩):A:=e
def St.ea {S:Nat→Prop}{L:List HP}{h:A4}(k:St S L h):CX S h (λb=>b<h.size) h:=⟨λb a=>k.1 b a,λ_ _=>rfl,wV _⟩
def BR {P:Program}{ops:Array Oper}{Q:Exit→Act→World→Prop}{B:World}{n:FN}{d:Nat}{R:Value→A4→Prop}{h:A4}{m:SM}{v:Value}(r:R v h):LF P ops (Exit.then (KS B n d R h m) Q) [] B h n ((d,v)::m):=B7 (HS.refl _) r
def Rd.sn {α:Type}{S:Nat→Prop}(h0:A4) {a:A4}{r:BX α}{v:Value}{x:α}(k:Rd S a r v x):Rd (SN S h0 a) a r v x:=k.mono ⟨λb c=> .inl c,λ_ _=>rfl,wV _⟩
def Sl.sn {α:Type}{S:Nat→Prop}(h0:A4) {a:A4}{r:BX α}{v:Value}{x:List α}(k:Sl S a r v x):Sl (SN S h0 a) a r v x:=k.mono' ⟨λb c=> .inl c,λ_ _=>rfl,wV _⟩
def kV {S:Nat→Prop}{L:List HP}{h a c:A4}(k:St S L h) (d:HS h a) (g:HS a c):CX S a S c:=g.ext λb i=>wX (k.1 b i) d.siz
def MO {A:Prop}(e:A:=by
 intro i v d g c b a
 repeat (first
  |exact False.elim a
  |(rcases i with _|i;focus first
   |exact a
   |exact Ny.mono a (kV (by assumption) c b)
   |exact Sl.mono' a (kV (by assumption) c b)
   |exact Rd.mono a (kV (by assumption) c b)
   |exact⟨Sl.mono' a.1 (SN.mono (St.lt (by assumption)) c b),a.2⟩
   |exact a.mono b
   |exact Sl.mono' a (SN.mono (St.lt (by assumption)) c b)
   |exact Rd.mono a (SN.mono (St.lt (by assumption)) c b)))):A:=e
def RT {A:Prop}(e:A:=by
 refine AU ?_;cases E
 first
  |exact Ma ⟨rfl,DR⟩ rfl rfl EX
  |exact Ma ⟨rfl,(by first|assumption|exact iq rfl|exact BY _),DR⟩ rfl rfl EX):A:=e
end Go.Proofs.YtibidnaedddfdaaGreat
