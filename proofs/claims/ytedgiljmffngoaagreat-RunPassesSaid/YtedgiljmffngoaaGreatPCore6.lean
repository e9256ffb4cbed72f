import Derived.Test.YtedgiljmffngoaaGreatPCore5
namespace Go.Proofs.YtedgiljmffngoaaGreat
set_option linter.all false
open Go.RowKit
abbrev SM:=List (Nat×Value)
def QF (P:Program) (ops:Array Oper) (C:World→Prop) (Q:Act→Prop) (l:List Oper) (n:FN) (m:SM):Prop:=∀a,Fr n a m→wpQuiet P ops C Q l a
def LF (P:Program) (ops:Array Oper) (Q:Exit→Act→World→Prop) (l:List Oper) (B:World) (h:AS) (n:FN) (m:SM):Prop:=∀a w,Fr n a m→Wd B h w→wpList P ops Q l a w
def WF (P:Program) (ex:List (Nat×AP)) (R:AP) (cs:List Code) (N:AP) (B:World) (h:AS) (n:FN) (m:SM):Prop:=∀a w,Fr n a m→Wd B h w→W P ex R cs N a w
section
variable {P:Program}{ex:List (Nat×AP)}{R N:AP}{cs:List Code}{B:World}{h:AS}{n:FN}{m m':SM}{S:Nat→Prop}{L:List HP}
def TZ (b:Ty m m') (k:WF P ex R cs N B h n m'):WF P ex R cs N B h n m:=λa w c d=>k a w (c.sub b) d
def C6 {x y:Code}(k:WF P ex R (x::y::cs) N B h n m):WF P ex R (.seq x y::cs) N B h n m:=λa w b c=>tI (k a w b c)
def F9 (k:WF P ex R cs N B h n m):WF P ex R (.skip::cs) N B h n m:=λa w b c=>nG (k a w b c)
def B0 (k:∀a w,Fr n a m→Wd B h w→R a w):WF P ex R (.ret::cs) N B h n m:=λa w b c=>tJ (k a w b c)
def A8 {i:Nat}{K:AP}(b:oS ex i=some K) (k:∀a w,Fr n a m→Wd B h w→K a w):WF P ex R (.exit i::cs) N B h n m:=λa w c d=>Z9 b (k a w c d)
def WF.nil (k:∀a w,Fr n a m→Wd B h w→N a w):WF P ex R [] N B h n m:=λa w b c=>k a w b c
def Tb {X b}{x y:Code}(g:BV m X=some (.bool b)) (i:b=true→WF P ex R (x::cs) N B h n m) (j:b=false→WF P ex R (y::cs) N B h n m):WF P ex R (.cond X x y::cs) N B h n m:=
 λa w c d=>xP c g (λe=>i e a w c d) λe=>j e a w c d
def VH {X}{x y:Code}(c:BV m X=some (.bool true)) (k:WF P ex R (x::cs) N B h n m):WF P ex R (.cond X x y::cs) N B h n m:=λa w b d=>tK b c (k a w b d)
def Tc {X}{x y:Code}(c:BV m X=some (.bool false)) (k:WF P ex R (y::cs) N B h n m):WF P ex R (.cond X x y::cs) N B h n m:=λa w b d=>tL b c (k a w b d)
def A3 {i:Nat}{c:Code}(k:WF P ((i,W P ex R cs N)::ex) R [c] (W P ex R cs N) B h n m):WF P ex R (.block i c::cs) N B h n m:=λa w b d=>gP (k a w b d)
def Gx {c:Code}(I:AP) (b:WF P ex R [c] I B h n m) (d:∀a w,I a w→W P ex R cs N a w):WF P ex R (c::cs) N B h n m:=λa w g i=>tM I (b a w g i) d
def jW {c:Code}(I:Nat→AP) (T d:Nat) (h0:∀a w,Fr n a m→Wd B h w→I d a w) (g:∀i a w,I i a w→i≤T)
  (b:∀i a w,I i a w→W P ex R [c] (I (i+1)) a w):WF P ex R (.loop c::cs) N B h n m:=λa w j k=>nI I T d (h0 a w j k) g b
def I0 {l:List Oper}{id:Nat}{b:Bool}(c:bY P l b) (k:QF P l.toArray (Wd B h) (λa=>∀w,Wd B h w→W P ex R cs N a w) l n m):WF P ex R (.region id l.toArray b::cs) N B h n m:=
 λa _ d g=>xM c g (k a d)
def BY {l:List Oper}{id:Nat}{b:Bool}(c:bY P l b) (d:St S L h) (k:QF P l.toArray (Cl B h) (λa=>∀w h',Wd B h' w→St S L h'→CG S h S h'→W P ex R cs N a w) l n m):WF P ex R (.region id l.toArray b::cs) N B h n m:=
 λa _ g i=>xO c i d (k a g)
def B1 {l:List Oper}{id:Nat}(k:LF P l.toArray (Qx ex R (W P ex R cs N)) l B h n m):WF P ex R (.region id l.toArray false::cs) N B h n m:=
 λa w b c=>xN (k a w b c)
def Ew {ops:Array Oper}{C}(b:Ty m m') (k:WF P ex R cs N B h n m'):QF P ops C (λa=>∀w,Wd B h w→W P ex R cs N a w) [] n m:=λa c w d=>k a w (c.sub b) d
def BG {ops:Array Oper}{C}(b:Ty m m') (k:∀h',St S L h'→CG S h S h'→WF P ex R cs N B h' n m'):QF P ops C (λa=>∀w h',Wd B h' w→St S L h'→CG S h S h'→W P ex R cs N a w) [] n m:=
 λa c w h' d s e=>k h' s e a w (c.sub b) d
def LF.nil {ops:Array Oper}(b:Ty m m') (k:WF P ex R cs N B h n m'):LF P ops (Qx ex R (W P ex R cs N)) [] B h n m:=λa w c d=>lV (k a w (c.sub b) d)
def L6 {ops:Array Oper}{Q:Exit→Act→World→Prop}{l:List Oper}(j:Nat) (k:QF P ops (Wd B h) (λa=>∀w,Wd B h w→wpList P ops Q (l.drop j) a w) (l.take j) n m):LF P ops Q l B h n m:=λa _ b c=>l_q j c (k a b)
def K2 {ops:Array Oper}{C}{Q:Exit→Act→World→Prop}{l:List Oper}(k:LF P ops Q l B h n m):QF P ops C (λa=>∀w,Wd B h w→wpList P ops Q l a w) [] n m:=λa b w c=>k a w b c
def A7 {f fn c l S h post}(n:Nat) (b:P.funcs[f]? =some fn) (d:fn.body=some c) (g:fn.ntmps=n) (i:Nat.ble l.length n=true)
  (k:∀B,WF P [] (Rt P fn B S h post) [c] (Rt P fn B S h post) B h (n,[]) (XQ 0 l)):B6 P f l.toArray S h post:=
 B6.intro n b d g (Acr i) λB w a j b=>k B a w b j
end
section
variable {P:Program}{ops:Array Oper}{C:World→Prop}{Q:Act→Prop}{n:FN}{m m':SM}{rest:List Oper}
variable {d:Nat}{ty:TypeId}{pos:String}{af:Array Edge}{X Y:Operand}{t t1 t2:TypeId}{x y:Int}{kd:IntKind}{v p:Value}
def QF.nil (k:∀a,Fr n a m→Q a):QF P ops C Q [] n m:=λa b=>k a b
def yS {l:List Oper}(b:Ty m m') (k:QF P ops C Q l n m'):QF P ops C Q l n m:=λa c=>k a (c.sub b)
def Yn {o:Oper}{j e:Nat}{b:Bool}(d:o.guard=some (j,b)) (g:(ops[j]?).bind (·.dst)=some e) (i:lk m e=some (.bool b)) (k:QF P ops C Q ({ o with guard:=none}::rest) n m):QF P ops C Q (o::rest) n m:=
 λa c=>xY c d g i (k a c)
def zM {o:Oper}{j e:Nat}{b:Bool}(a:o.guard=some (j,!b)) (c:(ops[j]?).bind (·.dst)=some e) (g:lk m e=some (.bool b)) (i:o.dst=some d) (hd:Nat.blt d n.1=true) (k:QF P ops C Q rest n ((d,undef)::m)):QF P ops C Q (o::rest) n m:=
 λ_ l=>xZ l a c g i hd k
def sV (j:Nat) (m':SM) {l:List Oper}(c:QF P ops C (λa=>Fr n a m') (l.take j) n m) (d:QF P ops C Q (l.drop j) n m'):QF P ops C Q l n m:=
 λa g=>UE j (λa=>Fr n a m') (c a g) λi b=>d i b
def kL (b:Ty m m'):QF P ops C (λa=>Fr n a m') [] n m:=λ_ c=>c.sub b
def LC (a:BV m X=some v) (hd:Nat.blt d n.1=true) (k:QF P ops C Q rest n ((d,v)::m)):QF P ops C Q (⟨some d,.move X,ty,pos,af,none⟩::rest) n m:=λ_ b=>xW b a hd k
def Mq (a:BV m X=some v) (hd:Nat.blt d n.1=true) (k:QF P ops C Q rest n ((d,v)::m)):QF P ops C Q (⟨some d,.assign X,ty,pos,af,none⟩::rest) n m:=λ_ b=>yB b a hd k
def Q6 {c X Y:Operand}{b:Bool}(a:BV m c=some (.bool b)) (g:BV m (if b then X else Y)=some v) (hd:Nat.blt d n.1=true) (k:QF P ops C Q rest n ((d,v)::m)):QF P ops C Q (⟨some d,.pick c X Y,ty,pos,af,none⟩::rest) n m:=λ_ i=>oI i a g hd k
def yV (a:BV m X=some (.int .i64 x)) (b:BV m Y=some (.int .i64 y)) (hd:Nat.blt d n.1=true) (c:AA (x+y)) (k:QF P ops C Q rest n ((d,.int .i64 (x+y))::m)):QF P ops C Q (⟨some d,.binOp .add t1 X Y t2,ty,pos,af,none⟩::rest) n m:=λ_ g=>vA g a b hd c k
def yT (a:BV m X=some (.int .i64 x)) (b:BV m Y=some (.int .i64 y)) (hd:Nat.blt d n.1=true) (c:AA (x*y)) (k:QF P ops C Q rest n ((d,.int .i64 (x*y))::m)):QF P ops C Q (⟨some d,.binOp .mul t1 X Y t2,ty,pos,af,none⟩::rest) n m:=λ_ g=>uK g a b hd c k
def Yu (a:BV m X=some (.int .i64 x)) (b:BV m Y=some (.int .i64 y)) (hd:Nat.blt d n.1=true) (k:QF P ops C Q rest n ((d,.int .i64 (A9 (x+y)))::m)):QF P ops C Q (⟨some d,.binOp .add t1 X Y t2,ty,pos,af,none⟩::rest) n m:=λ_ c=>oM c a b hd k
def Yk (a:BV m X=some (.int .i64 x)) (b:BV m Y=some (.int .i64 y)) (hd:Nat.blt d n.1=true) (k:QF P ops C Q rest n ((d,.int .i64 (A9 (x-y)))::m)):QF P ops C Q (⟨some d,.binOp .sub t1 X Y t2,ty,pos,af,none⟩::rest) n m:=λ_ c=>oH c a b hd k
def fM (a:BV m X=some (.int kd x)) (b:BV m Y=some (.int kd y)) (hd:Nat.blt d n.1=true) (k:QF P ops C Q rest n ((d,.bool (decide (x<y)))::m)):QF P ops C Q (⟨some d,.binOp .lss t1 X Y t2,ty,pos,af,none⟩::rest) n m:=λ_ c=>uN c a b hd k
def fN (a:BV m X=some (.int kd x)) (b:BV m Y=some (.int kd y)) (hd:Nat.blt d n.1=true) (k:QF P ops C Q rest n ((d,.bool (decide (x≤y)))::m)):QF P ops C Q (⟨some d,.binOp .leq t1 X Y t2,ty,pos,af,none⟩::rest) n m:=λ_ c=>uO c a b hd k
def fQ (a:BV m X=some (.int kd x)) (b:BV m Y=some (.int kd y)) (hd:Nat.blt d n.1=true) (k:QF P ops C Q rest n ((d,.bool (decide (y<x)))::m)):QF P ops C Q (⟨some d,.binOp .gtr t1 X Y t2,ty,pos,af,none⟩::rest) n m:=λ_ c=>uV c a b hd k
def sS (a:BV m X=some (.int kd x)) (b:BV m Y=some (.int kd y)) (hd:Nat.blt d n.1=true) (k:QF P ops C Q rest n ((d,.bool (decide (y≤x)))::m)):QF P ops C Q (⟨some d,.binOp .geq t1 X Y t2,ty,pos,af,none⟩::rest) n m:=λ_ c=>uW c a b hd k
def fT (a:BV m X=some (.int kd x)) (b:BV m Y=some (.int kd y)) (hd:Nat.blt d n.1=true) (k:QF P ops C Q rest n ((d,.bool (decide (x=y)))::m)):QF P ops C Q (⟨some d,.binOp .eql t1 X Y t2,ty,pos,af,none⟩::rest) n m:=λ_ c=>uY c a b hd k
def fL (a:BV m X=some (.int kd x)) (b:BV m Y=some (.int kd y)) (hd:Nat.blt d n.1=true) (k:QF P ops C Q rest n ((d,.bool (decide (x≠y)))::m)):QF P ops C Q (⟨some d,.binOp .neq t1 X Y t2,ty,pos,af,none⟩::rest) n m:=λ_ c=>uJ c a b hd k
def fI {b}(a:BV m X=some (.bool b)) (hd:Nat.blt d n.1=true) (k:QF P ops C Q rest n ((d,.bool (!b))::m)):QF P ops C Q (⟨some d,.unOp .not t1 X,ty,pos,af,none⟩::rest) n m:=λ_ c=>uH c a hd k
def Yl (a:BV m X=some (.int .i64 x)) (hd:Nat.blt d n.1=true) (k:QF P ops C Q rest n ((d,.int .i64 (A9 (0-x)))::m)):QF P ops C Q (⟨some d,.unOp .neg t1 X,ty,pos,af,none⟩::rest) n m:=λ_ b=>oJ b a hd k
def Td {aty}(a:BV m X=some (.int kd x)) (b:BV m Y=some (.int kd y)) (hd:Nat.blt d n.1=true) (k:QF P ops C Q rest n ((d,.int kd (Max.max x y))::m)):QF P ops C Q (⟨some d,.call ⟨.builtin .max,#[X,Y],#[t1,t2]⟩,aty,pos,af,none⟩::rest) n m:=λ_ c=>uM c a b hd k
def XU {aty}(a:BV m X=some (.int kd x)) (b:BV m Y=some (.int kd y)) (hd:Nat.blt d n.1=true) (k:QF P ops C Q rest n ((d,.int kd (Min.min x y))::m)):QF P ops C Q (⟨some d,.call ⟨.builtin .min,#[X,Y],#[t1,t2]⟩,aty,pos,af,none⟩::rest) n m:=λ_ c=>uL c a b hd k
def FV {T:TypeId}{a:Array (Nat×Operand)}{pl z pv cs}(b:VX P T=some (pl,z)) (c:a.toList.mapM (iJ m)=some pv) (g:NB pl z pv=some cs) (hd:Nat.blt d n.1=true) (k:QF P ops C Q rest n ((d,.agg cs.toArray)::m)):QF P ops C Q (⟨some d,.build T a,ty,pos,af,none⟩::rest) n m:=λ_ i=>uZ i b c g hd k
def fJ {T:TypeId}{ks xs ys}(a:BV m X=some (.agg xs)) (b:BV m Y=some (.agg ys)) (c:jA P T=some ks) (g:xs.toList.map Mc=ks) (i:ys.toList.map Mc=ks) (j:Qh xs.toList ys.toList=true) (hd:Nat.blt d n.1=true) (k:QF P ops C Q rest n ((d,.bool (!Zc xs.toList ys.toList))::m)):QF P ops C Q (⟨some d,.binOp .neq T X Y t2,ty,pos,af,none⟩::rest) n m:=λ_ l=>uI l a b c g i j hd k
def Id {b o j off}(a:BV m X=some (.pointer (some ⟨b,o,none⟩))) (c:Zq P t j off=true) (hd:Nat.blt d n.1=true) (k:QF P ops C Q rest n ((d,.pointer (some ⟨b,o+off,none⟩))::m)):QF P ops C Q (⟨some d,.fieldAddr t X j,ty,pos,af,none⟩::rest) n m:=λ_ g=>uX g a c hd k
def Pi {ad len cap aty e sz}(a:BV m X=some (.slice ad len cap)) (b:Pp P t e sz=true) (hd:Nat.blt d n.1=true) (k:QF P ops C Q rest n ((d,.int .i64 len)::m)):QF P ops C Q (⟨some d,.call ⟨.builtin .len,#[X],#[t]⟩,aty,pos,af,none⟩::rest) n m:=λ_ c=>oK c a b hd k
section
variable {A S:Nat→Prop}{L:List HP}{h:AS}
def Q7 {α}{r:A6 α}{x}(g:CK C h) (i:∀b,A b→b<h.size) (j:BV m X=some p) (k0:Ms A S h r p x) (l:Jj P t r.sz r.ag=true) (o:r.ag=false→r.sz=1) (hd:Nat.blt d n.1=true)
  (k:∀v,Rd S h r v x→QF P ops C Q rest n ((d,v)::m)):QF P ops C Q (⟨some d,.load t X,ty,pos,af,none⟩::rest) n m:=λ_ c=>ZL g i c j k0 l o hd λv a c q=>k v q a c
def FU {x}(g:CK C h) (i:∀b,A b→b<h.size) (j:BV m X=some p) (k0:Ms A S h AB p x) (l:Jj P t 1 false=true) (hd:Nat.blt d n.1=true)
  (k:AA x→QF P ops C Q rest n ((d,.int .i64 x)::m)):QF P ops C Q (⟨some d,.load t X,ty,pos,af,none⟩::rest) n m:=λ_ c=>uT g i c j k0 l hd λa c o=>k o a c
def fP {x}(a:CK C h) (c:∀b,A b→b<h.size) (g:BV m X=some p) (k0:Ms A S h A6.bool p x) (i:Jj P t 1 false=true) (hd:Nat.blt d n.1=true)
  (k:QF P ops C Q rest n ((d,.bool x)::m)):QF P ops C Q (⟨some d,.load t X,ty,pos,af,none⟩::rest) n m:=λ_ j=>uU a c j g k0 i hd k
def Te {x}(g:CK C h) (i:∀b,A b→b<h.size) (j:BV m X=some p) (k0:Ms A S h A6.str p x) (l:Jj P t 1 false=true) (hd:Nat.blt d n.1=true)
  (k:x.size≤maxLen→QF P ops C Q rest n ((d,.string x)::m)):QF P ops C Q (⟨some d,.load t X,ty,pos,af,none⟩::rest) n m:=λ_ c=>uQ g i c j k0 l hd λa c o=>k o a c
def I9 {α}{r:A6 α}{x}(g:CK C h) (i:∀b,A b→b<h.size) (j:BV m X=some p) (k0:Ms A S h r.sl p x) (l:Jj P t 1 false=true) (hd:Nat.blt d n.1=true)
  (k:∀v,Sl S h r v x→QF P ops C Q rest n ((d,v)::m)):QF P ops C Q (⟨some d,.load t X,ty,pos,af,none⟩::rest) n m:=λ_ c=>uS g i c j k0 l hd λv a c o=>k v o a c
def MA {α β}{r:A6 α}{r':A6 β}{f:α→β}{j off x}(c:BV m X=some p) (k0:Ms A S h r p x) (g:Ff r off r' f) (i:Zq P t j off=true) (hd:Nat.blt d n.1=true)
  (k:∀q,Ms A S h r' q (f x)→QF P ops C Q rest n ((d,q)::m)):QF P ops C Q (⟨some d,.fieldAddr t X j,ty,pos,af,none⟩::rest) n m:=λ_ b=>yA b c k0 g i hd λq a b l=>k q l a b
def wP {α}{r:A6 α}{l:List α}{e i x}(c:BV m X=some v) (g:BV m Y=some (.int .i64 i)) (k0:Sl S h r v l) (j:Pp P t e r.sz=true) (h0:0≤i) (o:l[i.toNat]? =some x) (hd:Nat.blt d n.1=true)
  (k:∀q,Pt S h r q x→QF P ops C Q rest n ((d,q)::m)):QF P ops C Q (⟨some d,.indexAddr t X Y,ty,pos,af,none⟩::rest) n m:=λ_ b=>xX b c g k0 j h0 o hd λq a b p=>k q p a b
def sP {α}{r:A6 α}{l:List α}{T e i x}(p:St S L h) (s:OS r T v l∈L) (u:BV m X=some v) (y:BV m Y=some (.int .i64 i)) (z:Pp P t e r.sz=true) (h0:0≤i) (o:l[i.toNat]? =some x) (hd:Nat.blt d n.1=true)
  (k:∀q,Ms (λb=>b<h.size) S h r q x→EP v (i.toNat*r.sz) q→QF P ops C Q rest n ((d,q)::m)):QF P ops C Q (⟨some d,.indexAddr t X Y,ty,pos,af,none⟩::rest) n m:=by
 obtain⟨g,cap,rfl,A⟩:=p.osAt s o;have B:i.toNat<l.length:=(Aai.1 o).1;have c:(⟨g,0,none⟩:Addr).add (i.toNat*r.sz)=⟨g,i.toNat*r.sz,none⟩:=by unfold Addr.add;split<;>simp_all
 intro a j;refine Dx j hd (λw _=>by simp [execOp,j.eval u,j.eval y,M6 (P:=P) (w:=w) (cap:=cap) (a:=⟨g,0,none⟩) z h0 B,c]) (k _ A ⟨g,_,_,rfl,rfl⟩)
def NL {α}{r:A6 α}{l:List α}{aty e}(c:BV m X=some v) (k0:Sl S h r v l) (g:Pp P t e r.sz=true) (hd:Nat.blt d n.1=true)
  (k:l.length≤maxLen→QF P ops C Q rest n ((d,.int .i64 l.length)::m)):QF P ops C Q (⟨some d,.call ⟨.builtin .len,#[X],#[t]⟩,aty,pos,af,none⟩::rest) n m:=λ_ b=>uP b c k0 g hd λa b i=>k i a b
def kJ {α}{r:A6 α}{l:List α}{T aty e sz}(b:St S L h) (c:OS r T v l∈L) (g:BV m X=some v) (i:Pp P t e sz=true) (hd:Nat.blt d n.1=true)
  (k:l.length≤maxLen→QF P ops C Q rest n ((d,.int .i64 l.length)::m)):QF P ops C Q (⟨some d,.call ⟨.builtin .len,#[X],#[t]⟩,aty,pos,af,none⟩::rest) n m:=by
 obtain⟨j,cap,rfl,a⟩:=b.oslen c;exact Pi g i hd (k a)
def N9 {T b o sz:Nat}{ag:Bool}{cs vs:List Value}(a:CK C h) (c:St S L h) (g:BV m X=some (.pointer (some ⟨b,o,none⟩))) (i:Bx b T cs∈L) (j:(cs.drop o).take sz=vs) (l:Nat.beq vs.length sz=true) (p:Jj P t sz ag=true) (q:(ag||Nat.beq sz 1)=true) (hd:Nat.blt d n.1=true)
  (k:QF P ops C Q rest n ((d,if ag then .agg vs.toArray else vs.headD undef)::m)):QF P ops C Q (⟨some d,.load t X,ty,pos,af,none⟩::rest) n m:=λ_ s=>uR a c s g i j l p q hd k
end
def kM {f:Nat}{xs:Array Operand}{c:Array TypeId}{a vs:List Value}{first cap:Array Value}{h B}
  (l:BV m X=some (.func (.func f) first cap)) (g:xs.toList.mapM (BV m)=some a) (i:first.toList++a++cap.toList=vs) (j:BI P f=true) (hd:Nat.blt d n.1=true)
  (o:∀h',DT h h'→B6 P f vs.toArray (λb=>b<h'.size) h' (λu _ _=>u=v))
  (k:QF P ops (Cl B h) Q rest n ((d,v)::m)):QF P ops (Cl B h) Q (⟨some d,.call ⟨.value X,xs,c⟩,ty,pos,af,none⟩::rest) n m:=λ_ p=>oL p l g i j hd o k
end
section
variable {P:Program}{ops:Array Oper}{Q:Exit→Act→World→Prop}{n:FN}{m:SM}{rest:List Oper}
variable {d:Nat}{ty:TypeId}{pos:String}{af:Array Edge}{X Y:Operand}{B:World}{h:AS}{S:Nat→Prop}{L L2:List HP}{v:Value}
def PQ {T:TypeId}{cs:List Value}(j:BV m X=some v) (l:v.cells=cs.toArray) (hd:Nat.blt d n.1=true) (c:St S L h)
  (k:∀b h',St S (Bx b T cs::L) h'→CG S h S h'→LF P ops Q rest B h' n ((d,.pointer (some ⟨b,0,none⟩))::m)):LF P ops Q (⟨some d,.box T X,ty,pos,af,none⟩::rest) B h n m:=
 λ_ _ g i=>lW g j l hd i c λb a w h' g i c e=>k b h' c e a w g i
def Bz {T:TypeId}{α}{r:A6 α}{x:α}(i:BV m X=some v) (j:Rd S h r v x) (l:r.ag=false→r.sz=1) (hd:Nat.blt d n.1=true) (b:St S L h)
  (k:∀p S' h',St S' L h'→CG S h S' h'→Pt S' h' r p x→LF P ops Q rest B h' n ((d,p)::m)):LF P ops Q (⟨some d,.box T X,ty,pos,af,none⟩::rest) B h n m:=
 λ_ _ c g=>oU c i j l hd g b λp a w S' h' c g b e kp=>k p S' h' b e kp a w c g
def CP {T:TypeId}{cs:List Value}(j:D1 P T=some cs) (hd:Nat.blt d n.1=true) (c:St S L h)
  (k:∀b h',St S (Bx b T cs::L) h'→CG S h S h'→LF P ops Q rest B h' n ((d,.pointer (some ⟨b,0,none⟩))::m)):LF P ops Q (⟨some d,.alloc T,ty,pos,af,none⟩::rest) B h n m:=
 λ_ _ g i=>yG g j hd i c λb a w h' g i c e=>k b h' c e a w g i
def Tg {T l:TypeId}{b o:Nat}{cs vs cs':List Value}{sz:Nat}{ag:Bool}(p:BV m X=some (.pointer (some ⟨b,o,none⟩))) (q:BV m Y=some v) (s:v.cells=vs.toArray) (t:∀u∈vs,u.oneCell'=true)
  (x:Jj P T sz ag=true) (d:vs.length=sz) (g:St S L h) (r:Mo L (Bx b l cs) (Bx b l cs') L2) (c:Nat.ble (o+sz) cs.length=true) (y:IZ cs o vs=cs')
  (k:∀h',St S L2 h'→CG S h S h'→LF P ops Q rest B h' n m):LF P ops Q (⟨none,.store T X Y,ty,pos,af,none⟩::rest) B h n m:=
 λ_ _ i j=>yD i p q s t x d c y j g r λa w h' i j g e=>k h' g e a w i j
def wT {α}{r:A6 α}{T e sz b:Nat}{z:List Value}{zx:α}{len cap:Nat}{q s:IntKind}{U V:Operand}(t:OR P T=some (e,sz,b,z)) (c:r.sz=sz) (u:r.rd S h z zx)
  (x:BV m U=some (.int q (len:Nat))) (y:BV m V=some (.int s (cap:Nat))) (g:len≤cap) (i:b*cap≤281474976710656) (j:cap≤maxLen) (hd:Nat.blt d n.1=true) (l:St S L h)
  (k:∀v h',St S (OS r e v (List.replicate len zx)::L) h'→CG S h S h'→LF P ops Q rest B h' n ((d,v)::m)):LF P ops Q (⟨some d,.makeSlice T U V,ty,pos,af,none⟩::rest) B h n m:=
 λ_ _ o p=>yE o t c u x y g i j hd p l λv a w h' o p l e=>k v h' l e a w o p
def Yy {α}{r:A6 α}{T e sz i:Nat}{z:List Value}{l xs:List α}{x y b sc:Nat}{c:List Value}{LL:Value→List HP}(A:BV m X=some v) (C:BV m Y=some (.slice (some ⟨x,0,none⟩) b sc)) (D:OR P T=some (e,sz,i,z)) (j:r.sz=sz)
  (F:Bx x y c∈L) (G:LQ S h r c xs) (o:b=xs.length) (p:l.length+xs.length≤maxLen) (q:Jh (l.length+xs.length) i) (hd:Nat.blt d n.1=true) (s:St S L h) (H:∀g,Mo L (OS r e v l) (OS r e g (l++xs)) (LL g))
  (k:∀g h',St S (LL g) h'→CG S h S h'→LF P ops Q rest B h' n ((d,g)::m)):LF P ops Q (⟨some d,.call ⟨.builtin .append,#[X,Y],#[T,T]⟩,ty,pos,af,none⟩::rest) B h n m:=
 λ_ _ t u=>oW t A C D j F G o p q hd u s H λg a w h' t u s e=>k g h' s e a w t u
def mT {T e sz g len:Nat}{z cs:List Value}{c:Array (Nat×Operand)}{pv:List (Nat×Value)}(t:OR P T=some (e,sz,g,z)) (u:c.toList.mapM (iJ m)=some pv)
  (v:NB (Uu sz len) (List.replicate len z).flatten pv=some cs) (i:Nat.blt 0 len=true) (j:Nat.ble (len*sz) 16777216=true) (l:∀p∈pv,p.1<len) (hd:Nat.blt d n.1=true) (o:St S L h)
  (k:∀b h',St S (Bx b e cs::L) h'→CG S h S h'→LF P ops Q rest B h' n ((d,.slice (some ⟨b,0,none⟩) len len)::m)):LF P ops Q (⟨some d,.buildSlice T len c,ty,pos,af,none⟩::rest) B h n m:=
 λ_ _ q s=>yF q t u v i j hd s o l λb a w h' q s o e=>k b h' o e a w q s
def Ed {f:Nat}{xs:Array Operand}{g:Array TypeId}{b vs:List Value}{first cap:Array Value}{c:Value→(Nat→Prop)→AS→Prop}
  (s:BV m X=some (.func (.func f) first cap)) (i:xs.toList.mapM (BV m)=some b) (j:first.toList++b++cap.toList=vs) (l:BI P f=true) (hd:Nat.blt d n.1=true) (t:B6 P f vs.toArray S h c)
  (k:∀v S' h',CG S h S' h'→c v S' h'→LF P ops Q rest B h' n ((d,v)::m)):LF P ops Q (⟨some d,.call ⟨.value X,xs,g⟩,ty,pos,af,none⟩::rest) B h n m:=
 λ_ _ o q=>cX o s i j l hd q t λv a w S' h' o q e p=>k v S' h' e p a w o q
end
end Go.Proofs.YtedgiljmffngoaaGreat
