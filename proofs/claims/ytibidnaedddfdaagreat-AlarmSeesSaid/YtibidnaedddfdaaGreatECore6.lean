import Derived.Test.YtibidnaedddfdaaGreatECore5
namespace Go.Proofs.YtibidnaedddfdaaGreat
set_option linter.all false
open Go.RowKit
abbrev SM:=List (Nat×Value)
def QF (P:Program) (ops:Array Oper) (C:World→Prop) (Q:Act→Prop) (l:List Oper) (n:FN) (m:SM):Prop:=∀a,Fr n a m→wpQuiet P ops C Q l a
def LF (P:Program) (ops:Array Oper) (Q:Exit→Act→World→Prop) (l:List Oper) (B:World) (h:AX) (n:FN) (m:SM):Prop:=∀a w,Fr n a m→Wd B h w→wpList P ops Q l a w
def WF (P:Program) (ex:List (Nat×AP)) (R:AP) (cs:List Code) (N:AP) (B:World) (h:AX) (n:FN) (m:SM):Prop:=∀a w,Fr n a m→Wd B h w→W P ex R cs N a w
section
variable {P:Program}{ex:List (Nat×AP)}{R N:AP}{cs:List Code}{B:World}{h:AX}{n:FN}{m m':SM}{S:Nat→Prop}{L:List HP}
def Ro (b:Tk m m') (k:WF P ex R cs N B h n m'):WF P ex R cs N B h n m:=λa w c d=>k a w (c.sub b) d
def ET {x y:Code}(k:WF P ex R (x::y::cs) N B h n m):WF P ex R (.seq x y::cs) N B h n m:=λa w b c=>nP (k a w b c)
def Kd (k:WF P ex R cs N B h n m):WF P ex R (.skip::cs) N B h n m:=λa w b c=>iI (k a w b c)
def WF.ret (k:∀a w,Fr n a m→Wd B h w→R a w):WF P ex R (.ret::cs) N B h n m:=λa w b c=>nQ (k a w b c)
def WF.exit {i:Nat}{K:AP}(b:dU ex i=some K) (k:∀a w,Fr n a m→Wd B h w→K a w):WF P ex R (.exit i::cs) N B h n m:=λa w c d=>ZC b (k a w c d)
def WF.nil (k:∀a w,Fr n a m→Wd B h w→N a w):WF P ex R [] N B h n m:=λa w b c=>k a w b c
def U2 {X b}{x y:Code}(g:CL m X=some (.bool b)) (i:b=true→WF P ex R (x::cs) N B h n m) (j:b=false→WF P ex R (y::cs) N B h n m):WF P ex R (.cond X x y::cs) N B h n m:=
 λa w c d=>sP c g (λe=>i e a w c d) λe=>j e a w c d
def Qe {X}{x y:Code}(c:CL m X=some (.bool true)) (k:WF P ex R (x::cs) N B h n m):WF P ex R (.cond X x y::cs) N B h n m:=λa w b d=>nR b c (k a w b d)
def U3 {X}{x y:Code}(c:CL m X=some (.bool false)) (k:WF P ex R (y::cs) N B h n m):WF P ex R (.cond X x y::cs) N B h n m:=λa w b d=>nS b c (k a w b d)
def BQ {i:Nat}{c:Code}(k:WF P ((i,W P ex R cs N)::ex) R [c] (W P ex R cs N) B h n m):WF P ex R (.block i c::cs) N B h n m:=λa w b d=>cW (k a w b d)
def Er {c:Code}(I:AP) (b:WF P ex R [c] I B h n m) (d:∀a w,I a w→W P ex R cs N a w):WF P ex R (c::cs) N B h n m:=λa w g i=>nT I (b a w g i) d
def eO {c:Code}(I:Nat→AP) (T d:Nat) (h0:∀a w,Fr n a m→Wd B h w→I d a w) (g:∀i a w,I i a w→i≤T)
  (b:∀i a w,I i a w→W P ex R [c] (I (i+1)) a w):WF P ex R (.loop c::cs) N B h n m:=λa w j k=>iK I T d (h0 a w j k) g b
def Ix {l:List Oper}{id:Nat}{b:Bool}(c:ZX P l b) (k:QF P l.toArray (Wd B h) (λa=>∀w,Wd B h w→W P ex R cs N a w) l n m):WF P ex R (.region id l.toArray b::cs) N B h n m:=
 λa _ d g=>sM c g (k a d)
def WF.rc {l:List Oper}{id:Nat}{b:Bool}(c:ZX P l b) (d:St S L h) (k:QF P l.toArray (Cl B h) (λa=>∀w h',Wd B h' w→St S L h'→Cc S h S h'→W P ex R cs N a w) l n m):WF P ex R (.region id l.toArray b::cs) N B h n m:=
 λa _ g i=>sO c i d (k a g)
def Ej {l:List Oper}{id:Nat}(k:LF P l.toArray (Qx ex R (W P ex R cs N)) l B h n m):WF P ex R (.region id l.toArray false::cs) N B h n m:=
 λa w b c=>sN (k a w b c)
def Jb {ops:Array Oper}{C}(b:Tk m m') (k:WF P ex R cs N B h n m'):QF P ops C (λa=>∀w,Wd B h w→W P ex R cs N a w) [] n m:=λa c w d=>k a w (c.sub b) d
def BD {ops:Array Oper}{C}(b:Tk m m') (k:∀h',St S L h'→Cc S h S h'→WF P ex R cs N B h' n m'):QF P ops C (λa=>∀w h',Wd B h' w→St S L h'→Cc S h S h'→W P ex R cs N a w) [] n m:=
 λa c w h' d s e=>k h' s e a w (c.sub b) d
def HA {ops:Array Oper}(b:Tk m m') (k:WF P ex R cs N B h n m'):LF P ops (Qx ex R (W P ex R cs N)) [] B h n m:=λa w c d=>gD (k a w (c.sub b) d)
def G3 {ops:Array Oper}{Q:Exit→Act→World→Prop}{l:List Oper}(j:Nat) (k:QF P ops (Wd B h) (λa=>∀w,Wd B h w→wpList P ops Q (l.drop j) a w) (l.take j) n m):LF P ops Q l B h n m:=λa _ b c=>l_q j c (k a b)
def Dk {ops:Array Oper}{C}{Q:Exit→Act→World→Prop}{l:List Oper}(k:LF P ops Q l B h n m):QF P ops C (λa=>∀w,Wd B h w→wpList P ops Q l a w) [] n m:=λa b w c=>k a w b c
def A7 {f fn c l S h post}(n:Nat) (b:P.funcs[f]? =some fn) (d:fn.body=some c) (g:fn.ntmps=n) (i:Nat.ble l.length n=true)
  (k:∀B,WF P [] (Rt P fn B S h post) [c] (Rt P fn B S h post) B h (n,[]) (Wq 0 l)):CD P f l.toArray S h post:=
 CD.intro n b d g (yF i) λB w a j b=>k B a w b j
end
section
variable {P:Program}{ops:Array Oper}{C:World→Prop}{Q:Act→Prop}{n:FN}{m m':SM}{rest:List Oper}
variable {d:Nat}{ty:TypeId}{pos:String}{af:Array Edge}{X Y:Operand}{t t1 t2:TypeId}{x y:Int}{kd:IntKind}{v p:Value}
def QF.nil (k:∀a,Fr n a m→Q a):QF P ops C Q [] n m:=λa b=>k a b
def tT {l:List Oper}(b:Tk m m') (k:QF P ops C Q l n m'):QF P ops C Q l n m:=λa c=>k a (c.sub b)
def YF {o:Oper}{j e:Nat}{b:Bool}(d:o.guard=some (j,b)) (g:(ops[j]?).bind (·.dst)=some e) (i:lk m e=some (.bool b)) (k:QF P ops C Q ({ o with guard:=none}::rest) n m):QF P ops C Q (o::rest) n m:=
 λa c=>tC c d g i (k a c)
def rU {o:Oper}{j e:Nat}{b:Bool}(a:o.guard=some (j,!b)) (c:(ops[j]?).bind (·.dst)=some e) (g:lk m e=some (.bool b)) (i:o.dst=some d) (hd:Nat.blt d n.1=true) (k:QF P ops C Q rest n ((d,undef)::m)):QF P ops C Q (o::rest) n m:=
 λ_ l=>tD l a c g i hd k
def mY (j:Nat) (m':SM) {l:List Oper}(c:QF P ops C (λa=>Fr n a m') (l.take j) n m) (d:QF P ops C Q (l.drop j) n m'):QF P ops C Q l n m:=
 λa g=>T4 j (λa=>Fr n a m') (c a g) λi b=>d i b
def eZ (b:Tk m m'):QF P ops C (λa=>Fr n a m') [] n m:=λ_ c=>c.sub b
def G2 (a:CL m X=some v) (hd:Nat.blt d n.1=true) (k:QF P ops C Q rest n ((d,v)::m)):QF P ops C Q (⟨some d,.move X,ty,pos,af,none⟩::rest) n m:=λ_ b=>tA b a hd k
def Nj (a:CL m X=some v) (hd:Nat.blt d n.1=true) (k:QF P ops C Q rest n ((d,v)::m)):QF P ops C Q (⟨some d,.assign X,ty,pos,af,none⟩::rest) n m:=λ_ b=>tF b a hd k
def RG {c X Y:Operand}{b:Bool}(a:CL m c=some (.bool b)) (g:CL m (if b then X else Y)=some v) (hd:Nat.blt d n.1=true) (k:QF P ops C Q rest n ((d,v)::m)):QF P ops C Q (⟨some d,.pick c X Y,ty,pos,af,none⟩::rest) n m:=λ_ i=>jJ i a g hd k
def tW (a:CL m X=some (.int .i64 x)) (b:CL m Y=some (.int .i64 y)) (hd:Nat.blt d n.1=true) (c:AA (x+y)) (k:QF P ops C Q rest n ((d,.int .i64 (x+y))::m)):QF P ops C Q (⟨some d,.binOp .add t1 X Y t2,ty,pos,af,none⟩::rest) n m:=λ_ g=>pD g a b hd c k
def tV (a:CL m X=some (.int .i64 x)) (b:CL m Y=some (.int .i64 y)) (hd:Nat.blt d n.1=true) (c:AA (x*y)) (k:QF P ops C Q rest n ((d,.int .i64 (x*y))::m)):QF P ops C Q (⟨some d,.binOp .mul t1 X Y t2,ty,pos,af,none⟩::rest) n m:=λ_ g=>oM g a b hd c k
def YJ (a:CL m X=some (.int .i64 x)) (b:CL m Y=some (.int .i64 y)) (hd:Nat.blt d n.1=true) (k:QF P ops C Q rest n ((d,.int .i64 (BR (x+y)))::m)):QF P ops C Q (⟨some d,.binOp .add t1 X Y t2,ty,pos,af,none⟩::rest) n m:=λ_ c=>jM c a b hd k
def YD (a:CL m X=some (.int .i64 x)) (b:CL m Y=some (.int .i64 y)) (hd:Nat.blt d n.1=true) (k:QF P ops C Q rest n ((d,.int .i64 (BR (x-y)))::m)):QF P ops C Q (⟨some d,.binOp .sub t1 X Y t2,ty,pos,af,none⟩::rest) n m:=λ_ c=>jI c a b hd k
def cG (a:CL m X=some (.int kd x)) (b:CL m Y=some (.int kd y)) (hd:Nat.blt d n.1=true) (k:QF P ops C Q rest n ((d,.bool (decide (x<y)))::m)):QF P ops C Q (⟨some d,.binOp .lss t1 X Y t2,ty,pos,af,none⟩::rest) n m:=λ_ c=>oP c a b hd k
def cH (a:CL m X=some (.int kd x)) (b:CL m Y=some (.int kd y)) (hd:Nat.blt d n.1=true) (k:QF P ops C Q rest n ((d,.bool (decide (x≤y)))::m)):QF P ops C Q (⟨some d,.binOp .leq t1 X Y t2,ty,pos,af,none⟩::rest) n m:=λ_ c=>oQ c a b hd k
def Ww (a:CL m X=some (.int kd x)) (b:CL m Y=some (.int kd y)) (hd:Nat.blt d n.1=true) (k:QF P ops C Q rest n ((d,.bool (decide (y<x)))::m)):QF P ops C Q (⟨some d,.binOp .gtr t1 X Y t2,ty,pos,af,none⟩::rest) n m:=λ_ c=>oX c a b hd k
def cJ (a:CL m X=some (.int kd x)) (b:CL m Y=some (.int kd y)) (hd:Nat.blt d n.1=true) (k:QF P ops C Q rest n ((d,.bool (decide (y≤x)))::m)):QF P ops C Q (⟨some d,.binOp .geq t1 X Y t2,ty,pos,af,none⟩::rest) n m:=λ_ c=>oY c a b hd k
def Wy (a:CL m X=some (.int kd x)) (b:CL m Y=some (.int kd y)) (hd:Nat.blt d n.1=true) (k:QF P ops C Q rest n ((d,.bool (decide (x=y)))::m)):QF P ops C Q (⟨some d,.binOp .eql t1 X Y t2,ty,pos,af,none⟩::rest) n m:=λ_ c=>pB c a b hd k
def cE (a:CL m X=some (.int kd x)) (b:CL m Y=some (.int kd y)) (hd:Nat.blt d n.1=true) (k:QF P ops C Q rest n ((d,.bool (decide (x≠y)))::m)):QF P ops C Q (⟨some d,.binOp .neq t1 X Y t2,ty,pos,af,none⟩::rest) n m:=λ_ c=>oL c a b hd k
def Wv {b}(a:CL m X=some (.bool b)) (hd:Nat.blt d n.1=true) (k:QF P ops C Q rest n ((d,.bool (!b))::m)):QF P ops C Q (⟨some d,.unOp .not t1 X,ty,pos,af,none⟩::rest) n m:=λ_ c=>oK c a hd k
def Ku {aty}(a:CL m X=some (.int kd x)) (b:CL m Y=some (.int kd y)) (hd:Nat.blt d n.1=true) (k:QF P ops C Q rest n ((d,.int kd (Max.max x y))::m)):QF P ops C Q (⟨some d,.call ⟨.builtin .max,#[X,Y],#[t1,t2]⟩,aty,pos,af,none⟩::rest) n m:=λ_ c=>oO c a b hd k
def Ka {aty}(a:CL m X=some (.int kd x)) (b:CL m Y=some (.int kd y)) (hd:Nat.blt d n.1=true) (k:QF P ops C Q rest n ((d,.int kd (Min.min x y))::m)):QF P ops C Q (⟨some d,.call ⟨.builtin .min,#[X,Y],#[t1,t2]⟩,aty,pos,af,none⟩::rest) n m:=λ_ c=>oN c a b hd k
def B6 {T:TypeId}{a:Array (Nat×Operand)}{pl z pv cs}(b:VJ P T=some (pl,z)) (c:a.toList.mapM (dM m)=some pv) (g:NV pl z pv=some cs) (hd:Nat.blt d n.1=true) (k:QF P ops C Q rest n ((d,.agg cs.toArray)::m)):QF P ops C Q (⟨some d,.build T a,ty,pos,af,none⟩::rest) n m:=λ_ i=>pC i b c g hd k
def Rp {T:TypeId}{ks xs ys}(a:CL m X=some (.agg xs)) (b:CL m Y=some (.agg ys)) (c:gI P T=some ks) (g:xs.toList.map M1=ks) (i:ys.toList.map M1=ks) (j:Qq xs.toList ys.toList=true) (hd:Nat.blt d n.1=true) (k:QF P ops C Q rest n ((d,.bool (R6 xs.toList ys.toList))::m)):QF P ops C Q (⟨some d,.binOp .eql T X Y t2,ty,pos,af,none⟩::rest) n m:=λ_ l=>pA l a b c g i j hd k
def HJ {b o j off}(a:CL m X=some (.pointer (some ⟨b,o,none⟩))) (c:Zz P t j off=true) (hd:Nat.blt d n.1=true) (k:QF P ops C Q rest n ((d,.pointer (some ⟨b,o+off,none⟩))::m)):QF P ops C Q (⟨some d,.fieldAddr t X j,ty,pos,af,none⟩::rest) n m:=λ_ g=>oZ g a c hd k
def U7 {ad len cap aty e sz}(a:CL m X=some (.slice ad len cap)) (b:RY P t e sz=true) (hd:Nat.blt d n.1=true) (k:QF P ops C Q rest n ((d,.int .i64 len)::m)):QF P ops C Q (⟨some d,.call ⟨.builtin .len,#[X],#[t]⟩,aty,pos,af,none⟩::rest) n m:=λ_ c=>jK c a b hd k
section
variable {A S:Nat→Prop}{L:List HP}{h:AX}
def Il {α}{r:BU α}{x}(g:CK C h) (i:∀b,A b→b<h.size) (j:CL m X=some p) (k0:NK A S h r p x) (l:LV P t r.sz r.ag=true) (o:r.ag=false→r.sz=1) (hd:Nat.blt d n.1=true)
  (k:∀v,Rd S h r v x→QF P ops C Q rest n ((d,v)::m)):QF P ops C Q (⟨some d,.load t X,ty,pos,af,none⟩::rest) n m:=λ_ c=>Zb g i c j k0 l o hd λv a c q=>k v q a c
def GS {x}(g:CK C h) (i:∀b,A b→b<h.size) (j:CL m X=some p) (k0:NK A S h AY p x) (l:LV P t 1 false=true) (hd:Nat.blt d n.1=true)
  (k:AA x→QF P ops C Q rest n ((d,.int .i64 x)::m)):QF P ops C Q (⟨some d,.load t X,ty,pos,af,none⟩::rest) n m:=λ_ c=>oV g i c j k0 l hd λa c o=>k o a c
def cI {x}(a:CK C h) (c:∀b,A b→b<h.size) (g:CL m X=some p) (k0:NK A S h BU.bool p x) (i:LV P t 1 false=true) (hd:Nat.blt d n.1=true)
  (k:QF P ops C Q rest n ((d,.bool x)::m)):QF P ops C Q (⟨some d,.load t X,ty,pos,af,none⟩::rest) n m:=λ_ j=>oW a c j g k0 i hd k
def mR {x}(g:CK C h) (i:∀b,A b→b<h.size) (j:CL m X=some p) (k0:NK A S h BU.str p x) (l:LV P t 1 false=true) (hd:Nat.blt d n.1=true)
  (k:x.size≤maxLen→QF P ops C Q rest n ((d,.string x)::m)):QF P ops C Q (⟨some d,.load t X,ty,pos,af,none⟩::rest) n m:=λ_ c=>oS g i c j k0 l hd λa c o=>k o a c
def U9 {α}{r:BU α}{x}(g:CK C h) (i:∀b,A b→b<h.size) (j:CL m X=some p) (k0:NK A S h r.sl p x) (l:LV P t 1 false=true) (hd:Nat.blt d n.1=true)
  (k:∀v,Sl S h r v x→QF P ops C Q rest n ((d,v)::m)):QF P ops C Q (⟨some d,.load t X,ty,pos,af,none⟩::rest) n m:=λ_ c=>oU g i c j k0 l hd λv a c o=>k v o a c
def Lb {α β}{r:BU α}{r':BU β}{f:α→β}{j off x}(c:CL m X=some p) (k0:NK A S h r p x) (g:GC r off r' f) (i:Zz P t j off=true) (hd:Nat.blt d n.1=true)
  (k:∀q,NK A S h r' q (f x)→QF P ops C Q rest n ((d,q)::m)):QF P ops C Q (⟨some d,.fieldAddr t X j,ty,pos,af,none⟩::rest) n m:=λ_ b=>tE b c k0 g i hd λq a b l=>k q l a b
def rS {α}{r:BU α}{l:List α}{e i x}(c:CL m X=some v) (g:CL m Y=some (.int .i64 i)) (k0:Sl S h r v l) (j:RY P t e r.sz=true) (h0:0≤i) (o:l[i.toNat]? =some x) (hd:Nat.blt d n.1=true)
  (k:∀q,Pt S h r q x→QF P ops C Q rest n ((d,q)::m)):QF P ops C Q (⟨some d,.indexAddr t X Y,ty,pos,af,none⟩::rest) n m:=λ_ b=>tB b c g k0 j h0 o hd λq a b p=>k q p a b
def mT {α}{r:BU α}{l:List α}{T e i x}(p:St S L h) (s:OS r T v l∈L) (u:CL m X=some v) (y:CL m Y=some (.int .i64 i)) (z:RY P t e r.sz=true) (h0:0≤i) (o:l[i.toNat]? =some x) (hd:Nat.blt d n.1=true)
  (k:∀q,NK (λb=>b<h.size) S h r q x→EP v (i.toNat*r.sz) q→QF P ops C Q rest n ((d,q)::m)):QF P ops C Q (⟨some d,.indexAddr t X Y,ty,pos,af,none⟩::rest) n m:=by
 obtain⟨D,cap,rfl,A⟩:=p.osAt s o;have B:i.toNat<l.length:=(uV.1 o).1;have c:(⟨D,0,none⟩:Addr).add (i.toNat*r.sz)=⟨D,i.toNat*r.sz,none⟩:=by unfold Addr.add;split<;>simp_all
 intro a j;refine Hf j hd (λw _=>by simp [execOp,j.eval u,j.eval y,O7 (P:=P) (w:=w) (cap:=cap) (a:=⟨D,0,none⟩) z h0 B,c]) (k _ A ⟨D,_,_,rfl,rfl⟩)
def U8 {α}{r:BU α}{l:List α}{aty e}(c:CL m X=some v) (k0:Sl S h r v l) (g:RY P t e r.sz=true) (hd:Nat.blt d n.1=true)
  (k:l.length≤maxLen→QF P ops C Q rest n ((d,.int .i64 l.length)::m)):QF P ops C Q (⟨some d,.call ⟨.builtin .len,#[X],#[t]⟩,aty,pos,af,none⟩::rest) n m:=λ_ b=>oR b c k0 g hd λa b i=>k i a b
def eW {α}{r:BU α}{l:List α}{T aty e sz}(b:St S L h) (c:OS r T v l∈L) (g:CL m X=some v) (i:RY P t e sz=true) (hd:Nat.blt d n.1=true)
  (k:l.length≤maxLen→QF P ops C Q rest n ((d,.int .i64 l.length)::m)):QF P ops C Q (⟨some d,.call ⟨.builtin .len,#[X],#[t]⟩,aty,pos,af,none⟩::rest) n m:=by
 obtain⟨j,cap,rfl,a⟩:=b.oslen c;exact U7 g i hd (k a)
def Mb {T b o sz:Nat}{ag:Bool}{cs vs:List Value}(a:CK C h) (c:St S L h) (g:CL m X=some (.pointer (some ⟨b,o,none⟩))) (i:Bx b T cs∈L) (j:(cs.drop o).take sz=vs) (l:Nat.beq vs.length sz=true) (p:LV P t sz ag=true) (q:(ag||Nat.beq sz 1)=true) (hd:Nat.blt d n.1=true)
  (k:QF P ops C Q rest n ((d,if ag then .agg vs.toArray else vs.headD undef)::m)):QF P ops C Q (⟨some d,.load t X,ty,pos,af,none⟩::rest) n m:=λ_ s=>oT a c s g i j l p q hd k
end
def fC {f:Nat}{xs:Array Operand}{a:Array TypeId}{args vs:List Value}{first cap:Array Value}{h B}
  (j:CL m X=some (.func (.func f) first cap)) (c:xs.toList.mapM (CL m)=some args) (g:first.toList++args++cap.toList=vs) (i:BG P f=true) (hd:Nat.blt d n.1=true)
  (l:∀h',Gf h h'→CD P f vs.toArray (λb=>b<h'.size) h' (λu _ _=>u=v))
  (k:QF P ops (Cl B h) Q rest n ((d,v)::m)):QF P ops (Cl B h) Q (⟨some d,.call ⟨.value X,xs,a⟩,ty,pos,af,none⟩::rest) n m:=λ_ o=>jL o j c g i hd l k
end
section
variable {P:Program}{ops:Array Oper}{Q:Exit→Act→World→Prop}{n:FN}{m:SM}{rest:List Oper}
variable {d:Nat}{ty:TypeId}{pos:String}{af:Array Edge}{X Y:Operand}{B:World}{h:AX}{S:Nat→Prop}{L L2:List HP}{v:Value}
def NF {T:TypeId}{cs:List Value}(j:CL m X=some v) (l:v.cells=cs.toArray) (hd:Nat.blt d n.1=true) (c:St S L h)
  (k:∀b h',St S (Bx b T cs::L) h'→Cc S h S h'→LF P ops Q rest B h' n ((d,.pointer (some ⟨b,0,none⟩))::m)):LF P ops Q (⟨some d,.box T X,ty,pos,af,none⟩::rest) B h n m:=
 λ_ _ g i=>gE g j l hd i c λb a w h' g i c e=>k b h' c e a w g i
def AT {T:TypeId}{α}{r:BU α}{x:α}(i:CL m X=some v) (j:Rd S h r v x) (l:r.ag=false→r.sz=1) (hd:Nat.blt d n.1=true) (b:St S L h)
  (k:∀p S' h',St S' L h'→Cc S h S' h'→Pt S' h' r p x→LF P ops Q rest B h' n ((d,p)::m)):LF P ops Q (⟨some d,.box T X,ty,pos,af,none⟩::rest) B h n m:=
 λ_ _ c g=>jW c i j l hd g b λp a w S' h' c g b e kp=>k p S' h' b e kp a w c g
def BZ {T:TypeId}{cs:List Value}(j:FG P T=some cs) (hd:Nat.blt d n.1=true) (c:St S L h)
  (k:∀b h',St S (Bx b T cs::L) h'→Cc S h S h'→LF P ops Q rest B h' n ((d,.pointer (some ⟨b,0,none⟩))::m)):LF P ops Q (⟨some d,.alloc T,ty,pos,af,none⟩::rest) B h n m:=
 λ_ _ g i=>tL g j hd i c λb a w h' g i c e=>k b h' c e a w g i
def cM {T l:TypeId}{b o:Nat}{cs vs cs':List Value}{sz:Nat}{ag:Bool}(p:CL m X=some (.pointer (some ⟨b,o,none⟩))) (q:CL m Y=some v) (s:v.cells=vs.toArray) (t:∀u∈vs,u.oneCell'=true)
  (x:LV P T sz ag=true) (d:vs.length=sz) (g:St S L h) (r:Mp L (Bx b l cs) (Bx b l cs') L2) (c:Nat.ble (o+sz) cs.length=true) (y:IA cs o vs=cs')
  (k:∀h',St S L2 h'→Cc S h S h'→LF P ops Q rest B h' n m):LF P ops Q (⟨none,.store T X Y,ty,pos,af,none⟩::rest) B h n m:=
 λ_ _ i j=>tI i p q s t x d c y j g r λa w h' i j g e=>k h' g e a w i j
def rX {α}{r:BU α}{T e sz b:Nat}{z:List Value}{zx:α}{len cap:Nat}{q s:IntKind}{U V:Operand}(t:QY P T=some (e,sz,b,z)) (c:r.sz=sz) (u:r.rd S h z zx)
  (x:CL m U=some (.int q (len:Nat))) (y:CL m V=some (.int s (cap:Nat))) (g:len≤cap) (i:b*cap≤281474976710656) (j:cap≤maxLen) (hd:Nat.blt d n.1=true) (l:St S L h)
  (k:∀v h',St S (OS r e v (List.replicate len zx)::L) h'→Cc S h S h'→LF P ops Q rest B h' n ((d,v)::m)):LF P ops Q (⟨some d,.makeSlice T U V,ty,pos,af,none⟩::rest) B h n m:=
 λ_ _ o p=>tJ o t c u x y g i j hd p l λv a w h' o p l e=>k v h' l e a w o p
def fL {α}{r:BU α}{T e sz g:Nat}{z:List Value}{l xs:List α}{u y b sc:Nat}{news:List Value}{x:Value→List HP}(A:CL m X=some v) (C:CL m Y=some (.slice (some ⟨u,0,none⟩) b sc)) (D:QY P T=some (e,sz,g,z)) (i:r.sz=sz)
  (F:Bx u y news∈L) (G:MX S h r news xs) (j:b=xs.length) (o:l.length+xs.length≤maxLen) (p:L0 (l.length+xs.length) g) (hd:Nat.blt d n.1=true) (q:St S L h) (H:∀c,Mp L (OS r e v l) (OS r e c (l++xs)) (x c))
  (k:∀c h',St S (x c) h'→Cc S h S h'→LF P ops Q rest B h' n ((d,c)::m)):LF P ops Q (⟨some d,.call ⟨.builtin .append,#[X,Y],#[T,T]⟩,ty,pos,af,none⟩::rest) B h n m:=
 λ_ _ s t=>jY s A C D i F G j o p hd t q H λc a w h' s t q e=>k c h' q e a w s t
def rY {T e sz g len:Nat}{z cs:List Value}{c:Array (Nat×Operand)}{i:List (Nat×Value)}(u:QY P T=some (e,sz,g,z)) (v:c.toList.mapM (dM m)=some i)
  (x:NV (Uf sz len) (List.replicate len z).flatten i=some cs) (j:Nat.blt 0 len=true) (l:Nat.ble (len*sz) 16777216=true) (o:∀p∈i,p.1<len) (hd:Nat.blt d n.1=true) (q:St S L h)
  (k:∀b h',St S (Bx b e cs::L) h'→Cc S h S h'→LF P ops Q rest B h' n ((d,.slice (some ⟨b,0,none⟩) len len)::m)):LF P ops Q (⟨some d,.buildSlice T len c,ty,pos,af,none⟩::rest) B h n m:=
 λ_ _ s t=>tK s u v x j l hd t q o λb a w h' s t q e=>k b h' q e a w s t
def LP {f:Nat}{xs:Array Operand}{c:Array TypeId}{args vs:List Value}{first cap:Array Value}{b:Value→(Nat→Prop)→AX→Prop}
  (q:CL m X=some (.func (.func f) first cap)) (g:xs.toList.mapM (CL m)=some args) (i:first.toList++args++cap.toList=vs) (j:BG P f=true) (hd:Nat.blt d n.1=true) (s:CD P f vs.toArray S h b)
  (k:∀v S' h',Cc S h S' h'→b v S' h'→LF P ops Q rest B h' n ((d,v)::m)):LF P ops Q (⟨some d,.call ⟨.value X,xs,c⟩,ty,pos,af,none⟩::rest) B h n m:=
 λ_ _ l o=>Zo l q g i j hd o s λv a w S' h' l o e p=>k v S' h' e p a w l o
end
end Go.Proofs.YtibidnaedddfdaaGreat
