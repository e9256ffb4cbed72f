import Derived.Test.YtblcgjadhemlbaaGreatWCore5
namespace Go.Proofs.YtblcgjadhemlbaaGreat
set_option linter.all false
open Go.RowKit
abbrev SM:=List (Nat×Value)
def QF (P:Program) (ops:Array Oper) (C:World→Prop) (Q:Act→Prop) (l:List Oper) (n:FN) (m:SM):Prop:=∀a,Fr n a m→wpQuiet P ops C Q l a
def LF (P:Program) (ops:Array Oper) (Q:Exit→Act→World→Prop) (l:List Oper) (B:World) (h:BM) (n:FN) (m:SM):Prop:=∀a w,Fr n a m→Wd B h w→wpList P ops Q l a w
def WF (P:Program) (ex:List (Nat×AP)) (R:AP) (cs:List Code) (N:AP) (B:World) (h:BM) (n:FN) (m:SM):Prop:=∀a w,Fr n a m→Wd B h w→W P ex R cs N a w
section
variable {P:Program}{ex:List (Nat×AP)}{R N:AP}{cs:List Code}{B:World}{h:BM}{n:FN}{m m':SM}{S:Nat→Prop}{L:List HP}
def pO (b:SO m m') (k:WF P ex R cs N B h n m'):WF P ex R cs N B h n m:=λa w c d=>k a w (c.sub b) d
def AE {x y:Code}(k:WF P ex R (x::y::cs) N B h n m):WF P ex R (.seq x y::cs) N B h n m:=λa w b c=>jJ (k a w b c)
def AS (k:WF P ex R cs N B h n m):WF P ex R (.skip::cs) N B h n m:=λa w b c=>eN (k a w b c)
def A5 (k:∀a w,Fr n a m→Wd B h w→R a w):WF P ex R (.ret::cs) N B h n m:=λa w b c=>jK (k a w b c)
def By {i:Nat}{K:AP}(b:fL ex i=some K) (k:∀a w,Fr n a m→Wd B h w→K a w):WF P ex R (.exit i::cs) N B h n m:=λa w c d=>Xs b (k a w c d)
def WF.nil (k:∀a w,Fr n a m→Wd B h w→N a w):WF P ex R [] N B h n m:=λa w b c=>k a w b c
def hE {X b}{x y:Code}(g:Ca m X=some (.bool b)) (i:b=true→WF P ex R (x::cs) N B h n m) (j:b=false→WF P ex R (y::cs) N B h n m):WF P ex R (.cond X x y::cs) N B h n m:=
 λa w c d=>oT c g (λe=>i e a w c d) λe=>j e a w c d
def Zi {X}{x y:Code}(c:Ca m X=some (.bool true)) (k:WF P ex R (x::cs) N B h n m):WF P ex R (.cond X x y::cs) N B h n m:=λa w b d=>jL b c (k a w b d)
def Zj {X}{x y:Code}(c:Ca m X=some (.bool false)) (k:WF P ex R (y::cs) N B h n m):WF P ex R (.cond X x y::cs) N B h n m:=λa w b d=>jM b c (k a w b d)
def BY {i:Nat}{c:Code}(k:WF P ((i,W P ex R cs N)::ex) R [c] (W P ex R cs N) B h n m):WF P ex R (.block i c::cs) N B h n m:=λa w b d=>Z1 (k a w b d)
def He {c:Code}(I:AP) (b:WF P ex R [c] I B h n m) (d:∀a w,I a w→W P ex R cs N a w):WF P ex R (c::cs) N B h n m:=λa w g i=>jN I (b a w g i) d
def bN {c:Code}(I:Nat→AP) (T d:Nat) (h0:∀a w,Fr n a m→Wd B h w→I d a w) (g:∀i a w,I i a w→i≤T)
  (b:∀i a w,I i a w→W P ex R [c] (I (i+1)) a w):WF P ex R (.loop c::cs) N B h n m:=λa w j k=>eP I T d (h0 a w j k) g b
def CL {l:List Oper}{id:Nat}{b:Bool}(c:YS P l b) (k:QF P l.toArray (Wd B h) (λa=>∀w,Wd B h w→W P ex R cs N a w) l n m):WF P ex R (.region id l.toArray b::cs) N B h n m:=
 λa _ d g=>oQ c g (k a d)
def Cn {l:List Oper}{id:Nat}{b:Bool}(c:YS P l b) (d:St S L h) (k:QF P l.toArray (Cl B h) (λa=>∀w h',Wd B h' w→St S L h'→C9 S h S h'→W P ex R cs N a w) l n m):WF P ex R (.region id l.toArray b::cs) N B h n m:=
 λa _ g i=>oS c i d (k a g)
def FG {l:List Oper}{id:Nat}(k:LF P l.toArray (Qx ex R (W P ex R cs N)) l B h n m):WF P ex R (.region id l.toArray false::cs) N B h n m:=
 λa w b c=>oR (k a w b c)
def AN {ops:Array Oper}{C}(b:SO m m') (k:WF P ex R cs N B h n m'):QF P ops C (λa=>∀w,Wd B h w→W P ex R cs N a w) [] n m:=λa c w d=>k a w (c.sub b) d
def B9 {ops:Array Oper}{C}(b:SO m m') (k:∀h',St S L h'→C9 S h S h'→WF P ex R cs N B h' n m'):QF P ops C (λa=>∀w h',Wd B h' w→St S L h'→C9 S h S h'→W P ex R cs N a w) [] n m:=
 λa c w h' d s e=>k h' s e a w (c.sub b) d
def AZ {ops:Array Oper}(b:SO m m') (k:WF P ex R cs N B h n m'):LF P ops (Qx ex R (W P ex R cs N)) [] B h n m:=λa w c d=>lB (k a w (c.sub b) d)
def AF {ops:Array Oper}{Q:Exit→Act→World→Prop}{l:List Oper}(j:Nat) (k:QF P ops (Wd B h) (λa=>∀w,Wd B h w→wpList P ops Q (l.drop j) a w) (l.take j) n m):LF P ops Q l B h n m:=λa _ b c=>l_q j c (k a b)
def AD {ops:Array Oper}{C}{Q:Exit→Act→World→Prop}{l:List Oper}(k:LF P ops Q l B h n m):QF P ops C (λa=>∀w,Wd B h w→wpList P ops Q l a w) [] n m:=λa b w c=>k a w b c
def B0 {f fn c l S h post}(n:Nat) (b:P.funcs[f]? =some fn) (d:fn.body=some c) (g:fn.ntmps=n) (i:Nat.ble l.length n=true)
  (k:∀B,WF P [] (Rt P fn B S h post) [c] (Rt P fn B S h post) B h (n,[]) (VW 0 l)):DK P f l.toArray S h post:=
 DK.intro n b d g (uO i) λB w a j b=>k B a w b j
end
section
variable {P:Program}{ops:Array Oper}{C:World→Prop}{Q:Act→Prop}{n:FN}{m m':SM}{rest:List Oper}
variable {d:Nat}{ty:TypeId}{pos:String}{af:Array Edge}{X Y:Operand}{t t1 t2:TypeId}{x y:Int}{kd:IntKind}{v p:Value}
def QF.nil (k:∀a,Fr n a m→Q a):QF P ops C Q [] n m:=λa b=>k a b
def pS {l:List Oper}(b:SO m m') (k:QF P ops C Q l n m'):QF P ops C Q l n m:=λa c=>k a (c.sub b)
def Zp {o:Oper}{j e:Nat}{b:Bool}(d:o.guard=some (j,b)) (g:(ops[j]?).bind (·.dst)=some e) (i:lk m e=some (.bool b)) (k:QF P ops C Q ({ o with guard:=none}::rest) n m):QF P ops C Q (o::rest) n m:=
 λa c=>pA c d g i (k a c)
def eB {o:Oper}{j e:Nat}{b:Bool}(a:o.guard=some (j,!b)) (c:(ops[j]?).bind (·.dst)=some e) (g:lk m e=some (.bool b)) (i:o.dst=some d) (hd:Nat.blt d n.1=true) (k:QF P ops C Q rest n ((d,undef)::m)):QF P ops C Q (o::rest) n m:=
 λ_ l=>pB l a c g i hd k
def iQ (j:Nat) (m':SM) {l:List Oper}(c:QF P ops C (λa=>Fr n a m') (l.take j) n m) (d:QF P ops C Q (l.drop j) n m'):QF P ops C Q l n m:=
 λa g=>V8 j (λa=>Fr n a m') (c a g) λi b=>d i b
def bY (b:SO m m'):QF P ops C (λa=>Fr n a m') [] n m:=λ_ c=>c.sub b
def nW (a:Ca m X=some v) (hd:Nat.blt d n.1=true) (k:QF P ops C Q rest n ((d,v)::m)):QF P ops C Q (⟨some d,.move X,ty,pos,af,none⟩::rest) n m:=λ_ b=>oY b a hd k
def iR (a:Ca m X=some v) (hd:Nat.blt d n.1=true) (k:QF P ops C Q rest n ((d,v)::m)):QF P ops C Q (⟨some d,.assign X,ty,pos,af,none⟩::rest) n m:=λ_ b=>pD b a hd k
def TY {c X Y:Operand}{b:Bool}(a:Ca m c=some (.bool b)) (g:Ca m (if b then X else Y)=some v) (hd:Nat.blt d n.1=true) (k:QF P ops C Q rest n ((d,v)::m)):QF P ops C Q (⟨some d,.pick c X Y,ty,pos,af,none⟩::rest) n m:=λ_ i=>fC i a g hd k
def pV (a:Ca m X=some (.int .i64 x)) (b:Ca m Y=some (.int .i64 y)) (hd:Nat.blt d n.1=true) (c:AH (x+y)) (k:QF P ops C Q rest n ((d,.int .i64 (x+y))::m)):QF P ops C Q (⟨some d,.binOp .add t1 X Y t2,ty,pos,af,none⟩::rest) n m:=λ_ g=>kU g a b hd c k
def pT (a:Ca m X=some (.int .i64 x)) (b:Ca m Y=some (.int .i64 y)) (hd:Nat.blt d n.1=true) (c:AH (x*y)) (k:QF P ops C Q rest n ((d,.int .i64 (x*y))::m)):QF P ops C Q (⟨some d,.binOp .mul t1 X Y t2,ty,pos,af,none⟩::rest) n m:=λ_ g=>kD g a b hd c k
def cB (a:Ca m X=some (.int .i64 x)) (b:Ca m Y=some (.int .i64 y)) (hd:Nat.blt d n.1=true) (k:QF P ops C Q rest n ((d,.int .i64 (Bw (x+y)))::m)):QF P ops C Q (⟨some d,.binOp .add t1 X Y t2,ty,pos,af,none⟩::rest) n m:=λ_ c=>fH c a b hd k
def bP (a:Ca m X=some (.int .i64 x)) (b:Ca m Y=some (.int .i64 y)) (hd:Nat.blt d n.1=true) (k:QF P ops C Q rest n ((d,.int .i64 (Bw (x-y)))::m)):QF P ops C Q (⟨some d,.binOp .sub t1 X Y t2,ty,pos,af,none⟩::rest) n m:=λ_ c=>fB c a b hd k
def Wr (a:Ca m X=some (.int .i64 x)) (b:Ca m Y=some (.int .i64 y)) (hd:Nat.blt d n.1=true) (k:QF P ops C Q rest n ((d,.int .i64 (Bw (x*y)))::m)):QF P ops C Q (⟨some d,.binOp .mul t1 X Y t2,ty,pos,af,none⟩::rest) n m:=λ_ c=>fE c a b hd k
def iE (a:Ca m X=some (.int kd x)) (b:Ca m Y=some (.int kd y)) (hd:Nat.blt d n.1=true) (k:QF P ops C Q rest n ((d,.bool (decide (x<y)))::m)):QF P ops C Q (⟨some d,.binOp .lss t1 X Y t2,ty,pos,af,none⟩::rest) n m:=λ_ c=>kG c a b hd k
def iG (a:Ca m X=some (.int kd x)) (b:Ca m Y=some (.int kd y)) (hd:Nat.blt d n.1=true) (k:QF P ops C Q rest n ((d,.bool (decide (x≤y)))::m)):QF P ops C Q (⟨some d,.binOp .leq t1 X Y t2,ty,pos,af,none⟩::rest) n m:=λ_ c=>kH c a b hd k
def iK (a:Ca m X=some (.int kd x)) (b:Ca m Y=some (.int kd y)) (hd:Nat.blt d n.1=true) (k:QF P ops C Q rest n ((d,.bool (decide (y<x)))::m)):QF P ops C Q (⟨some d,.binOp .gtr t1 X Y t2,ty,pos,af,none⟩::rest) n m:=λ_ c=>kP c a b hd k
def iN (a:Ca m X=some (.int kd x)) (b:Ca m Y=some (.int kd y)) (hd:Nat.blt d n.1=true) (k:QF P ops C Q rest n ((d,.bool (decide (y≤x)))::m)):QF P ops C Q (⟨some d,.binOp .geq t1 X Y t2,ty,pos,af,none⟩::rest) n m:=λ_ c=>kQ c a b hd k
def iP (a:Ca m X=some (.int kd x)) (b:Ca m Y=some (.int kd y)) (hd:Nat.blt d n.1=true) (k:QF P ops C Q rest n ((d,.bool (decide (x=y)))::m)):QF P ops C Q (⟨some d,.binOp .eql t1 X Y t2,ty,pos,af,none⟩::rest) n m:=λ_ c=>kS c a b hd k
def iD (a:Ca m X=some (.int kd x)) (b:Ca m Y=some (.int kd y)) (hd:Nat.blt d n.1=true) (k:QF P ops C Q rest n ((d,.bool (decide (x≠y)))::m)):QF P ops C Q (⟨some d,.binOp .neq t1 X Y t2,ty,pos,af,none⟩::rest) n m:=λ_ c=>kC c a b hd k
def iB {b}(a:Ca m X=some (.bool b)) (hd:Nat.blt d n.1=true) (k:QF P ops C Q rest n ((d,.bool (!b))::m)):QF P ops C Q (⟨some d,.unOp .not t1 X,ty,pos,af,none⟩::rest) n m:=λ_ c=>kA c a hd k
def bU (a:Ca m X=some (.int .i64 x)) (hd:Nat.blt d n.1=true) (k:QF P ops C Q rest n ((d,.int .i64 (Bw (0-x)))::m)):QF P ops C Q (⟨some d,.unOp .neg t1 X,ty,pos,af,none⟩::rest) n m:=λ_ b=>fD b a hd k
def PY {aty}(a:Ca m X=some (.int kd x)) (b:Ca m Y=some (.int kd y)) (hd:Nat.blt d n.1=true) (k:QF P ops C Q rest n ((d,.int kd (Max.max x y))::m)):QF P ops C Q (⟨some d,.call ⟨.builtin .max,#[X,Y],#[t1,t2]⟩,aty,pos,af,none⟩::rest) n m:=λ_ c=>kF c a b hd k
def RB {aty}(a:Ca m X=some (.int kd x)) (b:Ca m Y=some (.int kd y)) (hd:Nat.blt d n.1=true) (k:QF P ops C Q rest n ((d,.int kd (Min.min x y))::m)):QF P ops C Q (⟨some d,.call ⟨.builtin .min,#[X,Y],#[t1,t2]⟩,aty,pos,af,none⟩::rest) n m:=λ_ c=>kE c a b hd k
def Iz {T:TypeId}{a:Array (Nat×Operand)}{pl z pv cs}(b:U4 P T=some (pl,z)) (c:a.toList.mapM (aI m)=some pv) (g:Lt pl z pv=some cs) (hd:Nat.blt d n.1=true) (k:QF P ops C Q rest n ((d,.agg cs.toArray)::m)):QF P ops C Q (⟨some d,.build T a,ty,pos,af,none⟩::rest) n m:=λ_ i=>kT i b c g hd k
def iC {T:TypeId}{ks xs ys}(a:Ca m X=some (.agg xs)) (b:Ca m Y=some (.agg ys)) (c:fV P T=some ks) (g:xs.toList.map Ld=ks) (i:ys.toList.map Ld=ks) (j:Oe xs.toList ys.toList=true) (hd:Nat.blt d n.1=true) (k:QF P ops C Q rest n ((d,.bool (!ZP xs.toList ys.toList))::m)):QF P ops C Q (⟨some d,.binOp .neq T X Y t2,ty,pos,af,none⟩::rest) n m:=λ_ l=>kB l a b c g i j hd k
def Zq {b o j off}(a:Ca m X=some (.pointer (some ⟨b,o,none⟩))) (c:Gf P t j off=true) (hd:Nat.blt d n.1=true) (k:QF P ops C Q rest n ((d,.pointer (some ⟨b,o+off,none⟩))::m)):QF P ops C Q (⟨some d,.fieldAddr t X j,ty,pos,af,none⟩::rest) n m:=λ_ g=>kR g a c hd k
def Nv {ad len cap aty e sz}(a:Ca m X=some (.slice ad len cap)) (b:LJ P t e sz=true) (hd:Nat.blt d n.1=true) (k:QF P ops C Q rest n ((d,.int .i64 len)::m)):QF P ops C Q (⟨some d,.call ⟨.builtin .len,#[X],#[t]⟩,aty,pos,af,none⟩::rest) n m:=λ_ c=>fF c a b hd k
section
variable {A S:Nat→Prop}{L:List HP}{h:BM}
def Cq {α}{r:BZ α}{x}(g:CK C h) (i:∀b,A b→b<h.size) (j:Ca m X=some p) (k0:OV A S h r p x) (l:JF P t r.sz r.ag=true) (o:r.ag=false→r.sz=1) (hd:Nat.blt d n.1=true)
  (k:∀v,Rd S h r v x→QF P ops C Q rest n ((d,v)::m)):QF P ops C Q (⟨some d,.load t X,ty,pos,af,none⟩::rest) n m:=λ_ c=>YY g i c j k0 l o hd λv a c q=>k v q a c
def BC {x}(g:CK C h) (i:∀b,A b→b<h.size) (j:Ca m X=some p) (k0:OV A S h AJ p x) (l:JF P t 1 false=true) (hd:Nat.blt d n.1=true)
  (k:AH x→QF P ops C Q rest n ((d,.int .i64 x)::m)):QF P ops C Q (⟨some d,.load t X,ty,pos,af,none⟩::rest) n m:=λ_ c=>kM g i c j k0 l hd λa c o=>k o a c
def iH {x}(a:CK C h) (c:∀b,A b→b<h.size) (g:Ca m X=some p) (k0:OV A S h BZ.bool p x) (i:JF P t 1 false=true) (hd:Nat.blt d n.1=true)
  (k:QF P ops C Q rest n ((d,.bool x)::m)):QF P ops C Q (⟨some d,.load t X,ty,pos,af,none⟩::rest) n m:=λ_ j=>kO a c j g k0 i hd k
def TZ {x}(g:CK C h) (i:∀b,A b→b<h.size) (j:Ca m X=some p) (k0:OV A S h BZ.str p x) (l:JF P t 1 false=true) (hd:Nat.blt d n.1=true)
  (k:x.size≤maxLen→QF P ops C Q rest n ((d,.string x)::m)):QF P ops C Q (⟨some d,.load t X,ty,pos,af,none⟩::rest) n m:=λ_ c=>kJ g i c j k0 l hd λa c o=>k o a c
def BF {α}{r:BZ α}{x}(g:CK C h) (i:∀b,A b→b<h.size) (j:Ca m X=some p) (k0:OV A S h r.sl p x) (l:JF P t 1 false=true) (hd:Nat.blt d n.1=true)
  (k:∀v,Sl S h r v x→QF P ops C Q rest n ((d,v)::m)):QF P ops C Q (⟨some d,.load t X,ty,pos,af,none⟩::rest) n m:=λ_ c=>kL g i c j k0 l hd λv a c o=>k v o a c
def A8 {α β}{r:BZ α}{r':BZ β}{f:α→β}{j off x}(c:Ca m X=some p) (k0:OV A S h r p x) (g:GO r off r' f) (i:Gf P t j off=true) (hd:Nat.blt d n.1=true)
  (k:∀q,OV A S h r' q (f x)→QF P ops C Q rest n ((d,q)::m)):QF P ops C Q (⟨some d,.fieldAddr t X j,ty,pos,af,none⟩::rest) n m:=λ_ b=>pC b c k0 g i hd λq a b l=>k q l a b
def nX {α}{r:BZ α}{l:List α}{e i x}(c:Ca m X=some v) (g:Ca m Y=some (.int .i64 i)) (k0:Sl S h r v l) (j:LJ P t e r.sz=true) (h0:0≤i) (o:l[i.toNat]? =some x) (hd:Nat.blt d n.1=true)
  (k:∀q,Pt S h r q x→QF P ops C Q rest n ((d,q)::m)):QF P ops C Q (⟨some d,.indexAddr t X Y,ty,pos,af,none⟩::rest) n m:=λ_ b=>oZ b c g k0 j h0 o hd λq a b p=>k q p a b
def iI {α}{r:BZ α}{l:List α}{T e i x}(p:St S L h) (s:OS r T v l∈L) (u:Ca m X=some v) (y:Ca m Y=some (.int .i64 i)) (z:LJ P t e r.sz=true) (h0:0≤i) (o:l[i.toNat]? =some x) (hd:Nat.blt d n.1=true)
  (k:∀q,OV (λb=>b<h.size) S h r q x→EP v (i.toNat*r.sz) q→QF P ops C Q rest n ((d,q)::m)):QF P ops C Q (⟨some d,.indexAddr t X Y,ty,pos,af,none⟩::rest) n m:=by
 obtain⟨g,cap,rfl,A⟩:=p.osAt s o
 have B:i.toNat<l.length:=(rB.1 o).1
 have c:(⟨g,0,none⟩:Addr).add (i.toNat*r.sz)=⟨g,i.toNat*r.sz,none⟩:=by unfold Addr.add;split<;>simp_all
 intro a j
 refine Ge j hd (λw _=>by simp [execOp,j.eval u,j.eval y,Ls (P:=P) (w:=w) (cap:=cap) (a:=⟨g,0,none⟩) z h0 B,c]) (k _ A ⟨g,_,_,rfl,rfl⟩)
def BE {α}{r:BZ α}{l:List α}{aty e}(c:Ca m X=some v) (k0:Sl S h r v l) (g:LJ P t e r.sz=true) (hd:Nat.blt d n.1=true)
  (k:l.length≤maxLen→QF P ops C Q rest n ((d,.int .i64 l.length)::m)):QF P ops C Q (⟨some d,.call ⟨.builtin .len,#[X],#[t]⟩,aty,pos,af,none⟩::rest) n m:=λ_ b=>kI b c k0 g hd λa b i=>k i a b
def L3 {α}{r:BZ α}{l:List α}{T aty e sz}(b:St S L h) (c:OS r T v l∈L) (g:Ca m X=some v) (i:LJ P t e sz=true) (hd:Nat.blt d n.1=true)
  (k:l.length≤maxLen→QF P ops C Q rest n ((d,.int .i64 l.length)::m)):QF P ops C Q (⟨some d,.call ⟨.builtin .len,#[X],#[t]⟩,aty,pos,af,none⟩::rest) n m:=by
 obtain⟨j,cap,rfl,a⟩:=b.oslen c
 exact Nv g i hd (k a)
def ES {T b o sz:Nat}{ag:Bool}{cs vs:List Value}(a:CK C h) (c:St S L h) (g:Ca m X=some (.pointer (some ⟨b,o,none⟩))) (i:Bx b T cs∈L) (j:(cs.drop o).take sz=vs) (l:Nat.beq vs.length sz=true) (p:JF P t sz ag=true) (q:(ag||Nat.beq sz 1)=true) (hd:Nat.blt d n.1=true)
  (k:QF P ops C Q rest n ((d,if ag then .agg vs.toArray else vs.headD undef)::m)):QF P ops C Q (⟨some d,.load t X,ty,pos,af,none⟩::rest) n m:=λ_ s=>kK a c s g i j l p q hd k
end
def bZ {f:Nat}{xs:Array Operand}{c:Array TypeId}{a vs:List Value}{first cap:Array Value}{h B}
  (l:Ca m X=some (.func (.func f) first cap)) (g:xs.toList.mapM (Ca m)=some a) (i:first.toList++a++cap.toList=vs) (j:CC P f=true) (hd:Nat.blt d n.1=true)
  (o:∀h',GD h h'→DK P f vs.toArray (λb=>b<h'.size) h' (λu _ _=>u=v))
  (k:QF P ops (Cl B h) Q rest n ((d,v)::m)):QF P ops (Cl B h) Q (⟨some d,.call ⟨.value X,xs,c⟩,ty,pos,af,none⟩::rest) n m:=λ_ p=>fG p l g i j hd o k
end
section
variable {P:Program}{ops:Array Oper}{Q:Exit→Act→World→Prop}{n:FN}{m:SM}{rest:List Oper}
variable {d:Nat}{ty:TypeId}{pos:String}{af:Array Edge}{X Y:Operand}{B:World}{h:BM}{S:Nat→Prop}{L L2:List HP}{v:Value}
def RE {T:TypeId}{cs:List Value}(j:Ca m X=some v) (l:v.cells=cs.toArray) (hd:Nat.blt d n.1=true) (c:St S L h)
  (k:∀b h',St S (Bx b T cs::L) h'→C9 S h S h'→LF P ops Q rest B h' n ((d,.pointer (some ⟨b,0,none⟩))::m)):LF P ops Q (⟨some d,.box T X,ty,pos,af,none⟩::rest) B h n m:=
 λ_ _ g i=>dF g j l hd i c λb a w h' g i c e=>k b h' c e a w g i
def C3 {T:TypeId}{α}{r:BZ α}{x:α}(i:Ca m X=some v) (j:Rd S h r v x) (l:r.ag=false→r.sz=1) (hd:Nat.blt d n.1=true) (b:St S L h)
  (k:∀p S' h',St S' L h'→C9 S h S' h'→Pt S' h' r p x→LF P ops Q rest B h' n ((d,p)::m)):LF P ops Q (⟨some d,.box T X,ty,pos,af,none⟩::rest) B h n m:=
 λ_ _ c g=>fM c i j l hd g b λp a w S' h' c g b e kp=>k p S' h' b e kp a w c g
def Di {T:TypeId}{cs:List Value}(j:FK P T=some cs) (hd:Nat.blt d n.1=true) (c:St S L h)
  (k:∀b h',St S (Bx b T cs::L) h'→C9 S h S h'→LF P ops Q rest B h' n ((d,.pointer (some ⟨b,0,none⟩))::m)):LF P ops Q (⟨some d,.alloc T,ty,pos,af,none⟩::rest) B h n m:=
 λ_ _ g i=>pI g j hd i c λb a w h' g i c e=>k b h' c e a w g i
def Ht {T l:TypeId}{b o:Nat}{cs vs cs':List Value}{sz:Nat}{ag:Bool}(p:Ca m X=some (.pointer (some ⟨b,o,none⟩))) (q:Ca m Y=some v) (s:v.cells=vs.toArray) (t:∀u∈vs,u.oneCell'=true)
  (x:JF P T sz ag=true) (d:vs.length=sz) (g:St S L h) (r:MA L (Bx b l cs) (Bx b l cs') L2) (c:Nat.ble (o+sz) cs.length=true) (y:IY cs o vs=cs')
  (k:∀h',St S L2 h'→C9 S h S h'→LF P ops Q rest B h' n m):LF P ops Q (⟨none,.store T X Y,ty,pos,af,none⟩::rest) B h n m:=
 λ_ _ i j=>pF i p q s t x d c y j g r λa w h' i j g e=>k h' g e a w i j
def oA {α}{r:BZ α}{T e sz b:Nat}{z:List Value}{zx:α}{len cap:Nat}{q s:IntKind}{U V:Operand}(t:N3 P T=some (e,sz,b,z)) (c:r.sz=sz) (u:r.rd S h z zx)
  (x:Ca m U=some (.int q (len:Nat))) (y:Ca m V=some (.int s (cap:Nat))) (g:len≤cap) (i:b*cap≤281474976710656) (j:cap≤maxLen) (hd:Nat.blt d n.1=true) (l:St S L h)
  (k:∀v h',St S (OS r e v (List.replicate len zx)::L) h'→C9 S h S h'→LF P ops Q rest B h' n ((d,v)::m)):LF P ops Q (⟨some d,.makeSlice T U V,ty,pos,af,none⟩::rest) B h n m:=
 λ_ _ o p=>pG o t c u x y g i j hd p l λv a w h' o p l e=>k v h' l e a w o p
def cG {α}{r:BZ α}{T e sz i:Nat}{z:List Value}{l xs:List α}{x A b sc:Nat}{c:List Value}{y:Value→List HP}(C:Ca m X=some v) (D:Ca m Y=some (.slice (some ⟨x,0,none⟩) b sc)) (F:N3 P T=some (e,sz,i,z)) (j:r.sz=sz)
  (G:Bx x A c∈L) (H:LG S h r c xs) (o:b=xs.length) (p:l.length+xs.length≤maxLen) (q:(l.length+xs.length)*i≤140737488355328) (hd:Nat.blt d n.1=true) (s:St S L h) (I:∀g,MA L (OS r e v l) (OS r e g (l++xs)) (y g))
  (k:∀g h',St S (y g) h'→C9 S h S h'→LF P ops Q rest B h' n ((d,g)::m)):LF P ops Q (⟨some d,.call ⟨.builtin .append,#[X,Y],#[T,T]⟩,ty,pos,af,none⟩::rest) B h n m:=
 λ_ _ t u=>fO t C D F j G H o p q hd u s I λg a w h' t u s e=>k g h' s e a w t u
def oB {T e sz g len:Nat}{z cs:List Value}{c:Array (Nat×Operand)}{i:List (Nat×Value)}(u:N3 P T=some (e,sz,g,z)) (v:c.toList.mapM (aI m)=some i)
  (x:Lt (Sm sz len) (List.replicate len z).flatten i=some cs) (j:Nat.blt 0 len=true) (l:Nat.ble (len*sz) 16777216=true) (o:∀p∈i,p.1<len) (hd:Nat.blt d n.1=true) (q:St S L h)
  (k:∀b h',St S (Bx b e cs::L) h'→C9 S h S h'→LF P ops Q rest B h' n ((d,.slice (some ⟨b,0,none⟩) len len)::m)):LF P ops Q (⟨some d,.buildSlice T len c,ty,pos,af,none⟩::rest) B h n m:=
 λ_ _ s t=>pH s u v x j l hd t q o λb a w h' s t q e=>k b h' q e a w s t
def Dj {f:Nat}{xs:Array Operand}{g:Array TypeId}{b vs:List Value}{first cap:Array Value}{c:Value→(Nat→Prop)→BM→Prop}
  (s:Ca m X=some (.func (.func f) first cap)) (i:xs.toList.mapM (Ca m)=some b) (j:first.toList++b++cap.toList=vs) (l:CC P f=true) (hd:Nat.blt d n.1=true) (t:DK P f vs.toArray S h c)
  (k:∀v S' h',C9 S h S' h'→c v S' h'→LF P ops Q rest B h' n ((d,v)::m)):LF P ops Q (⟨some d,.call ⟨.value X,xs,g⟩,ty,pos,af,none⟩::rest) B h n m:=
 λ_ _ o q=>Yl o s i j l hd q t λv a w S' h' o q e p=>k v S' h' e p a w o q
end
end Go.Proofs.YtblcgjadhemlbaaGreat
