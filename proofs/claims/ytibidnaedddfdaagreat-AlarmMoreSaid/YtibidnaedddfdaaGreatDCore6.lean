import Derived.Test.YtibidnaedddfdaaGreatDCore5
namespace Go.Proofs.YtibidnaedddfdaaGreat
set_option linter.all false
open Go.RowKit
abbrev SM:=List (Nat×Value)
def QF (P:Program) (ops:Array Oper) (C:World→Prop) (Q:Act→Prop) (l:List Oper) (n:FN) (m:SM):Prop:=∀a,Fr n a m→wpQuiet P ops C Q l a
def LF (P:Program) (ops:Array Oper) (Q:Exit→Act→World→Prop) (l:List Oper) (B:World) (h:BB) (n:FN) (m:SM):Prop:=∀a w,Fr n a m→Wd B h w→wpList P ops Q l a w
def WF (P:Program) (ex:List (Nat×AP)) (R:AP) (cs:List Code) (N:AP) (B:World) (h:BB) (n:FN) (m:SM):Prop:=∀a w,Fr n a m→Wd B h w→W P ex R cs N a w
section
variable {P:Program}{ex:List (Nat×AP)}{R N:AP}{cs:List Code}{B:World}{h:BB}{n:FN}{m m':SM}{S:Nat→Prop}{L:List HP}
def hO (b:QC m m') (k:WF P ex R cs N B h n m'):WF P ex R cs N B h n m:=λa w c d=>k a w (c.sub b) d
def AC {x y:Code}(k:WF P ex R (x::y::cs) N B h n m):WF P ex R (.seq x y::cs) N B h n m:=λa w b c=>cA (k a w b c)
def AQ (k:WF P ex R cs N B h n m):WF P ex R (.skip::cs) N B h n m:=λa w b c=>ZK (k a w b c)
def WF.ret (k:∀a w,Fr n a m→Wd B h w→R a w):WF P ex R (.ret::cs) N B h n m:=λa w b c=>cB (k a w b c)
def WF.exit {i:Nat}{K:AP}(b:Xx ex i=some K) (k:∀a w,Fr n a m→Wd B h w→K a w):WF P ex R (.exit i::cs) N B h n m:=λa w c d=>VG b (k a w c d)
def WF.nil (k:∀a w,Fr n a m→Wd B h w→N a w):WF P ex R [] N B h n m:=λa w b c=>k a w b c
def RQ {X b}{x y:Code}(g:CE m X=some (.bool b)) (i:b=true→WF P ex R (x::cs) N B h n m) (j:b=false→WF P ex R (y::cs) N B h n m):WF P ex R (.cond X x y::cs) N B h n m:=
 λa w c d=>gE c g (λe=>i e a w c d) λe=>j e a w c d
def ND {X}{x y:Code}(c:CE m X=some (.bool true)) (k:WF P ex R (x::cs) N B h n m):WF P ex R (.cond X x y::cs) N B h n m:=λa w b d=>cC b c (k a w b d)
def RS {X}{x y:Code}(c:CE m X=some (.bool false)) (k:WF P ex R (y::cs) N B h n m):WF P ex R (.cond X x y::cs) N B h n m:=λa w b d=>cD b c (k a w b d)
def BW {i:Nat}{c:Code}(k:WF P ((i,W P ex R cs N)::ex) R [c] (W P ex R cs N) B h n m):WF P ex R (.block i c::cs) N B h n m:=λa w b d=>Xd (k a w b d)
def HW {c:Code}(I:AP) (b:WF P ex R [c] I B h n m) (d:∀a w,I a w→W P ex R cs N a w):WF P ex R (c::cs) N B h n m:=λa w g i=>cE I (b a w g i) d
def YQ {c:Code}(I:Nat→AP) (T d:Nat) (h0:∀a w,Fr n a m→Wd B h w→I d a w) (g:∀i a w,I i a w→i≤T)
  (b:∀i a w,I i a w→W P ex R [c] (I (i+1)) a w):WF P ex R (.loop c::cs) N B h n m:=λa w j k=>ZM I T d (h0 a w j k) g b
def CL {l:List Oper}{id:Nat}{b:Bool}(c:Vn P l b) (k:QF P l.toArray (Wd B h) (λa=>∀w,Wd B h w→W P ex R cs N a w) l n m):WF P ex R (.region id l.toArray b::cs) N B h n m:=
 λa _ d g=>gB c g (k a d)
def WF.rc {l:List Oper}{id:Nat}{b:Bool}(c:Vn P l b) (d:St S L h) (k:QF P l.toArray (Cl B h) (λa=>∀w h',Wd B h' w→St S L h'→Cm S h S h'→W P ex R cs N a w) l n m):WF P ex R (.region id l.toArray b::cs) N B h n m:=
 λa _ g i=>gD c i d (k a g)
def Gf {l:List Oper}{id:Nat}(k:LF P l.toArray (Qx ex R (W P ex R cs N)) l B h n m):WF P ex R (.region id l.toArray false::cs) N B h n m:=
 λa w b c=>gC (k a w b c)
def AL {ops:Array Oper}{C}(b:QC m m') (k:WF P ex R cs N B h n m'):QF P ops C (λa=>∀w,Wd B h w→W P ex R cs N a w) [] n m:=λa c w d=>k a w (c.sub b) d
def Bu {ops:Array Oper}{C}(b:QC m m') (k:∀h',St S L h'→Cm S h S h'→WF P ex R cs N B h' n m'):QF P ops C (λa=>∀w h',Wd B h' w→St S L h'→Cm S h S h'→W P ex R cs N a w) [] n m:=
 λa c w h' d s e=>k h' s e a w (c.sub b) d
def AS {ops:Array Oper}(b:QC m m') (k:WF P ex R cs N B h n m'):LF P ops (Qx ex R (W P ex R cs N)) [] B h n m:=λa w c d=>dO (k a w (c.sub b) d)
def A5 {ops:Array Oper}{Q:Exit→Act→World→Prop}{l:List Oper}(j:Nat) (k:QF P ops (Wd B h) (λa=>∀w,Wd B h w→wpList P ops Q (l.drop j) a w) (l.take j) n m):LF P ops Q l B h n m:=λa _ b c=>l_q j c (k a b)
def A6 {ops:Array Oper}{C}{Q:Exit→Act→World→Prop}{l:List Oper}(k:LF P ops Q l B h n m):QF P ops C (λa=>∀w,Wd B h w→wpList P ops Q l a w) [] n m:=λa b w c=>k a w b c
def BO {f fn c l S h post}(n:Nat) (b:P.funcs[f]? =some fn) (d:fn.body=some c) (g:fn.ntmps=n) (i:Nat.ble l.length n=true)
  (k:∀B,WF P [] (Rt P fn B S h post) [c] (Rt P fn B S h post) B h (n,[]) (Tb 0 l)):Ct P f l.toArray S h post:=
 Ct.intro n b d g (mC i) λB w a j b=>k B a w b j
end
section
variable {P:Program}{ops:Array Oper}{C:World→Prop}{Q:Act→Prop}{n:FN}{m m':SM}{rest:List Oper}
variable {d:Nat}{ty:TypeId}{pos:String}{af:Array Edge}{X Y:Operand}{t t1 t2:TypeId}{x y:Int}{kd:IntKind}{v p:Value}
def QF.nil (k:∀a,Fr n a m→Q a):QF P ops C Q [] n m:=λa b=>k a b
def iB {l:List Oper}(b:QC m m') (k:QF P ops C Q l n m'):QF P ops C Q l n m:=λa c=>k a (c.sub b)
def XL {o:Oper}{j e:Nat}{b:Bool}(d:o.guard=some (j,b)) (g:(ops[j]?).bind (·.dst)=some e) (i:lk m e=some (.bool b)) (k:QF P ops C Q ({ o with guard:=none}::rest) n m):QF P ops C Q (o::rest) n m:=
 λa c=>gM c d g i (k a c)
def fL {o:Oper}{j e:Nat}{b:Bool}(a:o.guard=some (j,!b)) (c:(ops[j]?).bind (·.dst)=some e) (g:lk m e=some (.bool b)) (i:o.dst=some d) (hd:Nat.blt d n.1=true) (k:QF P ops C Q rest n ((d,undef)::m)):QF P ops C Q (o::rest) n m:=
 λ_ l=>gN l a c g i hd k
def bI (j:Nat) (m':SM) {l:List Oper}(c:QF P ops C (λa=>Fr n a m') (l.take j) n m) (d:QF P ops C Q (l.drop j) n m'):QF P ops C Q l n m:=
 λa g=>Tw j (λa=>Fr n a m') (c a g) λi b=>d i b
def YY (b:QC m m'):QF P ops C (λa=>Fr n a m') [] n m:=λ_ c=>c.sub b
def E8 (a:CE m X=some v) (hd:Nat.blt d n.1=true) (k:QF P ops C Q rest n ((d,v)::m)):QF P ops C Q (⟨some d,.move X,ty,pos,af,none⟩::rest) n m:=λ_ b=>gK b a hd k
def LG (a:CE m X=some v) (hd:Nat.blt d n.1=true) (k:QF P ops C Q rest n ((d,v)::m)):QF P ops C Q (⟨some d,.assign X,ty,pos,af,none⟩::rest) n m:=λ_ b=>gP b a hd k
def RY {c X Y:Operand}{b:Bool}(a:CE m c=some (.bool b)) (g:CE m (if b then X else Y)=some v) (hd:Nat.blt d n.1=true) (k:QF P ops C Q rest n ((d,v)::m)):QF P ops C Q (⟨some d,.pick c X Y,ty,pos,af,none⟩::rest) n m:=λ_ i=>Ze i a g hd k
def iE (a:CE m X=some (.int .i64 x)) (b:CE m Y=some (.int .i64 y)) (hd:Nat.blt d n.1=true) (c:AD (x+y)) (k:QF P ops C Q rest n ((d,.int .i64 (x+y))::m)):QF P ops C Q (⟨some d,.binOp .add t1 X Y t2,ty,pos,af,none⟩::rest) n m:=λ_ g=>dL g a b hd c k
def iD (a:CE m X=some (.int .i64 x)) (b:CE m Y=some (.int .i64 y)) (hd:Nat.blt d n.1=true) (c:AD (x*y)) (k:QF P ops C Q rest n ((d,.int .i64 (x*y))::m)):QF P ops C Q (⟨some d,.binOp .mul t1 X Y t2,ty,pos,af,none⟩::rest) n m:=λ_ g=>cT g a b hd c k
def Ud (a:CE m X=some (.int .i64 x)) (b:CE m Y=some (.int .i64 y)) (hd:Nat.blt d n.1=true) (k:QF P ops C Q rest n ((d,.int .i64 (B8 (x+y)))::m)):QF P ops C Q (⟨some d,.binOp .add t1 X Y t2,ty,pos,af,none⟩::rest) n m:=λ_ c=>Zi c a b hd k
def Ua (a:CE m X=some (.int .i64 x)) (b:CE m Y=some (.int .i64 y)) (hd:Nat.blt d n.1=true) (k:QF P ops C Q rest n ((d,.int .i64 (B8 (x-y)))::m)):QF P ops C Q (⟨some d,.binOp .sub t1 X Y t2,ty,pos,af,none⟩::rest) n m:=λ_ c=>Zd c a b hd k
def RZ (a:CE m X=some (.int .i64 x)) (b:CE m Y=some (.int .i64 y)) (hd:Nat.blt d n.1=true) (k:QF P ops C Q rest n ((d,.int .i64 (B8 (x*y)))::m)):QF P ops C Q (⟨some d,.binOp .mul t1 X Y t2,ty,pos,af,none⟩::rest) n m:=λ_ c=>Zf c a b hd k
def bA (a:CE m X=some (.int kd x)) (b:CE m Y=some (.int kd y)) (hd:Nat.blt d n.1=true) (k:QF P ops C Q rest n ((d,.bool (decide (x<y)))::m)):QF P ops C Q (⟨some d,.binOp .lss t1 X Y t2,ty,pos,af,none⟩::rest) n m:=λ_ c=>cW c a b hd k
def bC (a:CE m X=some (.int kd x)) (b:CE m Y=some (.int kd y)) (hd:Nat.blt d n.1=true) (k:QF P ops C Q rest n ((d,.bool (decide (x≤y)))::m)):QF P ops C Q (⟨some d,.binOp .leq t1 X Y t2,ty,pos,af,none⟩::rest) n m:=λ_ c=>cX c a b hd k
def XM (a:CE m X=some (.int kd x)) (b:CE m Y=some (.int kd y)) (hd:Nat.blt d n.1=true) (k:QF P ops C Q rest n ((d,.bool (decide (y<x)))::m)):QF P ops C Q (⟨some d,.binOp .gtr t1 X Y t2,ty,pos,af,none⟩::rest) n m:=λ_ c=>dF c a b hd k
def bG (a:CE m X=some (.int kd x)) (b:CE m Y=some (.int kd y)) (hd:Nat.blt d n.1=true) (k:QF P ops C Q rest n ((d,.bool (decide (y≤x)))::m)):QF P ops C Q (⟨some d,.binOp .geq t1 X Y t2,ty,pos,af,none⟩::rest) n m:=λ_ c=>dG c a b hd k
def Te (a:CE m X=some (.int kd x)) (b:CE m Y=some (.int kd y)) (hd:Nat.blt d n.1=true) (k:QF P ops C Q rest n ((d,.bool (decide (x=y)))::m)):QF P ops C Q (⟨some d,.binOp .eql t1 X Y t2,ty,pos,af,none⟩::rest) n m:=λ_ c=>dJ c a b hd k
def aZ (a:CE m X=some (.int kd x)) (b:CE m Y=some (.int kd y)) (hd:Nat.blt d n.1=true) (k:QF P ops C Q rest n ((d,.bool (decide (x≠y)))::m)):QF P ops C Q (⟨some d,.binOp .neq t1 X Y t2,ty,pos,af,none⟩::rest) n m:=λ_ c=>cS c a b hd k
def XI {b}(a:CE m X=some (.bool b)) (hd:Nat.blt d n.1=true) (k:QF P ops C Q rest n ((d,.bool (!b))::m)):QF P ops C Q (⟨some d,.unOp .not t1 X,ty,pos,af,none⟩::rest) n m:=λ_ c=>cR c a hd k
def Jf {aty}(a:CE m X=some (.int kd x)) (b:CE m Y=some (.int kd y)) (hd:Nat.blt d n.1=true) (k:QF P ops C Q rest n ((d,.int kd (Max.max x y))::m)):QF P ops C Q (⟨some d,.call ⟨.builtin .max,#[X,Y],#[t1,t2]⟩,aty,pos,af,none⟩::rest) n m:=λ_ c=>cV c a b hd k
def LE {aty}(a:CE m X=some (.int kd x)) (b:CE m Y=some (.int kd y)) (hd:Nat.blt d n.1=true) (k:QF P ops C Q rest n ((d,.int kd (Min.min x y))::m)):QF P ops C Q (⟨some d,.call ⟨.builtin .min,#[X,Y],#[t1,t2]⟩,aty,pos,af,none⟩::rest) n m:=λ_ c=>cU c a b hd k
def DB {T:TypeId}{a:Array (Nat×Operand)}{pl z pv cs}(b:TB P T=some (pl,z)) (c:a.toList.mapM (Xp m)=some pv) (g:KQ pl z pv=some cs) (hd:Nat.blt d n.1=true) (k:QF P ops C Q rest n ((d,.agg cs.toArray)::m)):QF P ops C Q (⟨some d,.build T a,ty,pos,af,none⟩::rest) n m:=λ_ i=>dK i b c g hd k
def Pq {T:TypeId}{ks xs ys}(a:CE m X=some (.agg xs)) (b:CE m Y=some (.agg ys)) (c:Zs P T=some ks) (g:xs.toList.map Jz=ks) (i:ys.toList.map Jz=ks) (j:NX xs.toList ys.toList=true) (hd:Nat.blt d n.1=true) (k:QF P ops C Q rest n ((d,.bool (P3 xs.toList ys.toList))::m)):QF P ops C Q (⟨some d,.binOp .eql T X Y t2,ty,pos,af,none⟩::rest) n m:=λ_ l=>dI l a b c g i j hd k
def XN {b o j off}(a:CE m X=some (.pointer (some ⟨b,o,none⟩))) (c:FZ P t j off=true) (hd:Nat.blt d n.1=true) (k:QF P ops C Q rest n ((d,.pointer (some ⟨b,o+off,none⟩))::m)):QF P ops C Q (⟨some d,.fieldAddr t X j,ty,pos,af,none⟩::rest) n m:=λ_ g=>dH g a c hd k
def Ra {ad len cap aty e sz}(a:CE m X=some (.slice ad len cap)) (b:JZ P t e sz=true) (hd:Nat.blt d n.1=true) (k:QF P ops C Q rest n ((d,.int .i64 len)::m)):QF P ops C Q (⟨some d,.call ⟨.builtin .len,#[X],#[t]⟩,aty,pos,af,none⟩::rest) n m:=λ_ c=>Zg c a b hd k
section
variable {A S:Nat→Prop}{L:List HP}{h:BB}
def BP {α}{r:B7 α}{x}(g:CK C h) (i:∀b,A b→b<h.size) (j:CE m X=some p) (k0:N0 A S h r p x) (l:Hd P t r.sz r.ag=true) (o:r.ag=false→r.sz=1) (hd:Nat.blt d n.1=true)
  (k:∀v,Rd S h r v x→QF P ops C Q rest n ((d,v)::m)):QF P ops C Q (⟨some d,.load t X,ty,pos,af,none⟩::rest) n m:=λ_ c=>Vp g i c j k0 l o hd λv a c q=>k v q a c
def AY {x}(g:CK C h) (i:∀b,A b→b<h.size) (j:CE m X=some p) (k0:N0 A S h BQ p x) (l:Hd P t 1 false=true) (hd:Nat.blt d n.1=true)
  (k:AD x→QF P ops C Q rest n ((d,.int .i64 x)::m)):QF P ops C Q (⟨some d,.load t X,ty,pos,af,none⟩::rest) n m:=λ_ c=>dC g i c j k0 l hd λa c o=>k o a c
def XK {x}(a:CK C h) (c:∀b,A b→b<h.size) (g:CE m X=some p) (k0:N0 A S h B7.bool p x) (i:Hd P t 1 false=true) (hd:Nat.blt d n.1=true)
  (k:QF P ops C Q rest n ((d,.bool x)::m)):QF P ops C Q (⟨some d,.load t X,ty,pos,af,none⟩::rest) n m:=λ_ j=>dE a c j g k0 i hd k
def Rb {x}(g:CK C h) (i:∀b,A b→b<h.size) (j:CE m X=some p) (k0:N0 A S h B7.str p x) (l:Hd P t 1 false=true) (hd:Nat.blt d n.1=true)
  (k:x.size≤maxLen→QF P ops C Q rest n ((d,.string x)::m)):QF P ops C Q (⟨some d,.load t X,ty,pos,af,none⟩::rest) n m:=λ_ c=>cZ g i c j k0 l hd λa c o=>k o a c
def BR {α}{r:B7 α}{x}(g:CK C h) (i:∀b,A b→b<h.size) (j:CE m X=some p) (k0:N0 A S h r.sl p x) (l:Hd P t 1 false=true) (hd:Nat.blt d n.1=true)
  (k:∀v,Sl S h r v x→QF P ops C Q rest n ((d,v)::m)):QF P ops C Q (⟨some d,.load t X,ty,pos,af,none⟩::rest) n m:=λ_ c=>dB g i c j k0 l hd λv a c o=>k v o a c
def AV {α β}{r:B7 α}{r':B7 β}{f:α→β}{j off x}(c:CE m X=some p) (k0:N0 A S h r p x) (g:Fm r off r' f) (i:FZ P t j off=true) (hd:Nat.blt d n.1=true)
  (k:∀q,N0 A S h r' q (f x)→QF P ops C Q rest n ((d,q)::m)):QF P ops C Q (⟨some d,.fieldAddr t X j,ty,pos,af,none⟩::rest) n m:=λ_ b=>gO b c k0 g i hd λq a b l=>k q l a b
def fK {α}{r:B7 α}{l:List α}{e i x}(c:CE m X=some v) (g:CE m Y=some (.int .i64 i)) (k0:Sl S h r v l) (j:JZ P t e r.sz=true) (h0:0≤i) (o:l[i.toNat]? =some x) (hd:Nat.blt d n.1=true)
  (k:∀q,Pt S h r q x→QF P ops C Q rest n ((d,q)::m)):QF P ops C Q (⟨some d,.indexAddr t X Y,ty,pos,af,none⟩::rest) n m:=λ_ b=>gL b c g k0 j h0 o hd λq a b p=>k q p a b
def bD {α}{r:B7 α}{l:List α}{T e i x}(p:St S L h) (s:OS r T v l∈L) (u:CE m X=some v) (y:CE m Y=some (.int .i64 i)) (z:JZ P t e r.sz=true) (h0:0≤i) (o:l[i.toNat]? =some x) (hd:Nat.blt d n.1=true)
  (k:∀q,N0 (λb=>b<h.size) S h r q x→EP v (i.toNat*r.sz) q→QF P ops C Q rest n ((d,q)::m)):QF P ops C Q (⟨some d,.indexAddr t X Y,ty,pos,af,none⟩::rest) n m:=by
 obtain⟨D,cap,rfl,A⟩:=p.osAt s o
 have B:i.toNat<l.length:=(jF.1 o).1
 have c:(⟨D,0,none⟩:Addr).add (i.toNat*r.sz)=⟨D,i.toNat*r.sz,none⟩:=by unfold Addr.add;split<;>simp_all
 intro a j
 refine Fo j hd (λw _=>by simp [execOp,j.eval u,j.eval y,Lq (P:=P) (w:=w) (cap:=cap) (a:=⟨D,0,none⟩) z h0 B,c]) (k _ A ⟨D,_,_,rfl,rfl⟩)
def BJ {α}{r:B7 α}{l:List α}{aty e}(c:CE m X=some v) (k0:Sl S h r v l) (g:JZ P t e r.sz=true) (hd:Nat.blt d n.1=true)
  (k:l.length≤maxLen→QF P ops C Q rest n ((d,.int .i64 l.length)::m)):QF P ops C Q (⟨some d,.call ⟨.builtin .len,#[X],#[t]⟩,aty,pos,af,none⟩::rest) n m:=λ_ b=>cY b c k0 g hd λa b i=>k i a b
def Nx {α}{r:B7 α}{l:List α}{T aty e sz}(b:St S L h) (c:OS r T v l∈L) (g:CE m X=some v) (i:JZ P t e sz=true) (hd:Nat.blt d n.1=true)
  (k:l.length≤maxLen→QF P ops C Q rest n ((d,.int .i64 l.length)::m)):QF P ops C Q (⟨some d,.call ⟨.builtin .len,#[X],#[t]⟩,aty,pos,af,none⟩::rest) n m:=by
 obtain⟨j,cap,rfl,a⟩:=b.oslen c
 exact Ra g i hd (k a)
def Cw {T b o sz:Nat}{ag:Bool}{cs vs:List Value}(a:CK C h) (c:St S L h) (g:CE m X=some (.pointer (some ⟨b,o,none⟩))) (i:Bx b T cs∈L) (j:(cs.drop o).take sz=vs) (l:Nat.beq vs.length sz=true) (p:Hd P t sz ag=true) (q:(ag||Nat.beq sz 1)=true) (hd:Nat.blt d n.1=true)
  (k:QF P ops C Q rest n ((d,if ag then .agg vs.toArray else vs.headD undef)::m)):QF P ops C Q (⟨some d,.load t X,ty,pos,af,none⟩::rest) n m:=λ_ s=>dA a c s g i j l p q hd k
end
def Ya {f:Nat}{xs:Array Operand}{a:Array TypeId}{args vs:List Value}{first cap:Array Value}{h B}
  (j:CE m X=some (.func (.func f) first cap)) (c:xs.toList.mapM (CE m)=some args) (g:first.toList++args++cap.toList=vs) (i:Br P f=true) (hd:Nat.blt d n.1=true)
  (l:∀h',FW h h'→Ct P f vs.toArray (λb=>b<h'.size) h' (λu _ _=>u=v))
  (k:QF P ops (Cl B h) Q rest n ((d,v)::m)):QF P ops (Cl B h) Q (⟨some d,.call ⟨.value X,xs,a⟩,ty,pos,af,none⟩::rest) n m:=λ_ o=>Zh o j c g i hd l k
end
section
variable {P:Program}{ops:Array Oper}{Q:Exit→Act→World→Prop}{n:FN}{m:SM}{rest:List Oper}
variable {d:Nat}{ty:TypeId}{pos:String}{af:Array Edge}{X Y:Operand}{B:World}{h:BB}{S:Nat→Prop}{L L2:List HP}{v:Value}
def OL {T:TypeId}{cs:List Value}(j:CE m X=some v) (l:v.cells=cs.toArray) (hd:Nat.blt d n.1=true) (c:St S L h)
  (k:∀b h',St S (Bx b T cs::L) h'→Cm S h S h'→LF P ops Q rest B h' n ((d,.pointer (some ⟨b,0,none⟩))::m)):LF P ops Q (⟨some d,.box T X,ty,pos,af,none⟩::rest) B h n m:=
 λ_ _ g i=>Yz g j l hd i c λb a w h' g i c e=>k b h' c e a w g i
def BM {T:TypeId}{α}{r:B7 α}{x:α}(i:CE m X=some v) (j:Rd S h r v x) (l:r.ag=false→r.sz=1) (hd:Nat.blt d n.1=true) (b:St S L h)
  (k:∀p S' h',St S' L h'→Cm S h S' h'→Pt S' h' r p x→LF P ops Q rest B h' n ((d,p)::m)):LF P ops Q (⟨some d,.box T X,ty,pos,af,none⟩::rest) B h n m:=
 λ_ _ c g=>Zm c i j l hd g b λp a w S' h' c g b e kp=>k p S' h' b e kp a w c g
def CX {T:TypeId}{cs:List Value}(j:D7 P T=some cs) (hd:Nat.blt d n.1=true) (c:St S L h)
  (k:∀b h',St S (Bx b T cs::L) h'→Cm S h S h'→LF P ops Q rest B h' n ((d,.pointer (some ⟨b,0,none⟩))::m)):LF P ops Q (⟨some d,.alloc T,ty,pos,af,none⟩::rest) B h n m:=
 λ_ _ g i=>gU g j hd i c λb a w h' g i c e=>k b h' c e a w g i
def IR {T l:TypeId}{b o:Nat}{cs vs cs':List Value}{sz:Nat}{ag:Bool}(p:CE m X=some (.pointer (some ⟨b,o,none⟩))) (q:CE m Y=some v) (s:v.cells=vs.toArray) (t:∀u∈vs,u.oneCell'=true)
  (x:Hd P T sz ag=true) (d:vs.length=sz) (g:St S L h) (r:KA L (Bx b l cs) (Bx b l cs') L2) (c:Nat.ble (o+sz) cs.length=true) (y:Fs cs o vs=cs')
  (k:∀h',St S L2 h'→Cm S h S h'→LF P ops Q rest B h' n m):LF P ops Q (⟨none,.store T X Y,ty,pos,af,none⟩::rest) B h n m:=
 λ_ _ i j=>gR i p q s t x d c y j g r λa w h' i j g e=>k h' g e a w i j
def fO {α}{r:B7 α}{T e sz b:Nat}{z:List Value}{zx:α}{len cap:Nat}{q s:IntKind}{U V:Operand}(t:NI P T=some (e,sz,b,z)) (c:r.sz=sz) (u:r.rd S h z zx)
  (x:CE m U=some (.int q (len:Nat))) (y:CE m V=some (.int s (cap:Nat))) (g:len≤cap) (i:b*cap≤281474976710656) (j:cap≤maxLen) (hd:Nat.blt d n.1=true) (l:St S L h)
  (k:∀v h',St S (OS r e v (List.replicate len zx)::L) h'→Cm S h S h'→LF P ops Q rest B h' n ((d,v)::m)):LF P ops Q (⟨some d,.makeSlice T U V,ty,pos,af,none⟩::rest) B h n m:=
 λ_ _ o p=>gS o t c u x y g i j hd p l λv a w h' o p l e=>k v h' l e a w o p
def Yg {α}{r:B7 α}{T e sz g:Nat}{z:List Value}{l xs:List α}{u y b sc:Nat}{news:List Value}{x:Value→List HP}(A:CE m X=some v) (C:CE m Y=some (.slice (some ⟨u,0,none⟩) b sc)) (D:NI P T=some (e,sz,g,z)) (i:r.sz=sz)
  (F:Bx u y news∈L) (G:Jd S h r news xs) (j:b=xs.length) (o:l.length+xs.length≤maxLen) (p:I4 (l.length+xs.length) g) (hd:Nat.blt d n.1=true) (q:St S L h) (H:∀c,KA L (OS r e v l) (OS r e c (l++xs)) (x c))
  (k:∀c h',St S (x c) h'→Cm S h S h'→LF P ops Q rest B h' n ((d,c)::m)):LF P ops Q (⟨some d,.call ⟨.builtin .append,#[X,Y],#[T,T]⟩,ty,pos,af,none⟩::rest) B h n m:=
 λ_ _ s t=>Zo s A C D i F G j o p hd t q H λc a w h' s t q e=>k c h' q e a w s t
def fP {T e sz g len:Nat}{z cs:List Value}{c:Array (Nat×Operand)}{i:List (Nat×Value)}(u:NI P T=some (e,sz,g,z)) (v:c.toList.mapM (Xp m)=some i)
  (x:KQ (Qy sz len) (List.replicate len z).flatten i=some cs) (j:Nat.blt 0 len=true) (l:Nat.ble (len*sz) 16777216=true) (o:∀p∈i,p.1<len) (hd:Nat.blt d n.1=true) (q:St S L h)
  (k:∀b h',St S (Bx b e cs::L) h'→Cm S h S h'→LF P ops Q rest B h' n ((d,.slice (some ⟨b,0,none⟩) len len)::m)):LF P ops Q (⟨some d,.buildSlice T len c,ty,pos,af,none⟩::rest) B h n m:=
 λ_ _ s t=>gT s u v x j l hd t q o λb a w h' s t q e=>k b h' q e a w s t
def GO {f:Nat}{xs:Array Operand}{c:Array TypeId}{args vs:List Value}{first cap:Array Value}{b:Value→(Nat→Prop)→BB→Prop}
  (q:CE m X=some (.func (.func f) first cap)) (g:xs.toList.mapM (CE m)=some args) (i:first.toList++args++cap.toList=vs) (j:Br P f=true) (hd:Nat.blt d n.1=true) (s:Ct P f vs.toArray S h b)
  (k:∀v S' h',Cm S h S' h'→b v S' h'→LF P ops Q rest B h' n ((d,v)::m)):LF P ops Q (⟨some d,.call ⟨.value X,xs,c⟩,ty,pos,af,none⟩::rest) B h n m:=
 λ_ _ l o=>V0 l q g i j hd o s λv a w S' h' l o e p=>k v S' h' e p a w l o
end
end Go.Proofs.YtibidnaedddfdaaGreat
