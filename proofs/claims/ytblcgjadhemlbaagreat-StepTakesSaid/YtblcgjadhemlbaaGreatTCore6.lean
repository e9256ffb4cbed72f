import Derived.Test.YtblcgjadhemlbaaGreatTCore5
namespace Go.Proofs.YtblcgjadhemlbaaGreat
open Go.RowKit
abbrev SM:=List (Nat×Value)
def QF (P:Program) (ops:Array Oper) (C:World→Prop) (Q:Act→Prop) (l:List Oper) (n:FN) (m:SM):Prop:=∀a,Fr n a m→wpQuiet P ops C Q l a
def LF (P:Program) (ops:Array Oper) (Q:Exit→Act→World→Prop) (l:List Oper) (B:World) (h:Aw) (n:FN) (m:SM):Prop:=∀a w,Fr n a m→Wd B h w→wpList P ops Q l a w
def WF (P:Program) (ex:List (Nat×AP)) (R:AP) (cs:List Code) (N:AP) (B:World) (h:Aw) (n:FN) (m:SM):Prop:=∀a w,Fr n a m→Wd B h w→W P ex R cs N a w
section
variable {P:Program}{ex:List (Nat×AP)}{R N:AP}{cs:List Code}{B:World}{h:Aw}{n:FN}{m m':SM}{S:Nat→Prop}{L:List HP}
theorem jS (hs:Qv m m') (k:WF P ex R cs N B h n m'):WF P ex R cs N B h n m:=λa w hf hw=>k a w (hf.sub hs) hw
theorem AC {x y:Code}(k:WF P ex R (x::y::cs) N B h n m):WF P ex R (.seq x y::cs) N B h n m:=λa w hf hw=>cL (k a w hf hw)
theorem AO (k:WF P ex R cs N B h n m):WF P ex R (.skip::cs) N B h n m:=λa w hf hw=>Zn (k a w hf hw)
theorem Ad (k:∀a w,Fr n a m→Wd B h w→R a w):WF P ex R (.ret::cs) N B h n m:=λa w hf hw=>cM (k a w hf hw)
theorem BA {i:Nat}{K:AP}(hk:aB ex i=some K) (k:∀a w,Fr n a m→Wd B h w→K a w):WF P ex R (.exit i::cs) N B h n m:=λa w hf hw=>Vk hk (k a w hf hw)
theorem WF.nil (k:∀a w,Fr n a m→Wd B h w→N a w):WF P ex R [] N B h n m:=λa w hf hw=>k a w hf hw
theorem bE {X b}{x y:Code}(hx:Bm m X=some (.bool b)) (h1:b=true→WF P ex R (x::cs) N B h n m) (h2:b=false→WF P ex R (y::cs) N B h n m):WF P ex R (.cond X x y::cs) N B h n m:=
 λa w hf hw=>iY hf hx (λe=>h1 e a w hf hw) λe=>h2 e a w hf hw
theorem Xb {X}{x y:Code}(hx:Bm m X=some (.bool true)) (k:WF P ex R (x::cs) N B h n m):WF P ex R (.cond X x y::cs) N B h n m:=λa w hf hw=>cN hf hx (k a w hf hw)
theorem Xc {X}{x y:Code}(hx:Bm m X=some (.bool false)) (k:WF P ex R (y::cs) N B h n m):WF P ex R (.cond X x y::cs) N B h n m:=λa w hf hw=>cO hf hx (k a w hf hw)
theorem A8 {i:Nat}{c:Code}(k:WF P ((i,W P ex R cs N)::ex) R [c] (W P ex R cs N) B h n m):WF P ex R (.block i c::cs) N B h n m:=λa w hf hw=>Xv (k a w hf hw)
theorem Ga {c:Code}(I:AP) (h1:WF P ex R [c] I B h n m) (h2:∀a w,I a w→W P ex R cs N a w):WF P ex R (c::cs) N B h n m:=λa w hf hw=>cP I (h1 a w hf hw) h2
theorem Yh {c:Code}(I:Nat→AP) (T i₀:Nat) (h0:∀a w,Fr n a m→Wd B h w→I i₀ a w) (hT:∀i a w,I i a w→i≤T)
  (round:∀i a w,I i a w→W P ex R [c] (I (i+1)) a w):WF P ex R (.loop c::cs) N B h n m:=λa w hf hw=>Zp I T i₀ (h0 a w hf hw) hT round
theorem BY {l:List Oper}{id:Nat}{draw:Bool}(hr:WM P l draw) (k:QF P l.toArray (Wd B h) (λa=>∀w,Wd B h w→W P ex R cs N a w) l n m):WF P ex R (.region id l.toArray draw::cs) N B h n m:=
 λa _ hf hw=>iV hr hw (k a hf)
theorem Bt {l:List Oper}{id:Nat}{draw:Bool}(hr:WM P l draw) (hs:St S L h) (k:QF P l.toArray (Cl B h) (λa=>∀w h',Wd B h' w→St S L h'→B9 S h S h'→W P ex R cs N a w) l n m):WF P ex R (.region id l.toArray draw::cs) N B h n m:=
 λa _ hf hw=>iX hr hw hs (k a hf)
theorem EX {l:List Oper}{id:Nat}(k:LF P l.toArray (Qx ex R (W P ex R cs N)) l B h n m):WF P ex R (.region id l.toArray false::cs) N B h n m:=
 λa w hf hw=>iW (k a w hf hw)
theorem AM {ops:Array Oper}{C}(hs:Qv m m') (k:WF P ex R cs N B h n m'):QF P ops C (λa=>∀w,Wd B h w→W P ex R cs N a w) [] n m:=λa hf w hw=>k a w (hf.sub hs) hw
theorem BQ {ops:Array Oper}{C}(hs:Qv m m') (k:∀h',St S L h'→B9 S h S h'→WF P ex R cs N B h' n m'):QF P ops C (λa=>∀w h',Wd B h' w→St S L h'→B9 S h S h'→W P ex R cs N a w) [] n m:=
 λa hf w h' hw s e=>k h' s e a w (hf.sub hs) hw
theorem AZ {ops:Array Oper}(hs:Qv m m') (k:WF P ex R cs N B h n m'):LF P ops (Qx ex R (W P ex R cs N)) [] B h n m:=λa w hf hw=>eA (k a w (hf.sub hs) hw)
theorem AI {ops:Array Oper}{Q:Exit→Act→World→Prop}{l:List Oper}(j:Nat) (k:QF P ops (Wd B h) (λa=>∀w,Wd B h w→wpList P ops Q (l.drop j) a w) (l.take j) n m):LF P ops Q l B h n m:=λa _ hf hw=>l_q j hw (k a hf)
theorem AG {ops:Array Oper}{C}{Q:Exit→Act→World→Prop}{l:List Oper}(k:LF P ops Q l B h n m):QF P ops C (λa=>∀w,Wd B h w→wpList P ops Q l a w) [] n m:=λa hf w hw=>k a w hf hw
theorem BF {f fn c l S h post}(n:Nat) (hf:P.funcs[f]? =some fn) (hb:fn.body=some c) (hn:fn.ntmps=n) (hl:Nat.ble l.length n=true)
  (k:∀B,WF P [] (Rt P fn B S h post) [c] (Rt P fn B S h post) B h (n,[]) (Tu 0 l)):CL P f l.toArray S h post:=
 CL.intro n hf hb hn (Nat.le_of_ble_eq_true hl) λB w a hw hf=>k B a w hf hw
end
section
variable {P:Program}{ops:Array Oper}{C:World→Prop}{Q:Act→Prop}{n:FN}{m m':SM}{rest:List Oper}
variable {d:Nat}{ty:TypeId}{pos:String}{af:Array Edge}{X Y:Operand}{t t1 t2:TypeId}{x y:Int}{kd:IntKind}{v p:Value}
theorem QF.nil (k:∀a,Fr n a m→Q a):QF P ops C Q [] n m:=λa hf=>k a hf
theorem jW {l:List Oper}(hs:Qv m m') (k:QF P ops C Q l n m'):QF P ops C Q l n m:=λa hf=>k a (hf.sub hs)
theorem Xi {o:Oper}{j e:Nat}{b:Bool}(hg:o.guard=some (j,b)) (hj:(ops[j]?).bind (·.dst)=some e) (hb:lk m e=some (.bool b)) (k:QF P ops C Q ({ o with guard:=none}::rest) n m):QF P ops C Q (o::rest) n m:=
 λa hf=>jF hf hg hj hb (k a hf)
theorem hO {o:Oper}{j e:Nat}{b:Bool}(hg:o.guard=some (j,!b)) (hj:(ops[j]?).bind (·.dst)=some e) (hb:lk m e=some (.bool b)) (ho:o.dst=some d) (hd:Nat.blt d n.1=true) (k:QF P ops C Q rest n ((d,undef)::m)):QF P ops C Q (o::rest) n m:=
 λ_ hf=>jG hf hg hj hb ho hd k
theorem bX (j:Nat) (m':SM) {l:List Oper}(h1:QF P ops C (λa=>Fr n a m') (l.take j) n m) (h2:QF P ops C Q (l.drop j) n m'):QF P ops C Q l n m:=
 λa hf=>UQ j (λa=>Fr n a m') (h1 a hf) λa' hf'=>h2 a' hf'
theorem Yr (hs:Qv m m'):QF P ops C (λa=>Fr n a m') [] n m:=λ_ hf=>hf.sub hs
theorem hE (hx:Bm m X=some v) (hd:Nat.blt d n.1=true) (k:QF P ops C Q rest n ((d,v)::m)):QF P ops C Q (⟨some d,.move X,ty,pos,af,none⟩::rest) n m:=λ_ hf=>jD hf hx hd k
theorem bY (hx:Bm m X=some v) (hd:Nat.blt d n.1=true) (k:QF P ops C Q rest n ((d,v)::m)):QF P ops C Q (⟨some d,.assign X,ty,pos,af,none⟩::rest) n m:=λ_ hf=>jI hf hx hd k
theorem R7 {c X Y:Operand}{b:Bool}(hc:Bm m c=some (.bool b)) (hx:Bm m (if b then X else Y)=some v) (hd:Nat.blt d n.1=true) (k:QF P ops C Q rest n ((d,v)::m)):QF P ops C Q (⟨some d,.pick c X Y,ty,pos,af,none⟩::rest) n m:=λ_ hf=>Z2 hf hc hx hd k
theorem jZ (hx:Bm m X=some (.int .i64 x)) (hy:Bm m Y=some (.int .i64 y)) (hd:Nat.blt d n.1=true) (hi:AE (x+y)) (k:QF P ops C Q rest n ((d,.int .i64 (x+y))::m)):QF P ops C Q (⟨some d,.binOp .add t1 X Y t2,ty,pos,af,none⟩::rest) n m:=λ_ hf=>dX hf hx hy hd hi k
theorem jX (hx:Bm m X=some (.int .i64 x)) (hy:Bm m Y=some (.int .i64 y)) (hd:Nat.blt d n.1=true) (hi:AE (x*y)) (k:QF P ops C Q rest n ((d,.int .i64 (x*y))::m)):QF P ops C Q (⟨some d,.binOp .mul t1 X Y t2,ty,pos,af,none⟩::rest) n m:=λ_ hf=>dG hf hx hy hd hi k
theorem Yu (hx:Bm m X=some (.int .i64 x)) (hy:Bm m Y=some (.int .i64 y)) (hd:Nat.blt d n.1=true) (k:QF P ops C Q rest n ((d,.int .i64 (BM (x+y)))::m)):QF P ops C Q (⟨some d,.binOp .add t1 X Y t2,ty,pos,af,none⟩::rest) n m:=λ_ hf=>Z6 hf hx hy hd k
theorem Yj (hx:Bm m X=some (.int .i64 x)) (hy:Bm m Y=some (.int .i64 y)) (hd:Nat.blt d n.1=true) (k:QF P ops C Q rest n ((d,.int .i64 (BM (x-y)))::m)):QF P ops C Q (⟨some d,.binOp .sub t1 X Y t2,ty,pos,af,none⟩::rest) n m:=λ_ hf=>Z1 hf hx hy hd k
theorem Uv (hx:Bm m X=some (.int .i64 x)) (hy:Bm m Y=some (.int .i64 y)) (hd:Nat.blt d n.1=true) (k:QF P ops C Q rest n ((d,.int .i64 (BM (x*y)))::m)):QF P ops C Q (⟨some d,.binOp .mul t1 X Y t2,ty,pos,af,none⟩::rest) n m:=λ_ hf=>Z3 hf hx hy hd k
theorem bL (hx:Bm m X=some (.int kd x)) (hy:Bm m Y=some (.int kd y)) (hd:Nat.blt d n.1=true) (k:QF P ops C Q rest n ((d,.bool (decide (x<y)))::m)):QF P ops C Q (⟨some d,.binOp .lss t1 X Y t2,ty,pos,af,none⟩::rest) n m:=λ_ hf=>dJ hf hx hy hd k
theorem bN (hx:Bm m X=some (.int kd x)) (hy:Bm m Y=some (.int kd y)) (hd:Nat.blt d n.1=true) (k:QF P ops C Q rest n ((d,.bool (decide (x≤y)))::m)):QF P ops C Q (⟨some d,.binOp .leq t1 X Y t2,ty,pos,af,none⟩::rest) n m:=λ_ hf=>dK hf hx hy hd k
theorem bR (hx:Bm m X=some (.int kd x)) (hy:Bm m Y=some (.int kd y)) (hd:Nat.blt d n.1=true) (k:QF P ops C Q rest n ((d,.bool (decide (y<x)))::m)):QF P ops C Q (⟨some d,.binOp .gtr t1 X Y t2,ty,pos,af,none⟩::rest) n m:=λ_ hf=>dS hf hx hy hd k
theorem bU (hx:Bm m X=some (.int kd x)) (hy:Bm m Y=some (.int kd y)) (hd:Nat.blt d n.1=true) (k:QF P ops C Q rest n ((d,.bool (decide (y≤x)))::m)):QF P ops C Q (⟨some d,.binOp .geq t1 X Y t2,ty,pos,af,none⟩::rest) n m:=λ_ hf=>dT hf hx hy hd k
theorem bW (hx:Bm m X=some (.int kd x)) (hy:Bm m Y=some (.int kd y)) (hd:Nat.blt d n.1=true) (k:QF P ops C Q rest n ((d,.bool (decide (x=y)))::m)):QF P ops C Q (⟨some d,.binOp .eql t1 X Y t2,ty,pos,af,none⟩::rest) n m:=λ_ hf=>dV hf hx hy hd k
theorem bK (hx:Bm m X=some (.int kd x)) (hy:Bm m Y=some (.int kd y)) (hd:Nat.blt d n.1=true) (k:QF P ops C Q rest n ((d,.bool (decide (x≠y)))::m)):QF P ops C Q (⟨some d,.binOp .neq t1 X Y t2,ty,pos,af,none⟩::rest) n m:=λ_ hf=>dF hf hx hy hd k
theorem bI {b}(hx:Bm m X=some (.bool b)) (hd:Nat.blt d n.1=true) (k:QF P ops C Q rest n ((d,.bool (!b))::m)):QF P ops C Q (⟨some d,.unOp .not t1 X,ty,pos,af,none⟩::rest) n m:=λ_ hf=>dD hf hx hd k
theorem P7 {aty}(hx:Bm m X=some (.int kd x)) (hy:Bm m Y=some (.int kd y)) (hd:Nat.blt d n.1=true) (k:QF P ops C Q rest n ((d,.int kd (Max.max x y))::m)):QF P ops C Q (⟨some d,.call ⟨.builtin .max,#[X,Y],#[t1,t2]⟩,aty,pos,af,none⟩::rest) n m:=λ_ hf=>dI hf hx hy hd k
theorem NT {aty}(hx:Bm m X=some (.int kd x)) (hy:Bm m Y=some (.int kd y)) (hd:Nat.blt d n.1=true) (k:QF P ops C Q rest n ((d,.int kd (Min.min x y))::m)):QF P ops C Q (⟨some d,.call ⟨.builtin .min,#[X,Y],#[t1,t2]⟩,aty,pos,af,none⟩::rest) n m:=λ_ hf=>dH hf hx hy hd k
theorem H1 {T:TypeId}{parts:Array (Nat×Operand)}{pl z pv cs}(hl:Tb P T=some (pl,z)) (hp:parts.toList.mapM (YA m)=some pv) (hc:K0 pl z pv=some cs) (hd:Nat.blt d n.1=true) (k:QF P ops C Q rest n ((d,.agg cs.toArray)::m)):QF P ops C Q (⟨some d,.build T parts,ty,pos,af,none⟩::rest) n m:=λ_ hf=>dW hf hl hp hc hd k
theorem bJ {T:TypeId}{ks xs ys}(hx:Bm m X=some (.agg xs)) (hy:Bm m Y=some (.agg ys)) (hl:aH P T=some ks) (h1:xs.toList.map Kj=ks) (h2:ys.toList.map Kj=ks) (h3:Ng xs.toList ys.toList=true) (hd:Nat.blt d n.1=true) (k:QF P ops C Q rest n ((d,.bool (!XD xs.toList ys.toList))::m)):QF P ops C Q (⟨some d,.binOp .neq T X Y t2,ty,pos,af,none⟩::rest) n m:=λ_ hf=>dE hf hx hy hl h1 h2 h3 hd k
theorem Xj {b o j off}(hx:Bm m X=some (.pointer (some ⟨b,o,none⟩))) (ht:FP P t j off=true) (hd:Nat.blt d n.1=true) (k:QF P ops C Q rest n ((d,.pointer (some ⟨b,o+off,none⟩))::m)):QF P ops C Q (⟨some d,.fieldAddr t X j,ty,pos,af,none⟩::rest) n m:=λ_ hf=>dU hf hx ht hd k
theorem M1 {ad len cap aty e sz}(hx:Bm m X=some (.slice ad len cap)) (ht:KQ P t e sz=true) (hd:Nat.blt d n.1=true) (k:QF P ops C Q rest n ((d,.int .i64 len)::m)):QF P ops C Q (⟨some d,.call ⟨.builtin .len,#[X],#[t]⟩,aty,pos,af,none⟩::rest) n m:=λ_ hf=>Z4 hf hx ht hd k
section
variable {A S:Nat→Prop}{L:List HP}{h:Aw}
theorem B6 {α}{r:AN α}{x}(ck:CK C h) (hA:∀b,A b→b<h.size) (hx:Bm m X=some p) (k0:N6 A S h r p x) (ht:II P t r.sz r.ag=true) (h1:r.ag=false→r.sz=1) (hd:Nat.blt d n.1=true)
  (k:∀v,Rd S h r v x→QF P ops C Q rest n ((d,v)::m)):QF P ops C Q (⟨some d,.load t X,ty,pos,af,none⟩::rest) n m:=λ_ hf=>WR ck hA hf hx k0 ht h1 hd λv a hf hr=>k v hr a hf
theorem Ag {x}(ck:CK C h) (hA:∀b,A b→b<h.size) (hx:Bm m X=some p) (k0:N6 A S h AN.int p x) (ht:II P t 1 false=true) (hd:Nat.blt d n.1=true)
  (k:AE x→QF P ops C Q rest n ((d,.int .i64 x)::m)):QF P ops C Q (⟨some d,.load t X,ty,pos,af,none⟩::rest) n m:=λ_ hf=>dP ck hA hf hx k0 ht hd λa hf hi=>k hi a hf
theorem bO {x}(ck:CK C h) (hA:∀b,A b→b<h.size) (hx:Bm m X=some p) (k0:N6 A S h AN.bool p x) (ht:II P t 1 false=true) (hd:Nat.blt d n.1=true)
  (k:QF P ops C Q rest n ((d,.bool x)::m)):QF P ops C Q (⟨some d,.load t X,ty,pos,af,none⟩::rest) n m:=λ_ hf=>dR ck hA hf hx k0 ht hd k
theorem R8 {x}(ck:CK C h) (hA:∀b,A b→b<h.size) (hx:Bm m X=some p) (k0:N6 A S h AN.str p x) (ht:II P t 1 false=true) (hd:Nat.blt d n.1=true)
  (k:x.size≤maxLen→QF P ops C Q rest n ((d,.string x)::m)):QF P ops C Q (⟨some d,.load t X,ty,pos,af,none⟩::rest) n m:=λ_ hf=>dM ck hA hf hx k0 ht hd λa hf hi=>k hi a hf
theorem Al {α}{r:AN α}{x}(ck:CK C h) (hA:∀b,A b→b<h.size) (hx:Bm m X=some p) (k0:N6 A S h r.sl p x) (ht:II P t 1 false=true) (hd:Nat.blt d n.1=true)
  (k:∀v,Sl S h r v x→QF P ops C Q rest n ((d,v)::m)):QF P ops C Q (⟨some d,.load t X,ty,pos,af,none⟩::rest) n m:=λ_ hf=>dO ck hA hf hx k0 ht hd λv a hf hr=>k v hr a hf
theorem Af {α β}{r:AN α}{r':AN β}{f:α→β}{j off x}(hx:Bm m X=some p) (k0:N6 A S h r p x) (fl:FL r off r' f) (ht:FP P t j off=true) (hd:Nat.blt d n.1=true)
  (k:∀q,N6 A S h r' q (f x)→QF P ops C Q rest n ((d,q)::m)):QF P ops C Q (⟨some d,.fieldAddr t X j,ty,pos,af,none⟩::rest) n m:=λ_ hf=>jH hf hx k0 fl ht hd λq a hf hr=>k q hr a hf
theorem hJ {α}{r:AN α}{l:List α}{e i x}(hx:Bm m X=some v) (hy:Bm m Y=some (.int .i64 i)) (k0:Sl S h r v l) (ht:KQ P t e r.sz=true) (h0:0≤i) (hi:l[i.toNat]? =some x) (hd:Nat.blt d n.1=true)
  (k:∀q,Pt S h r q x→QF P ops C Q rest n ((d,q)::m)):QF P ops C Q (⟨some d,.indexAddr t X Y,ty,pos,af,none⟩::rest) n m:=λ_ hf=>jE hf hx hy k0 ht h0 hi hd λq a hf hr=>k q hr a hf
theorem bP {α}{r:AN α}{l:List α}{T e i x}(hs:St S L h) (hm:OS r T v l∈L) (hx:Bm m X=some v) (hy:Bm m Y=some (.int .i64 i)) (ht:KQ P t e r.sz=true) (h0:0≤i) (hi:l[i.toNat]? =some x) (hd:Nat.blt d n.1=true)
  (k:∀q,N6 (λb=>b<h.size) S h r q x→EP v (i.toNat*r.sz) q→QF P ops C Q rest n ((d,q)::m)):QF P ops C Q (⟨some d,.indexAddr t X Y,ty,pos,af,none⟩::rest) n m:=by
 obtain⟨g,cap,rfl,k1⟩:=hs.osAt hm hi
 have hl:i.toNat<l.length:=(List.getElem?_eq_some_iff.1 hi).1
 have hadd:(⟨g,0,none⟩:Addr).add (i.toNat*r.sz)=⟨g,i.toNat*r.sz,none⟩:=by unfold Addr.add;split<;>simp_all
 intro a hf
 refine FQ hf hd (λw _=>by simp [execOp,hf.eval hx,hf.eval hy,Ky (P:=P) (w:=w) (cap:=cap) (a:=⟨g,0,none⟩) ht h0 hl,hadd]) (k _ k1 ⟨g,_,_,rfl,rfl⟩)
theorem Ak {α}{r:AN α}{l:List α}{aty e}(hx:Bm m X=some v) (k0:Sl S h r v l) (ht:KQ P t e r.sz=true) (hd:Nat.blt d n.1=true)
  (k:l.length≤maxLen→QF P ops C Q rest n ((d,.int .i64 l.length)::m)):QF P ops C Q (⟨some d,.call ⟨.builtin .len,#[X],#[t]⟩,aty,pos,af,none⟩::rest) n m:=λ_ hf=>dL hf hx k0 ht hd λa hf hi=>k hi a hf
theorem K7 {α}{r:AN α}{l:List α}{T aty e sz}(hs:St S L h) (hm:OS r T v l∈L) (hx:Bm m X=some v) (ht:KQ P t e sz=true) (hd:Nat.blt d n.1=true)
  (k:l.length≤maxLen→QF P ops C Q rest n ((d,.int .i64 l.length)::m)):QF P ops C Q (⟨some d,.call ⟨.builtin .len,#[X],#[t]⟩,aty,pos,af,none⟩::rest) n m:=by
 obtain⟨ad,cap,rfl,hmx⟩:=hs.oslen hm
 exact M1 hx ht hd (k hmx)
theorem Dk {T b o sz:Nat}{ag:Bool}{cs vs:List Value}(ck:CK C h) (hs:St S L h) (hx:Bm m X=some (.pointer (some ⟨b,o,none⟩))) (hm:Bx b T cs∈L) (hv:(cs.drop o).take sz=vs) (hl:Nat.beq vs.length sz=true) (ht:II P t sz ag=true) (h1:(ag||Nat.beq sz 1)=true) (hd:Nat.blt d n.1=true)
  (k:QF P ops C Q rest n ((d,if ag then .agg vs.toArray else vs.headD undef)::m)):QF P ops C Q (⟨some d,.load t X,ty,pos,af,none⟩::rest) n m:=λ_ hf=>dN ck hs hf hx hm hv hl ht h1 hd k
end
theorem Ys {f:Nat}{xs:Array Operand}{tys:Array TypeId}{args vs:List Value}{first cap:Array Value}{h B}
  (hX:Bm m X=some (.func (.func f) first cap)) (hxs:xs.toList.mapM (Bm m)=some args) (hvs:first.toList++args++cap.toList=vs) (hcb:BU P f=true) (hd:Nat.blt d n.1=true)
  (hc:∀h',Et h h'→CL P f vs.toArray (λb=>b<h'.size) h' (λu _ _=>u=v))
  (k:QF P ops (Cl B h) Q rest n ((d,v)::m)):QF P ops (Cl B h) Q (⟨some d,.call ⟨.value X,xs,tys⟩,ty,pos,af,none⟩::rest) n m:=λ_ hf=>Z5 hf hX hxs hvs hcb hd hc k
end
section
variable {P:Program}{ops:Array Oper}{Q:Exit→Act→World→Prop}{n:FN}{m:SM}{rest:List Oper}
variable {d:Nat}{ty:TypeId}{pos:String}{af:Array Edge}{X Y:Operand}{B:World}{h:Aw}{S:Nat→Prop}{L L2:List HP}{v:Value}
theorem P9 {T:TypeId}{cs:List Value}(hx:Bm m X=some v) (hc:v.cells=cs.toArray) (hd:Nat.blt d n.1=true) (hs:St S L h)
  (k:∀b h',St S (Bx b T cs::L) h'→B9 S h S h'→LF P ops Q rest B h' n ((d,.pointer (some ⟨b,0,none⟩))::m)):LF P ops Q (⟨some d,.box T X,ty,pos,af,none⟩::rest) B h n m:=
 λ_ _ hf hw=>ZL hf hx hc hd hw hs λb a w h' hf hw hs e=>k b h' hs e a w hf hw
theorem B3 {T:TypeId}{α}{r:AN α}{x:α}(hx:Bm m X=some v) (hr:Rd S h r v x) (h1:r.ag=false→r.sz=1) (hd:Nat.blt d n.1=true) (hs:St S L h)
  (k:∀p S' h',St S' L h'→B9 S h S' h'→Pt S' h' r p x→LF P ops Q rest B h' n ((d,p)::m)):LF P ops Q (⟨some d,.box T X,ty,pos,af,none⟩::rest) B h n m:=
 λ_ _ hf hw=>aC hf hx hr h1 hd hw hs λp a w S' h' hf hw hs e kp=>k p S' h' hs e kp a w hf hw
theorem Cn {T:TypeId}{cs:List Value}(hz:EF P T=some cs) (hd:Nat.blt d n.1=true) (hs:St S L h)
  (k:∀b h',St S (Bx b T cs::L) h'→B9 S h S h'→LF P ops Q rest B h' n ((d,.pointer (some ⟨b,0,none⟩))::m)):LF P ops Q (⟨some d,.alloc T,ty,pos,af,none⟩::rest) B h n m:=
 λ_ _ hf hw=>jM hf hz hd hw hs λb a w h' hf hw hs e=>k b h' hs e a w hf hw
theorem HM {T T':TypeId}{b o:Nat}{cs vs cs':List Value}{sz:Nat}{ag:Bool}(hx:Bm m X=some (.pointer (some ⟨b,o,none⟩))) (hy:Bm m Y=some v) (hv:v.cells=vs.toArray) (h1:∀u∈vs,u.oneCell'=true)
  (ht:II P T sz ag=true) (hsz:vs.length=sz) (hs:St S L h) (r:LE L (Bx b T' cs) (Bx b T' cs') L2) (hfit:Nat.ble (o+sz) cs.length=true) (hp:HS cs o vs=cs')
  (k:∀h',St S L2 h'→B9 S h S h'→LF P ops Q rest B h' n m):LF P ops Q (⟨none,.store T X Y,ty,pos,af,none⟩::rest) B h n m:=
 λ_ _ hf hw=>jJ hf hx hy hv h1 ht hsz hfit hp hw hs r λa w h' hf hw hs e=>k h' hs e a w hf hw
theorem iC {α}{r:AN α}{T e sz by_:Nat}{z:List Value}{zx:α}{len cap:Nat}{kl kc:IntKind}{U V:Operand}(he:M8 P T=some (e,sz,by_,z)) (hrs:r.sz=sz) (hz:r.rd S h z zx)
  (hx:Bm m U=some (.int kl (len:Nat))) (hy:Bm m V=some (.int kc (cap:Nat))) (hlc:len≤cap) (hby:by_*cap≤281474976710656) (hmx:cap≤maxLen) (hd:Nat.blt d n.1=true) (hs:St S L h)
  (k:∀v h',St S (OS r e v (List.replicate len zx)::L) h'→B9 S h S h'→LF P ops Q rest B h' n ((d,v)::m)):LF P ops Q (⟨some d,.makeSlice T U V,ty,pos,af,none⟩::rest) B h n m:=
 λ_ _ hf hw=>jK hf he hrs hz hx hy hlc hby hmx hd hw hs λv a w h' hf hw hs e=>k v h' hs e a w hf hw
theorem Yz {α}{r:AN α}{T e sz by_:Nat}{z:List Value}{l xs:List α}{b2 T2 len2 sc:Nat}{news:List Value}{LL:Value→List HP}(hx:Bm m X=some v) (hy:Bm m Y=some (.slice (some ⟨b2,0,none⟩) len2 sc)) (he:M8 P T=some (e,sz,by_,z)) (hrs:r.sz=sz)
  (hm:Bx b2 T2 news∈L) (hn:KO S h r news xs) (hl2:len2=xs.length) (hmx:l.length+xs.length≤maxLen) (hby:(l.length+xs.length)*by_≤140737488355328) (hd:Nat.blt d n.1=true) (hs:St S L h) (rp:∀v',LE L (OS r e v l) (OS r e v' (l++xs)) (LL v'))
  (k:∀v' h',St S (LL v') h'→B9 S h S h'→LF P ops Q rest B h' n ((d,v')::m)):LF P ops Q (⟨some d,.call ⟨.builtin .append,#[X,Y],#[T,T]⟩,ty,pos,af,none⟩::rest) B h n m:=
 λ_ _ hf hw=>aE hf hx hy he hrs hm hn hl2 hmx hby hd hw hs rp λv' a w h' hf hw hs e=>k v' h' hs e a w hf hw
theorem iD {T e sz by_ len:Nat}{z cs:List Value}{parts:Array (Nat×Operand)}{pv:List (Nat×Value)}(he:M8 P T=some (e,sz,by_,z)) (hp:parts.toList.mapM (YA m)=some pv)
  (hc:K0 (RN sz len) (List.replicate len z).flatten pv=some cs) (hl0:Nat.blt 0 len=true) (hsm:Nat.ble (len*sz) 16777216=true) (hpl:∀p∈pv,p.1<len) (hd:Nat.blt d n.1=true) (hs:St S L h)
  (k:∀b h',St S (Bx b e cs::L) h'→B9 S h S h'→LF P ops Q rest B h' n ((d,.slice (some ⟨b,0,none⟩) len len)::m)):LF P ops Q (⟨some d,.buildSlice T len parts,ty,pos,af,none⟩::rest) B h n m:=
 λ_ _ hf hw=>jL hf he hp hc hl0 hsm hd hw hs hpl λb a w h' hf hw hs e=>k b h' hs e a w hf hw
theorem Ct {f:Nat}{xs:Array Operand}{tys:Array TypeId}{args vs:List Value}{first cap:Array Value}{post:Value→(Nat→Prop)→Aw→Prop}
  (hX:Bm m X=some (.func (.func f) first cap)) (hxs:xs.toList.mapM (Bm m)=some args) (hvs:first.toList++args++cap.toList=vs) (hcb:BU P f=true) (hd:Nat.blt d n.1=true) (hc:CL P f vs.toArray S h post)
  (k:∀v S' h',B9 S h S' h'→post v S' h'→LF P ops Q rest B h' n ((d,v)::m)):LF P ops Q (⟨some d,.call ⟨.value X,xs,tys⟩,ty,pos,af,none⟩::rest) B h n m:=
 λ_ _ hf hw=>Wb hf hX hxs hvs hcb hd hw hc λv a w S' h' hf hw e p=>k v S' h' e p a w hf hw
end
end Go.Proofs.YtblcgjadhemlbaaGreat
