import Derived.Test.YtblcgjadhemlbaaGreatUCore5
namespace Go.Proofs.YtblcgjadhemlbaaGreat
open Go.RowKit
abbrev SM:=List (Nat×Value)
def QF (P:Program) (ops:Array Oper) (C:World→Prop) (Q:Act→Prop) (l:List Oper) (n:FN) (m:SM):Prop:=∀a,Fr n a m→wpQuiet P ops C Q l a
def LF (P:Program) (ops:Array Oper) (Q:Exit→Act→World→Prop) (l:List Oper) (B:World) (h:Av) (n:FN) (m:SM):Prop:=∀a w,Fr n a m→Wd B h w→wpList P ops Q l a w
def WF (P:Program) (ex:List (Nat×AP)) (R:AP) (cs:List Code) (N:AP) (B:World) (h:Av) (n:FN) (m:SM):Prop:=∀a w,Fr n a m→Wd B h w→W P ex R cs N a w
section
variable {P:Program}{ex:List (Nat×AP)}{R N:AP}{cs:List Code}{B:World}{h:Av}{n:FN}{m m':SM}{S:Nat→Prop}{L:List HP}
theorem kB (hs:Qv m m') (k:WF P ex R cs N B h n m'):WF P ex R cs N B h n m:=λa w hf hw=>k a w (hf.sub hs) hw
theorem AD {x y:Code}(k:WF P ex R (x::y::cs) N B h n m):WF P ex R (.seq x y::cs) N B h n m:=λa w hf hw=>cS (k a w hf hw)
theorem AT (k:WF P ex R cs N B h n m):WF P ex R (.skip::cs) N B h n m:=λa w hf hw=>Zt (k a w hf hw)
theorem Ac (k:∀a w,Fr n a m→Wd B h w→R a w):WF P ex R (.ret::cs) N B h n m:=λa w hf hw=>cT (k a w hf hw)
theorem A9 {i:Nat}{K:AP}(hk:aH ex i=some K) (k:∀a w,Fr n a m→Wd B h w→K a w):WF P ex R (.exit i::cs) N B h n m:=λa w hf hw=>Vl hk (k a w hf hw)
theorem WF.nil (k:∀a w,Fr n a m→Wd B h w→N a w):WF P ex R [] N B h n m:=λa w hf hw=>k a w hf hw
theorem bL {X b}{x y:Code}(hx:Bf m X=some (.bool b)) (h1:b=true→WF P ex R (x::cs) N B h n m) (h2:b=false→WF P ex R (y::cs) N B h n m):WF P ex R (.cond X x y::cs) N B h n m:=
 λa w hf hw=>jH hf hx (λe=>h1 e a w hf hw) λe=>h2 e a w hf hw
theorem Xe {X}{x y:Code}(hx:Bf m X=some (.bool true)) (k:WF P ex R (x::cs) N B h n m):WF P ex R (.cond X x y::cs) N B h n m:=λa w hf hw=>cU hf hx (k a w hf hw)
theorem Xf {X}{x y:Code}(hx:Bf m X=some (.bool false)) (k:WF P ex R (y::cs) N B h n m):WF P ex R (.cond X x y::cs) N B h n m:=λa w hf hw=>cV hf hx (k a w hf hw)
theorem A5 {i:Nat}{c:Code}(k:WF P ((i,W P ex R cs N)::ex) R [c] (W P ex R cs N) B h n m):WF P ex R (.block i c::cs) N B h n m:=λa w hf hw=>Xy (k a w hf hw)
theorem Gs {c:Code}(I:AP) (h1:WF P ex R [c] I B h n m) (h2:∀a w,I a w→W P ex R cs N a w):WF P ex R (c::cs) N B h n m:=λa w hf hw=>cW I (h1 a w hf hw) h2
theorem Yl {c:Code}(I:Nat→AP) (T i₀:Nat) (h0:∀a w,Fr n a m→Wd B h w→I i₀ a w) (hT:∀i a w,I i a w→i≤T)
  (round:∀i a w,I i a w→W P ex R [c] (I (i+1)) a w):WF P ex R (.loop c::cs) N B h n m:=λa w hf hw=>Zv I T i₀ (h0 a w hf hw) hT round
theorem BY {l:List Oper}{id:Nat}{draw:Bool}(hr:WP P l draw) (k:QF P l.toArray (Wd B h) (λa=>∀w,Wd B h w→W P ex R cs N a w) l n m):WF P ex R (.region id l.toArray draw::cs) N B h n m:=
 λa _ hf hw=>jE hr hw (k a hf)
theorem Bl {l:List Oper}{id:Nat}{draw:Bool}(hr:WP P l draw) (hs:St S L h) (k:QF P l.toArray (Cl B h) (λa=>∀w h',Wd B h' w→St S L h'→B9 S h S h'→W P ex R cs N a w) l n m):WF P ex R (.region id l.toArray draw::cs) N B h n m:=
 λa _ hf hw=>jG hr hw hs (k a hf)
theorem EQ {l:List Oper}{id:Nat}(k:LF P l.toArray (Qx ex R (W P ex R cs N)) l B h n m):WF P ex R (.region id l.toArray false::cs) N B h n m:=
 λa w hf hw=>jF (k a w hf hw)
theorem AN {ops:Array Oper}{C}(hs:Qv m m') (k:WF P ex R cs N B h n m'):QF P ops C (λa=>∀w,Wd B h w→W P ex R cs N a w) [] n m:=λa hf w hw=>k a w (hf.sub hs) hw
theorem BJ {ops:Array Oper}{C}(hs:Qv m m') (k:∀h',St S L h'→B9 S h S h'→WF P ex R cs N B h' n m'):QF P ops C (λa=>∀w h',Wd B h' w→St S L h'→B9 S h S h'→W P ex R cs N a w) [] n m:=
 λa hf w h' hw s e=>k h' s e a w (hf.sub hs) hw
theorem AZ {ops:Array Oper}(hs:Qv m m') (k:WF P ex R cs N B h n m'):LF P ops (Qx ex R (W P ex R cs N)) [] B h n m:=λa w hf hw=>eJ (k a w (hf.sub hs) hw)
theorem AH {ops:Array Oper}{Q:Exit→Act→World→Prop}{l:List Oper}(j:Nat) (k:QF P ops (Wd B h) (λa=>∀w,Wd B h w→wpList P ops Q (l.drop j) a w) (l.take j) n m):LF P ops Q l B h n m:=λa _ hf hw=>l_q j hw (k a hf)
theorem AF {ops:Array Oper}{C}{Q:Exit→Act→World→Prop}{l:List Oper}(k:LF P ops Q l B h n m):QF P ops C (λa=>∀w,Wd B h w→wpList P ops Q l a w) [] n m:=λa hf w hw=>k a w hf hw
theorem BB {f fn c l S h post}(n:Nat) (hf:P.funcs[f]? =some fn) (hb:fn.body=some c) (hn:fn.ntmps=n) (hl:Nat.ble l.length n=true)
  (k:∀B,WF P [] (Rt P fn B S h post) [c] (Rt P fn B S h post) B h (n,[]) (Tp 0 l)):CG P f l.toArray S h post:=
 CG.intro n hf hb hn (Nat.le_of_ble_eq_true hl) λB w a hw hf=>k B a w hf hw
end
section
variable {P:Program}{ops:Array Oper}{C:World→Prop}{Q:Act→Prop}{n:FN}{m m':SM}{rest:List Oper}
variable {d:Nat}{ty:TypeId}{pos:String}{af:Array Edge}{X Y:Operand}{t t1 t2:TypeId}{x y:Int}{kd:IntKind}{v p:Value}
theorem QF.nil (k:∀a,Fr n a m→Q a):QF P ops C Q [] n m:=λa hf=>k a hf
theorem kG {l:List Oper}(hs:Qv m m') (k:QF P ops C Q l n m'):QF P ops C Q l n m:=λa hf=>k a (hf.sub hs)
theorem Xl {o:Oper}{j e:Nat}{b:Bool}(hg:o.guard=some (j,b)) (hj:(ops[j]?).bind (·.dst)=some e) (hb:lk m e=some (.bool b)) (k:QF P ops C Q ({ o with guard:=none}::rest) n m):QF P ops C Q (o::rest) n m:=
 λa hf=>jO hf hg hj hb (k a hf)
theorem iH {o:Oper}{j e:Nat}{b:Bool}(hg:o.guard=some (j,!b)) (hj:(ops[j]?).bind (·.dst)=some e) (hb:lk m e=some (.bool b)) (ho:o.dst=some d) (hd:Nat.blt d n.1=true) (k:QF P ops C Q rest n ((d,undef)::m)):QF P ops C Q (o::rest) n m:=
 λ_ hf=>jP hf hg hj hb ho hd k
theorem cE (j:Nat) (m':SM) {l:List Oper}(h1:QF P ops C (λa=>Fr n a m') (l.take j) n m) (h2:QF P ops C Q (l.drop j) n m'):QF P ops C Q l n m:=
 λa hf=>UN j (λa=>Fr n a m') (h1 a hf) λa' hf'=>h2 a' hf'
theorem Yv (hs:Qv m m'):QF P ops C (λa=>Fr n a m') [] n m:=λ_ hf=>hf.sub hs
theorem iF (hx:Bf m X=some v) (hd:Nat.blt d n.1=true) (k:QF P ops C Q rest n ((d,v)::m)):QF P ops C Q (⟨some d,.move X,ty,pos,af,none⟩::rest) n m:=λ_ hf=>jM hf hx hd k
theorem cF (hx:Bf m X=some v) (hd:Nat.blt d n.1=true) (k:QF P ops C Q rest n ((d,v)::m)):QF P ops C Q (⟨some d,.assign X,ty,pos,af,none⟩::rest) n m:=λ_ hf=>jR hf hx hd k
theorem R0 {c X Y:Operand}{b:Bool}(hc:Bf m c=some (.bool b)) (hx:Bf m (if b then X else Y)=some v) (hd:Nat.blt d n.1=true) (k:QF P ops C Q rest n ((d,v)::m)):QF P ops C Q (⟨some d,.pick c X Y,ty,pos,af,none⟩::rest) n m:=λ_ hf=>Z7 hf hc hx hd k
theorem kJ (hx:Bf m X=some (.int .i64 x)) (hy:Bf m Y=some (.int .i64 y)) (hd:Nat.blt d n.1=true) (hi:AG (x+y)) (k:QF P ops C Q rest n ((d,.int .i64 (x+y))::m)):QF P ops C Q (⟨some d,.binOp .add t1 X Y t2,ty,pos,af,none⟩::rest) n m:=λ_ hf=>eG hf hx hy hd hi k
theorem kH (hx:Bf m X=some (.int .i64 x)) (hy:Bf m Y=some (.int .i64 y)) (hd:Nat.blt d n.1=true) (hi:AG (x*y)) (k:QF P ops C Q rest n ((d,.int .i64 (x*y))::m)):QF P ops C Q (⟨some d,.binOp .mul t1 X Y t2,ty,pos,af,none⟩::rest) n m:=λ_ hf=>dP hf hx hy hd hi k
theorem Yy (hx:Bf m X=some (.int .i64 x)) (hy:Bf m Y=some (.int .i64 y)) (hd:Nat.blt d n.1=true) (k:QF P ops C Q rest n ((d,.int .i64 (BC (x+y)))::m)):QF P ops C Q (⟨some d,.binOp .add t1 X Y t2,ty,pos,af,none⟩::rest) n m:=λ_ hf=>aB hf hx hy hd k
theorem Yn (hx:Bf m X=some (.int .i64 x)) (hy:Bf m Y=some (.int .i64 y)) (hd:Nat.blt d n.1=true) (k:QF P ops C Q rest n ((d,.int .i64 (BC (x-y)))::m)):QF P ops C Q (⟨some d,.binOp .sub t1 X Y t2,ty,pos,af,none⟩::rest) n m:=λ_ hf=>Z6 hf hx hy hd k
theorem Uu (hx:Bf m X=some (.int .i64 x)) (hy:Bf m Y=some (.int .i64 y)) (hd:Nat.blt d n.1=true) (k:QF P ops C Q rest n ((d,.int .i64 (BC (x*y)))::m)):QF P ops C Q (⟨some d,.binOp .mul t1 X Y t2,ty,pos,af,none⟩::rest) n m:=λ_ hf=>Z8 hf hx hy hd k
theorem bS (hx:Bf m X=some (.int kd x)) (hy:Bf m Y=some (.int kd y)) (hd:Nat.blt d n.1=true) (k:QF P ops C Q rest n ((d,.bool (decide (x<y)))::m)):QF P ops C Q (⟨some d,.binOp .lss t1 X Y t2,ty,pos,af,none⟩::rest) n m:=λ_ hf=>dS hf hx hy hd k
theorem bU (hx:Bf m X=some (.int kd x)) (hy:Bf m Y=some (.int kd y)) (hd:Nat.blt d n.1=true) (k:QF P ops C Q rest n ((d,.bool (decide (x≤y)))::m)):QF P ops C Q (⟨some d,.binOp .leq t1 X Y t2,ty,pos,af,none⟩::rest) n m:=λ_ hf=>dT hf hx hy hd k
theorem bY (hx:Bf m X=some (.int kd x)) (hy:Bf m Y=some (.int kd y)) (hd:Nat.blt d n.1=true) (k:QF P ops C Q rest n ((d,.bool (decide (y<x)))::m)):QF P ops C Q (⟨some d,.binOp .gtr t1 X Y t2,ty,pos,af,none⟩::rest) n m:=λ_ hf=>eB hf hx hy hd k
theorem cB (hx:Bf m X=some (.int kd x)) (hy:Bf m Y=some (.int kd y)) (hd:Nat.blt d n.1=true) (k:QF P ops C Q rest n ((d,.bool (decide (y≤x)))::m)):QF P ops C Q (⟨some d,.binOp .geq t1 X Y t2,ty,pos,af,none⟩::rest) n m:=λ_ hf=>eC hf hx hy hd k
theorem cD (hx:Bf m X=some (.int kd x)) (hy:Bf m Y=some (.int kd y)) (hd:Nat.blt d n.1=true) (k:QF P ops C Q rest n ((d,.bool (decide (x=y)))::m)):QF P ops C Q (⟨some d,.binOp .eql t1 X Y t2,ty,pos,af,none⟩::rest) n m:=λ_ hf=>eE hf hx hy hd k
theorem bR (hx:Bf m X=some (.int kd x)) (hy:Bf m Y=some (.int kd y)) (hd:Nat.blt d n.1=true) (k:QF P ops C Q rest n ((d,.bool (decide (x≠y)))::m)):QF P ops C Q (⟨some d,.binOp .neq t1 X Y t2,ty,pos,af,none⟩::rest) n m:=λ_ hf=>dO hf hx hy hd k
theorem bP {b}(hx:Bf m X=some (.bool b)) (hd:Nat.blt d n.1=true) (k:QF P ops C Q rest n ((d,.bool (!b))::m)):QF P ops C Q (⟨some d,.unOp .not t1 X,ty,pos,af,none⟩::rest) n m:=λ_ hf=>dM hf hx hd k
theorem OM {aty}(hx:Bf m X=some (.int kd x)) (hy:Bf m Y=some (.int kd y)) (hd:Nat.blt d n.1=true) (k:QF P ops C Q rest n ((d,.int kd (Max.max x y))::m)):QF P ops C Q (⟨some d,.call ⟨.builtin .max,#[X,Y],#[t1,t2]⟩,aty,pos,af,none⟩::rest) n m:=λ_ hf=>dR hf hx hy hd k
theorem P2 {aty}(hx:Bf m X=some (.int kd x)) (hy:Bf m Y=some (.int kd y)) (hd:Nat.blt d n.1=true) (k:QF P ops C Q rest n ((d,.int kd (Min.min x y))::m)):QF P ops C Q (⟨some d,.call ⟨.builtin .min,#[X,Y],#[t1,t2]⟩,aty,pos,af,none⟩::rest) n m:=λ_ hf=>dQ hf hx hy hd k
theorem Hy {T:TypeId}{parts:Array (Nat×Operand)}{pl z pv cs}(hl:TV P T=some (pl,z)) (hp:parts.toList.mapM (YF m)=some pv) (hc:Kx pl z pv=some cs) (hd:Nat.blt d n.1=true) (k:QF P ops C Q rest n ((d,.agg cs.toArray)::m)):QF P ops C Q (⟨some d,.build T parts,ty,pos,af,none⟩::rest) n m:=λ_ hf=>eF hf hl hp hc hd k
theorem bQ {T:TypeId}{ks xs ys}(hx:Bf m X=some (.agg xs)) (hy:Bf m Y=some (.agg ys)) (hl:aO P T=some ks) (h1:xs.toList.map Kh=ks) (h2:ys.toList.map Kh=ks) (h3:Na xs.toList ys.toList=true) (hd:Nat.blt d n.1=true) (k:QF P ops C Q rest n ((d,.bool (!XH xs.toList ys.toList))::m)):QF P ops C Q (⟨some d,.binOp .neq T X Y t2,ty,pos,af,none⟩::rest) n m:=λ_ hf=>dN hf hx hy hl h1 h2 h3 hd k
theorem Xm {b o j off}(hx:Bf m X=some (.pointer (some ⟨b,o,none⟩))) (ht:FP P t j off=true) (hd:Nat.blt d n.1=true) (k:QF P ops C Q rest n ((d,.pointer (some ⟨b,o+off,none⟩))::m)):QF P ops C Q (⟨some d,.fieldAddr t X j,ty,pos,af,none⟩::rest) n m:=λ_ hf=>eD hf hx ht hd k
theorem Mw {ad len cap aty e sz}(hx:Bf m X=some (.slice ad len cap)) (ht:KM P t e sz=true) (hd:Nat.blt d n.1=true) (k:QF P ops C Q rest n ((d,.int .i64 len)::m)):QF P ops C Q (⟨some d,.call ⟨.builtin .len,#[X],#[t]⟩,aty,pos,af,none⟩::rest) n m:=λ_ hf=>Z9 hf hx ht hd k
section
variable {A S:Nat→Prop}{L:List HP}{h:Av}
theorem B4 {α}{r:AM α}{x}(ck:CK C h) (hA:∀b,A b→b<h.size) (hx:Bf m X=some p) (k0:N5 A S h r p x) (ht:IF P t r.sz r.ag=true) (h1:r.ag=false→r.sz=1) (hd:Nat.blt d n.1=true)
  (k:∀v,Rd S h r v x→QF P ops C Q rest n ((d,v)::m)):QF P ops C Q (⟨some d,.load t X,ty,pos,af,none⟩::rest) n m:=λ_ hf=>WT ck hA hf hx k0 ht h1 hd λv a hf hr=>k v hr a hf
theorem Ah {x}(ck:CK C h) (hA:∀b,A b→b<h.size) (hx:Bf m X=some p) (k0:N5 A S h AM.int p x) (ht:IF P t 1 false=true) (hd:Nat.blt d n.1=true)
  (k:AG x→QF P ops C Q rest n ((d,.int .i64 x)::m)):QF P ops C Q (⟨some d,.load t X,ty,pos,af,none⟩::rest) n m:=λ_ hf=>dY ck hA hf hx k0 ht hd λa hf hi=>k hi a hf
theorem bV {x}(ck:CK C h) (hA:∀b,A b→b<h.size) (hx:Bf m X=some p) (k0:N5 A S h AM.bool p x) (ht:IF P t 1 false=true) (hd:Nat.blt d n.1=true)
  (k:QF P ops C Q rest n ((d,.bool x)::m)):QF P ops C Q (⟨some d,.load t X,ty,pos,af,none⟩::rest) n m:=λ_ hf=>eA ck hA hf hx k0 ht hd k
theorem R3 {x}(ck:CK C h) (hA:∀b,A b→b<h.size) (hx:Bf m X=some p) (k0:N5 A S h AM.str p x) (ht:IF P t 1 false=true) (hd:Nat.blt d n.1=true)
  (k:x.size≤maxLen→QF P ops C Q rest n ((d,.string x)::m)):QF P ops C Q (⟨some d,.load t X,ty,pos,af,none⟩::rest) n m:=λ_ hf=>dV ck hA hf hx k0 ht hd λa hf hi=>k hi a hf
theorem An {α}{r:AM α}{x}(ck:CK C h) (hA:∀b,A b→b<h.size) (hx:Bf m X=some p) (k0:N5 A S h r.sl p x) (ht:IF P t 1 false=true) (hd:Nat.blt d n.1=true)
  (k:∀v,Sl S h r v x→QF P ops C Q rest n ((d,v)::m)):QF P ops C Q (⟨some d,.load t X,ty,pos,af,none⟩::rest) n m:=λ_ hf=>dX ck hA hf hx k0 ht hd λv a hf hr=>k v hr a hf
theorem Ai {α β}{r:AM α}{r':AM β}{f:α→β}{j off x}(hx:Bf m X=some p) (k0:N5 A S h r p x) (fl:FM r off r' f) (ht:FP P t j off=true) (hd:Nat.blt d n.1=true)
  (k:∀q,N5 A S h r' q (f x)→QF P ops C Q rest n ((d,q)::m)):QF P ops C Q (⟨some d,.fieldAddr t X j,ty,pos,af,none⟩::rest) n m:=λ_ hf=>jQ hf hx k0 fl ht hd λq a hf hr=>k q hr a hf
theorem iG {α}{r:AM α}{l:List α}{e i x}(hx:Bf m X=some v) (hy:Bf m Y=some (.int .i64 i)) (k0:Sl S h r v l) (ht:KM P t e r.sz=true) (h0:0≤i) (hi:l[i.toNat]? =some x) (hd:Nat.blt d n.1=true)
  (k:∀q,Pt S h r q x→QF P ops C Q rest n ((d,q)::m)):QF P ops C Q (⟨some d,.indexAddr t X Y,ty,pos,af,none⟩::rest) n m:=λ_ hf=>jN hf hx hy k0 ht h0 hi hd λq a hf hr=>k q hr a hf
theorem bW {α}{r:AM α}{l:List α}{T e i x}(hs:St S L h) (hm:OS r T v l∈L) (hx:Bf m X=some v) (hy:Bf m Y=some (.int .i64 i)) (ht:KM P t e r.sz=true) (h0:0≤i) (hi:l[i.toNat]? =some x) (hd:Nat.blt d n.1=true)
  (k:∀q,N5 (λb=>b<h.size) S h r q x→EP v (i.toNat*r.sz) q→QF P ops C Q rest n ((d,q)::m)):QF P ops C Q (⟨some d,.indexAddr t X Y,ty,pos,af,none⟩::rest) n m:=by
 obtain⟨g,cap,rfl,k1⟩:=hs.osAt hm hi
 have hl:i.toNat<l.length:=(List.getElem?_eq_some_iff.1 hi).1
 have hadd:(⟨g,0,none⟩:Addr).add (i.toNat*r.sz)=⟨g,i.toNat*r.sz,none⟩:=by unfold Addr.add;split<;>simp_all
 intro a hf
 refine FT hf hd (λw _=>by simp [execOp,hf.eval hx,hf.eval hy,Kw (P:=P) (w:=w) (cap:=cap) (a:=⟨g,0,none⟩) ht h0 hl,hadd]) (k _ k1 ⟨g,_,_,rfl,rfl⟩)
theorem Al {α}{r:AM α}{l:List α}{aty e}(hx:Bf m X=some v) (k0:Sl S h r v l) (ht:KM P t e r.sz=true) (hd:Nat.blt d n.1=true)
  (k:l.length≤maxLen→QF P ops C Q rest n ((d,.int .i64 l.length)::m)):QF P ops C Q (⟨some d,.call ⟨.builtin .len,#[X],#[t]⟩,aty,pos,af,none⟩::rest) n m:=λ_ hf=>dU hf hx k0 ht hd λa hf hi=>k hi a hf
theorem JO {α}{r:AM α}{l:List α}{T aty e sz}(hs:St S L h) (hm:OS r T v l∈L) (hx:Bf m X=some v) (ht:KM P t e sz=true) (hd:Nat.blt d n.1=true)
  (k:l.length≤maxLen→QF P ops C Q rest n ((d,.int .i64 l.length)::m)):QF P ops C Q (⟨some d,.call ⟨.builtin .len,#[X],#[t]⟩,aty,pos,af,none⟩::rest) n m:=by
 obtain⟨ad,cap,rfl,hmx⟩:=hs.oslen hm
 exact Mw hx ht hd (k hmx)
theorem DT {T b o sz:Nat}{ag:Bool}{cs vs:List Value}(ck:CK C h) (hs:St S L h) (hx:Bf m X=some (.pointer (some ⟨b,o,none⟩))) (hm:Bx b T cs∈L) (hv:(cs.drop o).take sz=vs) (hl:Nat.beq vs.length sz=true) (ht:IF P t sz ag=true) (h1:(ag||Nat.beq sz 1)=true) (hd:Nat.blt d n.1=true)
  (k:QF P ops C Q rest n ((d,if ag then .agg vs.toArray else vs.headD undef)::m)):QF P ops C Q (⟨some d,.load t X,ty,pos,af,none⟩::rest) n m:=λ_ hf=>dW ck hs hf hx hm hv hl ht h1 hd k
end
theorem Yw {f:Nat}{xs:Array Operand}{tys:Array TypeId}{args vs:List Value}{first cap:Array Value}{h B}
  (hX:Bf m X=some (.func (.func f) first cap)) (hxs:xs.toList.mapM (Bf m)=some args) (hvs:first.toList++args++cap.toList=vs) (hcb:BQ P f=true) (hd:Nat.blt d n.1=true)
  (hc:∀h',Ep h h'→CG P f vs.toArray (λb=>b<h'.size) h' (λu _ _=>u=v))
  (k:QF P ops (Cl B h) Q rest n ((d,v)::m)):QF P ops (Cl B h) Q (⟨some d,.call ⟨.value X,xs,tys⟩,ty,pos,af,none⟩::rest) n m:=λ_ hf=>aA hf hX hxs hvs hcb hd hc k
end
section
variable {P:Program}{ops:Array Oper}{Q:Exit→Act→World→Prop}{n:FN}{m:SM}{rest:List Oper}
variable {d:Nat}{ty:TypeId}{pos:String}{af:Array Edge}{X Y:Operand}{B:World}{h:Av}{S:Nat→Prop}{L L2:List HP}{v:Value}
theorem P4 {T:TypeId}{cs:List Value}(hx:Bf m X=some v) (hc:v.cells=cs.toArray) (hd:Nat.blt d n.1=true) (hs:St S L h)
  (k:∀b h',St S (Bx b T cs::L) h'→B9 S h S h'→LF P ops Q rest B h' n ((d,.pointer (some ⟨b,0,none⟩))::m)):LF P ops Q (⟨some d,.box T X,ty,pos,af,none⟩::rest) B h n m:=
 λ_ _ hf hw=>ZQ hf hx hc hd hw hs λb a w h' hf hw hs e=>k b h' hs e a w hf hw
theorem B5 {T:TypeId}{α}{r:AM α}{x:α}(hx:Bf m X=some v) (hr:Rd S h r v x) (h1:r.ag=false→r.sz=1) (hd:Nat.blt d n.1=true) (hs:St S L h)
  (k:∀p S' h',St S' L h'→B9 S h S' h'→Pt S' h' r p x→LF P ops Q rest B h' n ((d,p)::m)):LF P ops Q (⟨some d,.box T X,ty,pos,af,none⟩::rest) B h n m:=
 λ_ _ hf hw=>aI hf hx hr h1 hd hw hs λp a w S' h' hf hw hs e kp=>k p S' h' hs e kp a w hf hw
theorem Cs {T:TypeId}{cs:List Value}(hz:D9 P T=some cs) (hd:Nat.blt d n.1=true) (hs:St S L h)
  (k:∀b h',St S (Bx b T cs::L) h'→B9 S h S h'→LF P ops Q rest B h' n ((d,.pointer (some ⟨b,0,none⟩))::m)):LF P ops Q (⟨some d,.alloc T,ty,pos,af,none⟩::rest) B h n m:=
 λ_ _ hf hw=>jV hf hz hd hw hs λb a w h' hf hw hs e=>k b h' hs e a w hf hw
theorem HJ {T T':TypeId}{b o:Nat}{cs vs cs':List Value}{sz:Nat}{ag:Bool}(hx:Bf m X=some (.pointer (some ⟨b,o,none⟩))) (hy:Bf m Y=some v) (hv:v.cells=vs.toArray) (h1:∀u∈vs,u.oneCell'=true)
  (ht:IF P T sz ag=true) (hsz:vs.length=sz) (hs:St S L h) (r:LC L (Bx b T' cs) (Bx b T' cs') L2) (hfit:Nat.ble (o+sz) cs.length=true) (hp:HQ cs o vs=cs')
  (k:∀h',St S L2 h'→B9 S h S h'→LF P ops Q rest B h' n m):LF P ops Q (⟨none,.store T X Y,ty,pos,af,none⟩::rest) B h n m:=
 λ_ _ hf hw=>jS hf hx hy hv h1 ht hsz hfit hp hw hs r λa w h' hf hw hs e=>k h' hs e a w hf hw
theorem iK {α}{r:AM α}{T e sz by_:Nat}{z:List Value}{zx:α}{len cap:Nat}{kl kc:IntKind}{U V:Operand}(he:M4 P T=some (e,sz,by_,z)) (hrs:r.sz=sz) (hz:r.rd S h z zx)
  (hx:Bf m U=some (.int kl (len:Nat))) (hy:Bf m V=some (.int kc (cap:Nat))) (hlc:len≤cap) (hby:by_*cap≤281474976710656) (hmx:cap≤maxLen) (hd:Nat.blt d n.1=true) (hs:St S L h)
  (k:∀v h',St S (OS r e v (List.replicate len zx)::L) h'→B9 S h S h'→LF P ops Q rest B h' n ((d,v)::m)):LF P ops Q (⟨some d,.makeSlice T U V,ty,pos,af,none⟩::rest) B h n m:=
 λ_ _ hf hw=>jT hf he hrs hz hx hy hlc hby hmx hd hw hs λv a w h' hf hw hs e=>k v h' hs e a w hf hw
theorem Y3 {α}{r:AM α}{T e sz by_:Nat}{z:List Value}{l xs:List α}{b2 T2 len2 sc:Nat}{news:List Value}{LL:Value→List HP}(hx:Bf m X=some v) (hy:Bf m Y=some (.slice (some ⟨b2,0,none⟩) len2 sc)) (he:M4 P T=some (e,sz,by_,z)) (hrs:r.sz=sz)
  (hm:Bx b2 T2 news∈L) (hn:KK S h r news xs) (hl2:len2=xs.length) (hmx:l.length+xs.length≤maxLen) (hby:(l.length+xs.length)*by_≤140737488355328) (hd:Nat.blt d n.1=true) (hs:St S L h) (rp:∀v',LC L (OS r e v l) (OS r e v' (l++xs)) (LL v'))
  (k:∀v' h',St S (LL v') h'→B9 S h S h'→LF P ops Q rest B h' n ((d,v')::m)):LF P ops Q (⟨some d,.call ⟨.builtin .append,#[X,Y],#[T,T]⟩,ty,pos,af,none⟩::rest) B h n m:=
 λ_ _ hf hw=>aK hf hx hy he hrs hm hn hl2 hmx hby hd hw hs rp λv' a w h' hf hw hs e=>k v' h' hs e a w hf hw
theorem iL {T e sz by_ len:Nat}{z cs:List Value}{parts:Array (Nat×Operand)}{pv:List (Nat×Value)}(he:M4 P T=some (e,sz,by_,z)) (hp:parts.toList.mapM (YF m)=some pv)
  (hc:Kx (RN sz len) (List.replicate len z).flatten pv=some cs) (hl0:Nat.blt 0 len=true) (hsm:Nat.ble (len*sz) 16777216=true) (hpl:∀p∈pv,p.1<len) (hd:Nat.blt d n.1=true) (hs:St S L h)
  (k:∀b h',St S (Bx b e cs::L) h'→B9 S h S h'→LF P ops Q rest B h' n ((d,.slice (some ⟨b,0,none⟩) len len)::m)):LF P ops Q (⟨some d,.buildSlice T len parts,ty,pos,af,none⟩::rest) B h n m:=
 λ_ _ hf hw=>jU hf he hp hc hl0 hsm hd hw hs hpl λb a w h' hf hw hs e=>k b h' hs e a w hf hw
theorem Cn {f:Nat}{xs:Array Operand}{tys:Array TypeId}{args vs:List Value}{first cap:Array Value}{post:Value→(Nat→Prop)→Av→Prop}
  (hX:Bf m X=some (.func (.func f) first cap)) (hxs:xs.toList.mapM (Bf m)=some args) (hvs:first.toList++args++cap.toList=vs) (hcb:BQ P f=true) (hd:Nat.blt d n.1=true) (hc:CG P f vs.toArray S h post)
  (k:∀v S' h',B9 S h S' h'→post v S' h'→LF P ops Q rest B h' n ((d,v)::m)):LF P ops Q (⟨some d,.call ⟨.value X,xs,tys⟩,ty,pos,af,none⟩::rest) B h n m:=
 λ_ _ hf hw=>We hf hX hxs hvs hcb hd hw hc λv a w S' h' hf hw e p=>k v S' h' e p a w hf hw
end
end Go.Proofs.YtblcgjadhemlbaaGreat
