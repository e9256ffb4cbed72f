import Derived.Test.YtibidnaedddfdaaGreatACore5
namespace Go.Proofs.YtibidnaedddfdaaGreat
open Go.RowKit
abbrev SM:=List (Nat×Value)
def QF (P:Program) (ops:Array Oper) (C:World→Prop) (Q:Act→Prop) (l:List Oper) (n:FN) (m:SM):Prop:=∀a,Fr n a m→wpQuiet P ops C Q l a
def LF (P:Program) (ops:Array Oper) (Q:Exit→Act→World→Prop) (l:List Oper) (B:World) (h:Ad) (n:FN) (m:SM):Prop:=∀a w,Fr n a m→Wd B h w→wpList P ops Q l a w
def WF (P:Program) (ex:List (Nat×AP)) (R:AP) (cs:List Code) (N:AP) (B:World) (h:Ad) (n:FN) (m:SM):Prop:=∀a w,Fr n a m→Wd B h w→W P ex R cs N a w
section
variable {P:Program}{ex:List (Nat×AP)}{R N:AP}{cs:List Code}{B:World}{h:Ad}{n:FN}{m m':SM}{S:Nat→Prop}{L:List HP}
namespace WF
theorem sub (hs:PL m m') (k:WF P ex R cs N B h n m'):WF P ex R cs N B h n m:=λa w hf hw=>k a w (hf.sub hs) hw
theorem seq {x y:Code}(k:WF P ex R (x::y::cs) N B h n m):WF P ex R (.seq x y::cs) N B h n m:=λa w hf hw=>Wy (k a w hf hw)
theorem skip (k:WF P ex R cs N B h n m):WF P ex R (.skip::cs) N B h n m:=λa w hf hw=>Vc (k a w hf hw)
theorem ret (k:∀a w,Fr n a m→Wd B h w→R a w):WF P ex R (.ret::cs) N B h n m:=λa w hf hw=>Wz (k a w hf hw)
theorem exit {i:Nat}{K:AP}(hk:Ud ex i=some K) (k:∀a w,Fr n a m→Wd B h w→K a w):WF P ex R (.exit i::cs) N B h n m:=λa w hf hw=>R5 hk (k a w hf hw)
theorem nil (k:∀a w,Fr n a m→Wd B h w→N a w):WF P ex R [] N B h n m:=λa w hf hw=>k a w hf hw
theorem if_ {X b}{x y:Code}(hx:BG m X=some (.bool b)) (h1:b=true→WF P ex R (x::cs) N B h n m) (h2:b=false→WF P ex R (y::cs) N B h n m):WF P ex R (.cond X x y::cs) N B h n m:=
 λa w hf hw=>YY hf hx (λe=>h1 e a w hf hw) λe=>h2 e a w hf hw
theorem ifT {X}{x y:Code}(hx:BG m X=some (.bool true)) (k:WF P ex R (x::cs) N B h n m):WF P ex R (.cond X x y::cs) N B h n m:=λa w hf hw=>W0 hf hx (k a w hf hw)
theorem ifF {X}{x y:Code}(hx:BG m X=some (.bool false)) (k:WF P ex R (y::cs) N B h n m):WF P ex R (.cond X x y::cs) N B h n m:=λa w hf hw=>W1 hf hx (k a w hf hw)
theorem block {i:Nat}{c:Code}(k:WF P ((i,W P ex R cs N)::ex) R [c] (W P ex R cs N) B h n m):WF P ex R (.block i c::cs) N B h n m:=λa w hf hw=>UN (k a w hf hw)
theorem cut {c:Code}(I:AP) (h1:WF P ex R [c] I B h n m) (h2:∀a w,I a w→W P ex R cs N a w):WF P ex R (c::cs) N B h n m:=λa w hf hw=>W2 I (h1 a w hf hw) h2
theorem loop {c:Code}(I:Nat→AP) (T i₀:Nat) (h0:∀a w,Fr n a m→Wd B h w→I i₀ a w) (hT:∀i a w,I i a w→i≤T)
  (round:∀i a w,I i a w→W P ex R [c] (I (i+1)) a w):WF P ex R (.loop c::cs) N B h n m:=λa w hf hw=>Ve I T i₀ (h0 a w hf hw) hT round
theorem rp {l:List Oper}{id:Nat}{draw:Bool}(hr:Sg P l draw) (k:QF P l.toArray (Wd B h) (λa=>∀w,Wd B h w→W P ex R cs N a w) l n m):WF P ex R (.region id l.toArray draw::cs) N B h n m:=
 λa _ hf hw=>YV hr hw (k a hf)
theorem rc {l:List Oper}{id:Nat}{draw:Bool}(hr:Sg P l draw) (hs:St S L h) (k:QF P l.toArray (Cl B h) (λa=>∀w h',Wd B h' w→St S L h'→BO S h S h'→W P ex R cs N a w) l n m):WF P ex R (.region id l.toArray draw::cs) N B h n m:=
 λa _ hf hw=>YX hr hw hs (k a hf)
theorem rl {l:List Oper}{id:Nat}(k:LF P l.toArray (Qx ex R (W P ex R cs N)) l B h n m):WF P ex R (.region id l.toArray false::cs) N B h n m:=
 λa w hf hw=>YW (k a w hf hw)
end WF
theorem AA {ops:Array Oper}{C}(hs:PL m m') (k:WF P ex R cs N B h n m'):QF P ops C (λa=>∀w,Wd B h w→W P ex R cs N a w) [] n m:=λa hf w hw=>k a w (hf.sub hs) hw
theorem Ai {ops:Array Oper}{C}(hs:PL m m') (k:∀h',St S L h'→BO S h S h'→WF P ex R cs N B h' n m'):QF P ops C (λa=>∀w h',Wd B h' w→St S L h'→BO S h S h'→W P ex R cs N a w) [] n m:=
 λa hf w h' hw s e=>k h' s e a w (hf.sub hs) hw
theorem LF.nil {ops:Array Oper}(hs:PL m m') (k:WF P ex R cs N B h n m'):LF P ops (Qx ex R (W P ex R cs N)) [] B h n m:=λa w hf hw=>Xg (k a w (hf.sub hs) hw)
theorem LF.q {ops:Array Oper}{Q:Exit→Act→World→Prop}{l:List Oper}(j:Nat) (k:QF P ops (Wd B h) (λa=>∀w,Wd B h w→wpList P ops Q (l.drop j) a w) (l.take j) n m):LF P ops Q l B h n m:=λa _ hf hw=>l_q j hw (k a hf)
theorem AE {ops:Array Oper}{C}{Q:Exit→Act→World→Prop}{l:List Oper}(k:LF P ops Q l B h n m):QF P ops C (λa=>∀w,Wd B h w→wpList P ops Q l a w) [] n m:=λa hf w hw=>k a w hf hw
theorem Ac {f fn c l S h post}(n:Nat) (hf:P.funcs[f]? =some fn) (hb:fn.body=some c) (hn:fn.ntmps=n) (hl:Nat.ble l.length n=true)
  (k:∀B,WF P [] (Rt P fn B S h post) [c] (Rt P fn B S h post) B h (n,[]) (QW 0 l)):BP P f l.toArray S h post:=
 BP.intro n hf hb hn (Nat.le_of_ble_eq_true hl) λB w a hw hf=>k B a w hf hw
end
namespace QF
section
variable {P:Program}{ops:Array Oper}{C:World→Prop}{Q:Act→Prop}{n:FN}{m m':SM}{rest:List Oper}
variable {d:Nat}{ty:TypeId}{pos:String}{af:Array Edge}{X Y:Operand}{t t1 t2:TypeId}{x y:Int}{kd:IntKind}{v p:Value}
theorem nil (k:∀a,Fr n a m→Q a):QF P ops C Q [] n m:=λa hf=>k a hf
theorem sub {l:List Oper}(hs:PL m m') (k:QF P ops C Q l n m'):QF P ops C Q l n m:=λa hf=>k a (hf.sub hs)
theorem gy {o:Oper}{j e:Nat}{b:Bool}(hg:o.guard=some (j,b)) (hj:(ops[j]?).bind (·.dst)=some e) (hb:lk m e=some (.bool b)) (k:QF P ops C Q ({ o with guard:=none}::rest) n m):QF P ops C Q (o::rest) n m:=
 λa hf=>Ye hf hg hj hb (k a hf)
theorem gn {o:Oper}{j e:Nat}{b:Bool}(hg:o.guard=some (j,!b)) (hj:(ops[j]?).bind (·.dst)=some e) (hb:lk m e=some (.bool b)) (ho:o.dst=some d) (hd:Nat.blt d n.1=true) (k:QF P ops C Q rest n ((d,undef)::m)):QF P ops C Q (o::rest) n m:=
 λ_ hf=>Yf hf hg hj hb ho hd k
theorem cut (j:Nat) (m':SM) {l:List Oper}(h1:QF P ops C (λa=>Fr n a m') (l.take j) n m) (h2:QF P ops C Q (l.drop j) n m'):QF P ops C Q l n m:=
 λa hf=>Qt j (λa=>Fr n a m') (h1 a hf) λa' hf'=>h2 a' hf'
theorem cutn (hs:PL m m'):QF P ops C (λa=>Fr n a m') [] n m:=λ_ hf=>hf.sub hs
theorem mv (hx:BG m X=some v) (hd:Nat.blt d n.1=true) (k:QF P ops C Q rest n ((d,v)::m)):QF P ops C Q (⟨some d,.move X,ty,pos,af,none⟩::rest) n m:=λ_ hf=>Yc hf hx hd k
theorem as_ (hx:BG m X=some v) (hd:Nat.blt d n.1=true) (k:QF P ops C Q rest n ((d,v)::m)):QF P ops C Q (⟨some d,.assign X,ty,pos,af,none⟩::rest) n m:=λ_ hf=>Yh hf hx hd k
theorem pick {c X Y:Operand}{b:Bool}(hc:BG m c=some (.bool b)) (hx:BG m (if b then X else Y)=some v) (hd:Nat.blt d n.1=true) (k:QF P ops C Q rest n ((d,v)::m)):QF P ops C Q (⟨some d,.pick c X Y,ty,pos,af,none⟩::rest) n m:=λ_ hf=>Vo hf hc hx hd k
theorem add (hx:BG m X=some (.int .i64 x)) (hy:BG m Y=some (.int .i64 y)) (hd:Nat.blt d n.1=true) (hi:AB (x+y)) (k:QF P ops C Q rest n ((d,.int .i64 (x+y))::m)):QF P ops C Q (⟨some d,.binOp .add t1 X Y t2,ty,pos,af,none⟩::rest) n m:=λ_ hf=>Xb hf hx hy hd hi k
theorem mul (hx:BG m X=some (.int .i64 x)) (hy:BG m Y=some (.int .i64 y)) (hd:Nat.blt d n.1=true) (hi:AB (x*y)) (k:QF P ops C Q rest n ((d,.int .i64 (x*y))::m)):QF P ops C Q (⟨some d,.binOp .mul t1 X Y t2,ty,pos,af,none⟩::rest) n m:=λ_ hf=>XJ hf hx hy hd hi k
theorem addw (hx:BG m X=some (.int .i64 x)) (hy:BG m Y=some (.int .i64 y)) (hd:Nat.blt d n.1=true) (k:QF P ops C Q rest n ((d,.int .i64 (Ar (x+y)))::m)):QF P ops C Q (⟨some d,.binOp .add t1 X Y t2,ty,pos,af,none⟩::rest) n m:=λ_ hf=>Vs hf hx hy hd k
theorem subw (hx:BG m X=some (.int .i64 x)) (hy:BG m Y=some (.int .i64 y)) (hd:Nat.blt d n.1=true) (k:QF P ops C Q rest n ((d,.int .i64 (Ar (x-y)))::m)):QF P ops C Q (⟨some d,.binOp .sub t1 X Y t2,ty,pos,af,none⟩::rest) n m:=λ_ hf=>Vn hf hx hy hd k
theorem mulw (hx:BG m X=some (.int .i64 x)) (hy:BG m Y=some (.int .i64 y)) (hd:Nat.blt d n.1=true) (k:QF P ops C Q rest n ((d,.int .i64 (Ar (x*y)))::m)):QF P ops C Q (⟨some d,.binOp .mul t1 X Y t2,ty,pos,af,none⟩::rest) n m:=λ_ hf=>Vp hf hx hy hd k
theorem lss (hx:BG m X=some (.int kd x)) (hy:BG m Y=some (.int kd y)) (hd:Nat.blt d n.1=true) (k:QF P ops C Q rest n ((d,.bool (decide (x<y)))::m)):QF P ops C Q (⟨some d,.binOp .lss t1 X Y t2,ty,pos,af,none⟩::rest) n m:=λ_ hf=>XM hf hx hy hd k
theorem leq (hx:BG m X=some (.int kd x)) (hy:BG m Y=some (.int kd y)) (hd:Nat.blt d n.1=true) (k:QF P ops C Q rest n ((d,.bool (decide (x≤y)))::m)):QF P ops C Q (⟨some d,.binOp .leq t1 X Y t2,ty,pos,af,none⟩::rest) n m:=λ_ hf=>XN hf hx hy hd k
theorem gtr (hx:BG m X=some (.int kd x)) (hy:BG m Y=some (.int kd y)) (hd:Nat.blt d n.1=true) (k:QF P ops C Q rest n ((d,.bool (decide (y<x)))::m)):QF P ops C Q (⟨some d,.binOp .gtr t1 X Y t2,ty,pos,af,none⟩::rest) n m:=λ_ hf=>XV hf hx hy hd k
theorem geq (hx:BG m X=some (.int kd x)) (hy:BG m Y=some (.int kd y)) (hd:Nat.blt d n.1=true) (k:QF P ops C Q rest n ((d,.bool (decide (y≤x)))::m)):QF P ops C Q (⟨some d,.binOp .geq t1 X Y t2,ty,pos,af,none⟩::rest) n m:=λ_ hf=>XW hf hx hy hd k
theorem eql (hx:BG m X=some (.int kd x)) (hy:BG m Y=some (.int kd y)) (hd:Nat.blt d n.1=true) (k:QF P ops C Q rest n ((d,.bool (decide (x=y)))::m)):QF P ops C Q (⟨some d,.binOp .eql t1 X Y t2,ty,pos,af,none⟩::rest) n m:=λ_ hf=>XZ hf hx hy hd k
theorem neq (hx:BG m X=some (.int kd x)) (hy:BG m Y=some (.int kd y)) (hd:Nat.blt d n.1=true) (k:QF P ops C Q rest n ((d,.bool (decide (x≠y)))::m)):QF P ops C Q (⟨some d,.binOp .neq t1 X Y t2,ty,pos,af,none⟩::rest) n m:=λ_ hf=>XI hf hx hy hd k
theorem not {b}(hx:BG m X=some (.bool b)) (hd:Nat.blt d n.1=true) (k:QF P ops C Q rest n ((d,.bool (!b))::m)):QF P ops C Q (⟨some d,.unOp .not t1 X,ty,pos,af,none⟩::rest) n m:=λ_ hf=>XH hf hx hd k
theorem max {aty}(hx:BG m X=some (.int kd x)) (hy:BG m Y=some (.int kd y)) (hd:Nat.blt d n.1=true) (k:QF P ops C Q rest n ((d,.int kd (Max.max x y))::m)):QF P ops C Q (⟨some d,.call ⟨.builtin .max,#[X,Y],#[t1,t2]⟩,aty,pos,af,none⟩::rest) n m:=λ_ hf=>XL hf hx hy hd k
theorem min {aty}(hx:BG m X=some (.int kd x)) (hy:BG m Y=some (.int kd y)) (hd:Nat.blt d n.1=true) (k:QF P ops C Q rest n ((d,.int kd (Min.min x y))::m)):QF P ops C Q (⟨some d,.call ⟨.builtin .min,#[X,Y],#[t1,t2]⟩,aty,pos,af,none⟩::rest) n m:=λ_ hf=>XK hf hx hy hd k
theorem bld {T:TypeId}{parts:Array (Nat×Operand)}{pl z pv cs}(hl:Of P T=some (pl,z)) (hp:parts.toList.mapM (UW m)=some pv) (hc:I9 pl z pv=some cs) (hd:Nat.blt d n.1=true) (k:QF P ops C Q rest n ((d,.agg cs.toArray)::m)):QF P ops C Q (⟨some d,.build T parts,ty,pos,af,none⟩::rest) n m:=λ_ hf=>Xa hf hl hp hc hd k
theorem eqs {T:TypeId}{ks xs ys}(hx:BG m X=some (.agg xs)) (hy:BG m Y=some (.agg ys)) (hl:VF P T=some ks) (h1:xs.toList.map Io=ks) (h2:ys.toList.map Io=ks) (h3:L5 xs.toList ys.toList=true) (hd:Nat.blt d n.1=true) (k:QF P ops C Q rest n ((d,.bool (MX xs.toList ys.toList))::m)):QF P ops C Q (⟨some d,.binOp .eql T X Y t2,ty,pos,af,none⟩::rest) n m:=λ_ hf=>XY hf hx hy hl h1 h2 h3 hd k
theorem fao {b o j off}(hx:BG m X=some (.pointer (some ⟨b,o,none⟩))) (ht:Dl P t j off=true) (hd:Nat.blt d n.1=true) (k:QF P ops C Q rest n ((d,.pointer (some ⟨b,o+off,none⟩))::m)):QF P ops C Q (⟨some d,.fieldAddr t X j,ty,pos,af,none⟩::rest) n m:=λ_ hf=>XX hf hx ht hd k
theorem lenr {ad len cap aty e sz}(hx:BG m X=some (.slice ad len cap)) (ht:JL P t e sz=true) (hd:Nat.blt d n.1=true) (k:QF P ops C Q rest n ((d,.int .i64 len)::m)):QF P ops C Q (⟨some d,.call ⟨.builtin .len,#[X],#[t]⟩,aty,pos,af,none⟩::rest) n m:=λ_ hf=>Vq hf hx ht hd k
section
variable {A S:Nat→Prop}{L:List HP}{h:Ad}
theorem ld {α}{r:AW α}{x}(ck:CK C h) (hA:∀b,A b→b<h.size) (hx:BG m X=some p) (k0:KW A S h r p x) (ht:GP P t r.sz r.ag=true) (h1:r.ag=false→r.sz=1) (hd:Nat.blt d n.1=true)
  (k:∀v,Rd S h r v x→QF P ops C Q rest n ((d,v)::m)):QF P ops C Q (⟨some d,.load t X,ty,pos,af,none⟩::rest) n m:=λ_ hf=>Si ck hA hf hx k0 ht h1 hd λv a hf hr=>k v hr a hf
theorem ldi {x}(ck:CK C h) (hA:∀b,A b→b<h.size) (hx:BG m X=some p) (k0:KW A S h AW.int p x) (ht:GP P t 1 false=true) (hd:Nat.blt d n.1=true)
  (k:AB x→QF P ops C Q rest n ((d,.int .i64 x)::m)):QF P ops C Q (⟨some d,.load t X,ty,pos,af,none⟩::rest) n m:=λ_ hf=>XS ck hA hf hx k0 ht hd λa hf hi=>k hi a hf
theorem ldb {x}(ck:CK C h) (hA:∀b,A b→b<h.size) (hx:BG m X=some p) (k0:KW A S h AW.bool p x) (ht:GP P t 1 false=true) (hd:Nat.blt d n.1=true)
  (k:QF P ops C Q rest n ((d,.bool x)::m)):QF P ops C Q (⟨some d,.load t X,ty,pos,af,none⟩::rest) n m:=λ_ hf=>XU ck hA hf hx k0 ht hd k
theorem lds {x}(ck:CK C h) (hA:∀b,A b→b<h.size) (hx:BG m X=some p) (k0:KW A S h AW.str p x) (ht:GP P t 1 false=true) (hd:Nat.blt d n.1=true)
  (k:x.size≤maxLen→QF P ops C Q rest n ((d,.string x)::m)):QF P ops C Q (⟨some d,.load t X,ty,pos,af,none⟩::rest) n m:=λ_ hf=>XP ck hA hf hx k0 ht hd λa hf hi=>k hi a hf
theorem ldl {α}{r:AW α}{x}(ck:CK C h) (hA:∀b,A b→b<h.size) (hx:BG m X=some p) (k0:KW A S h r.sl p x) (ht:GP P t 1 false=true) (hd:Nat.blt d n.1=true)
  (k:∀v,Sl S h r v x→QF P ops C Q rest n ((d,v)::m)):QF P ops C Q (⟨some d,.load t X,ty,pos,af,none⟩::rest) n m:=λ_ hf=>XR ck hA hf hx k0 ht hd λv a hf hr=>k v hr a hf
theorem fa {α β}{r:AW α}{r':AW β}{f:α→β}{j off x}(hx:BG m X=some p) (k0:KW A S h r p x) (fl:D8 r off r' f) (ht:Dl P t j off=true) (hd:Nat.blt d n.1=true)
  (k:∀q,KW A S h r' q (f x)→QF P ops C Q rest n ((d,q)::m)):QF P ops C Q (⟨some d,.fieldAddr t X j,ty,pos,af,none⟩::rest) n m:=λ_ hf=>Yg hf hx k0 fl ht hd λq a hf hr=>k q hr a hf
theorem ix {α}{r:AW α}{l:List α}{e i x}(hx:BG m X=some v) (hy:BG m Y=some (.int .i64 i)) (k0:Sl S h r v l) (ht:JL P t e r.sz=true) (h0:0≤i) (hi:l[i.toNat]? =some x) (hd:Nat.blt d n.1=true)
  (k:∀q,Pt S h r q x→QF P ops C Q rest n ((d,q)::m)):QF P ops C Q (⟨some d,.indexAddr t X Y,ty,pos,af,none⟩::rest) n m:=λ_ hf=>Yd hf hx hy k0 ht h0 hi hd λq a hf hr=>k q hr a hf
theorem ixo {α}{r:AW α}{l:List α}{T e i x}(hs:St S L h) (hm:OS r T v l∈L) (hx:BG m X=some v) (hy:BG m Y=some (.int .i64 i)) (ht:JL P t e r.sz=true) (h0:0≤i) (hi:l[i.toNat]? =some x) (hd:Nat.blt d n.1=true)
  (k:∀q,KW (λb=>b<h.size) S h r q x→EP v (i.toNat*r.sz) q→QF P ops C Q rest n ((d,q)::m)):QF P ops C Q (⟨some d,.indexAddr t X Y,ty,pos,af,none⟩::rest) n m:=by
 obtain⟨g,cap,rfl,k1⟩:=hs.osAt hm hi
 have hl:i.toNat<l.length:=(List.getElem?_eq_some_iff.1 hi).1
 have hadd:(⟨g,0,none⟩:Addr).add (i.toNat*r.sz)=⟨g,i.toNat*r.sz,none⟩:=by unfold Addr.add;split<;>simp_all
 intro a hf
 refine D2 hf hd (λw _=>by simp [execOp,hf.eval hx,hf.eval hy,Mv (P:=P) (w:=w) (cap:=cap) (a:=⟨g,0,none⟩) ht h0 hl,hadd]) (k _ k1 ⟨g,_,_,rfl,rfl⟩)
theorem len {α}{r:AW α}{l:List α}{aty e}(hx:BG m X=some v) (k0:Sl S h r v l) (ht:JL P t e r.sz=true) (hd:Nat.blt d n.1=true)
  (k:l.length≤maxLen→QF P ops C Q rest n ((d,.int .i64 l.length)::m)):QF P ops C Q (⟨some d,.call ⟨.builtin .len,#[X],#[t]⟩,aty,pos,af,none⟩::rest) n m:=λ_ hf=>XO hf hx k0 ht hd λa hf hi=>k hi a hf
theorem leno {α}{r:AW α}{l:List α}{T aty e sz}(hs:St S L h) (hm:OS r T v l∈L) (hx:BG m X=some v) (ht:JL P t e sz=true) (hd:Nat.blt d n.1=true)
  (k:l.length≤maxLen→QF P ops C Q rest n ((d,.int .i64 l.length)::m)):QF P ops C Q (⟨some d,.call ⟨.builtin .len,#[X],#[t]⟩,aty,pos,af,none⟩::rest) n m:=by
 obtain⟨ad,cap,rfl,hmx⟩:=hs.oslen hm
 exact lenr hx ht hd (k hmx)
theorem ldo {T b o sz:Nat}{ag:Bool}{cs vs:List Value}(ck:CK C h) (hs:St S L h) (hx:BG m X=some (.pointer (some ⟨b,o,none⟩))) (hm:Bx b T cs∈L) (hv:(cs.drop o).take sz=vs) (hl:Nat.beq vs.length sz=true) (ht:GP P t sz ag=true) (h1:(ag||Nat.beq sz 1)=true) (hd:Nat.blt d n.1=true)
  (k:QF P ops C Q rest n ((d,if ag then .agg vs.toArray else vs.headD undef)::m)):QF P ops C Q (⟨some d,.load t X,ty,pos,af,none⟩::rest) n m:=λ_ hf=>XQ ck hs hf hx hm hv hl ht h1 hd k
end
theorem call {f:Nat}{xs:Array Operand}{tys:Array TypeId}{args vs:List Value}{first cap:Array Value}{h B}
  (hX:BG m X=some (.func (.func f) first cap)) (hxs:xs.toList.mapM (BG m)=some args) (hvs:first.toList++args++cap.toList=vs) (hcb:Am P f=true) (hd:Nat.blt d n.1=true)
  (hc:∀h',Ap h h'→BP P f vs.toArray (λb=>b<h'.size) h' (λu _ _=>u=v))
  (k:QF P ops (Cl B h) Q rest n ((d,v)::m)):QF P ops (Cl B h) Q (⟨some d,.call ⟨.value X,xs,tys⟩,ty,pos,af,none⟩::rest) n m:=λ_ hf=>Vr hf hX hxs hvs hcb hd hc k
end
end QF
namespace LF
section
variable {P:Program}{ops:Array Oper}{Q:Exit→Act→World→Prop}{n:FN}{m:SM}{rest:List Oper}
variable {d:Nat}{ty:TypeId}{pos:String}{af:Array Edge}{X Y:Operand}{B:World}{h:Ad}{S:Nat→Prop}{L L2:List HP}{v:Value}
theorem box {T:TypeId}{cs:List Value}(hx:BG m X=some v) (hc:v.cells=cs.toArray) (hd:Nat.blt d n.1=true) (hs:St S L h)
  (k:∀b h',St S (Bx b T cs::L) h'→BO S h S h'→LF P ops Q rest B h' n ((d,.pointer (some ⟨b,0,none⟩))::m)):LF P ops Q (⟨some d,.box T X,ty,pos,af,none⟩::rest) B h n m:=
 λ_ _ hf hw=>VE hf hx hc hd hw hs λb a w h' hf hw hs e=>k b h' hs e a w hf hw
theorem boxp {T:TypeId}{α}{r:AW α}{x:α}(hx:BG m X=some v) (hr:Rd S h r v x) (h1:r.ag=false→r.sz=1) (hd:Nat.blt d n.1=true) (hs:St S L h)
  (k:∀p S' h',St S' L h'→BO S h S' h'→Pt S' h' r p x→LF P ops Q rest B h' n ((d,p)::m)):LF P ops Q (⟨some d,.box T X,ty,pos,af,none⟩::rest) B h n m:=
 λ_ _ hf hw=>Vy hf hx hr h1 hd hw hs λp a w S' h' hf hw hs e kp=>k p S' h' hs e kp a w hf hw
theorem al {T:TypeId}{cs:List Value}(hz:CY P T=some cs) (hd:Nat.blt d n.1=true) (hs:St S L h)
  (k:∀b h',St S (Bx b T cs::L) h'→BO S h S h'→LF P ops Q rest B h' n ((d,.pointer (some ⟨b,0,none⟩))::m)):LF P ops Q (⟨some d,.alloc T,ty,pos,af,none⟩::rest) B h n m:=
 λ_ _ hf hw=>Ym hf hz hd hw hs λb a w h' hf hw hs e=>k b h' hs e a w hf hw
theorem st {T T':TypeId}{b o:Nat}{cs vs cs':List Value}{sz:Nat}{ag:Bool}(hx:BG m X=some (.pointer (some ⟨b,o,none⟩))) (hy:BG m Y=some v) (hv:v.cells=vs.toArray) (h1:∀u∈vs,u.oneCell'=true)
  (ht:GP P T sz ag=true) (hsz:vs.length=sz) (hs:St S L h) (r:I6 L (Bx b T' cs) (Bx b T' cs') L2) (hfit:Nat.ble (o+sz) cs.length=true) (hp:E2 cs o vs=cs')
  (k:∀h',St S L2 h'→BO S h S h'→LF P ops Q rest B h' n m):LF P ops Q (⟨none,.store T X Y,ty,pos,af,none⟩::rest) B h n m:=
 λ_ _ hf hw=>Yj hf hx hy hv h1 ht hsz hfit hp hw hs r λa w h' hf hw hs e=>k h' hs e a w hf hw
theorem mk {α}{r:AW α}{T e sz by_:Nat}{z:List Value}{zx:α}{len cap:Nat}{kl kc:IntKind}{U V:Operand}(he:Lt P T=some (e,sz,by_,z)) (hrs:r.sz=sz) (hz:r.rd S h z zx)
  (hx:BG m U=some (.int kl (len:Nat))) (hy:BG m V=some (.int kc (cap:Nat))) (hlc:len≤cap) (hby:by_*cap≤281474976710656) (hmx:cap≤maxLen) (hd:Nat.blt d n.1=true) (hs:St S L h)
  (k:∀v h',St S (OS r e v (List.replicate len zx)::L) h'→BO S h S h'→LF P ops Q rest B h' n ((d,v)::m)):LF P ops Q (⟨some d,.makeSlice T U V,ty,pos,af,none⟩::rest) B h n m:=
 λ_ _ hf hw=>Yk hf he hrs hz hx hy hlc hby hmx hd hw hs λv a w h' hf hw hs e=>k v h' hs e a w hf hw
theorem appB {α}{r:AW α}{T e sz by_:Nat}{z:List Value}{l xs:List α}{b2 T2 len2 sc:Nat}{news:List Value}{LL:Value→List HP}(hx:BG m X=some v) (hy:BG m Y=some (.slice (some ⟨b2,0,none⟩) len2 sc)) (he:Lt P T=some (e,sz,by_,z)) (hrs:r.sz=sz)
  (hm:Bx b2 T2 news∈L) (hn:IT S h r news xs) (hl2:len2=xs.length) (hmx:l.length+xs.length≤maxLen) (hby:(l.length+xs.length)*by_≤140737488355328) (hd:Nat.blt d n.1=true) (hs:St S L h) (rp:∀v',I6 L (OS r e v l) (OS r e v' (l++xs)) (LL v'))
  (k:∀v' h',St S (LL v') h'→BO S h S h'→LF P ops Q rest B h' n ((d,v')::m)):LF P ops Q (⟨some d,.call ⟨.builtin .append,#[X,Y],#[T,T]⟩,ty,pos,af,none⟩::rest) B h n m:=
 λ_ _ hf hw=>V0 hf hx hy he hrs hm hn hl2 hmx hby hd hw hs rp λv' a w h' hf hw hs e=>k v' h' hs e a w hf hw
theorem bs {T e sz by_ len:Nat}{z cs:List Value}{parts:Array (Nat×Operand)}{pv:List (Nat×Value)}(he:Lt P T=some (e,sz,by_,z)) (hp:parts.toList.mapM (UW m)=some pv)
  (hc:I9 (Ok sz len) (List.replicate len z).flatten pv=some cs) (hl0:Nat.blt 0 len=true) (hsm:Nat.ble (len*sz) 16777216=true) (hpl:∀p∈pv,p.1<len) (hd:Nat.blt d n.1=true) (hs:St S L h)
  (k:∀b h',St S (Bx b e cs::L) h'→BO S h S h'→LF P ops Q rest B h' n ((d,.slice (some ⟨b,0,none⟩) len len)::m)):LF P ops Q (⟨some d,.buildSlice T len parts,ty,pos,af,none⟩::rest) B h n m:=
 λ_ _ hf hw=>Yl hf he hp hc hl0 hsm hd hw hs hpl λb a w h' hf hw hs e=>k b h' hs e a w hf hw
theorem call {f:Nat}{xs:Array Operand}{tys:Array TypeId}{args vs:List Value}{first cap:Array Value}{post:Value→(Nat→Prop)→Ad→Prop}
  (hX:BG m X=some (.func (.func f) first cap)) (hxs:xs.toList.mapM (BG m)=some args) (hvs:first.toList++args++cap.toList=vs) (hcb:Am P f=true) (hd:Nat.blt d n.1=true) (hc:BP P f vs.toArray S h post)
  (k:∀v S' h',BO S h S' h'→post v S' h'→LF P ops Q rest B h' n ((d,v)::m)):LF P ops Q (⟨some d,.call ⟨.value X,xs,tys⟩,ty,pos,af,none⟩::rest) B h n m:=
 λ_ _ hf hw=>Sx hf hX hxs hvs hcb hd hw hc λv a w S' h' hf hw e p=>k v S' h' e p a w hf hw
end
end LF
end Go.Proofs.YtibidnaedddfdaaGreat
