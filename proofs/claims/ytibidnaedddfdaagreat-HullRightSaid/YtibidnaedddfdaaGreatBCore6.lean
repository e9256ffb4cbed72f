import Derived.Test.YtibidnaedddfdaaGreatBCore5
namespace Go.Proofs.YtibidnaedddfdaaGreat
set_option linter.unusedSimpArgs false
set_option linter.unusedVariables false
open Go.RowKit
abbrev SM:=List (Nat×Value)
def QF (P:Program) (ops:Array Oper) (C:World→Prop) (Q:Act→Prop) (l:List Oper) (n:FN) (m:SM):Prop:=∀a,Fr n a m→wpQuiet P ops C Q l a
def LF (P:Program) (ops:Array Oper) (Q:Exit→Act→World→Prop) (l:List Oper) (B:World) (h:Ac) (n:FN) (m:SM):Prop:=∀a w,Fr n a m→Wd B h w→wpList P ops Q l a w
def WF (P:Program) (ex:List (Nat×AP)) (R:AP) (cs:List Code) (N:AP) (B:World) (h:Ac) (n:FN) (m:SM):Prop:=∀a w,Fr n a m→Wd B h w→W P ex R cs N a w
section
variable {P:Program}{ex:List (Nat×AP)}{R N:AP}{cs:List Code}{B:World}{h:Ac}{n:FN}{m m':SM}{S:Nat→Prop}{L:List HP}
namespace WF
theorem sub (hs:PI m m') (k:WF P ex R cs N B h n m'):WF P ex R cs N B h n m:=λa w hf hw=>k a w (hf.sub hs) hw
theorem seq {x y:Code}(k:WF P ex R (x::y::cs) N B h n m):WF P ex R (.seq x y::cs) N B h n m:=λa w hf hw=>Xq (k a w hf hw)
theorem skip (k:WF P ex R cs N B h n m):WF P ex R (.skip::cs) N B h n m:=λa w hf hw=>WV (k a w hf hw)
theorem ret (k:∀a w,Fr n a m→Wd B h w→R a w):WF P ex R (.ret::cs) N B h n m:=λa w hf hw=>Xr (k a w hf hw)
theorem exit {i:Nat}{K:AP}(hk:VQ ex i=some K) (k:∀a w,Fr n a m→Wd B h w→K a w):WF P ex R (.exit i::cs) N B h n m:=λa w hf hw=>Sg hk (k a w hf hw)
theorem nil (k:∀a w,Fr n a m→Wd B h w→N a w):WF P ex R [] N B h n m:=λa w hf hw=>k a w hf hw
theorem if_ {X b}{x y:Code}(hx:BW m X=some (.bool b)) (h1:b=true→WF P ex R (x::cs) N B h n m) (h2:b=false→WF P ex R (y::cs) N B h n m):WF P ex R (.cond X x y::cs) N B h n m:=
 λa w hf hw=>ZN hf hx (λe=>h1 e a w hf hw) λe=>h2 e a w hf hw
theorem ifT {X}{x y:Code}(hx:BW m X=some (.bool true)) (k:WF P ex R (x::cs) N B h n m):WF P ex R (.cond X x y::cs) N B h n m:=λa w hf hw=>Xs hf hx (k a w hf hw)
theorem ifF {X}{x y:Code}(hx:BW m X=some (.bool false)) (k:WF P ex R (y::cs) N B h n m):WF P ex R (.cond X x y::cs) N B h n m:=λa w hf hw=>Xt hf hx (k a w hf hw)
theorem block {i:Nat}{c:Code}(k:WF P ((i,W P ex R cs N)::ex) R [c] (W P ex R cs N) B h n m):WF P ex R (.block i c::cs) N B h n m:=λa w hf hw=>U8 (k a w hf hw)
theorem cut {c:Code}(I:AP) (h1:WF P ex R [c] I B h n m) (h2:∀a w,I a w→W P ex R cs N a w):WF P ex R (c::cs) N B h n m:=λa w hf hw=>Xu I (h1 a w hf hw) h2
theorem loop {c:Code}(I:Nat→AP) (T i₀:Nat) (h0:∀a w,Fr n a m→Wd B h w→I i₀ a w) (hT:∀i a w,I i a w→i≤T)
  (round:∀i a w,I i a w→W P ex R [c] (I (i+1)) a w):WF P ex R (.loop c::cs) N B h n m:=λa w hf hw=>WX I T i₀ (h0 a w hf hw) hT round
theorem rp {l:List Oper}{id:Nat}{draw:Bool}(hr:TX P l draw) (k:QF P l.toArray (Wd B h) (λa=>∀w,Wd B h w→W P ex R cs N a w) l n m):WF P ex R (.region id l.toArray draw::cs) N B h n m:=
 λa _ hf hw=>ZK hr hw (k a hf)
theorem rc {l:List Oper}{id:Nat}{draw:Bool}(hr:TX P l draw) (hs:St S L h) (k:QF P l.toArray (Cl B h) (λa=>∀w h',Wd B h' w→St S L h'→Bg S h S h'→W P ex R cs N a w) l n m):WF P ex R (.region id l.toArray draw::cs) N B h n m:=
 λa _ hf hw=>ZM hr hw hs (k a hf)
theorem rl {l:List Oper}{id:Nat}(k:LF P l.toArray (Qx ex R (W P ex R cs N)) l B h n m):WF P ex R (.region id l.toArray false::cs) N B h n m:=
 λa w hf hw=>ZL (k a w hf hw)
end WF
theorem AA {ops:Array Oper}{C}(hs:PI m m') (k:WF P ex R cs N B h n m'):QF P ops C (λa=>∀w,Wd B h w→W P ex R cs N a w) [] n m:=λa hf w hw=>k a w (hf.sub hs) hw
theorem Aq {ops:Array Oper}{C}(hs:PI m m') (k:∀h',St S L h'→Bg S h S h'→WF P ex R cs N B h' n m'):QF P ops C (λa=>∀w h',Wd B h' w→St S L h'→Bg S h S h'→W P ex R cs N a w) [] n m:=
 λa hf w h' hw s e=>k h' s e a w (hf.sub hs) hw
theorem LF.nil {ops:Array Oper}(hs:PI m m') (k:WF P ex R cs N B h n m'):LF P ops (Qx ex R (W P ex R cs N)) [] B h n m:=λa w hf hw=>YZ (k a w (hf.sub hs) hw)
theorem LF.q {ops:Array Oper}{Q:Exit→Act→World→Prop}{l:List Oper}(j:Nat) (k:QF P ops (Wd B h) (λa=>∀w,Wd B h w→wpList P ops Q (l.drop j) a w) (l.take j) n m):LF P ops Q l B h n m:=λa _ hf hw=>l_q j hw (k a hf)
theorem AE {ops:Array Oper}{C}{Q:Exit→Act→World→Prop}{l:List Oper}(k:LF P ops Q l B h n m):QF P ops C (λa=>∀w,Wd B h w→wpList P ops Q l a w) [] n m:=λa hf w hw=>k a w hf hw
theorem Ag {f fn c l S h post}(n:Nat) (hf:P.funcs[f]? =some fn) (hb:fn.body=some c) (hn:fn.ntmps=n) (hl:Nat.ble l.length n=true)
  (k:∀B,WF P [] (Rt P fn B S h post) [c] (Rt P fn B S h post) B h (n,[]) (Qn 0 l)):Bh P f l.toArray S h post:=
 Bh.intro n hf hb hn (Nat.le_of_ble_eq_true hl) λB w a hw hf=>k B a w hf hw
end
namespace QF
section
variable {P:Program}{ops:Array Oper}{C:World→Prop}{Q:Act→Prop}{n:FN}{m m':SM}{rest:List Oper}
variable {d:Nat}{ty:TypeId}{pos:String}{af:Array Edge}{X Y:Operand}{t t1 t2:TypeId}{x y:Int}{kd:IntKind}{v p:Value}
theorem nil (k:∀a,Fr n a m→Q a):QF P ops C Q [] n m:=λa hf=>k a hf
theorem sub {l:List Oper}(hs:PI m m') (k:QF P ops C Q l n m'):QF P ops C Q l n m:=λa hf=>k a (hf.sub hs)
theorem gy {o:Oper}{j e:Nat}{b:Bool}(hg:o.guard=some (j,b)) (hj:(ops[j]?).bind (·.dst)=some e) (hb:lk m e=some (.bool b)) (k:QF P ops C Q ({ o with guard:=none}::rest) n m):QF P ops C Q (o::rest) n m:=
 λa hf=>ZV hf hg hj hb (k a hf)
theorem gn {o:Oper}{j e:Nat}{b:Bool}(hg:o.guard=some (j,!b)) (hj:(ops[j]?).bind (·.dst)=some e) (hb:lk m e=some (.bool b)) (ho:o.dst=some d) (hd:Nat.blt d n.1=true) (k:QF P ops C Q rest n ((d,undef)::m)):QF P ops C Q (o::rest) n m:=
 λ_ hf=>ZW hf hg hj hb ho hd k
theorem cut (j:Nat) (m':SM) {l:List Oper}(h1:QF P ops C (λa=>Fr n a m') (l.take j) n m) (h2:QF P ops C Q (l.drop j) n m'):QF P ops C Q l n m:=
 λa hf=>RI j (λa=>Fr n a m') (h1 a hf) λa' hf'=>h2 a' hf'
theorem cutn (hs:PI m m'):QF P ops C (λa=>Fr n a m') [] n m:=λ_ hf=>hf.sub hs
theorem mv (hx:BW m X=some v) (hd:Nat.blt d n.1=true) (k:QF P ops C Q rest n ((d,v)::m)):QF P ops C Q (⟨some d,.move X,ty,pos,af,none⟩::rest) n m:=λ_ hf=>ZT hf hx hd k
theorem as_ (hx:BW m X=some v) (hd:Nat.blt d n.1=true) (k:QF P ops C Q rest n ((d,v)::m)):QF P ops C Q (⟨some d,.assign X,ty,pos,af,none⟩::rest) n m:=λ_ hf=>ZY hf hx hd k
theorem pick {c X Y:Operand}{b:Bool}(hc:BW m c=some (.bool b)) (hx:BW m (if b then X else Y)=some v) (hd:Nat.blt d n.1=true) (k:QF P ops C Q rest n ((d,v)::m)):QF P ops C Q (⟨some d,.pick c X Y,ty,pos,af,none⟩::rest) n m:=λ_ hf=>Wn hf hc hx hd k
theorem add (hx:BW m X=some (.int .i64 x)) (hy:BW m Y=some (.int .i64 y)) (hd:Nat.blt d n.1=true) (hi:AB (x+y)) (k:QF P ops C Q rest n ((d,.int .i64 (x+y))::m)):QF P ops C Q (⟨some d,.binOp .add t1 X Y t2,ty,pos,af,none⟩::rest) n m:=λ_ hf=>YX hf hx hy hd hi k
theorem mul (hx:BW m X=some (.int .i64 x)) (hy:BW m Y=some (.int .i64 y)) (hd:Nat.blt d n.1=true) (hi:AB (x*y)) (k:QF P ops C Q rest n ((d,.int .i64 (x*y))::m)):QF P ops C Q (⟨some d,.binOp .mul t1 X Y t2,ty,pos,af,none⟩::rest) n m:=λ_ hf=>YD hf hx hy hd hi k
theorem addw (hx:BW m X=some (.int .i64 x)) (hy:BW m Y=some (.int .i64 y)) (hd:Nat.blt d n.1=true) (k:QF P ops C Q rest n ((d,.int .i64 (A3 (x+y)))::m)):QF P ops C Q (⟨some d,.binOp .add t1 X Y t2,ty,pos,af,none⟩::rest) n m:=λ_ hf=>Wr hf hx hy hd k
theorem subw (hx:BW m X=some (.int .i64 x)) (hy:BW m Y=some (.int .i64 y)) (hd:Nat.blt d n.1=true) (k:QF P ops C Q rest n ((d,.int .i64 (A3 (x-y)))::m)):QF P ops C Q (⟨some d,.binOp .sub t1 X Y t2,ty,pos,af,none⟩::rest) n m:=λ_ hf=>Wm hf hx hy hd k
theorem mulw (hx:BW m X=some (.int .i64 x)) (hy:BW m Y=some (.int .i64 y)) (hd:Nat.blt d n.1=true) (k:QF P ops C Q rest n ((d,.int .i64 (A3 (x*y)))::m)):QF P ops C Q (⟨some d,.binOp .mul t1 X Y t2,ty,pos,af,none⟩::rest) n m:=λ_ hf=>Wo hf hx hy hd k
theorem lss (hx:BW m X=some (.int kd x)) (hy:BW m Y=some (.int kd y)) (hd:Nat.blt d n.1=true) (k:QF P ops C Q rest n ((d,.bool (decide (x<y)))::m)):QF P ops C Q (⟨some d,.binOp .lss t1 X Y t2,ty,pos,af,none⟩::rest) n m:=λ_ hf=>YG hf hx hy hd k
theorem leq (hx:BW m X=some (.int kd x)) (hy:BW m Y=some (.int kd y)) (hd:Nat.blt d n.1=true) (k:QF P ops C Q rest n ((d,.bool (decide (x≤y)))::m)):QF P ops C Q (⟨some d,.binOp .leq t1 X Y t2,ty,pos,af,none⟩::rest) n m:=λ_ hf=>YH hf hx hy hd k
theorem gtr (hx:BW m X=some (.int kd x)) (hy:BW m Y=some (.int kd y)) (hd:Nat.blt d n.1=true) (k:QF P ops C Q rest n ((d,.bool (decide (y<x)))::m)):QF P ops C Q (⟨some d,.binOp .gtr t1 X Y t2,ty,pos,af,none⟩::rest) n m:=λ_ hf=>YQ hf hx hy hd k
theorem geq (hx:BW m X=some (.int kd x)) (hy:BW m Y=some (.int kd y)) (hd:Nat.blt d n.1=true) (k:QF P ops C Q rest n ((d,.bool (decide (y≤x)))::m)):QF P ops C Q (⟨some d,.binOp .geq t1 X Y t2,ty,pos,af,none⟩::rest) n m:=λ_ hf=>YS hf hx hy hd k
theorem eql (hx:BW m X=some (.int kd x)) (hy:BW m Y=some (.int kd y)) (hd:Nat.blt d n.1=true) (k:QF P ops C Q rest n ((d,.bool (decide (x=y)))::m)):QF P ops C Q (⟨some d,.binOp .eql t1 X Y t2,ty,pos,af,none⟩::rest) n m:=λ_ hf=>YV hf hx hy hd k
theorem neq (hx:BW m X=some (.int kd x)) (hy:BW m Y=some (.int kd y)) (hd:Nat.blt d n.1=true) (k:QF P ops C Q rest n ((d,.bool (decide (x≠y)))::m)):QF P ops C Q (⟨some d,.binOp .neq t1 X Y t2,ty,pos,af,none⟩::rest) n m:=λ_ hf=>YB hf hx hy hd k
theorem not {b}(hx:BW m X=some (.bool b)) (hd:Nat.blt d n.1=true) (k:QF P ops C Q rest n ((d,.bool (!b))::m)):QF P ops C Q (⟨some d,.unOp .not t1 X,ty,pos,af,none⟩::rest) n m:=λ_ hf=>YA hf hx hd k
theorem max {aty}(hx:BW m X=some (.int kd x)) (hy:BW m Y=some (.int kd y)) (hd:Nat.blt d n.1=true) (k:QF P ops C Q rest n ((d,.int kd (Max.max x y))::m)):QF P ops C Q (⟨some d,.call ⟨.builtin .max,#[X,Y],#[t1,t2]⟩,aty,pos,af,none⟩::rest) n m:=λ_ hf=>YF hf hx hy hd k
theorem min {aty}(hx:BW m X=some (.int kd x)) (hy:BW m Y=some (.int kd y)) (hd:Nat.blt d n.1=true) (k:QF P ops C Q rest n ((d,.int kd (Min.min x y))::m)):QF P ops C Q (⟨some d,.call ⟨.builtin .min,#[X,Y],#[t1,t2]⟩,aty,pos,af,none⟩::rest) n m:=λ_ hf=>YE hf hx hy hd k
theorem bld {T:TypeId}{parts:Array (Nat×Operand)}{pl z pv cs}(hl:PH P T=some (pl,z)) (hp:parts.toList.mapM (VI m)=some pv) (hc:Im pl z pv=some cs) (hd:Nat.blt d n.1=true) (k:QF P ops C Q rest n ((d,.agg cs.toArray)::m)):QF P ops C Q (⟨some d,.build T parts,ty,pos,af,none⟩::rest) n m:=λ_ hf=>YW hf hl hp hc hd k
theorem eqs {T:TypeId}{ks xs ys}(hx:BW m X=some (.agg xs)) (hy:BW m Y=some (.agg ys)) (hl:V7 P T=some ks) (h1:xs.toList.map IQ=ks) (h2:ys.toList.map IQ=ks) (h3:La xs.toList ys.toList=true) (hd:Nat.blt d n.1=true) (k:QF P ops C Q rest n ((d,.bool (ML xs.toList ys.toList))::m)):QF P ops C Q (⟨some d,.binOp .eql T X Y t2,ty,pos,af,none⟩::rest) n m:=λ_ hf=>YU hf hx hy hl h1 h2 h3 hd k
theorem fao {b o j off}(hx:BW m X=some (.pointer (some ⟨b,o,none⟩))) (ht:D6 P t j off=true) (hd:Nat.blt d n.1=true) (k:QF P ops C Q rest n ((d,.pointer (some ⟨b,o+off,none⟩))::m)):QF P ops C Q (⟨some d,.fieldAddr t X j,ty,pos,af,none⟩::rest) n m:=λ_ hf=>YT hf hx ht hd k
theorem lenr {ad len cap aty e sz}(hx:BW m X=some (.slice ad len cap)) (ht:I0 P t e sz=true) (hd:Nat.blt d n.1=true) (k:QF P ops C Q rest n ((d,.int .i64 len)::m)):QF P ops C Q (⟨some d,.call ⟨.builtin .len,#[X],#[t]⟩,aty,pos,af,none⟩::rest) n m:=λ_ hf=>Wp hf hx ht hd k
section
variable {A S:Nat→Prop}{L:List HP}{h:Ac}
theorem ld {α}{r:AW α}{x}(ck:CK C h) (hA:∀b,A b→b<h.size) (hx:BW m X=some p) (k0:J7 A S h r p x) (ht:GA P t r.sz r.ag=true) (h1:r.ag=false→r.sz=1) (hd:Nat.blt d n.1=true)
  (k:∀v,Rd S h r v x→QF P ops C Q rest n ((d,v)::m)):QF P ops C Q (⟨some d,.load t X,ty,pos,af,none⟩::rest) n m:=λ_ hf=>TZ ck hA hf hx k0 ht h1 hd λv a hf hr=>k v hr a hf
theorem ldi {x}(ck:CK C h) (hA:∀b,A b→b<h.size) (hx:BW m X=some p) (k0:J7 A S h AW.int p x) (ht:GA P t 1 false=true) (hd:Nat.blt d n.1=true)
  (k:AB x→QF P ops C Q rest n ((d,.int .i64 x)::m)):QF P ops C Q (⟨some d,.load t X,ty,pos,af,none⟩::rest) n m:=λ_ hf=>YN ck hA hf hx k0 ht hd λa hf hi=>k hi a hf
theorem ldb {x}(ck:CK C h) (hA:∀b,A b→b<h.size) (hx:BW m X=some p) (k0:J7 A S h AW.bool p x) (ht:GA P t 1 false=true) (hd:Nat.blt d n.1=true)
  (k:QF P ops C Q rest n ((d,.bool x)::m)):QF P ops C Q (⟨some d,.load t X,ty,pos,af,none⟩::rest) n m:=λ_ hf=>YP ck hA hf hx k0 ht hd k
theorem lds {x}(ck:CK C h) (hA:∀b,A b→b<h.size) (hx:BW m X=some p) (k0:J7 A S h AW.str p x) (ht:GA P t 1 false=true) (hd:Nat.blt d n.1=true)
  (k:x.size≤maxLen→QF P ops C Q rest n ((d,.string x)::m)):QF P ops C Q (⟨some d,.load t X,ty,pos,af,none⟩::rest) n m:=λ_ hf=>YJ ck hA hf hx k0 ht hd λa hf hi=>k hi a hf
theorem ldl {α}{r:AW α}{x}(ck:CK C h) (hA:∀b,A b→b<h.size) (hx:BW m X=some p) (k0:J7 A S h r.sl p x) (ht:GA P t 1 false=true) (hd:Nat.blt d n.1=true)
  (k:∀v,Sl S h r v x→QF P ops C Q rest n ((d,v)::m)):QF P ops C Q (⟨some d,.load t X,ty,pos,af,none⟩::rest) n m:=λ_ hf=>YM ck hA hf hx k0 ht hd λv a hf hr=>k v hr a hf
theorem fa {α β}{r:AW α}{r':AW β}{f:α→β}{j off x}(hx:BW m X=some p) (k0:J7 A S h r p x) (fl:ED r off r' f) (ht:D6 P t j off=true) (hd:Nat.blt d n.1=true)
  (k:∀q,J7 A S h r' q (f x)→QF P ops C Q rest n ((d,q)::m)):QF P ops C Q (⟨some d,.fieldAddr t X j,ty,pos,af,none⟩::rest) n m:=λ_ hf=>ZX hf hx k0 fl ht hd λq a hf hr=>k q hr a hf
theorem ix {α}{r:AW α}{l:List α}{e i x}(hx:BW m X=some v) (hy:BW m Y=some (.int .i64 i)) (k0:Sl S h r v l) (ht:I0 P t e r.sz=true) (h0:0≤i) (hi:l[i.toNat]? =some x) (hd:Nat.blt d n.1=true)
  (k:∀q,Pt S h r q x→QF P ops C Q rest n ((d,q)::m)):QF P ops C Q (⟨some d,.indexAddr t X Y,ty,pos,af,none⟩::rest) n m:=λ_ hf=>ZU hf hx hy k0 ht h0 hi hd λq a hf hr=>k q hr a hf
theorem ixo {α}{r:AW α}{l:List α}{T e i x}(hs:St S L h) (hm:OS r T v l∈L) (hx:BW m X=some v) (hy:BW m Y=some (.int .i64 i)) (ht:I0 P t e r.sz=true) (h0:0≤i) (hi:l[i.toNat]? =some x) (hd:Nat.blt d n.1=true)
  (k:∀q,J7 (λb=>b<h.size) S h r q x→EP v (i.toNat*r.sz) q→QF P ops C Q rest n ((d,q)::m)):QF P ops C Q (⟨some d,.indexAddr t X Y,ty,pos,af,none⟩::rest) n m:=by
 obtain⟨g,cap,rfl,k1⟩:=hs.osAt hm hi
 have hl:i.toNat<l.length:=(List.getElem?_eq_some_iff.1 hi).1
 have hadd:(⟨g,0,none⟩:Addr).add (i.toNat*r.sz)=⟨g,i.toNat*r.sz,none⟩:=by unfold Addr.add;split<;>simp_all
 intro a hf
 refine EA hf hd (λw _=>by simp [execOp,hf.eval hx,hf.eval hy,Mb (P:=P) (w:=w) (cap:=cap) (a:=⟨g,0,none⟩) ht h0 hl,hadd]) (k _ k1 ⟨g,_,_,rfl,rfl⟩)
theorem len {α}{r:AW α}{l:List α}{aty e}(hx:BW m X=some v) (k0:Sl S h r v l) (ht:I0 P t e r.sz=true) (hd:Nat.blt d n.1=true)
  (k:l.length≤maxLen→QF P ops C Q rest n ((d,.int .i64 l.length)::m)):QF P ops C Q (⟨some d,.call ⟨.builtin .len,#[X],#[t]⟩,aty,pos,af,none⟩::rest) n m:=λ_ hf=>YI hf hx k0 ht hd λa hf hi=>k hi a hf
theorem leno {α}{r:AW α}{l:List α}{T aty e sz}(hs:St S L h) (hm:OS r T v l∈L) (hx:BW m X=some v) (ht:I0 P t e sz=true) (hd:Nat.blt d n.1=true)
  (k:l.length≤maxLen→QF P ops C Q rest n ((d,.int .i64 l.length)::m)):QF P ops C Q (⟨some d,.call ⟨.builtin .len,#[X],#[t]⟩,aty,pos,af,none⟩::rest) n m:=by
 obtain⟨ad,cap,rfl,hmx⟩:=hs.oslen hm
 exact lenr hx ht hd (k hmx)
theorem ldo {T b o sz:Nat}{ag:Bool}{cs vs:List Value}(ck:CK C h) (hs:St S L h) (hx:BW m X=some (.pointer (some ⟨b,o,none⟩))) (hm:Bx b T cs∈L) (hv:(cs.drop o).take sz=vs) (hl:Nat.beq vs.length sz=true) (ht:GA P t sz ag=true) (h1:(ag||Nat.beq sz 1)=true) (hd:Nat.blt d n.1=true)
  (k:QF P ops C Q rest n ((d,if ag then .agg vs.toArray else vs.headD undef)::m)):QF P ops C Q (⟨some d,.load t X,ty,pos,af,none⟩::rest) n m:=λ_ hf=>YK ck hs hf hx hm hv hl ht h1 hd k
end
theorem call {f:Nat}{xs:Array Operand}{tys:Array TypeId}{args vs:List Value}{first cap:Array Value}{h B}
  (hX:BW m X=some (.func (.func f) first cap)) (hxs:xs.toList.mapM (BW m)=some args) (hvs:first.toList++args++cap.toList=vs) (hcb:Ar P f=true) (hd:Nat.blt d n.1=true)
  (hc:∀h',An h h'→Bh P f vs.toArray (λb=>b<h'.size) h' (λu _ _=>u=v))
  (k:QF P ops (Cl B h) Q rest n ((d,v)::m)):QF P ops (Cl B h) Q (⟨some d,.call ⟨.value X,xs,tys⟩,ty,pos,af,none⟩::rest) n m:=λ_ hf=>Wq hf hX hxs hvs hcb hd hc k
end
end QF
namespace LF
section
variable {P:Program}{ops:Array Oper}{Q:Exit→Act→World→Prop}{n:FN}{m:SM}{rest:List Oper}
variable {d:Nat}{ty:TypeId}{pos:String}{af:Array Edge}{X Y:Operand}{B:World}{h:Ac}{S:Nat→Prop}{L L2:List HP}{v:Value}
theorem box {T:TypeId}{cs:List Value}(hx:BW m X=some v) (hc:v.cells=cs.toArray) (hd:Nat.blt d n.1=true) (hs:St S L h)
  (k:∀b h',St S (Bx b T cs::L) h'→Bg S h S h'→LF P ops Q rest B h' n ((d,.pointer (some ⟨b,0,none⟩))::m)):LF P ops Q (⟨some d,.box T X,ty,pos,af,none⟩::rest) B h n m:=
 λ_ _ hf hw=>V6 hf hx hc hd hw hs λb a w h' hf hw hs e=>k b h' hs e a w hf hw
theorem boxp {T:TypeId}{α}{r:AW α}{x:α}(hx:BW m X=some v) (hr:Rd S h r v x) (h1:r.ag=false→r.sz=1) (hd:Nat.blt d n.1=true) (hs:St S L h)
  (k:∀p S' h',St S' L h'→Bg S h S' h'→Pt S' h' r p x→LF P ops Q rest B h' n ((d,p)::m)):LF P ops Q (⟨some d,.box T X,ty,pos,af,none⟩::rest) B h n m:=
 λ_ _ hf hw=>Wv hf hx hr h1 hd hw hs λp a w S' h' hf hw hs e kp=>k p S' h' hs e kp a w hf hw
theorem al {T:TypeId}{cs:List Value}(hz:C1 P T=some cs) (hd:Nat.blt d n.1=true) (hs:St S L h)
  (k:∀b h',St S (Bx b T cs::L) h'→Bg S h S h'→LF P ops Q rest B h' n ((d,.pointer (some ⟨b,0,none⟩))::m)):LF P ops Q (⟨some d,.alloc T,ty,pos,af,none⟩::rest) B h n m:=
 λ_ _ hf hw=>Zd hf hz hd hw hs λb a w h' hf hw hs e=>k b h' hs e a w hf hw
theorem st {T T':TypeId}{b o:Nat}{cs vs cs':List Value}{sz:Nat}{ag:Bool}(hx:BW m X=some (.pointer (some ⟨b,o,none⟩))) (hy:BW m Y=some v) (hv:v.cells=vs.toArray) (h1:∀u∈vs,u.oneCell'=true)
  (ht:GA P T sz ag=true) (hsz:vs.length=sz) (hs:St S L h) (r:Ik L (Bx b T' cs) (Bx b T' cs') L2) (hfit:Nat.ble (o+sz) cs.length=true) (hp:Ei cs o vs=cs')
  (k:∀h',St S L2 h'→Bg S h S h'→LF P ops Q rest B h' n m):LF P ops Q (⟨none,.store T X Y,ty,pos,af,none⟩::rest) B h n m:=
 λ_ _ hf hw=>Za hf hx hy hv h1 ht hsz hfit hp hw hs r λa w h' hf hw hs e=>k h' hs e a w hf hw
theorem mk {α}{r:AW α}{T e sz by_:Nat}{z:List Value}{zx:α}{len cap:Nat}{kl kc:IntKind}{U V:Operand}(he:LO P T=some (e,sz,by_,z)) (hrs:r.sz=sz) (hz:r.rd S h z zx)
  (hx:BW m U=some (.int kl (len:Nat))) (hy:BW m V=some (.int kc (cap:Nat))) (hlc:len≤cap) (hby:by_*cap≤281474976710656) (hmx:cap≤maxLen) (hd:Nat.blt d n.1=true) (hs:St S L h)
  (k:∀v h',St S (OS r e v (List.replicate len zx)::L) h'→Bg S h S h'→LF P ops Q rest B h' n ((d,v)::m)):LF P ops Q (⟨some d,.makeSlice T U V,ty,pos,af,none⟩::rest) B h n m:=
 λ_ _ hf hw=>Zb hf he hrs hz hx hy hlc hby hmx hd hw hs λv a w h' hf hw hs e=>k v h' hs e a w hf hw
theorem appB {α}{r:AW α}{T e sz by_:Nat}{z:List Value}{l xs:List α}{b2 T2 len2 sc:Nat}{news:List Value}{LL:Value→List HP}(hx:BW m X=some v) (hy:BW m Y=some (.slice (some ⟨b2,0,none⟩) len2 sc)) (he:LO P T=some (e,sz,by_,z)) (hrs:r.sz=sz)
  (hm:Bx b2 T2 news∈L) (hn:H9 S h r news xs) (hl2:len2=xs.length) (hmx:l.length+xs.length≤maxLen) (hby:(l.length+xs.length)*by_≤140737488355328) (hd:Nat.blt d n.1=true) (hs:St S L h) (rp:∀v',Ik L (OS r e v l) (OS r e v' (l++xs)) (LL v'))
  (k:∀v' h',St S (LL v') h'→Bg S h S h'→LF P ops Q rest B h' n ((d,v')::m)):LF P ops Q (⟨some d,.call ⟨.builtin .append,#[X,Y],#[T,T]⟩,ty,pos,af,none⟩::rest) B h n m:=
 λ_ _ hf hw=>Wx hf hx hy he hrs hm hn hl2 hmx hby hd hw hs rp λv' a w h' hf hw hs e=>k v' h' hs e a w hf hw
theorem bs {T e sz by_ len:Nat}{z cs:List Value}{parts:Array (Nat×Operand)}{pv:List (Nat×Value)}(he:LO P T=some (e,sz,by_,z)) (hp:parts.toList.mapM (VI m)=some pv)
  (hc:Im (Of sz len) (List.replicate len z).flatten pv=some cs) (hl0:Nat.blt 0 len=true) (hsm:Nat.ble (len*sz) 16777216=true) (hpl:∀p∈pv,p.1<len) (hd:Nat.blt d n.1=true) (hs:St S L h)
  (k:∀b h',St S (Bx b e cs::L) h'→Bg S h S h'→LF P ops Q rest B h' n ((d,.slice (some ⟨b,0,none⟩) len len)::m)):LF P ops Q (⟨some d,.buildSlice T len parts,ty,pos,af,none⟩::rest) B h n m:=
 λ_ _ hf hw=>Zc hf he hp hc hl0 hsm hd hw hs hpl λb a w h' hf hw hs e=>k b h' hs e a w hf hw
theorem call {f:Nat}{xs:Array Operand}{tys:Array TypeId}{args vs:List Value}{first cap:Array Value}{post:Value→(Nat→Prop)→Ac→Prop}
  (hX:BW m X=some (.func (.func f) first cap)) (hxs:xs.toList.mapM (BW m)=some args) (hvs:first.toList++args++cap.toList=vs) (hcb:Ar P f=true) (hd:Nat.blt d n.1=true) (hc:Bh P f vs.toArray S h post)
  (k:∀v S' h',Bg S h S' h'→post v S' h'→LF P ops Q rest B h' n ((d,v)::m)):LF P ops Q (⟨some d,.call ⟨.value X,xs,tys⟩,ty,pos,af,none⟩::rest) B h n m:=
 λ_ _ hf hw=>Tk hf hX hxs hvs hcb hd hw hc λv a w S' h' hf hw e p=>k v S' h' e p a w hf hw
end
end LF
end Go.Proofs.YtibidnaedddfdaaGreat
