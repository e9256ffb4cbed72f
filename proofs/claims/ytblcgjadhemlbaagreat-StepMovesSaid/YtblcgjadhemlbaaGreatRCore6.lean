import Derived.Test.YtblcgjadhemlbaaGreatRCore5
namespace Go.Proofs.YtblcgjadhemlbaaGreat
open Go.RowKit
abbrev SM:=List (Nat×Value)
def QF (P:Program) (ops:Array Oper) (C:World→Prop) (Q:Act→Prop) (l:List Oper) (n:FN) (m:SM):Prop:=∀a,Fr n a m→wpQuiet P ops C Q l a
def LF (P:Program) (ops:Array Oper) (Q:Exit→Act→World→Prop) (l:List Oper) (B:World) (h:Aw) (n:FN) (m:SM):Prop:=∀a w,Fr n a m→Wd B h w→wpList P ops Q l a w
def WF (P:Program) (ex:List (Nat×AP)) (R:AP) (cs:List Code) (N:AP) (B:World) (h:Aw) (n:FN) (m:SM):Prop:=∀a w,Fr n a m→Wd B h w→W P ex R cs N a w
section
variable {P:Program}{ex:List (Nat×AP)}{R N:AP}{cs:List Code}{B:World}{h:Aw}{n:FN}{m m':SM}{S:Nat→Prop}{L:List HP}
theorem jC (hs:Qw m m') (k:WF P ex R cs N B h n m'):WF P ex R cs N B h n m:=λa w hf hw=>k a w (hf.sub hs) hw
theorem AC {x y:Code}(k:WF P ex R (x::y::cs) N B h n m):WF P ex R (.seq x y::cs) N B h n m:=λa w hf hw=>bV (k a w hf hw)
theorem AQ (k:WF P ex R cs N B h n m):WF P ex R (.skip::cs) N B h n m:=λa w hf hw=>ZV (k a w hf hw)
theorem Ad (k:∀a w,Fr n a m→Wd B h w→R a w):WF P ex R (.ret::cs) N B h n m:=λa w hf hw=>bW (k a w hf hw)
theorem BC {i:Nat}{K:AP}(hk:Zt ex i=some K) (k:∀a w,Fr n a m→Wd B h w→K a w):WF P ex R (.exit i::cs) N B h n m:=λa w hf hw=>VS hk (k a w hf hw)
theorem WF.nil (k:∀a w,Fr n a m→Wd B h w→N a w):WF P ex R [] N B h n m:=λa w hf hw=>k a w hf hw
theorem aM {X b}{x y:Code}(hx:Bi m X=some (.bool b)) (h1:b=true→WF P ex R (x::cs) N B h n m) (h2:b=false→WF P ex R (y::cs) N B h n m):WF P ex R (.cond X x y::cs) N B h n m:=
 λa w hf hw=>iI hf hx (λe=>h1 e a w hf hw) λe=>h2 e a w hf hw
theorem XF {X}{x y:Code}(hx:Bi m X=some (.bool true)) (k:WF P ex R (x::cs) N B h n m):WF P ex R (.cond X x y::cs) N B h n m:=λa w hf hw=>bX hf hx (k a w hf hw)
theorem XG {X}{x y:Code}(hx:Bi m X=some (.bool false)) (k:WF P ex R (y::cs) N B h n m):WF P ex R (.cond X x y::cs) N B h n m:=λa w hf hw=>bY hf hx (k a w hf hw)
theorem BB {i:Nat}{c:Code}(k:WF P ((i,W P ex R cs N)::ex) R [c] (W P ex R cs N) B h n m):WF P ex R (.block i c::cs) N B h n m:=λa w hf hw=>Xc (k a w hf hw)
theorem Ge {c:Code}(I:AP) (h1:WF P ex R [c] I B h n m) (h2:∀a w,I a w→W P ex R cs N a w):WF P ex R (c::cs) N B h n m:=λa w hf hw=>bZ I (h1 a w hf hw) h2
theorem YO {c:Code}(I:Nat→AP) (T i₀:Nat) (h0:∀a w,Fr n a m→Wd B h w→I i₀ a w) (hT:∀i a w,I i a w→i≤T)
  (round:∀i a w,I i a w→W P ex R [c] (I (i+1)) a w):WF P ex R (.loop c::cs) N B h n m:=λa w hf hw=>ZX I T i₀ (h0 a w hf hw) hT round
theorem BZ {l:List Oper}{id:Nat}{draw:Bool}(hr:V2 P l draw) (k:QF P l.toArray (Wd B h) (λa=>∀w,Wd B h w→W P ex R cs N a w) l n m):WF P ex R (.region id l.toArray draw::cs) N B h n m:=
 λa _ hf hw=>iF hr hw (k a hf)
theorem Bq {l:List Oper}{id:Nat}{draw:Bool}(hr:V2 P l draw) (hs:St S L h) (k:QF P l.toArray (Cl B h) (λa=>∀w h',Wd B h' w→St S L h'→CA S h S h'→W P ex R cs N a w) l n m):WF P ex R (.region id l.toArray draw::cs) N B h n m:=
 λa _ hf hw=>iH hr hw hs (k a hf)
theorem D3 {l:List Oper}{id:Nat}(k:LF P l.toArray (Qx ex R (W P ex R cs N)) l B h n m):WF P ex R (.region id l.toArray false::cs) N B h n m:=
 λa w hf hw=>iG (k a w hf hw)
theorem AN {ops:Array Oper}{C}(hs:Qw m m') (k:WF P ex R cs N B h n m'):QF P ops C (λa=>∀w,Wd B h w→W P ex R cs N a w) [] n m:=λa hf w hw=>k a w (hf.sub hs) hw
theorem BM {ops:Array Oper}{C}(hs:Qw m m') (k:∀h',St S L h'→CA S h S h'→WF P ex R cs N B h' n m'):QF P ops C (λa=>∀w h',Wd B h' w→St S L h'→CA S h S h'→W P ex R cs N a w) [] n m:=
 λa hf w h' hw s e=>k h' s e a w (hf.sub hs) hw
theorem AZ {ops:Array Oper}(hs:Qw m m') (k:WF P ex R cs N B h n m'):LF P ops (Qx ex R (W P ex R cs N)) [] B h n m:=λa w hf hw=>dK (k a w (hf.sub hs) hw)
theorem AG {ops:Array Oper}{Q:Exit→Act→World→Prop}{l:List Oper}(j:Nat) (k:QF P ops (Wd B h) (λa=>∀w,Wd B h w→wpList P ops Q (l.drop j) a w) (l.take j) n m):LF P ops Q l B h n m:=λa _ hf hw=>l_q j hw (k a hf)
theorem AF {ops:Array Oper}{C}{Q:Exit→Act→World→Prop}{l:List Oper}(k:LF P ops Q l B h n m):QF P ops C (λa=>∀w,Wd B h w→wpList P ops Q l a w) [] n m:=λa hf w hw=>k a w hf hw
theorem BG {f fn c l S h post}(n:Nat) (hf:P.funcs[f]? =some fn) (hb:fn.body=some c) (hn:fn.ntmps=n) (hl:Nat.ble l.length n=true)
  (k:∀B,WF P [] (Rt P fn B S h post) [c] (Rt P fn B S h post) B h (n,[]) (Th 0 l)):CL P f l.toArray S h post:=
 CL.intro n hf hb hn (Nat.le_of_ble_eq_true hl) λB w a hw hf=>k B a w hf hw
end
section
variable {P:Program}{ops:Array Oper}{C:World→Prop}{Q:Act→Prop}{n:FN}{m m':SM}{rest:List Oper}
variable {d:Nat}{ty:TypeId}{pos:String}{af:Array Edge}{X Y:Operand}{t t1 t2:TypeId}{x y:Int}{kd:IntKind}{v p:Value}
theorem QF.nil (k:∀a,Fr n a m→Q a):QF P ops C Q [] n m:=λa hf=>k a hf
theorem jH {l:List Oper}(hs:Qw m m') (k:QF P ops C Q l n m'):QF P ops C Q l n m:=λa hf=>k a (hf.sub hs)
theorem XN {o:Oper}{j e:Nat}{b:Bool}(hg:o.guard=some (j,b)) (hj:(ops[j]?).bind (·.dst)=some e) (hb:lk m e=some (.bool b)) (k:QF P ops C Q ({ o with guard:=none}::rest) n m):QF P ops C Q (o::rest) n m:=
 λa hf=>iP hf hg hj hb (k a hf)
theorem gK {o:Oper}{j e:Nat}{b:Bool}(hg:o.guard=some (j,!b)) (hj:(ops[j]?).bind (·.dst)=some e) (hb:lk m e=some (.bool b)) (ho:o.dst=some d) (hd:Nat.blt d n.1=true) (k:QF P ops C Q rest n ((d,undef)::m)):QF P ops C Q (o::rest) n m:=
 λ_ hf=>iQ hf hg hj hb ho hd k
theorem bF (j:Nat) (m':SM) {l:List Oper}(h1:QF P ops C (λa=>Fr n a m') (l.take j) n m) (h2:QF P ops C Q (l.drop j) n m'):QF P ops C Q l n m:=
 λa hf=>UC j (λa=>Fr n a m') (h1 a hf) λa' hf'=>h2 a' hf'
theorem YY (hs:Qw m m'):QF P ops C (λa=>Fr n a m') [] n m:=λ_ hf=>hf.sub hs
theorem gI (hx:Bi m X=some v) (hd:Nat.blt d n.1=true) (k:QF P ops C Q rest n ((d,v)::m)):QF P ops C Q (⟨some d,.move X,ty,pos,af,none⟩::rest) n m:=λ_ hf=>iN hf hx hd k
theorem bG (hx:Bi m X=some v) (hd:Nat.blt d n.1=true) (k:QF P ops C Q rest n ((d,v)::m)):QF P ops C Q (⟨some d,.assign X,ty,pos,af,none⟩::rest) n m:=λ_ hf=>iS hf hx hd k
theorem Rx {c X Y:Operand}{b:Bool}(hc:Bi m c=some (.bool b)) (hx:Bi m (if b then X else Y)=some v) (hd:Nat.blt d n.1=true) (k:QF P ops C Q rest n ((d,v)::m)):QF P ops C Q (⟨some d,.pick c X Y,ty,pos,af,none⟩::rest) n m:=λ_ hf=>Zl hf hc hx hd k
theorem jK (hx:Bi m X=some (.int .i64 x)) (hy:Bi m Y=some (.int .i64 y)) (hd:Nat.blt d n.1=true) (hi:AH (x+y)) (k:QF P ops C Q rest n ((d,.int .i64 (x+y))::m)):QF P ops C Q (⟨some d,.binOp .add t1 X Y t2,ty,pos,af,none⟩::rest) n m:=λ_ hf=>dH hf hx hy hd hi k
theorem jI (hx:Bi m X=some (.int .i64 x)) (hy:Bi m Y=some (.int .i64 y)) (hd:Nat.blt d n.1=true) (hi:AH (x*y)) (k:QF P ops C Q rest n ((d,.int .i64 (x*y))::m)):QF P ops C Q (⟨some d,.binOp .mul t1 X Y t2,ty,pos,af,none⟩::rest) n m:=λ_ hf=>cQ hf hx hy hd hi k
theorem Yb (hx:Bi m X=some (.int .i64 x)) (hy:Bi m Y=some (.int .i64 y)) (hd:Nat.blt d n.1=true) (k:QF P ops C Q rest n ((d,.int .i64 (BD (x+y)))::m)):QF P ops C Q (⟨some d,.binOp .add t1 X Y t2,ty,pos,af,none⟩::rest) n m:=λ_ hf=>Zp hf hx hy hd k
theorem YQ (hx:Bi m X=some (.int .i64 x)) (hy:Bi m Y=some (.int .i64 y)) (hd:Nat.blt d n.1=true) (k:QF P ops C Q rest n ((d,.int .i64 (BD (x-y)))::m)):QF P ops C Q (⟨some d,.binOp .sub t1 X Y t2,ty,pos,af,none⟩::rest) n m:=λ_ hf=>Zk hf hx hy hd k
theorem Uh (hx:Bi m X=some (.int .i64 x)) (hy:Bi m Y=some (.int .i64 y)) (hd:Nat.blt d n.1=true) (k:QF P ops C Q rest n ((d,.int .i64 (BD (x*y)))::m)):QF P ops C Q (⟨some d,.binOp .mul t1 X Y t2,ty,pos,af,none⟩::rest) n m:=λ_ hf=>Zm hf hx hy hd k
theorem aT (hx:Bi m X=some (.int kd x)) (hy:Bi m Y=some (.int kd y)) (hd:Nat.blt d n.1=true) (k:QF P ops C Q rest n ((d,.bool (decide (x<y)))::m)):QF P ops C Q (⟨some d,.binOp .lss t1 X Y t2,ty,pos,af,none⟩::rest) n m:=λ_ hf=>cT hf hx hy hd k
theorem aV (hx:Bi m X=some (.int kd x)) (hy:Bi m Y=some (.int kd y)) (hd:Nat.blt d n.1=true) (k:QF P ops C Q rest n ((d,.bool (decide (x≤y)))::m)):QF P ops C Q (⟨some d,.binOp .leq t1 X Y t2,ty,pos,af,none⟩::rest) n m:=λ_ hf=>cU hf hx hy hd k
theorem aZ (hx:Bi m X=some (.int kd x)) (hy:Bi m Y=some (.int kd y)) (hd:Nat.blt d n.1=true) (k:QF P ops C Q rest n ((d,.bool (decide (y<x)))::m)):QF P ops C Q (⟨some d,.binOp .gtr t1 X Y t2,ty,pos,af,none⟩::rest) n m:=λ_ hf=>dC hf hx hy hd k
theorem bC (hx:Bi m X=some (.int kd x)) (hy:Bi m Y=some (.int kd y)) (hd:Nat.blt d n.1=true) (k:QF P ops C Q rest n ((d,.bool (decide (y≤x)))::m)):QF P ops C Q (⟨some d,.binOp .geq t1 X Y t2,ty,pos,af,none⟩::rest) n m:=λ_ hf=>dD hf hx hy hd k
theorem bE (hx:Bi m X=some (.int kd x)) (hy:Bi m Y=some (.int kd y)) (hd:Nat.blt d n.1=true) (k:QF P ops C Q rest n ((d,.bool (decide (x=y)))::m)):QF P ops C Q (⟨some d,.binOp .eql t1 X Y t2,ty,pos,af,none⟩::rest) n m:=λ_ hf=>dF hf hx hy hd k
theorem aS (hx:Bi m X=some (.int kd x)) (hy:Bi m Y=some (.int kd y)) (hd:Nat.blt d n.1=true) (k:QF P ops C Q rest n ((d,.bool (decide (x≠y)))::m)):QF P ops C Q (⟨some d,.binOp .neq t1 X Y t2,ty,pos,af,none⟩::rest) n m:=λ_ hf=>cP hf hx hy hd k
theorem aQ {b}(hx:Bi m X=some (.bool b)) (hd:Nat.blt d n.1=true) (k:QF P ops C Q rest n ((d,.bool (!b))::m)):QF P ops C Q (⟨some d,.unOp .not t1 X,ty,pos,af,none⟩::rest) n m:=λ_ hf=>cN hf hx hd k
theorem P7 {aty}(hx:Bi m X=some (.int kd x)) (hy:Bi m Y=some (.int kd y)) (hd:Nat.blt d n.1=true) (k:QF P ops C Q rest n ((d,.int kd (Max.max x y))::m)):QF P ops C Q (⟨some d,.call ⟨.builtin .max,#[X,Y],#[t1,t2]⟩,aty,pos,af,none⟩::rest) n m:=λ_ hf=>cS hf hx hy hd k
theorem Ry {aty}(hx:Bi m X=some (.int kd x)) (hy:Bi m Y=some (.int kd y)) (hd:Nat.blt d n.1=true) (k:QF P ops C Q rest n ((d,.int kd (Min.min x y))::m)):QF P ops C Q (⟨some d,.call ⟨.builtin .min,#[X,Y],#[t1,t2]⟩,aty,pos,af,none⟩::rest) n m:=λ_ hf=>cR hf hx hy hd k
theorem HA {T:TypeId}{parts:Array (Nat×Operand)}{pl z pv cs}(hl:TN P T=some (pl,z)) (hp:parts.toList.mapM (Xr m)=some pv) (hc:K3 pl z pv=some cs) (hd:Nat.blt d n.1=true) (k:QF P ops C Q rest n ((d,.agg cs.toArray)::m)):QF P ops C Q (⟨some d,.build T parts,ty,pos,af,none⟩::rest) n m:=λ_ hf=>dG hf hl hp hc hd k
theorem aR {T:TypeId}{ks xs ys}(hx:Bi m X=some (.agg xs)) (hy:Bi m Y=some (.agg ys)) (hl:Zz P T=some ks) (h1:xs.toList.map Ko=ks) (h2:ys.toList.map Ko=ks) (h3:Nl xs.toList ys.toList=true) (hd:Nat.blt d n.1=true) (k:QF P ops C Q rest n ((d,.bool (!Wv xs.toList ys.toList))::m)):QF P ops C Q (⟨some d,.binOp .neq T X Y t2,ty,pos,af,none⟩::rest) n m:=λ_ hf=>cO hf hx hy hl h1 h2 h3 hd k
theorem XP {b o j off}(hx:Bi m X=some (.pointer (some ⟨b,o,none⟩))) (ht:FU P t j off=true) (hd:Nat.blt d n.1=true) (k:QF P ops C Q rest n ((d,.pointer (some ⟨b,o+off,none⟩))::m)):QF P ops C Q (⟨some d,.fieldAddr t X j,ty,pos,af,none⟩::rest) n m:=λ_ hf=>dE hf hx ht hd k
theorem M8 {ad len cap aty e sz}(hx:Bi m X=some (.slice ad len cap)) (ht:KW P t e sz=true) (hd:Nat.blt d n.1=true) (k:QF P ops C Q rest n ((d,.int .i64 len)::m)):QF P ops C Q (⟨some d,.call ⟨.builtin .len,#[X],#[t]⟩,aty,pos,af,none⟩::rest) n m:=λ_ hf=>Zn hf hx ht hd k
section
variable {A S:Nat→Prop}{L:List HP}{h:Aw}
theorem B8 {α}{r:AM α}{x}(ck:CK C h) (hA:∀b,A b→b<h.size) (hx:Bi m X=some p) (k0:Nd A S h r p x) (ht:IJ P t r.sz r.ag=true) (h1:r.ag=false→r.sz=1) (hd:Nat.blt d n.1=true)
  (k:∀v,Rd S h r v x→QF P ops C Q rest n ((d,v)::m)):QF P ops C Q (⟨some d,.load t X,ty,pos,af,none⟩::rest) n m:=λ_ hf=>V7 ck hA hf hx k0 ht h1 hd λv a hf hr=>k v hr a hf
theorem Af {x}(ck:CK C h) (hA:∀b,A b→b<h.size) (hx:Bi m X=some p) (k0:Nd A S h AM.int p x) (ht:IJ P t 1 false=true) (hd:Nat.blt d n.1=true)
  (k:AH x→QF P ops C Q rest n ((d,.int .i64 x)::m)):QF P ops C Q (⟨some d,.load t X,ty,pos,af,none⟩::rest) n m:=λ_ hf=>cZ ck hA hf hx k0 ht hd λa hf hi=>k hi a hf
theorem aW {x}(ck:CK C h) (hA:∀b,A b→b<h.size) (hx:Bi m X=some p) (k0:Nd A S h AM.bool p x) (ht:IJ P t 1 false=true) (hd:Nat.blt d n.1=true)
  (k:QF P ops C Q rest n ((d,.bool x)::m)):QF P ops C Q (⟨some d,.load t X,ty,pos,af,none⟩::rest) n m:=λ_ hf=>dB ck hA hf hx k0 ht hd k
theorem Rz {x}(ck:CK C h) (hA:∀b,A b→b<h.size) (hx:Bi m X=some p) (k0:Nd A S h AM.str p x) (ht:IJ P t 1 false=true) (hd:Nat.blt d n.1=true)
  (k:x.size≤maxLen→QF P ops C Q rest n ((d,.string x)::m)):QF P ops C Q (⟨some d,.load t X,ty,pos,af,none⟩::rest) n m:=λ_ hf=>cW ck hA hf hx k0 ht hd λa hf hi=>k hi a hf
theorem Ao {α}{r:AM α}{x}(ck:CK C h) (hA:∀b,A b→b<h.size) (hx:Bi m X=some p) (k0:Nd A S h r.sl p x) (ht:IJ P t 1 false=true) (hd:Nat.blt d n.1=true)
  (k:∀v,Sl S h r v x→QF P ops C Q rest n ((d,v)::m)):QF P ops C Q (⟨some d,.load t X,ty,pos,af,none⟩::rest) n m:=λ_ hf=>cY ck hA hf hx k0 ht hd λv a hf hr=>k v hr a hf
theorem Ae {α β}{r:AM α}{r':AM β}{f:α→β}{j off x}(hx:Bi m X=some p) (k0:Nd A S h r p x) (fl:E9 r off r' f) (ht:FU P t j off=true) (hd:Nat.blt d n.1=true)
  (k:∀q,Nd A S h r' q (f x)→QF P ops C Q rest n ((d,q)::m)):QF P ops C Q (⟨some d,.fieldAddr t X j,ty,pos,af,none⟩::rest) n m:=λ_ hf=>iR hf hx k0 fl ht hd λq a hf hr=>k q hr a hf
theorem gJ {α}{r:AM α}{l:List α}{e i x}(hx:Bi m X=some v) (hy:Bi m Y=some (.int .i64 i)) (k0:Sl S h r v l) (ht:KW P t e r.sz=true) (h0:0≤i) (hi:l[i.toNat]? =some x) (hd:Nat.blt d n.1=true)
  (k:∀q,Pt S h r q x→QF P ops C Q rest n ((d,q)::m)):QF P ops C Q (⟨some d,.indexAddr t X Y,ty,pos,af,none⟩::rest) n m:=λ_ hf=>iO hf hx hy k0 ht h0 hi hd λq a hf hr=>k q hr a hf
theorem aX {α}{r:AM α}{l:List α}{T e i x}(hs:St S L h) (hm:OS r T v l∈L) (hx:Bi m X=some v) (hy:Bi m Y=some (.int .i64 i)) (ht:KW P t e r.sz=true) (h0:0≤i) (hi:l[i.toNat]? =some x) (hd:Nat.blt d n.1=true)
  (k:∀q,Nd (λb=>b<h.size) S h r q x→EP v (i.toNat*r.sz) q→QF P ops C Q rest n ((d,q)::m)):QF P ops C Q (⟨some d,.indexAddr t X Y,ty,pos,af,none⟩::rest) n m:=by
 obtain⟨g,cap,rfl,k1⟩:=hs.osAt hm hi
 have hl:i.toNat<l.length:=(List.getElem?_eq_some_iff.1 hi).1
 have hadd:(⟨g,0,none⟩:Addr).add (i.toNat*r.sz)=⟨g,i.toNat*r.sz,none⟩:=by unfold Addr.add;split<;>simp_all
 intro a hf
 refine FV hf hd (λw _=>by simp [execOp,hf.eval hx,hf.eval hy,K2 (P:=P) (w:=w) (cap:=cap) (a:=⟨g,0,none⟩) ht h0 hl,hadd]) (k _ k1 ⟨g,_,_,rfl,rfl⟩)
theorem An {α}{r:AM α}{l:List α}{aty e}(hx:Bi m X=some v) (k0:Sl S h r v l) (ht:KW P t e r.sz=true) (hd:Nat.blt d n.1=true)
  (k:l.length≤maxLen→QF P ops C Q rest n ((d,.int .i64 l.length)::m)):QF P ops C Q (⟨some d,.call ⟨.builtin .len,#[X],#[t]⟩,aty,pos,af,none⟩::rest) n m:=λ_ hf=>cV hf hx k0 ht hd λa hf hi=>k hi a hf
theorem Kc {α}{r:AM α}{l:List α}{T aty e sz}(hs:St S L h) (hm:OS r T v l∈L) (hx:Bi m X=some v) (ht:KW P t e sz=true) (hd:Nat.blt d n.1=true)
  (k:l.length≤maxLen→QF P ops C Q rest n ((d,.int .i64 l.length)::m)):QF P ops C Q (⟨some d,.call ⟨.builtin .len,#[X],#[t]⟩,aty,pos,af,none⟩::rest) n m:=by
 obtain⟨ad,cap,rfl,hmx⟩:=hs.oslen hm
 exact M8 hx ht hd (k hmx)
theorem Db {T b o sz:Nat}{ag:Bool}{cs vs:List Value}(ck:CK C h) (hs:St S L h) (hx:Bi m X=some (.pointer (some ⟨b,o,none⟩))) (hm:Bx b T cs∈L) (hv:(cs.drop o).take sz=vs) (hl:Nat.beq vs.length sz=true) (ht:IJ P t sz ag=true) (h1:(ag||Nat.beq sz 1)=true) (hd:Nat.blt d n.1=true)
  (k:QF P ops C Q rest n ((d,if ag then .agg vs.toArray else vs.headD undef)::m)):QF P ops C Q (⟨some d,.load t X,ty,pos,af,none⟩::rest) n m:=λ_ hf=>cX ck hs hf hx hm hv hl ht h1 hd k
end
theorem YZ {f:Nat}{xs:Array Operand}{tys:Array TypeId}{args vs:List Value}{first cap:Array Value}{h B}
  (hX:Bi m X=some (.func (.func f) first cap)) (hxs:xs.toList.mapM (Bi m)=some args) (hvs:first.toList++args++cap.toList=vs) (hcb:BT P f=true) (hd:Nat.blt d n.1=true)
  (hc:∀h',E4 h h'→CL P f vs.toArray (λb=>b<h'.size) h' (λu _ _=>u=v))
  (k:QF P ops (Cl B h) Q rest n ((d,v)::m)):QF P ops (Cl B h) Q (⟨some d,.call ⟨.value X,xs,tys⟩,ty,pos,af,none⟩::rest) n m:=λ_ hf=>Zo hf hX hxs hvs hcb hd hc k
end
section
variable {P:Program}{ops:Array Oper}{Q:Exit→Act→World→Prop}{n:FN}{m:SM}{rest:List Oper}
variable {d:Nat}{ty:TypeId}{pos:String}{af:Array Edge}{X Y:Operand}{B:World}{h:Aw}{S:Nat→Prop}{L L2:List HP}{v:Value}
theorem P9 {T:TypeId}{cs:List Value}(hx:Bi m X=some v) (hc:v.cells=cs.toArray) (hd:Nat.blt d n.1=true) (hs:St S L h)
  (k:∀b h',St S (Bx b T cs::L) h'→CA S h S h'→LF P ops Q rest B h' n ((d,.pointer (some ⟨b,0,none⟩))::m)):LF P ops Q (⟨some d,.box T X,ty,pos,af,none⟩::rest) B h n m:=
 λ_ _ hf hw=>Y1 hf hx hc hd hw hs λb a w h' hf hw hs e=>k b h' hs e a w hf hw
theorem B4 {T:TypeId}{α}{r:AM α}{x:α}(hx:Bi m X=some v) (hr:Rd S h r v x) (h1:r.ag=false→r.sz=1) (hd:Nat.blt d n.1=true) (hs:St S L h)
  (k:∀p S' h',St S' L h'→CA S h S' h'→Pt S' h' r p x→LF P ops Q rest B h' n ((d,p)::m)):LF P ops Q (⟨some d,.box T X,ty,pos,af,none⟩::rest) B h n m:=
 λ_ _ hf hw=>Zu hf hx hr h1 hd hw hs λp a w S' h' hf hw hs e kp=>k p S' h' hs e kp a w hf hw
theorem Cp {T:TypeId}{cs:List Value}(hz:EI P T=some cs) (hd:Nat.blt d n.1=true) (hs:St S L h)
  (k:∀b h',St S (Bx b T cs::L) h'→CA S h S h'→LF P ops Q rest B h' n ((d,.pointer (some ⟨b,0,none⟩))::m)):LF P ops Q (⟨some d,.alloc T,ty,pos,af,none⟩::rest) B h n m:=
 λ_ _ hf hw=>iW hf hz hd hw hs λb a w h' hf hw hs e=>k b h' hs e a w hf hw
theorem G7 {T T':TypeId}{b o:Nat}{cs vs cs':List Value}{sz:Nat}{ag:Bool}(hx:Bi m X=some (.pointer (some ⟨b,o,none⟩))) (hy:Bi m Y=some v) (hv:v.cells=vs.toArray) (h1:∀u∈vs,u.oneCell'=true)
  (ht:IJ P T sz ag=true) (hsz:vs.length=sz) (hs:St S L h) (r:LG L (Bx b T' cs) (Bx b T' cs') L2) (hfit:Nat.ble (o+sz) cs.length=true) (hp:HZ cs o vs=cs')
  (k:∀h',St S L2 h'→CA S h S h'→LF P ops Q rest B h' n m):LF P ops Q (⟨none,.store T X Y,ty,pos,af,none⟩::rest) B h n m:=
 λ_ _ hf hw=>iT hf hx hy hv h1 ht hsz hfit hp hw hs r λa w h' hf hw hs e=>k h' hs e a w hf hw
theorem gO {α}{r:AM α}{T e sz by_:Nat}{z:List Value}{zx:α}{len cap:Nat}{kl kc:IntKind}{U V:Operand}(he:NF P T=some (e,sz,by_,z)) (hrs:r.sz=sz) (hz:r.rd S h z zx)
  (hx:Bi m U=some (.int kl (len:Nat))) (hy:Bi m V=some (.int kc (cap:Nat))) (hlc:len≤cap) (hby:by_*cap≤281474976710656) (hmx:cap≤maxLen) (hd:Nat.blt d n.1=true) (hs:St S L h)
  (k:∀v h',St S (OS r e v (List.replicate len zx)::L) h'→CA S h S h'→LF P ops Q rest B h' n ((d,v)::m)):LF P ops Q (⟨some d,.makeSlice T U V,ty,pos,af,none⟩::rest) B h n m:=
 λ_ _ hf hw=>iU hf he hrs hz hx hy hlc hby hmx hd hw hs λv a w h' hf hw hs e=>k v h' hs e a w hf hw
theorem Yg {α}{r:AM α}{T e sz by_:Nat}{z:List Value}{l xs:List α}{b2 T2 len2 sc:Nat}{news:List Value}{LL:Value→List HP}(hx:Bi m X=some v) (hy:Bi m Y=some (.slice (some ⟨b2,0,none⟩) len2 sc)) (he:NF P T=some (e,sz,by_,z)) (hrs:r.sz=sz)
  (hm:Bx b2 T2 news∈L) (hn:KU S h r news xs) (hl2:len2=xs.length) (hmx:l.length+xs.length≤maxLen) (hby:(l.length+xs.length)*by_≤140737488355328) (hd:Nat.blt d n.1=true) (hs:St S L h) (rp:∀v',LG L (OS r e v l) (OS r e v' (l++xs)) (LL v'))
  (k:∀v' h',St S (LL v') h'→CA S h S h'→LF P ops Q rest B h' n ((d,v')::m)):LF P ops Q (⟨some d,.call ⟨.builtin .append,#[X,Y],#[T,T]⟩,ty,pos,af,none⟩::rest) B h n m:=
 λ_ _ hf hw=>Zw hf hx hy he hrs hm hn hl2 hmx hby hd hw hs rp λv' a w h' hf hw hs e=>k v' h' hs e a w hf hw
theorem gP {T e sz by_ len:Nat}{z cs:List Value}{parts:Array (Nat×Operand)}{pv:List (Nat×Value)}(he:NF P T=some (e,sz,by_,z)) (hp:parts.toList.mapM (Xr m)=some pv)
  (hc:K3 (RO sz len) (List.replicate len z).flatten pv=some cs) (hl0:Nat.blt 0 len=true) (hsm:Nat.ble (len*sz) 16777216=true) (hpl:∀p∈pv,p.1<len) (hd:Nat.blt d n.1=true) (hs:St S L h)
  (k:∀b h',St S (Bx b e cs::L) h'→CA S h S h'→LF P ops Q rest B h' n ((d,.slice (some ⟨b,0,none⟩) len len)::m)):LF P ops Q (⟨some d,.buildSlice T len parts,ty,pos,af,none⟩::rest) B h n m:=
 λ_ _ hf hw=>iV hf he hp hc hl0 hsm hd hw hs hpl λb a w h' hf hw hs e=>k b h' hs e a w hf hw
theorem Cv {f:Nat}{xs:Array Operand}{tys:Array TypeId}{args vs:List Value}{first cap:Array Value}{post:Value→(Nat→Prop)→Aw→Prop}
  (hX:Bi m X=some (.func (.func f) first cap)) (hxs:xs.toList.mapM (Bi m)=some args) (hvs:first.toList++args++cap.toList=vs) (hcb:BT P f=true) (hd:Nat.blt d n.1=true) (hc:CL P f vs.toArray S h post)
  (k:∀v S' h',CA S h S' h'→post v S' h'→LF P ops Q rest B h' n ((d,v)::m)):LF P ops Q (⟨some d,.call ⟨.value X,xs,tys⟩,ty,pos,af,none⟩::rest) B h n m:=
 λ_ _ hf hw=>WI hf hX hxs hvs hcb hd hw hc λv a w S' h' hf hw e p=>k v S' h' e p a w hf hw
end
end Go.Proofs.YtblcgjadhemlbaaGreat
