/- The same laws with the frame inside the goal: what is known of the slots stands in the judgement, not in the context. No function of the program. -/
import Derived.Test.YtibidnaedddfdaaCore5
namespace Go.Proofs.Ytibidnaedddfdaa
open Go.RowKit

abbrev SM := List (Nat × Value)
def QF (P : Program) (ops : Array Oper) (C : World → Prop) (Q : Act → Prop) (l : List Oper) (n : Nat) (m : SM) : Prop := ∀ a, Fr n a m → wpQuiet P ops C Q l a
def LF (P : Program) (ops : Array Oper) (Q : Exit → Act → World → Prop) (l : List Oper) (B : World) (h : Heap) (n : Nat) (m : SM) : Prop := ∀ a w, Fr n a m → Wd B h w → wpList P ops Q l a w
def WF (P : Program) (ex : List (Nat × AP)) (R : AP) (cs : List Code) (N : AP) (B : World) (h : Heap) (n : Nat) (m : SM) : Prop := ∀ a w, Fr n a m → Wd B h w → W P ex R cs N a w

section
variable {P : Program} {ex : List (Nat × AP)} {R N : AP} {cs : List Code} {B : World} {h : Heap} {n : Nat} {m m' : SM} {S : Nat → Prop} {L : List HP}
namespace WF
theorem sub (hs : Sub m m') (k : WF P ex R cs N B h n m') : WF P ex R cs N B h n m := fun a w hf hw => k a w (hf.sub hs) hw
theorem seq {x y : Code} (k : WF P ex R (x :: y :: cs) N B h n m) : WF P ex R (.seq x y :: cs) N B h n m := fun a w hf hw => w_seq (k a w hf hw)
theorem skip (k : WF P ex R cs N B h n m) : WF P ex R (.skip :: cs) N B h n m := fun a w hf hw => w_skip (k a w hf hw)
theorem ret (k : ∀ a w, Fr n a m → Wd B h w → R a w) : WF P ex R (.ret :: cs) N B h n m := fun a w hf hw => w_ret (k a w hf hw)
theorem exit {i : Nat} {K : AP} (hk : lkE ex i = some K) (k : ∀ a w, Fr n a m → Wd B h w → K a w) : WF P ex R (.exit i :: cs) N B h n m := fun a w hf hw => w_exit hk (k a w hf hw)
theorem nil (k : ∀ a w, Fr n a m → Wd B h w → N a w) : WF P ex R [] N B h n m := fun a w hf hw => k a w hf hw
theorem if_ {X b} {x y : Code} (hx : lkO m X = some (.bool b)) (h1 : b = true → WF P ex R (x :: cs) N B h n m) (h2 : b = false → WF P ex R (y :: cs) N B h n m) : WF P ex R (.cond X x y :: cs) N B h n m :=
  fun a w hf hw => w_if hf hx (fun e => h1 e a w hf hw) fun e => h2 e a w hf hw
/-- An 'if' on a decided Prop. -/
theorem ifp {X} {p : Prop} [Decidable p] {x y : Code} (hx : lkO m X = some (.bool (decide p))) (h1 : p → WF P ex R (x :: cs) N B h n m) (h2 : ¬ p → WF P ex R (y :: cs) N B h n m) : WF P ex R (.cond X x y :: cs) N B h n m :=
  if_ hx (fun e => h1 (of_decide_eq_true e)) fun e => h2 (of_decide_eq_false e)
theorem ifT {X} {x y : Code} (hx : lkO m X = some (.bool true)) (k : WF P ex R (x :: cs) N B h n m) : WF P ex R (.cond X x y :: cs) N B h n m := fun a w hf hw => w_ifT hf hx (k a w hf hw)
theorem ifF {X} {x y : Code} (hx : lkO m X = some (.bool false)) (k : WF P ex R (y :: cs) N B h n m) : WF P ex R (.cond X x y :: cs) N B h n m := fun a w hf hw => w_ifF hf hx (k a w hf hw)
theorem block {i : Nat} {c : Code} (k : WF P ((i, W P ex R cs N) :: ex) R [c] (W P ex R cs N) B h n m) : WF P ex R (.block i c :: cs) N B h n m := fun a w hf hw => w_block (k a w hf hw)
theorem cut {c : Code} (I : AP) (h1 : WF P ex R [c] I B h n m) (h2 : ∀ a w, I a w → W P ex R cs N a w) : WF P ex R (c :: cs) N B h n m := fun a w hf hw => w_cut I (h1 a w hf hw) h2
theorem loop {c : Code} (I : Nat → AP) (T i₀ : Nat) (h0 : ∀ a w, Fr n a m → Wd B h w → I i₀ a w) (hT : ∀ i a w, I i a w → i ≤ T)
    (round : ∀ i a w, I i a w → W P ex R [c] (I (i + 1)) a w) : WF P ex R (.loop c :: cs) N B h n m := fun a w hf hw => w_loop I T i₀ (h0 a w hf hw) hT round
theorem rp {l : List Oper} {id : Nat} {draw : Bool} (hr : rgOK P l draw) (k : QF P l.toArray (Wd B h) (fun a => ∀ w, Wd B h w → W P ex R cs N a w) l n m) : WF P ex R (.region id l.toArray draw :: cs) N B h n m :=
  fun a _ hf hw => w_rp hr hw (k a hf)
theorem rc {l : List Oper} {id : Nat} {draw : Bool} (hr : rgOK P l draw) (hs : St S L h) (k : QF P l.toArray (Cl B h) (fun a => ∀ w h', Wd B h' w → St S L h' → Ext S h S h' → W P ex R cs N a w) l n m) : WF P ex R (.region id l.toArray draw :: cs) N B h n m :=
  fun a _ hf hw => w_rc hr hw hs (k a hf)
theorem rl {l : List Oper} {id : Nat} (k : LF P l.toArray (Qx ex R (W P ex R cs N)) l B h n m) : WF P ex R (.region id l.toArray false :: cs) N B h n m :=
  fun a w hf hw => w_rl (k a w hf hw)
end WF
theorem QF.rpn {ops : Array Oper} {C} (hs : Sub m m') (k : WF P ex R cs N B h n m') : QF P ops C (fun a => ∀ w, Wd B h w → W P ex R cs N a w) [] n m := fun a hf w hw => k a w (hf.sub hs) hw
theorem QF.rcn {ops : Array Oper} {C} (hs : Sub m m') (k : ∀ h', St S L h' → Ext S h S h' → WF P ex R cs N B h' n m') : QF P ops C (fun a => ∀ w h', Wd B h' w → St S L h' → Ext S h S h' → W P ex R cs N a w) [] n m :=
  fun a hf w h' hw s e => k h' s e a w (hf.sub hs) hw
theorem LF.nil {ops : Array Oper} (hs : Sub m m') (k : WF P ex R cs N B h n m') : LF P ops (Qx ex R (W P ex R cs N)) [] B h n m := fun a w hf hw => l_nil (k a w (hf.sub hs) hw)
theorem LF.q {ops : Array Oper} {Q : Exit → Act → World → Prop} {l : List Oper} (j : Nat) (k : QF P ops (Wd B h) (fun a => ∀ w, Wd B h w → wpList P ops Q (l.drop j) a w) (l.take j) n m) : LF P ops Q l B h n m := fun a _ hf hw => l_q j hw (k a hf)
theorem QF.ln {ops : Array Oper} {C} {Q : Exit → Act → World → Prop} {l : List Oper} (k : LF P ops Q l B h n m) : QF P ops C (fun a => ∀ w, Wd B h w → wpList P ops Q l a w) [] n m := fun a hf w hw => k a w hf hw
theorem Ret.go {f fn c l S h post} (n : Nat) (hf : P.funcs[f]? = some fn) (hb : fn.body = some c) (hn : fn.ntmps = n) (hl : Nat.ble l.length n = true)
    (k : ∀ B, WF P [] (Rt P fn B S h post) [c] (Rt P fn B S h post) B h n (argm 0 l)) : Ret P f l.toArray S h post :=
  Ret.intro n hf hb hn (Nat.le_of_ble_eq_true hl) fun B w a hw hf => k B a w hf hw
end

namespace QF
section
variable {P : Program} {ops : Array Oper} {C : World → Prop} {Q : Act → Prop} {n : Nat} {m m' : SM} {rest : List Oper}
variable {d : Nat} {ty : TypeId} {pos : String} {af : Array Edge} {X Y : Operand} {t t1 t2 : TypeId} {x y : Int} {kd : IntKind} {v p : Value}
theorem nil (k : ∀ a, Fr n a m → Q a) : QF P ops C Q [] n m := fun a hf => k a hf
theorem sub {l : List Oper} (hs : Sub m m') (k : QF P ops C Q l n m') : QF P ops C Q l n m := fun a hf => k a (hf.sub hs)
theorem gy {o : Oper} {j e : Nat} {b : Bool} (hg : o.guard = some (j, b)) (hj : (ops[j]?).bind (·.dst) = some e) (hb : lk m e = some (.bool b)) (k : QF P ops C Q ({ o with guard := none } :: rest) n m) : QF P ops C Q (o :: rest) n m :=
  fun a hf => q_gy hf hg hj hb (k a hf)
theorem gn {o : Oper} {j e : Nat} {b : Bool} (hg : o.guard = some (j, !b)) (hj : (ops[j]?).bind (·.dst) = some e) (hb : lk m e = some (.bool b)) (ho : o.dst = some d) (hd : Nat.blt d n = true) (k : QF P ops C Q rest n ((d, undef) :: m)) : QF P ops C Q (o :: rest) n m :=
  fun _ hf => q_gn hf hg hj hb ho hd k
/-- Cut: after j operations the slots are as in m'. -/
theorem cut (j : Nat) (m' : SM) {l : List Oper} (h1 : QF P ops C (fun a => Fr n a m') (l.take j) n m) (h2 : QF P ops C Q (l.drop j) n m') : QF P ops C Q l n m :=
  fun a hf => q_cut j (fun a => Fr n a m') (h1 a hf) fun a' hf' => h2 a' hf'
theorem cutn (hs : Sub m m') : QF P ops C (fun a => Fr n a m') [] n m := fun _ hf => hf.sub hs
theorem mv (hx : lkO m X = some v) (hd : Nat.blt d n = true) (k : QF P ops C Q rest n ((d, v) :: m)) : QF P ops C Q (⟨some d, .move X, ty, pos, af, none⟩ :: rest) n m := fun _ hf => q_mv hf hx hd k
theorem as_ (hx : lkO m X = some v) (hd : Nat.blt d n = true) (k : QF P ops C Q rest n ((d, v) :: m)) : QF P ops C Q (⟨some d, .assign X, ty, pos, af, none⟩ :: rest) n m := fun _ hf => q_as hf hx hd k
theorem pick {c X Y : Operand} {b : Bool} (hc : lkO m c = some (.bool b)) (hx : lkO m (if b then X else Y) = some v) (hd : Nat.blt d n = true) (k : QF P ops C Q rest n ((d, v) :: m)) : QF P ops C Q (⟨some d, .pick c X Y, ty, pos, af, none⟩ :: rest) n m := fun _ hf => q_pick hf hc hx hd k
theorem add (hx : lkO m X = some (.int .i64 x)) (hy : lkO m Y = some (.int .i64 y)) (hd : Nat.blt d n = true) (hi : inI64 (x + y)) (k : QF P ops C Q rest n ((d, .int .i64 (x + y)) :: m)) : QF P ops C Q (⟨some d, .binOp .add t1 X Y t2, ty, pos, af, none⟩ :: rest) n m := fun _ hf => q_add hf hx hy hd hi k
theorem sub_ (hx : lkO m X = some (.int .i64 x)) (hy : lkO m Y = some (.int .i64 y)) (hd : Nat.blt d n = true) (hi : inI64 (x - y)) (k : QF P ops C Q rest n ((d, .int .i64 (x - y)) :: m)) : QF P ops C Q (⟨some d, .binOp .sub t1 X Y t2, ty, pos, af, none⟩ :: rest) n m := fun _ hf => q_sub hf hx hy hd hi k
theorem mul (hx : lkO m X = some (.int .i64 x)) (hy : lkO m Y = some (.int .i64 y)) (hd : Nat.blt d n = true) (hi : inI64 (x * y)) (k : QF P ops C Q rest n ((d, .int .i64 (x * y)) :: m)) : QF P ops C Q (⟨some d, .binOp .mul t1 X Y t2, ty, pos, af, none⟩ :: rest) n m := fun _ hf => q_mul hf hx hy hd hi k
theorem addw (hx : lkO m X = some (.int .i64 x)) (hy : lkO m Y = some (.int .i64 y)) (hd : Nat.blt d n = true) (k : QF P ops C Q rest n ((d, .int .i64 (w64 (x + y))) :: m)) : QF P ops C Q (⟨some d, .binOp .add t1 X Y t2, ty, pos, af, none⟩ :: rest) n m := fun _ hf => q_addw hf hx hy hd k
theorem subw (hx : lkO m X = some (.int .i64 x)) (hy : lkO m Y = some (.int .i64 y)) (hd : Nat.blt d n = true) (k : QF P ops C Q rest n ((d, .int .i64 (w64 (x - y))) :: m)) : QF P ops C Q (⟨some d, .binOp .sub t1 X Y t2, ty, pos, af, none⟩ :: rest) n m := fun _ hf => q_subw hf hx hy hd k
theorem mulw (hx : lkO m X = some (.int .i64 x)) (hy : lkO m Y = some (.int .i64 y)) (hd : Nat.blt d n = true) (k : QF P ops C Q rest n ((d, .int .i64 (w64 (x * y))) :: m)) : QF P ops C Q (⟨some d, .binOp .mul t1 X Y t2, ty, pos, af, none⟩ :: rest) n m := fun _ hf => q_mulw hf hx hy hd k
theorem lss (hx : lkO m X = some (.int kd x)) (hy : lkO m Y = some (.int kd y)) (hd : Nat.blt d n = true) (k : QF P ops C Q rest n ((d, .bool (decide (x < y))) :: m)) : QF P ops C Q (⟨some d, .binOp .lss t1 X Y t2, ty, pos, af, none⟩ :: rest) n m := fun _ hf => q_lss hf hx hy hd k
theorem leq (hx : lkO m X = some (.int kd x)) (hy : lkO m Y = some (.int kd y)) (hd : Nat.blt d n = true) (k : QF P ops C Q rest n ((d, .bool (decide (x ≤ y))) :: m)) : QF P ops C Q (⟨some d, .binOp .leq t1 X Y t2, ty, pos, af, none⟩ :: rest) n m := fun _ hf => q_leq hf hx hy hd k
theorem gtr (hx : lkO m X = some (.int kd x)) (hy : lkO m Y = some (.int kd y)) (hd : Nat.blt d n = true) (k : QF P ops C Q rest n ((d, .bool (decide (y < x))) :: m)) : QF P ops C Q (⟨some d, .binOp .gtr t1 X Y t2, ty, pos, af, none⟩ :: rest) n m := fun _ hf => q_gtr hf hx hy hd k
theorem geq (hx : lkO m X = some (.int kd x)) (hy : lkO m Y = some (.int kd y)) (hd : Nat.blt d n = true) (k : QF P ops C Q rest n ((d, .bool (decide (y ≤ x))) :: m)) : QF P ops C Q (⟨some d, .binOp .geq t1 X Y t2, ty, pos, af, none⟩ :: rest) n m := fun _ hf => q_geq hf hx hy hd k
theorem eql (hx : lkO m X = some (.int kd x)) (hy : lkO m Y = some (.int kd y)) (hd : Nat.blt d n = true) (k : QF P ops C Q rest n ((d, .bool (decide (x = y))) :: m)) : QF P ops C Q (⟨some d, .binOp .eql t1 X Y t2, ty, pos, af, none⟩ :: rest) n m := fun _ hf => q_eql hf hx hy hd k
theorem neq (hx : lkO m X = some (.int kd x)) (hy : lkO m Y = some (.int kd y)) (hd : Nat.blt d n = true) (k : QF P ops C Q rest n ((d, .bool (decide (x ≠ y))) :: m)) : QF P ops C Q (⟨some d, .binOp .neq t1 X Y t2, ty, pos, af, none⟩ :: rest) n m := fun _ hf => q_neq hf hx hy hd k
theorem not {b} (hx : lkO m X = some (.bool b)) (hd : Nat.blt d n = true) (k : QF P ops C Q rest n ((d, .bool (!b)) :: m)) : QF P ops C Q (⟨some d, .unOp .not t1 X, ty, pos, af, none⟩ :: rest) n m := fun _ hf => q_not hf hx hd k
theorem negw (hx : lkO m X = some (.int .i64 x)) (hd : Nat.blt d n = true) (k : QF P ops C Q rest n ((d, .int .i64 (w64 (0 - x))) :: m)) : QF P ops C Q (⟨some d, .unOp .neg t1 X, ty, pos, af, none⟩ :: rest) n m := fun _ hf => q_negw hf hx hd k
theorem max {aty} (hx : lkO m X = some (.int kd x)) (hy : lkO m Y = some (.int kd y)) (hd : Nat.blt d n = true) (k : QF P ops C Q rest n ((d, .int kd (Max.max x y)) :: m)) : QF P ops C Q (⟨some d, .call ⟨.builtin .max, #[X, Y], #[t1, t2]⟩, aty, pos, af, none⟩ :: rest) n m := fun _ hf => q_max hf hx hy hd k
theorem min {aty} (hx : lkO m X = some (.int kd x)) (hy : lkO m Y = some (.int kd y)) (hd : Nat.blt d n = true) (k : QF P ops C Q rest n ((d, .int kd (Min.min x y)) :: m)) : QF P ops C Q (⟨some d, .call ⟨.builtin .min, #[X, Y], #[t1, t2]⟩, aty, pos, af, none⟩ :: rest) n m := fun _ hf => q_min hf hx hy hd k
theorem bld {T : TypeId} {parts : Array (Nat × Operand)} {pl z pv cs} (hl : stL P T = some (pl, z)) (hp : parts.toList.mapM (prt m) = some pv) (hc : fillV pl z pv = some cs) (hd : Nat.blt d n = true) (k : QF P ops C Q rest n ((d, .agg cs.toArray) :: m)) : QF P ops C Q (⟨some d, .build T parts, ty, pos, af, none⟩ :: rest) n m := fun _ hf => q_bld hf hl hp hc hd k
theorem eqs {T : TypeId} {ks xs ys} (hx : lkO m X = some (.agg xs)) (hy : lkO m Y = some (.agg ys)) (hl : flL P T = some ks) (h1 : xs.toList.map kindV = ks) (h2 : ys.toList.map kindV = ks) (h3 : sameK xs.toList ys.toList = true) (hd : Nat.blt d n = true) (k : QF P ops C Q rest n ((d, .bool (eqC xs.toList ys.toList)) :: m)) : QF P ops C Q (⟨some d, .binOp .eql T X Y t2, ty, pos, af, none⟩ :: rest) n m := fun _ hf => q_eqs hf hx hy hl h1 h2 h3 hd k
theorem nes {T : TypeId} {ks xs ys} (hx : lkO m X = some (.agg xs)) (hy : lkO m Y = some (.agg ys)) (hl : flL P T = some ks) (h1 : xs.toList.map kindV = ks) (h2 : ys.toList.map kindV = ks) (h3 : sameK xs.toList ys.toList = true) (hd : Nat.blt d n = true) (k : QF P ops C Q rest n ((d, .bool (!eqC xs.toList ys.toList)) :: m)) : QF P ops C Q (⟨some d, .binOp .neq T X Y t2, ty, pos, af, none⟩ :: rest) n m := fun _ hf => q_nes hf hx hy hl h1 h2 h3 hd k
theorem fao {b o j off} (hx : lkO m X = some (.pointer (some ⟨b, o, none⟩))) (ht : faB P t j off = true) (hd : Nat.blt d n = true) (k : QF P ops C Q rest n ((d, .pointer (some ⟨b, o + off, none⟩)) :: m)) : QF P ops C Q (⟨some d, .fieldAddr t X j, ty, pos, af, none⟩ :: rest) n m := fun _ hf => q_fao hf hx ht hd k
theorem lenr {ad len cap aty e sz} (hx : lkO m X = some (.slice ad len cap)) (ht : slB P t e sz = true) (hd : Nat.blt d n = true) (k : QF P ops C Q rest n ((d, .int .i64 len) :: m)) : QF P ops C Q (⟨some d, .call ⟨.builtin .len, #[X], #[t]⟩, aty, pos, af, none⟩ :: rest) n m := fun _ hf => q_lenr hf hx ht hd k
section
variable {A S : Nat → Prop} {L : List HP} {h : Heap}
theorem ld {α} {r : Rep α} {x} (ck : CK C h) (hA : ∀ b, A b → b < h.size) (hx : lkO m X = some p) (k0 : Pt2 A S h r p x) (ht : tyB P t r.sz r.ag = true) (h1 : r.ag = false → r.sz = 1) (hd : Nat.blt d n = true)
    (k : ∀ v, Rd S h r v x → QF P ops C Q rest n ((d, v) :: m)) : QF P ops C Q (⟨some d, .load t X, ty, pos, af, none⟩ :: rest) n m := fun _ hf => q_ld ck hA hf hx k0 ht h1 hd fun v a hf hr => k v hr a hf
theorem ldi {x} (ck : CK C h) (hA : ∀ b, A b → b < h.size) (hx : lkO m X = some p) (k0 : Pt2 A S h Rep.int p x) (ht : tyB P t 1 false = true) (hd : Nat.blt d n = true)
    (k : inI64 x → QF P ops C Q rest n ((d, .int .i64 x) :: m)) : QF P ops C Q (⟨some d, .load t X, ty, pos, af, none⟩ :: rest) n m := fun _ hf => q_ldi ck hA hf hx k0 ht hd fun a hf hi => k hi a hf
theorem ldb {x} (ck : CK C h) (hA : ∀ b, A b → b < h.size) (hx : lkO m X = some p) (k0 : Pt2 A S h Rep.bool p x) (ht : tyB P t 1 false = true) (hd : Nat.blt d n = true)
    (k : QF P ops C Q rest n ((d, .bool x) :: m)) : QF P ops C Q (⟨some d, .load t X, ty, pos, af, none⟩ :: rest) n m := fun _ hf => q_ldb ck hA hf hx k0 ht hd k
theorem lds {x} (ck : CK C h) (hA : ∀ b, A b → b < h.size) (hx : lkO m X = some p) (k0 : Pt2 A S h Rep.str p x) (ht : tyB P t 1 false = true) (hd : Nat.blt d n = true)
    (k : x.size ≤ maxLen → QF P ops C Q rest n ((d, .string x) :: m)) : QF P ops C Q (⟨some d, .load t X, ty, pos, af, none⟩ :: rest) n m := fun _ hf => q_lds ck hA hf hx k0 ht hd fun a hf hi => k hi a hf
theorem ldl {α} {r : Rep α} {x} (ck : CK C h) (hA : ∀ b, A b → b < h.size) (hx : lkO m X = some p) (k0 : Pt2 A S h r.sl p x) (ht : tyB P t 1 false = true) (hd : Nat.blt d n = true)
    (k : ∀ v, Sl S h r v x → QF P ops C Q rest n ((d, v) :: m)) : QF P ops C Q (⟨some d, .load t X, ty, pos, af, none⟩ :: rest) n m := fun _ hf => q_ldl ck hA hf hx k0 ht hd fun v a hf hr => k v hr a hf
theorem fa {α β} {r : Rep α} {r' : Rep β} {f : α → β} {j off x} (hx : lkO m X = some p) (k0 : Pt2 A S h r p x) (fl : Fld r off r' f) (ht : faB P t j off = true) (hd : Nat.blt d n = true)
    (k : ∀ q, Pt2 A S h r' q (f x) → QF P ops C Q rest n ((d, q) :: m)) : QF P ops C Q (⟨some d, .fieldAddr t X j, ty, pos, af, none⟩ :: rest) n m := fun _ hf => q_fa hf hx k0 fl ht hd fun q a hf hr => k q hr a hf
theorem ix {α} {r : Rep α} {l : List α} {e i x} (hx : lkO m X = some v) (hy : lkO m Y = some (.int .i64 i)) (k0 : Sl S h r v l) (ht : slB P t e r.sz = true) (h0 : 0 ≤ i) (hi : l[i.toNat]? = some x) (hd : Nat.blt d n = true)
    (k : ∀ q, Pt S h r q x → QF P ops C Q rest n ((d, q) :: m)) : QF P ops C Q (⟨some d, .indexAddr t X Y, ty, pos, af, none⟩ :: rest) n m := fun _ hf => q_ix hf hx hy k0 ht h0 hi hd fun q a hf hr => k q hr a hf
/-- an element of an owned slice -/
theorem ixo {α} {r : Rep α} {l : List α} {T e i x} (hs : St S L h) (hm : OS r T v l ∈ L) (hx : lkO m X = some v) (hy : lkO m Y = some (.int .i64 i)) (ht : slB P t e r.sz = true) (h0 : 0 ≤ i) (hi : l[i.toNat]? = some x) (hd : Nat.blt d n = true)
    (k : ∀ q, Pt2 (fun b => b < h.size) S h r q x → EP v (i.toNat * r.sz) q → QF P ops C Q rest n ((d, q) :: m)) : QF P ops C Q (⟨some d, .indexAddr t X Y, ty, pos, af, none⟩ :: rest) n m := by
  obtain ⟨g, cap, rfl, k1⟩ := hs.osAt hm hi
  have hl : i.toNat < l.length := (List.getElem?_eq_some_iff.1 hi).1
  have hadd : (⟨g, 0, none⟩ : Addr).add (i.toNat * r.sz) = ⟨g, i.toNat * r.sz, none⟩ := by unfold Addr.add; split <;> simp_all
  intro a hf
  refine q_gen hf hd (fun w _ => by simp [execOp, hf.eval hx, hf.eval hy, run_indexAt (P := P) (w := w) (cap := cap) (a := ⟨g, 0, none⟩) ht h0 hl, hadd]) (k _ k1 ⟨g, _, _, rfl, rfl⟩)
theorem len {α} {r : Rep α} {l : List α} {aty e} (hx : lkO m X = some v) (k0 : Sl S h r v l) (ht : slB P t e r.sz = true) (hd : Nat.blt d n = true)
    (k : l.length ≤ maxLen → QF P ops C Q rest n ((d, .int .i64 l.length) :: m)) : QF P ops C Q (⟨some d, .call ⟨.builtin .len, #[X], #[t]⟩, aty, pos, af, none⟩ :: rest) n m := fun _ hf => q_len hf hx k0 ht hd fun a hf hi => k hi a hf
theorem leno {α} {r : Rep α} {l : List α} {T aty e sz} (hs : St S L h) (hm : OS r T v l ∈ L) (hx : lkO m X = some v) (ht : slB P t e sz = true) (hd : Nat.blt d n = true)
    (k : l.length ≤ maxLen → QF P ops C Q rest n ((d, .int .i64 l.length) :: m)) : QF P ops C Q (⟨some d, .call ⟨.builtin .len, #[X], #[t]⟩, aty, pos, af, none⟩ :: rest) n m := by
  obtain ⟨ad, cap, rfl, hmx⟩ := hs.oslen hm
  exact lenr hx ht hd (k hmx)
theorem ldo {T b o sz : Nat} {ag : Bool} {cs vs : List Value} (ck : CK C h) (hs : St S L h) (hx : lkO m X = some (.pointer (some ⟨b, o, none⟩))) (hm : Bx b T cs ∈ L) (hv : (cs.drop o).take sz = vs) (hl : Nat.beq vs.length sz = true) (ht : tyB P t sz ag = true) (h1 : (ag || Nat.beq sz 1) = true) (hd : Nat.blt d n = true)
    (k : QF P ops C Q rest n ((d, if ag then .agg vs.toArray else vs.headD undef) :: m)) : QF P ops C Q (⟨some d, .load t X, ty, pos, af, none⟩ :: rest) n m := fun _ hf => q_ldo ck hs hf hx hm hv hl ht h1 hd k
end
theorem call {f : Nat} {xs : Array Operand} {tys : Array TypeId} {args vs : List Value} {first cap : Array Value} {h B}
    (hX : lkO m X = some (.func (.func f) first cap)) (hxs : xs.toList.mapM (lkO m) = some args) (hvs : first.toList ++ args ++ cap.toList = vs) (hcb : callB P f = true) (hd : Nat.blt d n = true)
    (hc : ∀ h', Old h h' → Ret P f vs.toArray (fun b => b < h'.size) h' (fun u _ _ => u = v))
    (k : QF P ops (Cl B h) Q rest n ((d, v) :: m)) : QF P ops (Cl B h) Q (⟨some d, .call ⟨.value X, xs, tys⟩, ty, pos, af, none⟩ :: rest) n m := fun _ hf => q_call hf hX hxs hvs hcb hd hc k
end
end QF

namespace LF
section
variable {P : Program} {ops : Array Oper} {Q : Exit → Act → World → Prop} {n : Nat} {m : SM} {rest : List Oper}
variable {d : Nat} {ty : TypeId} {pos : String} {af : Array Edge} {X Y : Operand} {B : World} {h : Heap} {S : Nat → Prop} {L L2 : List HP} {v : Value}
theorem box {T : TypeId} {cs : List Value} (hx : lkO m X = some v) (hc : v.cells = cs.toArray) (hd : Nat.blt d n = true) (hs : St S L h)
    (k : ∀ b h', St S (Bx b T cs :: L) h' → Ext S h S h' → LF P ops Q rest B h' n ((d, .pointer (some ⟨b, 0, none⟩)) :: m)) : LF P ops Q (⟨some d, .box T X, ty, pos, af, none⟩ :: rest) B h n m :=
  fun _ _ hf hw => l_box hf hx hc hd hw hs fun b a w h' hf hw hs e => k b h' hs e a w hf hw
theorem boxp {T : TypeId} {α} {r : Rep α} {x : α} (hx : lkO m X = some v) (hr : Rd S h r v x) (h1 : r.ag = false → r.sz = 1) (hd : Nat.blt d n = true) (hs : St S L h)
    (k : ∀ p S' h', St S' L h' → Ext S h S' h' → Pt S' h' r p x → LF P ops Q rest B h' n ((d, p) :: m)) : LF P ops Q (⟨some d, .box T X, ty, pos, af, none⟩ :: rest) B h n m :=
  fun _ _ hf hw => l_boxp hf hx hr h1 hd hw hs fun p a w S' h' hf hw hs e kp => k p S' h' hs e kp a w hf hw
theorem al {T : TypeId} {cs : List Value} (hz : zcells P T = some cs) (hd : Nat.blt d n = true) (hs : St S L h)
    (k : ∀ b h', St S (Bx b T cs :: L) h' → Ext S h S h' → LF P ops Q rest B h' n ((d, .pointer (some ⟨b, 0, none⟩)) :: m)) : LF P ops Q (⟨some d, .alloc T, ty, pos, af, none⟩ :: rest) B h n m :=
  fun _ _ hf hw => l_al hf hz hd hw hs fun b a w h' hf hw hs e => k b h' hs e a w hf hw
theorem st {T T' : TypeId} {b o : Nat} {cs vs cs' : List Value} {sz : Nat} {ag : Bool} (hx : lkO m X = some (.pointer (some ⟨b, o, none⟩))) (hy : lkO m Y = some v) (hv : v.cells = vs.toArray) (h1 : ∀ u ∈ vs, u.oneCell' = true)
    (ht : tyB P T sz ag = true) (hsz : vs.length = sz) (hs : St S L h) (r : Repl L (Bx b T' cs) (Bx b T' cs') L2) (hfit : Nat.ble (o + sz) cs.length = true) (hp : putC cs o vs = cs')
    (k : ∀ h', St S L2 h' → Ext S h S h' → LF P ops Q rest B h' n m) : LF P ops Q (⟨none, .store T X Y, ty, pos, af, none⟩ :: rest) B h n m :=
  fun _ _ hf hw => l_st hf hx hy hv h1 ht hsz hfit hp hw hs r fun a w h' hf hw hs e => k h' hs e a w hf hw
theorem mk {α} {r : Rep α} {T e sz by_ : Nat} {z : List Value} {zx : α} {len cap : Nat} {kl kc : IntKind} {U V : Operand} (he : elL P T = some (e, sz, by_, z)) (hrs : r.sz = sz) (hz : r.rd S h z zx)
    (hx : lkO m U = some (.int kl (len : Nat))) (hy : lkO m V = some (.int kc (cap : Nat))) (hlc : len ≤ cap) (hby : by_ * cap ≤ 281474976710656) (hmx : cap ≤ maxLen) (hd : Nat.blt d n = true) (hs : St S L h)
    (k : ∀ v h', St S (OS r e v (List.replicate len zx) :: L) h' → Ext S h S h' → LF P ops Q rest B h' n ((d, v) :: m)) : LF P ops Q (⟨some d, .makeSlice T U V, ty, pos, af, none⟩ :: rest) B h n m :=
  fun _ _ hf hw => l_mk hf he hrs hz hx hy hlc hby hmx hd hw hs fun v a w h' hf hw hs e => k v h' hs e a w hf hw
theorem appB {α} {r : Rep α} {T e sz by_ : Nat} {z : List Value} {l xs : List α} {b2 T2 len2 sc : Nat} {news : List Value} {LL : Value → List HP} (hx : lkO m X = some v) (hy : lkO m Y = some (.slice (some ⟨b2, 0, none⟩) len2 sc)) (he : elL P T = some (e, sz, by_, z)) (hrs : r.sz = sz)
    (hm : Bx b2 T2 news ∈ L) (hn : RdC S h r news xs) (hl2 : len2 = xs.length) (hmx : l.length + xs.length ≤ maxLen) (hby : (l.length + xs.length) * by_ ≤ 140737488355328) (hd : Nat.blt d n = true) (hs : St S L h) (rp : ∀ v', Repl L (OS r e v l) (OS r e v' (l ++ xs)) (LL v'))
    (k : ∀ v' h', St S (LL v') h' → Ext S h S h' → LF P ops Q rest B h' n ((d, v') :: m)) : LF P ops Q (⟨some d, .call ⟨.builtin .append, #[X, Y], #[T, T]⟩, ty, pos, af, none⟩ :: rest) B h n m :=
  fun _ _ hf hw => l_appB hf hx hy he hrs hm hn hl2 hmx hby hd hw hs rp fun v' a w h' hf hw hs e => k v' h' hs e a w hf hw
theorem bs {T e sz by_ len : Nat} {z cs : List Value} {parts : Array (Nat × Operand)} {pv : List (Nat × Value)} (he : elL P T = some (e, sz, by_, z)) (hp : parts.toList.mapM (prt m) = some pv)
    (hc : fillV (plcs sz len) (List.replicate len z).flatten pv = some cs) (hl0 : Nat.blt 0 len = true) (hsm : Nat.ble (len * sz) 16777216 = true) (hpl : ∀ p ∈ pv, p.1 < len) (hd : Nat.blt d n = true) (hs : St S L h)
    (k : ∀ b h', St S (Bx b e cs :: L) h' → Ext S h S h' → LF P ops Q rest B h' n ((d, .slice (some ⟨b, 0, none⟩) len len) :: m)) : LF P ops Q (⟨some d, .buildSlice T len parts, ty, pos, af, none⟩ :: rest) B h n m :=
  fun _ _ hf hw => l_bs hf he hp hc hl0 hsm hd hw hs hpl fun b a w h' hf hw hs e => k b h' hs e a w hf hw
theorem call {f : Nat} {xs : Array Operand} {tys : Array TypeId} {args vs : List Value} {first cap : Array Value} {post : Value → (Nat → Prop) → Heap → Prop}
    (hX : lkO m X = some (.func (.func f) first cap)) (hxs : xs.toList.mapM (lkO m) = some args) (hvs : first.toList ++ args ++ cap.toList = vs) (hcb : callB P f = true) (hd : Nat.blt d n = true) (hc : Ret P f vs.toArray S h post)
    (k : ∀ v S' h', Ext S h S' h' → post v S' h' → LF P ops Q rest B h' n ((d, v) :: m)) : LF P ops Q (⟨some d, .call ⟨.value X, xs, tys⟩, ty, pos, af, none⟩ :: rest) B h n m :=
  fun _ _ hf hw => l_call hf hX hxs hvs hcb hd hw hc fun v a w S' h' hf hw e p => k v S' h' e p a w hf hw
theorem call0 {f : Nat} {xs : Array Operand} {tys : Array TypeId} {args vs : List Value} {first cap : Array Value} {post : Value → (Nat → Prop) → Heap → Prop}
    (hX : lkO m X = some (.func (.func f) first cap)) (hxs : xs.toList.mapM (lkO m) = some args) (hvs : first.toList ++ args ++ cap.toList = vs) (hcb : callB P f = true) (hc : Ret P f vs.toArray S h post)
    (k : ∀ v S' h', Ext S h S' h' → post v S' h' → LF P ops Q rest B h' n m) : LF P ops Q (⟨none, .call ⟨.value X, xs, tys⟩, ty, pos, af, none⟩ :: rest) B h n m :=
  fun _ _ hf hw => l_call0 hf hX hxs hvs hcb hw hc fun v a w S' h' hf hw e p => k v S' h' e p a w hf hw
end
end LF
end Go.Proofs.Ytibidnaedddfdaa
