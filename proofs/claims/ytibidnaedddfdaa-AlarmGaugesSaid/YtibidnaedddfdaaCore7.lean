/- Small bridges for the written walks: indexes, results, exits. No function of the program. -/
import Derived.Test.YtibidnaedddfdaaCore6
namespace Go.Proofs.Ytibidnaedddfdaa
open Go.RowKit

def gt {α} [Inhabited α] (l : List α) (i : Int) : α := l.getD i.toNat default
theorem gd {α} [Inhabited α] {l : List α} {i : Int} (h0 : 0 ≤ i) (h : i < (l.length : Int)) : l[i.toNat]? = some (gt l i) := by
  have : i.toNat < l.length := by omega
  simp [gt, List.getD, List.getElem?_eq_getElem this]
theorem gt_nat {α} [Inhabited α] {l : List α} {i : Nat} : gt l (i : Int) = l.getD i default := by simp [gt]
instance : Inhabited ByteArray := ⟨.empty⟩

theorem Sl.one {α S h} {r : Rep α} {v l} (k : Sl S h r v l) : v.oneCell' = true := by
  rcases k with ⟨rfl, _⟩ | ⟨a, c, rfl, _⟩ <;> rfl

section
variable {P : Program} {ex ex' : List (Nat × AP)} {R N N' : AP} {cs cs' : List Code} {B : World} {h : Heap} {n : Nat} {m m' : SM} {S : Nat → Prop} {L : List HP}
theorem WF.exitW {i : Nat} (hk : lkE ex i = some (W P ex' R cs' N')) (k : WF P ex' R cs' N' B h n m) : WF P ex R (.exit i :: cs) N B h n m := fun a w hf hw => w_exit hk (k a w hf hw)
theorem WF.nilW (k : WF P ex' R cs' N' B h n m) : WF P ex R [] (W P ex' R cs' N') B h n m := fun a w hf hw => k a w hf hw
theorem WF.run {a w} (k : WF P ex R cs N B h n m) (hf : Fr n a m) (hw : Wd B h w) : W P ex R cs N a w := k a w hf hw
end

namespace QF
section
variable {P : Program} {ops : Array Oper} {C : World → Prop} {Q : Act → Prop} {n : Nat} {m m' : SM} {rest : List Oper}
variable {d : Nat} {ty : TypeId} {pos : String} {af : Array Edge} {X Y : Operand} {t t1 t2 : TypeId} {x y : Int} {kd : IntKind} {v p : Value} {A S : Nat → Prop} {L : List HP} {h : Heap}
theorem ixg {α} [Inhabited α] {r : Rep α} {l : List α} {e i} (hx : lkO m X = some v) (hy : lkO m Y = some (.int .i64 i)) (k0 : Sl S h r v l) (ht : slB P t e r.sz = true) (h0 : 0 ≤ i) (h1 : i < (l.length : Int)) (hd : Nat.blt d n = true)
    (k : ∀ q, Pt S h r q (gt l i) → QF P ops C Q rest n ((d, q) :: m)) : QF P ops C Q (⟨some d, .indexAddr t X Y, ty, pos, af, none⟩ :: rest) n m := ix hx hy k0 ht h0 (gd h0 h1) hd k
theorem ixog {α} [Inhabited α] {r : Rep α} {l : List α} {T e i} (hs : St S L h) (hm : OS r T v l ∈ L) (hx : lkO m X = some v) (hy : lkO m Y = some (.int .i64 i)) (ht : slB P t e r.sz = true) (h0 : 0 ≤ i) (h1 : i < (l.length : Int)) (hd : Nat.blt d n = true)
    (k : ∀ q, Pt2 (fun b => b < h.size) S h r q (gt l i) → EP v (i.toNat * r.sz) q → QF P ops C Q rest n ((d, q) :: m)) : QF P ops C Q (⟨some d, .indexAddr t X Y, ty, pos, af, none⟩ :: rest) n m := ixo hs hm hx hy ht h0 (gd h0 h1) hd k
/-- Cut behind j operations: one slot more is known. -/
theorem cutv (j d : Nat) (v : Value) {l : List Oper} (h1 : QF P ops C (fun a => Fr n a ((d, v) :: m)) (l.take j) n m) (h2 : QF P ops C Q (l.drop j) n ((d, v) :: m)) : QF P ops C Q l n m := cut j _ h1 h2
theorem gnu {o : Oper} {j e : Nat} {b : Bool} (hg : o.guard = some (j, b)) (hj : (ops[j]?).bind (·.dst) = some e) (hb : lk m e = some undef) (ho : o.dst = some d) (hd : Nat.blt d n = true) (k : QF P ops C Q rest n ((d, undef) :: m)) : QF P ops C Q (o :: rest) n m := by
  intro a hf
  have hw : Region.wanted o (yielded ops a.tmps) = false := by
    have := hf.at_ e _ hb
    simp [Region.wanted, hg, yielded, hj, this, undef]
  unfold wpQuiet
  rw [if_neg (by rw [hw]; exact Bool.false_ne_true), ho]
  exact k _ (hf.put hd _)
end
end QF

theorem sub_refl_aux : ∀ (m' m : SM), (∀ e ∈ m', lk m e.1 = some e.2) → Sub m m'
  | [], _, _ => trivial
  | e :: r, m, h => ⟨h e (by simp), sub_refl_aux r m fun e he => h e (by simp [he])⟩

/-! results -/
def RV (P : Program) (w : World) (a : Act) : ResultVar → Value → Prop
  | .tmp t, v => a.tmps.getD t undef = v
  | .cell t T, v => (do loadVar T (← asAddr (a.tmps.getD t undef)) : Sem Value).run P w = .ok v w
def RVs (P : Program) (w : World) (a : Act) : List ResultVar → List Value → Prop
  | [], [] => True
  | r :: rs, v :: vs => RV P w a r v ∧ RVs P w a rs vs
  | _, _ => False
def tupV : List Value → Value
  | [v] => v
  | vs => .tuple vs.toArray
theorem run_results {P : Program} {w : World} {a : Act} {fn : Func} {rs : List ResultVar} {vs : List Value} (hr : fn.results.toList = rs) (k : RVs P w a rs vs) : (results fn a.tmps).run P w = .ok (tupV vs) w := by
  have key : ∀ (rs : List ResultVar) (vs : List Value), RVs P w a rs vs → (rs.mapM fun r : ResultVar => (match r with
      | .tmp t => pure (a.tmps.getD t undef)
      | .cell c t => do loadVar t (← asAddr (a.tmps.getD c undef)) : Sem Value)).run P w = .ok vs w := by
    intro rs
    induction rs with
    | nil => intro vs k; cases vs with
      | nil => simp
      | cons _ _ => exact k.elim
    | cons r rs ih => intro vs k; cases vs with
      | nil => exact k.elim
      | cons v vs =>
        obtain ⟨k1, k2⟩ := k
        have h2 := ih vs k2
        cases r with
        | tmp t =>
          have k1 : a.tmps.getD t undef = v := k1
          simp only [List.mapM_cons, Sem.run_bind, Sem.run_pure, Result.andThen_ok, h2, k1]
        | cell c t =>
          have k1 : (do loadVar t (← asAddr (a.tmps.getD c undef)) : Sem Value).run P w = .ok v w := k1
          simp only [List.mapM_cons]
          rw [Sem.run_bind, k1]
          simp only [Result.andThen_ok, Sem.run_bind, h2, Sem.run_pure]
  have h1 := key rs vs k
  unfold results
  simp only [Array.mapM_eq_mapM_toList, hr, Sem.run_bind, Sem.run_map]
  refine (congrArg (fun x => (Result.andThen x fun a w' => Result.ok a.toArray w').andThen fun a w' => Sem.run P (pure (if h : a.size = 1 then a[0] else Value.tuple a)) w') h1).trans ?_
  clear h1 key k
  match vs with
  | [] => rfl
  | [v] => rfl
  | _ :: _ :: _ => rfl

section
variable {P : Program} {fn : Func} {B : World} {S S' : Nat → Prop} {h h' : Heap} {post : Value → (Nat → Prop) → Heap → Prop} {n : Nat} {a : Act} {m : SM} {w : World} {L : List HP}
theorem rvT {t v} (hf : Fr n a m) (hv : lk m t = some v) : RV P w a (.tmp t) v := by
  have := hf.eval (X := .tmp t) hv
  simpa [RV, Act.eval] using this
theorem rvC {t T b T' sz} {cs : List Value} (hf : Fr n a m) (hw : Wd B h w) (hs : St S L h) (hv : lk m t = some (.pointer (some ⟨b, 0, none⟩))) (hm : Bx b T' cs ∈ L) (ht : tyB P T sz true = true) (hl : cs.length = sz) : RV P w a (.cell t T) (.agg cs.toArray) := by
  obtain ⟨F, k1, _⟩ := hs.get hm
  have h1 := hf.eval (X := .tmp t) hv
  simp only [Act.eval] at h1
  have := run_loadAt (P := P) (w := w) (S := fun _ => True) (p := .pointer (some ⟨b, 0, none⟩)) (cs := cs) ⟨⟨b, 0, none⟩, rfl, rfl, trivial, fun j _ => by rw [hw.heap, Nat.zero_add, Bx.cell k1]⟩ hl ht (fun e => by cases e)
  simp only [Instr.loadAt, Instr.sureAddr, Sem.run_bind, Sem.run_pure, Result.andThen_ok, if_true] at this
  unfold RV
  simp only [h1, asAddr, Sem.run_bind, Sem.run_pure, Result.andThen_ok, this]
theorem rv0 : RVs P w a [] [] := trivial
theorem rvc {r v rs vs} (k : RV P w a r v) (ks : RVs P w a rs vs) : RVs P w a (r :: rs) (v :: vs) := ⟨k, ks⟩
theorem rtg {rs : List ResultVar} {vs : List Value} {v : Value} (hf : Fr n a m) (hr : fn.results.toList = rs) (hw : Wd B h' w) (k : RVs P w a rs vs) (hv : tupV vs = v) (e : Ext S h S' h') (kp : post v S' h') : Rt P fn B S h post a w :=
  ⟨hf.dfr, v, by rw [← hv]; exact run_results hr k, S', h', hw, e, kp⟩
end
theorem sb {m : SM} (k : Nat) {v : Value} {r : SM} (h : lk m k = some v) (s : Sub m r) : Sub m ((k, v) :: r) := ⟨h, s⟩
theorem sb0 {m : SM} : Sub m [] := trivial

section
variable {P : Program} {ex : List (Nat × AP)} {R N : AP} {cs : List Code} {B : World} {h : Heap} {n : Nat} {m m' : SM} {S : Nat → Prop} {L : List HP}
theorem QF.rp0 {ops : Array Oper} {C} (k : WF P ex R cs N B h n m) : QF P ops C (fun a => ∀ w, Wd B h w → W P ex R cs N a w) [] n m := fun a hf w hw => k a w hf hw
theorem QF.rc0 {ops : Array Oper} {C} (k : ∀ h', St S L h' → Ext S h S h' → WF P ex R cs N B h' n m) : QF P ops C (fun a => ∀ w h', Wd B h' w → St S L h' → Ext S h S h' → W P ex R cs N a w) [] n m :=
  fun a hf w h' hw s e => k h' s e a w hf hw
theorem LF.nil0 {ops : Array Oper} (k : WF P ex R cs N B h n m) : LF P ops (Qx ex R (W P ex R cs N)) [] B h n m := fun a w hf hw => l_nil (k a w hf hw)
/-- the arm of 'false' first -/
theorem WF.if_' {X b} {x y : Code} (hx : lkO m X = some (.bool b)) (h2 : b = false → WF P ex R (y :: cs) N B h n m) (h1 : b = true → WF P ex R (x :: cs) N B h n m) : WF P ex R (.cond X x y :: cs) N B h n m := WF.if_ hx h1 h2
theorem WF.ifp' {X} {p : Prop} [Decidable p] {x y : Code} (hx : lkO m X = some (.bool (decide p))) (h2 : ¬ p → WF P ex R (y :: cs) N B h n m) (h1 : p → WF P ex R (x :: cs) N B h n m) : WF P ex R (.cond X x y :: cs) N B h n m := WF.ifp hx h1 h2
end

theorem Ret.pure {P f args S h} {post : Value → (Nat → Prop) → Heap → Prop} (k : Ret P f args S h post) : ∃ v S' h', post v S' h' := by
  let w : World := { (default : World) with heap := h }
  obtain ⟨e, w', fr, ⟨v, S', h', _, _, _, hp⟩, _⟩ := k w w ⟨rfl, rfl, rfl, rfl⟩ []
  exact ⟨v, S', h', hp⟩
theorem QF.callp {P : Program} {ops : Array Oper} {Q : Act → Prop} {n : Nat} {m : SM} {rest : List Oper} {d : Nat} {ty : TypeId} {pos : String} {af : Array Edge} {X : Operand} {v : Value} {Ψ : Prop} {f : Nat} {xs : Array Operand} {tys : Array TypeId} {args vs : List Value} {first cap : Array Value} {h B}
    (hX : lkO m X = some (.func (.func f) first cap)) (hxs : xs.toList.mapM (lkO m) = some args) (hvs : first.toList ++ args ++ cap.toList = vs) (hcb : callB P f = true) (hd : Nat.blt d n = true)
    (hc : ∀ h', Old h h' → Ret P f vs.toArray (fun b => b < h'.size) h' (fun u _ _ => u = v ∧ Ψ))
    (k : Ψ → QF P ops (Cl B h) Q rest n ((d, v) :: m)) : QF P ops (Cl B h) Q (⟨some d, .call ⟨.value X, xs, tys⟩, ty, pos, af, none⟩ :: rest) n m := by
  obtain ⟨_, _, _, _, hΨ⟩ := (hc h (Old.refl h)).pure
  exact QF.call hX hxs hvs hcb hd (fun h' o => (hc h' o).mono fun _ _ _ _ p => p.1) (k hΨ)
namespace QF
section
variable {P : Program} {ops : Array Oper} {C : World → Prop} {Q : Act → Prop} {n : Nat} {m m' : SM} {rest : List Oper} {d : Nat}
theorem gnF {o : Oper} {j e : Nat} (hg : o.guard = some (j, true)) (hj : (ops[j]?).bind (·.dst) = some e) (hb : lk m e = some (.bool false)) (ho : o.dst = some d) (hd : Nat.blt d n = true) (k : QF P ops C Q rest n ((d, undef) :: m)) : QF P ops C Q (o :: rest) n m := gn (b := false) hg hj hb ho hd k
theorem gnT {o : Oper} {j e : Nat} (hg : o.guard = some (j, false)) (hj : (ops[j]?).bind (·.dst) = some e) (hb : lk m e = some (.bool true)) (ho : o.dst = some d) (hd : Nat.blt d n = true) (k : QF P ops C Q rest n ((d, undef) :: m)) : QF P ops C Q (o :: rest) n m := gn (b := true) hg hj hb ho hd k
end
end QF
theorem mh {α} {a : α} {l : List α} : a ∈ a :: l := List.Mem.head _
theorem mt {α} {a b : α} {l : List α} (h : a ∈ l) : a ∈ b :: l := List.Mem.tail _ h
theorem LF.app1 {P : Program} {ops : Array Oper} {Q : Exit → Act → World → Prop} {n : Nat} {m : SM} {rest : List Oper} {d : Nat} {ty : TypeId} {pos : String} {af : Array Edge} {X Y : Operand} {B : World} {h : Heap} {S : Nat → Prop} {L : List HP} {v : Value}
    {α} {r : Rep α} {T e sz by_ : Nat} {z : List Value} {l xs : List α} {b2 T2 len2 sc : Nat} {news : List Value} {LL : Value → List HP} (hx : lkO m X = some v) (hy : lkO m Y = some (.slice (some ⟨b2, 0, none⟩) len2 sc)) (he : elL P T = some (e, sz, by_, z)) (hrs : r.sz = sz)
    (hm : Bx b2 T2 news ∈ L) (hn : RdC S h r news xs) (hl2 : len2 = xs.length) (hpos : Nat.blt 0 by_ = true) (hby : (l.length + xs.length) * by_ ≤ 140737488355328) (hd : Nat.blt d n = true) (hs : St S L h) (rp : ∀ v', Repl L (OS r e v l) (OS r e v' (l ++ xs)) (LL v'))
    (k : ∀ v' h', St S (LL v') h' → Ext S h S h' → LF P ops Q rest B h' n ((d, v') :: m)) : LF P ops Q (⟨some d, .call ⟨.builtin .append, #[X, Y], #[T, T]⟩, ty, pos, af, none⟩ :: rest) B h n m := by
  have h1 : 1 ≤ by_ := by simpa [Nat.blt] using hpos
  have h2 : l.length + xs.length ≤ (l.length + xs.length) * by_ := Nat.le_mul_of_pos_right _ h1
  exact LF.appB hx hy he hrs hm hn hl2 (by unfold maxLen; omega) hby hd hs rp k
namespace QF
section
variable {P : Program} {ops : Array Oper} {C : World → Prop} {Q : Act → Prop} {n : Nat} {m m' : SM} {rest : List Oper} {d : Nat} {ty : TypeId} {pos : String} {af : Array Edge} {X Y Z : Operand} {t1 t2 t3 aty : TypeId} {x y z : Int} {kd : IntKind}
theorem max3 (hx : lkO m X = some (.int kd x)) (hy : lkO m Y = some (.int kd y)) (hz : lkO m Z = some (.int kd z)) (hd : Nat.blt d n = true) (k : QF P ops C Q rest n ((d, .int kd (Max.max (Max.max x y) z)) :: m)) : QF P ops C Q (⟨some d, .call ⟨.builtin .max, #[X, Y, Z], #[t1, t2, t3]⟩, aty, pos, af, none⟩ :: rest) n m :=
  fun a hf => q_gen hf hd (fun w _ => by
    have h1 : (if y > x then y else x) = Max.max x y := by rw [Int.max_def]; split <;> split <;> omega
    have h2 : (if z > Max.max x y then z else Max.max x y) = Max.max (Max.max x y) z := by rw [Int.max_def (Max.max x y)]; split <;> split <;> omega
    simp [execOp, resolve, invoke, builtin, Builtin.max_, Builtin.max2, hf.eval hx, hf.eval hy, hf.eval hz, h1, h2]) k
theorem min3 (hx : lkO m X = some (.int kd x)) (hy : lkO m Y = some (.int kd y)) (hz : lkO m Z = some (.int kd z)) (hd : Nat.blt d n = true) (k : QF P ops C Q rest n ((d, .int kd (Min.min (Min.min x y) z)) :: m)) : QF P ops C Q (⟨some d, .call ⟨.builtin .min, #[X, Y, Z], #[t1, t2, t3]⟩, aty, pos, af, none⟩ :: rest) n m :=
  fun a hf => q_gen hf hd (fun w _ => by
    have h1 : (if y < x then y else x) = Min.min x y := by rw [Int.min_def]; split <;> split <;> omega
    have h2 : (if z < Min.min x y then z else Min.min x y) = Min.min (Min.min x y) z := by rw [Int.min_def (Min.min x y)]; split <;> split <;> omega
    simp [execOp, resolve, invoke, builtin, Builtin.min_, Builtin.min2, hf.eval hx, hf.eval hy, hf.eval hz, h1, h2]) k
theorem eqb {X Y : Operand} {t1 t2 : TypeId} {a b : Bool} (hx : lkO m X = some (.bool a)) (hy : lkO m Y = some (.bool b)) (hu : P.underlying t1 = some .bool) (hd : Nat.blt d n = true) (k : QF P ops C Q rest n ((d, .bool (a == b)) :: m)) : QF P ops C Q (⟨some d, .binOp .eql t1 X Y t2, ty, pos, af, none⟩ :: rest) n m :=
  fun _ hf => q_gen hf hd (fun w _ => by
    have h1 : (eqGuard .eql t1 X Y (.bool a) (.bool b)).run P w = .ok () w := by unfold eqGuard; simp
    have h2 : (Op.equal t1 (.bool a) (.bool b)).run P w = .ok (a == b) w := run_equalIn_bool' w 9999 t1 a b hu
    simp [execOp, hf.eval hx, hf.eval hy, h1, binOp, h2]) k
theorem neb {X Y : Operand} {t1 t2 : TypeId} {a b : Bool} (hx : lkO m X = some (.bool a)) (hy : lkO m Y = some (.bool b)) (hu : P.underlying t1 = some .bool) (hd : Nat.blt d n = true) (k : QF P ops C Q rest n ((d, .bool (!(a == b))) :: m)) : QF P ops C Q (⟨some d, .binOp .neq t1 X Y t2, ty, pos, af, none⟩ :: rest) n m :=
  fun _ hf => q_gen hf hd (fun w _ => by
    have h1 : (eqGuard .neq t1 X Y (.bool a) (.bool b)).run P w = .ok () w := by unfold eqGuard; simp
    have h2 : (Op.equal t1 (.bool a) (.bool b)).run P w = .ok (a == b) w := run_equalIn_bool' w 9999 t1 a b hu
    simp [execOp, hf.eval hx, hf.eval hy, h1, binOp, h2]) k
theorem eqstr {X Y : Operand} {t1 t2 : TypeId} {a b : ByteArray} (hx : lkO m X = some (.string a)) (hy : lkO m Y = some (.string b)) (hd : Nat.blt d n = true) (k : QF P ops C Q rest n ((d, .bool (a == b)) :: m)) : QF P ops C Q (⟨some d, .binOp .eql t1 X Y t2, ty, pos, af, none⟩ :: rest) n m :=
  fun _ hf => q_gen hf hd (fun w _ => by
    have h1 : (eqGuard .eql t1 X Y (.string a) (.string b)).run P w = .ok () w := by unfold eqGuard; simp
    simp [execOp, hf.eval hx, hf.eval hy, h1, binOp, Op.stringOp, beq_toListBytes]) k
theorem nestr {X Y : Operand} {t1 t2 : TypeId} {a b : ByteArray} (hx : lkO m X = some (.string a)) (hy : lkO m Y = some (.string b)) (hd : Nat.blt d n = true) (k : QF P ops C Q rest n ((d, .bool (!(a == b))) :: m)) : QF P ops C Q (⟨some d, .binOp .neq t1 X Y t2, ty, pos, af, none⟩ :: rest) n m :=
  fun _ hf => q_gen hf hd (fun w _ => by
    have h1 : (eqGuard .neq t1 X Y (.string a) (.string b)).run P w = .ok () w := by unfold eqGuard; simp
    simp [execOp, hf.eval hx, hf.eval hy, h1, binOp, Op.stringOp, beq_toListBytes]) k
theorem lens {X : Operand} {t1 : TypeId} {s : ByteArray} (hx : lkO m X = some (.string s)) (hu : P.underlying t1 = some .string) (hd : Nat.blt d n = true) (k : QF P ops C Q rest n ((d, .int .i64 s.size) :: m)) : QF P ops C Q (⟨some d, .call ⟨.builtin .len, #[X], #[t1]⟩, aty, pos, af, none⟩ :: rest) n m :=
  fun _ hf => q_gen hf hd (fun w _ => by simp [execOp, resolve, invoke, builtin, Builtin.len_, hf.eval hx, run_underlying hu, goInt]) k
end
end QF
end Go.Proofs.Ytibidnaedddfdaa
