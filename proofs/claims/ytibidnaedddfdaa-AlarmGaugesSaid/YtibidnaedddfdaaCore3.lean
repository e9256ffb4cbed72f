/- Control flow, calls, boxes, stores, struct values, over sparse frames and owned items. No function of the program. -/
import Derived.Test.YtibidnaedddfdaaCore2
import Derived.Deep.LoopGhost
namespace Go.Proofs.Ytibidnaedddfdaa
open Go.RowKit

/-! ### control -/
abbrev AP := Act → World → Prop
def lkE : List (Nat × AP) → Nat → Option AP
  | [], _ => none
  | (i, v) :: r, j => cond (Nat.beq i j) (some v) (lkE r j)

/-- What is asked at each exit: normal N; an exit to a block; a return R; all else never. -/
def Qx (ex : List (Nat × AP)) (R N : AP) : Exit → Act → World → Prop
  | .normal => N
  | .exit i => match lkE ex i with
    | some k => k
    | none => fun _ _ => False
  | .ret => R
  | _ => fun _ _ => False

def W (P : Program) (ex : List (Nat × AP)) (R : AP) : List Code → AP → AP
  | [], N => N
  | c :: cs, N => fun a w => c.wp P (Qx ex R (W P ex R cs N)) a w

section
variable {P : Program} {ex : List (Nat × AP)} {R N : AP} {cs : List Code} {a : Act} {w : World}

theorem w_nil (h : N a w) : W P ex R [] N a w := h
theorem w_seq {x y : Code} (h : W P ex R (x :: y :: cs) N a w) : W P ex R (.seq x y :: cs) N a w := by
  refine wp_seq (wp_mono h fun e a' w' q => ?_)
  cases e <;> exact q
theorem w_skip (h : W P ex R cs N a w) : W P ex R (.skip :: cs) N a w := wp_skip h
theorem w_ret (h : R a w) : W P ex R (.ret :: cs) N a w := wp_ret h
theorem w_exit {i : Nat} {k : AP} (hk : lkE ex i = some k) (h : k a w) : W P ex R (.exit i :: cs) N a w := by
  refine wp_exit ?_
  simp only [Qx, hk]
  exact h
theorem w_if {n m X b} {x y : Code} (hf : Fr n a m) (hx : lkO m X = some (.bool b)) (h1 : b = true → W P ex R (x :: cs) N a w) (h2 : b = false → W P ex R (y :: cs) N a w) :
    W P ex R (.cond X x y :: cs) N a w := wp_cond_split (hf.eval hx) h1 h2
theorem w_ifT {n m X} {x y : Code} (hf : Fr n a m) (hx : lkO m X = some (.bool true)) (h1 : W P ex R (x :: cs) N a w) :
    W P ex R (.cond X x y :: cs) N a w := wp_cond_true (hf.eval hx) h1
theorem w_ifF {n m X} {x y : Code} (hf : Fr n a m) (hx : lkO m X = some (.bool false)) (h1 : W P ex R (y :: cs) N a w) :
    W P ex R (.cond X x y :: cs) N a w := wp_cond_false (hf.eval hx) h1
theorem w_block {i : Nat} {c : Code} (h : W P ((i, W P ex R cs N) :: ex) R [c] (W P ex R cs N) a w) : W P ex R (.block i c :: cs) N a w := by
  refine wp_block (wp_mono h fun e a' w' q => ?_)
  cases e with
  | exit j =>
    simp only [Exit.inBlock, Qx, lkE] at q ⊢
    by_cases hj : j = i
    · subst hj
      rw [if_pos rfl]
      have : Nat.beq j j = true := by simp
      rw [this] at q
      exact q
    · rw [if_neg hj]
      have : Nat.beq i j = false := by
        cases hb : Nat.beq i j with
        | false => rfl
        | true => exact absurd (Nat.eq_of_beq_eq_true hb).symm hj
      rw [this] at q
      exact q
  | _ => exact q
theorem w_mono {N' : AP} (h : W P ex R cs N a w) (hn : ∀ a w, N a w → N' a w) : W P ex R cs N' a w := by
  induction cs generalizing a w with
  | nil => exact hn _ _ h
  | cons c cs ih =>
    refine wp_mono h fun e a' w' q => ?_
    cases e with
    | normal => exact ih q
    | _ => exact q
/-- Cut: the first codes lead to I, from I the others go on. -/
theorem w_cut {c : Code} (I : AP) (h1 : W P ex R [c] I a w) (h2 : ∀ a w, I a w → W P ex R cs N a w) : W P ex R (c :: cs) N a w := by
  refine wp_mono h1 fun e a' w' q => ?_
  cases e with
  | normal => exact h2 _ _ q
  | _ => exact q
theorem w_app {cs' : List Code} (h : W P ex R cs (W P ex R cs' N) a w) : W P ex R (cs ++ cs') N a w := by
  induction cs generalizing a w with
  | nil => exact h
  | cons c cs ih =>
    refine wp_mono h fun e a' w' q => ?_
    cases e with
    | normal => exact ih q
    | _ => exact q
/-- A loop whose rounds are counted upwards to a bound. -/
theorem w_loop {c : Code} (I : Nat → AP) (T i₀ : Nat) (h0 : I i₀ a w) (hT : ∀ i a w, I i a w → i ≤ T)
    (round : ∀ i a w, I i a w → W P ex R [c] (I (i + 1)) a w) : W P ex R (.loop c :: cs) N a w := by
  refine wp_loop_ghost (fun k a w => ∃ i, I i a w ∧ k = T - i + 1) (T - i₀ + 1) ⟨i₀, h0, rfl⟩ ?_
  rintro n a w ⟨i, hI, rfl⟩
  refine wp_mono (round i a w hI) fun e a' w' q => ?_
  cases e with
  | normal =>
    have h1 := hT _ _ _ hI
    have q' : I (i + 1) a' w' := q
    have h2 := hT _ _ _ q'
    exact ⟨_, by omega, i + 1, q', rfl⟩
  | exit id => exact q
  | goto l => exact q
  | ret => exact q
  | panic ch => exact q
  | outgrown => exact q
end

/-! ### regions -/
theorem qx_ofQuiet {P : Program} {ops : Array Oper} {C : World → Prop} {K : Act → Prop} {Q : Exit → Act → World → Prop} (hQ : ∀ a w, C w → K a → Q .normal a w) :
    ∀ (l : List Oper) (a : Act) (w : World), C w → wpQuiet P ops C K l a → wpList P ops Q l a w
  | [], a, w, hw, h => hQ a w hw h
  | o :: rest, a, w, hw, h => by
    unfold wpQuiet at h
    unfold wpList
    split
    · rename_i hg
      rw [if_pos hg] at h
      exact .inl (Oper.wp_of_quiet hw (fun a' w' hw' hK => qx_ofQuiet hQ rest a' w' hw' hK) h)
    · rename_i hg
      rw [if_neg hg] at h
      exact qx_ofQuiet hQ rest _ w hw h

def rgOK (P : Program) (l : List Oper) (draw : Bool) : Prop := draw = false ∨ (P.follows .mixedOrders = true ∧ Region.lexB .any l.toArray = true)

theorem rg_quiet {P : Program} {C : World → Prop} {l : List Oper} {id : Nat} {draw : Bool} {Q : Exit → Act → World → Prop} {a : Act} {w : World} (hr : rgOK P l draw) (hw : C w) (hd : ∀ w, C w → C { w with drawn := w.drawn + 1 })
    (h : wpQuiet P l.toArray C (fun a' => ∀ w', C w' → Q .normal a' w') l a) : (Code.region id l.toArray draw).wp P Q a w := by
  rcases hr with rfl | ⟨hm, hB⟩
  · exact wp_region_lit (qx_ofQuiet (fun a w hw hK => hK w hw) l a w hw h)
  · cases draw with
    | false => exact wp_region_lit (qx_ofQuiet (fun a w hw hK => hK w hw) l a w hw h)
    | true => exact wp_region_quiet hm hB (hd w hw) (by simpa using h)

theorem Wd.drew {B h w} (k : Wd B h w) : Wd B h { w with drawn := w.drawn + 1 } := ⟨k.heap, k.os, k.tape, k.out⟩

section
variable {P : Program} {ex : List (Nat × AP)} {R N : AP} {cs : List Code} {a : Act} {w : World} {B : World} {h : Heap} {l : List Oper} {id : Nat} {draw : Bool} {S : Nat → Prop} {L : List HP}
/-- A region that only reads. -/
theorem w_rp (hr : rgOK P l draw) (hw : Wd B h w) (k : wpQuiet P l.toArray (Wd B h) (fun a' => ∀ w', Wd B h w' → W P ex R cs N a' w') l a) : W P ex R (.region id l.toArray draw :: cs) N a w :=
  rg_quiet hr hw (fun _ => Wd.drew) k
/-- A region that reads, and calls functions of determined results. -/
theorem w_rc (hr : rgOK P l draw) (hw : Wd B h w) (hs : St S L h) (k : wpQuiet P l.toArray (Cl B h) (fun a' => ∀ w' h', Wd B h' w' → St S L h' → Ext S h S h' → W P ex R cs N a' w') l a) : W P ex R (.region id l.toArray draw :: cs) N a w := by
  refine rg_quiet (C := Cl B h) hr ⟨h, hw, Old.refl h⟩ (fun w ⟨h', k1, k2⟩ => ⟨h', k1.drew, k2⟩) ?_
  refine q_cut l.length (fun a' => ∀ w' h', Wd B h' w' → St S L h' → Ext S h S h' → W P ex R cs N a' w') (by simpa using k) fun a' ha => ?_
  simp only [List.drop_length]
  exact fun w' ⟨h', k1, k2⟩ => ha w' h' k1 (k2.st hs) (k2.ext hs.1)
/-- A region walked one operation after the other. -/
theorem w_rl (k : wpList P l.toArray (Qx ex R (W P ex R cs N)) l a w) : W P ex R (.region id l.toArray false :: cs) N a w := wp_region_lit k
end

theorem l_nil {P : Program} {ops : Array Oper} {ex : List (Nat × AP)} {R N : AP} {a : Act} {w : World} (h : N a w) : wpList P ops (Qx ex R N) [] a w := h
theorem l_take {P : Program} {ops : Array Oper} {Q : Exit → Act → World → Prop} : ∀ (k : Nat) (l : List Oper) (a : Act) (w : World),
    wpList P ops (Exit.then (wpList P ops Q (l.drop k)) Q) (l.take k) a w → wpList P ops Q l a w
  | 0, l, a, w, h => by simpa [wpList, Exit.then] using h
  | k + 1, [], a, w, h => by simpa [wpList, Exit.then] using h
  | k + 1, o :: l, a, w, h => by
    simp only [List.take_succ_cons, List.drop_succ_cons] at h
    unfold wpList at h ⊢
    split
    · rename_i hg
      rw [if_pos hg] at h
      rcases h with h1 | ⟨h1, a0, w0, h2⟩
      · refine .inl ?_
        unfold Oper.wp at h1 ⊢
        generalize (execOp a.eval o).run P w = r at h1
        cases r with
        | ok nx w' =>
          cases nx <;> simp only [Oper.upon] at h1 ⊢
          case value v => exact l_take k l _ _ h1
          case skip => exact l_take k l _ _ h1
          case defer d => exact l_take k l _ _ h1
          case enter f args =>
            refine h1.mono fun e w'' he => ?_
            cases e with
            | returned v => exact l_take k l _ _ he
            | panicked c => exact he
            | outgrown => obtain ⟨a0, w0, h0⟩ := he; exact ⟨a0, w0, h0⟩
          case row r args => obtain h1 := h1; exact Rows.mono h1 fun v w'' hv => l_take k l _ _ hv
        | halt x w' => cases x <;> simp only [Oper.upon] at h1 ⊢; exact h1
      · exact .inr ⟨h1, a0, w0, h2⟩
    · rename_i hg
      rw [if_neg hg] at h
      exact l_take k l _ _ h
/-- The next k operations only read. -/
theorem l_q {P : Program} {ops : Array Oper} {Q : Exit → Act → World → Prop} {l : List Oper} {a : Act} {w B : World} {h : Heap} (k : Nat) (hw : Wd B h w)
    (k1 : wpQuiet P ops (Wd B h) (fun a' => ∀ w', Wd B h w' → wpList P ops Q (l.drop k) a' w') (l.take k) a) : wpList P ops Q l a w :=
  l_take k l a w (qx_ofQuiet (Q := Exit.then (wpList P ops Q (l.drop k)) Q) (fun _ w hw hK => hK w hw) (l.take k) a w hw k1)

/-! ### calls -/
/-- The call of f returns; S and h grow to S' and h'; post of the value. -/
def Ret (P : Program) (f : FuncId) (args : Array Value) (S : Nat → Prop) (h : Heap) (post : Value → (Nat → Prop) → Heap → Prop) : Prop :=
  ∀ B w, Wd B h w → Calls P f args w fun e w' => ∃ v S' h', e = .returned v ∧ Wd B h' w' ∧ Ext S h S' h' ∧ post v S' h'

theorem Ret.mono {P f args S h} {post post' : Value → (Nat → Prop) → Heap → Prop} (k : Ret P f args S h post) (hp : ∀ v S' h', Ext S h S' h' → post v S' h' → post' v S' h') : Ret P f args S h post' :=
  fun B w hw => (k B w hw).mono fun _ _ ⟨v, S', h', h1, h2, h3, h4⟩ => ⟨v, S', h', h1, h2, h3, hp v S' h' h3 h4⟩

def argm : Nat → List Value → List (Nat × Value)
  | _, [] => []
  | i, v :: r => (i, v) :: argm (i + 1) r

theorem lk_argm : ∀ (l : List Value) (k i : Nat) (v : Value), lk (argm k l) i = some v → k ≤ i ∧ l[i - k]? = some v
  | [], k, i, v, h => by simp [argm, lk] at h
  | u :: r, k, i, v, h => by
    simp only [argm, lk] at h
    cases hb : Nat.beq k i with
    | true =>
      rw [hb] at h
      have := Nat.eq_of_beq_eq_true hb
      subst this
      simp only [cond_true, Option.some.injEq] at h
      exact ⟨Nat.le_refl _, by simpa using h⟩
    | false =>
      rw [hb] at h
      simp only [cond_false] at h
      obtain ⟨h1, h2⟩ := lk_argm r (k + 1) i v h
      refine ⟨by omega, ?_⟩
      have : i - k = (i - (k + 1)) + 1 := by omega
      rw [this]; simpa using h2

theorem Fr.args {n : Nat} {l : List Value} (h : l.length ≤ n) : Fr n ⟨l.toArray ++ Array.replicate (n - l.toArray.size) undef, []⟩ (argm 0 l) := by
  refine ⟨rfl, by simp; omega, fun i v hi => ?_⟩
  obtain ⟨_, h2⟩ := lk_argm l 0 i v hi
  have hlt : i < l.length := by have := (List.getElem?_eq_some_iff.1 h2).1; omega
  simp only [Nat.sub_zero] at h2
  rw [Array.getElem?_append_left (by simpa using hlt)]
  simpa using h2

/-- What is asked at the return of fn. -/
def Rt (P : Program) (fn : Func) (B : World) (S : Nat → Prop) (h : Heap) (post : Value → (Nat → Prop) → Heap → Prop) : AP := fun a w =>
  a.defers = [] ∧ ∃ v, (results fn a.tmps).run P w = .ok v w ∧ ∃ S' h', Wd B h' w ∧ Ext S h S' h' ∧ post v S' h'

theorem Ret.intro {P f fn c l S h post} (n : Nat) (hf : P.funcs[f]? = some fn) (hb : fn.body = some c) (hn : fn.ntmps = n) (hl : l.length ≤ n)
    (k : ∀ B w a, Wd B h w → Fr n a (argm 0 l) → W P [] (Rt P fn B S h post) [c] (Rt P fn B S h post) a w) : Ret P f l.toArray S h post := by
  intro B w hw
  subst hn
  refine calls_of_wp hf hb (wp_mono (k B w _ hw (Fr.args hl)) fun e a' w' q => ?_)
  cases e with
  | normal => obtain ⟨h1, v, h2, S', h', h3, h4, h5⟩ := q; exact ⟨h1, v, h2, v, S', h', rfl, h3, h4, h5⟩
  | ret => obtain ⟨h1, v, h2, S', h', h3, h4, h5⟩ := q; exact ⟨h1, v, h2, v, S', h', rfl, h3, h4, h5⟩
  | exit i => simp only [Qx, lkE] at q
  | goto l => exact q.elim
  | panic c => exact q.elim
  | outgrown => exact q.elim

section
variable {P : Program} {fn : Func} {B : World} {S S' : Nat → Prop} {h h' : Heap} {post : Value → (Nat → Prop) → Heap → Prop} {n : Nat} {a : Act} {m : List (Nat × Value)} {w : World}
theorem rt1 {t v} (hf : Fr n a m) (hr : fn.results = #[.tmp t]) (hv : lk m t = some v) (hw : Wd B h' w) (e : Ext S h S' h') (k : post v S' h') : Rt P fn B S h post a w := by
  refine ⟨hf.dfr, v, ?_, S', h', hw, e, k⟩
  rw [results_tmp hr]
  have := hf.eval (X := .tmp t) hv
  simp only [Act.eval] at this
  rw [this]
theorem rt0 (hf : Fr n a m) (hr : fn.results = #[]) (hw : Wd B h' w) (e : Ext S h S' h') (k : post (.tuple #[]) S' h') : Rt P fn B S h post a w :=
  ⟨hf.dfr, _, results_none hr _ _ _, S', h', hw, e, k⟩
theorem rt2 {t u x y} (hf : Fr n a m) (hr : fn.results = #[.tmp t, .tmp u]) (hx : lk m t = some x) (hy : lk m u = some y) (hw : Wd B h' w) (e : Ext S h S' h') (k : post (.tuple #[x, y]) S' h') : Rt P fn B S h post a w := by
  refine ⟨hf.dfr, .tuple #[x, y], ?_, S', h', hw, e, k⟩
  rw [results_tmp2 hr]
  have h1 := hf.eval (X := .tmp t) hx
  have h2 := hf.eval (X := .tmp u) hy
  simp only [Act.eval] at h1 h2
  rw [h1, h2]
end

theorem evals {n : Nat} {a : Act} {m : List (Nat × Value)} (hf : Fr n a m) {xs : Array Operand} {args : List Value} (hxs : xs.toList.mapM (lkO m) = some args) : xs.map a.eval = args.toArray := by
  obtain ⟨l⟩ := xs
  simp only at hxs
  have : l.map a.eval = args := by
    induction l generalizing args with
    | nil => simp at hxs; subst hxs; rfl
    | cons x l ih =>
      simp only [List.mapM_cons, Option.bind_eq_bind, Option.bind_eq_some_iff] at hxs
      obtain ⟨y, hy, ys, hys, hxy⟩ := hxs
      simp only [Option.pure_def, Option.some.injEq] at hxy
      subst hxy
      simp only [List.map_cons, hf.eval hy, ih hys]
  rw [← this]; simp

def callB (P : Program) (f : FuncId) : Bool :=
  match P.funcs[f]? with
  | some fn => !(fn.name == "runtime.NumGoroutine") && fn.body.isSome
  | none => false

theorem run_call {P : Program} {n : Nat} {a : Act} {m : List (Nat × Value)} {w : World} {d : Option Nat} {f : Nat} {ty : TypeId} {pos : String} {af : Array Edge} {X : Operand} {xs : Array Operand} {tys : Array TypeId}
    {args vs : List Value} {first cap : Array Value}
    (hf : Fr n a m) (hX : lkO m X = some (.func (.func f) first cap)) (hxs : xs.toList.mapM (lkO m) = some args) (hvs : first.toList ++ args ++ cap.toList = vs) (hcb : callB P f = true) :
    (execOp a.eval ⟨d, .call ⟨.value X, xs, tys⟩, ty, pos, af, none⟩).run P w = .ok (.enter f vs.toArray) w := by
  have hv : first ++ args.toArray ++ cap = vs.toArray := by
    rw [← hvs]; apply Array.ext'; simp
  unfold callB at hcb
  split at hcb
  · rename_i fn hfn
    simp only [Bool.and_eq_true, Bool.not_eq_true'] at hcb
    have hn : ¬ fn.name = "runtime.NumGoroutine" := by simpa using hcb.1
    have hb : ¬ fn.body = none := by intro h0; rw [h0] at hcb; simp at hcb
    simp only [execOp, resolve, hf.eval hX, Deferred.ofValue, evals hf hxs]
    simp [invoke, callFunc, hfn, hn, hb, hv]
  · cases hcb

/-- An operation that calls, walked in its place. -/
theorem l_call {P : Program} {ops : Array Oper} {Q : Exit → Act → World → Prop} {n : Nat} {a : Act} {m : List (Nat × Value)} {rest : List Oper} {d f : Nat} {ty : TypeId} {pos : String} {af : Array Edge} {X : Operand} {xs : Array Operand} {tys : Array TypeId}
    {args vs : List Value} {first cap : Array Value} {S h B w} {post : Value → (Nat → Prop) → Heap → Prop}
    (hf : Fr n a m) (hX : lkO m X = some (.func (.func f) first cap)) (hxs : xs.toList.mapM (lkO m) = some args) (hvs : first.toList ++ args ++ cap.toList = vs) (hcb : callB P f = true) (hd : Nat.blt d n = true)
    (hw : Wd B h w) (hc : Ret P f vs.toArray S h post)
    (k : ∀ v a w S' h', Fr n a ((d, v) :: m) → Wd B h' w → Ext S h S' h' → post v S' h' → wpList P ops Q rest a w) :
    wpList P ops Q (⟨some d, .call ⟨.value X, xs, tys⟩, ty, pos, af, none⟩ :: rest) a w := by
  refine wpList_plain rfl fun K hK => ?_
  unfold Oper.wp
  rw [run_call hf hX hxs hvs hcb]
  refine (hc B w hw).mono fun e w' ⟨v, S', h', h1, h2, h3, h4⟩ => ?_
  subst h1
  exact hK _ _ (k v _ w' S' h' (hf.put hd v) h2 h3 h4)
/-- The same, the result is not wanted. -/
theorem l_call0 {P : Program} {ops : Array Oper} {Q : Exit → Act → World → Prop} {n : Nat} {a : Act} {m : List (Nat × Value)} {rest : List Oper} {f : Nat} {ty : TypeId} {pos : String} {af : Array Edge} {X : Operand} {xs : Array Operand} {tys : Array TypeId}
    {args vs : List Value} {first cap : Array Value} {S h B w} {post : Value → (Nat → Prop) → Heap → Prop}
    (hf : Fr n a m) (hX : lkO m X = some (.func (.func f) first cap)) (hxs : xs.toList.mapM (lkO m) = some args) (hvs : first.toList ++ args ++ cap.toList = vs) (hcb : callB P f = true)
    (hw : Wd B h w) (hc : Ret P f vs.toArray S h post)
    (k : ∀ v a w S' h', Fr n a m → Wd B h' w → Ext S h S' h' → post v S' h' → wpList P ops Q rest a w) :
    wpList P ops Q (⟨none, .call ⟨.value X, xs, tys⟩, ty, pos, af, none⟩ :: rest) a w := by
  refine wpList_plain rfl fun K hK => ?_
  unfold Oper.wp
  rw [run_call hf hX hxs hvs hcb]
  refine (hc B w hw).mono fun e w' ⟨v, S', h', h1, h2, h3, h4⟩ => ?_
  subst h1
  exact hK _ _ (k v _ w' S' h' hf h2 h3 h4)

/-- A call of determined value, in a region that only reads else. -/
theorem q_call {P : Program} {ops : Array Oper} {Q : Act → Prop} {n : Nat} {a : Act} {m : List (Nat × Value)} {rest : List Oper} {d f : Nat} {ty : TypeId} {pos : String} {af : Array Edge} {X : Operand} {xs : Array Operand} {tys : Array TypeId}
    {args vs : List Value} {first cap : Array Value} {h B} {v : Value}
    (hf : Fr n a m) (hX : lkO m X = some (.func (.func f) first cap)) (hxs : xs.toList.mapM (lkO m) = some args) (hvs : first.toList ++ args ++ cap.toList = vs) (hcb : callB P f = true) (hd : Nat.blt d n = true)
    (hc : ∀ h', Old h h' → Ret P f vs.toArray (fun b => b < h'.size) h' (fun u _ _ => u = v))
    (k : ∀ a, Fr n a ((d, v) :: m) → wpQuiet P ops (Cl B h) Q rest a) :
    wpQuiet P ops (Cl B h) Q (⟨some d, .call ⟨.value X, xs, tys⟩, ty, pos, af, none⟩ :: rest) a := by
  unfold wpQuiet
  rw [if_pos (by simp [Region.wanted])]
  refine ⟨v, fun w ⟨h', hw, o⟩ => ?_, k _ (hf.put hd v)⟩
  unfold Oper.quietAt
  rw [run_call hf hX hxs hvs hcb]
  refine ⟨rfl, (hc h' o B w hw).mono fun en w' ⟨u, S'', h'', h1, h2, h3, h4⟩ => ?_⟩
  subst h1; subst h4
  exact ⟨rfl, h'', h2, o.trans ⟨h3.siz, fun b hb => h3.same b hb⟩⟩
/-- All blocks are stable, none is owned. -/
theorem St.all (h : Heap) : St (fun b => b < h.size) [] h := ⟨fun _ x => x, trivial⟩
end Go.Proofs.Ytibidnaedddfdaa
