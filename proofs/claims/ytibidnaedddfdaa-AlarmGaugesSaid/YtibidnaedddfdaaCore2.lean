/- The operations that only read: their laws for a region's lexical walk over sparse frames. No function of the program. -/
import Derived.Test.YtibidnaedddfdaaCore1
namespace Go.Proofs.Ytibidnaedddfdaa
open Go.RowKit

abbrev w64 (n : Int) : Int := IntKind.i64.wrap n
theorem w64_in {n : Int} (h : inI64 n) : w64 n = n := IntWalk.i64_in n h
theorem w64_i (n : Int) : inI64 (w64 n) := by
  unfold w64 inI64; rw [IntKind.wrap_i64]; omega

theorem int_beq (x y : Int) : (x == y) = decide (x = y) := by rw [Bool.eq_iff_iff]; simp

/-! facts on types, as Bools -/
def aggD : TypeDesc → Bool
  | .struct _ | .array _ _ => true
  | _ => false
def tyB (P : Program) (t : TypeId) (sz : Nat) (ag : Bool) : Bool :=
  match P.info? t, P.underlying t with
  | some i, some d => Nat.beq i.size sz && (match d with | .struct _ | .array _ _ => ag | _ => !ag)
  | _, _ => false
/-- t is a slice of e, whose elements have sz > 0 cells. -/
def slB (P : Program) (t e sz : Nat) : Bool :=
  match P.underlying t, P.info? e with
  | some (.slice e'), some i => Nat.beq e' e && Nat.beq i.size sz && !Nat.beq sz 0
  | _, _ => false
def faB (P : Program) (t j off : Nat) : Bool :=
  match P.underlying t with
  | some (.struct fs) => match fs[j]? with
    | some f => Nat.beq f.offset off && (match P.info? f.type with | some i => !Nat.beq i.size 0 | none => false)
    | none => false
  | _ => false

theorem tyB_spec {P t sz ag} (h : tyB P t sz ag = true) : ∃ i d, P.info? t = some i ∧ P.underlying t = some d ∧ i.size = sz ∧ aggD d = ag := by
  unfold tyB at h
  split at h
  · rename_i i d hi hd
    simp only [Bool.and_eq_true] at h
    refine ⟨i, d, hi, hd, Nat.eq_of_beq_eq_true h.1, ?_⟩
    have h2 := h.2
    cases d <;> cases ag <;> simp_all [aggD]
  · cases h
theorem slB_spec {P t e sz} (h : slB P t e sz = true) : ∃ i, P.underlying t = some (.slice e) ∧ P.info? e = some i ∧ i.size = sz ∧ 0 < sz := by
  unfold slB at h
  split at h
  · rename_i e' i h1 h2
    simp only [Bool.and_eq_true, Bool.not_eq_true'] at h
    obtain ⟨⟨a, b⟩, c⟩ := h
    have ha := Nat.eq_of_beq_eq_true a
    subst ha
    refine ⟨i, h1, h2, Nat.eq_of_beq_eq_true b, ?_⟩
    cases sz with
    | zero => simp at c
    | succ n => exact Nat.succ_pos _
  · cases h
theorem faB_spec {P t j off} (h : faB P t j off = true) : ∃ fs f i, P.underlying t = some (.struct fs) ∧ fs[j]? = some f ∧ f.offset = off ∧ P.info? f.type = some i ∧ i.size ≠ 0 := by
  unfold faB at h
  split at h
  · rename_i fs h1
    split at h
    · rename_i f h2
      simp only [Bool.and_eq_true] at h
      have h3 := h.2
      split at h3
      · rename_i i h4
        refine ⟨fs, f, i, h1, h2, Nat.eq_of_beq_eq_true h.1, h4, fun h0 => ?_⟩
        rw [h0] at h3; simp at h3
      · cases h3
    · cases h
  · cases h

/-! runs -/
section
variable {P : Program} {w : World}
theorem run_under {t d} (h : P.underlying t = some d) : (underlying t).run P w = .ok d w := run_underlying h w
theorem run_sz {t : TypeId} {i : TypeInfo} (h : P.info? t = some i) : (sizeOf t).run P w = .ok i.size w := by simp [sizeOf, typeInfo, h]
theorem run_isAgg {t d} (h : P.underlying t = some d) : (isAgg t).run P w = .ok (aggD d) w := by
  simp only [isAgg, Sem.run_bind, run_underlying h, Result.andThen_ok]
  cases d <;> rfl

theorem run_loadAt {S : Nat → Prop} {p : Value} {cs : List Value} {t sz : Nat} {ag : Bool} (k : Cells S w.heap p cs) (hl : cs.length = sz) (ht : tyB P t sz ag = true) (h1 : ag = false → sz = 1) :
    (Instr.loadAt t p).run P w = .ok (if ag then .agg cs.toArray else cs.headD undef) w := by
  obtain ⟨a, rfl, h2, h3, h4⟩ := k
  obtain ⟨i, d, hi, hd, hs, hag⟩ := tyB_spec ht
  have hcell : ∀ j, j < cs.length → w.cell? (a.add j) = cs[j]? := fun j hj => by
    have := h4 j hj
    obtain ⟨b, o, s⟩ := a
    simp only at h2
    subst h2
    have hadd : (⟨b, o, none⟩ : Addr).add j = ⟨b, o + j, none⟩ := by unfold Addr.add; split <;> simp_all
    rw [hadd, hcell_world]; exact this
  simp only [Instr.loadAt, Instr.sureAddr, loadVar, Sem.run_bind, Sem.run_pure, Result.andThen_ok, run_isAgg hd, hag]
  cases ag with
  | true =>
    simp only [if_true, Sem.run_bind, run_sz hi, Result.andThen_ok, hs, ← hl]
    rw [run_loadCells_list (P := P) w a cs (fun j v hj => by
      have hlt : j < cs.length := (List.getElem?_eq_some_iff.1 hj).1
      rw [hcell j hlt, hj])]
    rfl
  | false =>
    have := h1 rfl
    have hc := hcell 0 (by omega)
    match cs, hl with
    | [c], _ =>
      have h0 : a.add 0 = a := by unfold Addr.add; simp
      rw [h0] at hc
      simp only [Bool.false_eq_true, if_false, load, Sem.run, hc]
      rfl
    | [], hl => simp at hl; omega
    | _ :: _ :: _, hl => simp at hl; omega

theorem run_fieldAt {a : Addr} {t j off} (h : faB P t j off = true) : (Instr.fieldAt t (.pointer (some a)) j).run P w = .ok (.pointer (some (a.add off))) w := by
  obtain ⟨fs, f, i, h1, h2, h3, h4, h5⟩ := faB_spec h
  simp [Instr.fieldAt, run_underlying h1, h2, Instr.sureAddr, fieldPlace, run_sz h4, h5, h3]

theorem run_indexAt {a : Addr} {t e sz len cap : Nat} {i : Int} (h : slB P t e sz = true) (h0 : 0 ≤ i) (h1 : i.toNat < len) :
    (Instr.indexAt t (.slice (some a) len cap) (.int .i64 i)).run P w = .ok (.pointer (some (a.add (i.toNat * sz)))) w := by
  obtain ⟨inf, h2, h3, h4, h5⟩ := slB_spec h
  have hlt : i < (len : Int) := by omega
  simp [Instr.indexAt, asIntOf, run_underlying h2, run_sz h3, h0, hlt, h4]
end

/-! ### the class of worlds of a region -/
/-- In every world of the class the blocks of h are as in h. -/
def CK (C : World → Prop) (h : Heap) : Prop := ∀ w, C w → ∀ b, b < h.size → w.heap[b]? = h[b]?
theorem ckP {B : World} {h} : CK (Wd B h) h := fun w hw _ _ => by rw [hw.heap]

structure Old (h h' : Heap) : Prop where
  siz : h.size ≤ h'.size
  same : ∀ b, b < h.size → h'[b]? = h[b]?
theorem Old.refl (h : Heap) : Old h h := ⟨Nat.le_refl _, fun _ _ => rfl⟩
theorem Old.trans {h h' h''} (x : Old h h') (y : Old h' h'') : Old h h'' := ⟨Nat.le_trans x.siz y.siz, fun b hb => (y.same b (Nat.lt_of_lt_of_le hb x.siz)).trans (x.same b hb)⟩
theorem Old.ext {S h h'} (o : Old h h') (hS : ∀ b, S b → b < h.size) : Ext S h S h' := ⟨fun _ x => x, fun b hb => o.same b (hS b hb), o.siz⟩
theorem Old.all {S h h'} (o : Old h h') (hS : ∀ b, S b → b < h.size) : Ext S h (fun b => b < h'.size) h' := ⟨fun b x => Nat.lt_of_lt_of_le (hS b x) o.siz, fun b hb => o.same b (hS b hb), o.siz⟩
theorem Old.st {S L h h'} (o : Old h h') (hs : St S L h) : St S L h' :=
  ⟨fun b hb => Nat.lt_of_lt_of_le (hs.1 b hb) o.siz, Sp.ext hs.2 (fun _ x => x) (fun b hb => o.same b (hb.elim (hs.1 b) (·.1))) fun _ hb => ⟨Nat.lt_of_lt_of_le hb.1 o.siz, hb.2⟩⟩

/-- The worlds that lie behind w by calls that only add. -/
def Cl (B : World) (h : Heap) (w : World) : Prop := ∃ h', Wd B h' w ∧ Old h h'
theorem ckC {B : World} {h} : CK (Cl B h) h := fun _ ⟨_, hw, o⟩ b hb => by rw [hw.heap]; exact o.same b hb

/-! ### the operations that only read -/
section
variable {P : Program} {ops : Array Oper} {C : World → Prop} {Q : Act → Prop} {n : Nat} {a : Act} {m : List (Nat × Value)} {rest : List Oper}
variable {d : Nat} {ty : TypeId} {pos : String} {af : Array Edge}

theorem q_gen {op : Op} {v : Value} (hf : Fr n a m) (hd : Nat.blt d n = true)
    (hrun : ∀ w, C w → (execOp a.eval ⟨some d, op, ty, pos, af, none⟩).run P w = .ok (.value v) w)
    (k : ∀ a, Fr n a ((d, v) :: m) → wpQuiet P ops C Q rest a) : wpQuiet P ops C Q (⟨some d, op, ty, pos, af, none⟩ :: rest) a := by
  unfold wpQuiet
  rw [if_pos (by simp [Region.wanted])]
  exact ⟨v, fun w hw => by unfold Oper.quietAt; rw [hrun w hw]; exact ⟨rfl, rfl⟩, k _ (hf.put hd v)⟩

theorem qe (h : ∀ a', Fr n a' m → Q a') (hf : Fr n a m) : wpQuiet P ops C Q [] a := h a hf

/-- A guarded operation whose guard holds. -/
theorem q_gy {o : Oper} {j e : Nat} {b : Bool} (hf : Fr n a m) (hg : o.guard = some (j, b)) (hj : (ops[j]?).bind (·.dst) = some e) (hb : lk m e = some (.bool b))
    (k : wpQuiet P ops C Q ({ o with guard := none } :: rest) a) : wpQuiet P ops C Q (o :: rest) a := by
  have hw : Region.wanted o (yielded ops a.tmps) = true := by
    have := hf.at_ e _ hb
    simp [Region.wanted, hg, yielded, hj, this]
  unfold wpQuiet at k ⊢
  rw [if_pos hw]
  rw [if_pos (by simp [Region.wanted])] at k
  exact k
/-- A guarded operation whose guard fails. -/
theorem q_gn {o : Oper} {j e : Nat} {b : Bool} (hf : Fr n a m) (hg : o.guard = some (j, !b)) (hj : (ops[j]?).bind (·.dst) = some e) (hb : lk m e = some (.bool b)) (ho : o.dst = some d) (hd : Nat.blt d n = true)
    (k : ∀ a, Fr n a ((d, undef) :: m) → wpQuiet P ops C Q rest a) : wpQuiet P ops C Q (o :: rest) a := by
  have hw : Region.wanted o (yielded ops a.tmps) = false := by
    have := hf.at_ e _ hb
    cases b <;> simp [Region.wanted, hg, yielded, hj, this]
  unfold wpQuiet
  rw [if_neg (by rw [hw]; exact Bool.false_ne_true), ho]
  exact k _ (hf.put hd _)

theorem q_cut (k : Nat) (I : Act → Prop) {l : List Oper} (h1 : wpQuiet P ops C I (l.take k) a) (h2 : ∀ a', I a' → wpQuiet P ops C Q (l.drop k) a') : wpQuiet P ops C Q l a := by
  induction k generalizing l a with
  | zero => exact h2 a (by simpa [wpQuiet] using h1)
  | succ k ih =>
    cases l with
    | nil => exact h2 a (by simpa [wpQuiet] using h1)
    | cons o l =>
      simp only [List.take_succ_cons, List.drop_succ_cons] at h1 h2
      unfold wpQuiet at h1 ⊢
      split
      · rename_i hw
        rw [if_pos hw] at h1
        obtain ⟨v, hv, hn⟩ := h1
        exact ⟨v, hv, ih hn h2⟩
      · rename_i hw
        rw [if_neg hw] at h1
        exact ih h1 h2

theorem q_mv {X v} (hf : Fr n a m) (hx : lkO m X = some v) (hd : Nat.blt d n = true)
    (k : ∀ a, Fr n a ((d, v) :: m) → wpQuiet P ops C Q rest a) : wpQuiet P ops C Q (⟨some d, .move X, ty, pos, af, none⟩ :: rest) a :=
  q_gen hf hd (fun w _ => by simp [execOp, hf.eval hx]) k
theorem q_as {X v} (hf : Fr n a m) (hx : lkO m X = some v) (hd : Nat.blt d n = true)
    (k : ∀ a, Fr n a ((d, v) :: m) → wpQuiet P ops C Q rest a) : wpQuiet P ops C Q (⟨some d, .assign X, ty, pos, af, none⟩ :: rest) a :=
  q_gen hf hd (fun w _ => by simp [execOp, hf.eval hx]) k

theorem q_pick {c x y : Operand} {b : Bool} {v} (hf : Fr n a m) (hc : lkO m c = some (.bool b)) (hx : lkO m (if b then x else y) = some v) (hd : Nat.blt d n = true)
    (k : ∀ a, Fr n a ((d, v) :: m) → wpQuiet P ops C Q rest a) : wpQuiet P ops C Q (⟨some d, .pick c x y, ty, pos, af, none⟩ :: rest) a :=
  q_gen hf hd (fun w _ => by cases b <;> simp [execOp, hf.eval hc, asBool] <;> exact hf.eval (by simpa using hx)) k

section ints
variable {X Y : Operand} {t1 t2 : TypeId} {x y : Int} {kd : IntKind}
theorem q_bin {op : BinOp} {v : Value} (hf : Fr n a m) (hx : lkO m X = some (.int kd x)) (hy : lkO m Y = some (.int kd y)) (hd : Nat.blt d n = true)
    (hr : ∀ w, (binOp op t1 (.int kd x) (.int kd y)).run P w = .ok v w)
    (k : ∀ a, Fr n a ((d, v) :: m) → wpQuiet P ops C Q rest a) : wpQuiet P ops C Q (⟨some d, .binOp op t1 X Y t2, ty, pos, af, none⟩ :: rest) a := by
  refine q_gen hf hd (fun w _ => ?_) k
  have hg : (eqGuard op t1 X Y (.int kd x) (.int kd y)).run P w = .ok () w := by
    unfold eqGuard; cases op <;> simp
  simp [execOp, hf.eval hx, hf.eval hy, hg, hr]
theorem q_add (hf : Fr n a m) (hx : lkO m X = some (.int .i64 x)) (hy : lkO m Y = some (.int .i64 y)) (hd : Nat.blt d n = true) (hi : inI64 (x + y))
    (k : ∀ a, Fr n a ((d, .int .i64 (x + y)) :: m) → wpQuiet P ops C Q rest a) : wpQuiet P ops C Q (⟨some d, .binOp .add t1 X Y t2, ty, pos, af, none⟩ :: rest) a :=
  q_bin hf hx hy hd (fun w => by have := w64_in hi; simp only [w64] at this; simp [binOp, Op.intArith, this]) k
theorem q_sub (hf : Fr n a m) (hx : lkO m X = some (.int .i64 x)) (hy : lkO m Y = some (.int .i64 y)) (hd : Nat.blt d n = true) (hi : inI64 (x - y))
    (k : ∀ a, Fr n a ((d, .int .i64 (x - y)) :: m) → wpQuiet P ops C Q rest a) : wpQuiet P ops C Q (⟨some d, .binOp .sub t1 X Y t2, ty, pos, af, none⟩ :: rest) a :=
  q_bin hf hx hy hd (fun w => by have := w64_in hi; simp only [w64] at this; simp [binOp, Op.intArith, this]) k
theorem q_mul (hf : Fr n a m) (hx : lkO m X = some (.int .i64 x)) (hy : lkO m Y = some (.int .i64 y)) (hd : Nat.blt d n = true) (hi : inI64 (x * y))
    (k : ∀ a, Fr n a ((d, .int .i64 (x * y)) :: m) → wpQuiet P ops C Q rest a) : wpQuiet P ops C Q (⟨some d, .binOp .mul t1 X Y t2, ty, pos, af, none⟩ :: rest) a :=
  q_bin hf hx hy hd (fun w => by have := w64_in hi; simp only [w64] at this; simp [binOp, Op.intArith, this]) k
theorem q_addw (hf : Fr n a m) (hx : lkO m X = some (.int .i64 x)) (hy : lkO m Y = some (.int .i64 y)) (hd : Nat.blt d n = true)
    (k : ∀ a, Fr n a ((d, .int .i64 (w64 (x + y))) :: m) → wpQuiet P ops C Q rest a) : wpQuiet P ops C Q (⟨some d, .binOp .add t1 X Y t2, ty, pos, af, none⟩ :: rest) a :=
  q_bin hf hx hy hd (fun w => by simp [binOp, Op.intArith]) k
theorem q_subw (hf : Fr n a m) (hx : lkO m X = some (.int .i64 x)) (hy : lkO m Y = some (.int .i64 y)) (hd : Nat.blt d n = true)
    (k : ∀ a, Fr n a ((d, .int .i64 (w64 (x - y))) :: m) → wpQuiet P ops C Q rest a) : wpQuiet P ops C Q (⟨some d, .binOp .sub t1 X Y t2, ty, pos, af, none⟩ :: rest) a :=
  q_bin hf hx hy hd (fun w => by simp [binOp, Op.intArith]) k
theorem q_mulw (hf : Fr n a m) (hx : lkO m X = some (.int .i64 x)) (hy : lkO m Y = some (.int .i64 y)) (hd : Nat.blt d n = true)
    (k : ∀ a, Fr n a ((d, .int .i64 (w64 (x * y))) :: m) → wpQuiet P ops C Q rest a) : wpQuiet P ops C Q (⟨some d, .binOp .mul t1 X Y t2, ty, pos, af, none⟩ :: rest) a :=
  q_bin hf hx hy hd (fun w => by simp [binOp, Op.intArith]) k
theorem q_lss (hf : Fr n a m) (hx : lkO m X = some (.int kd x)) (hy : lkO m Y = some (.int kd y)) (hd : Nat.blt d n = true)
    (k : ∀ a, Fr n a ((d, .bool (decide (x < y))) :: m) → wpQuiet P ops C Q rest a) : wpQuiet P ops C Q (⟨some d, .binOp .lss t1 X Y t2, ty, pos, af, none⟩ :: rest) a :=
  q_bin hf hx hy hd (fun w => by simp [binOp, Op.intCmp]) k
theorem q_leq (hf : Fr n a m) (hx : lkO m X = some (.int kd x)) (hy : lkO m Y = some (.int kd y)) (hd : Nat.blt d n = true)
    (k : ∀ a, Fr n a ((d, .bool (decide (x ≤ y))) :: m) → wpQuiet P ops C Q rest a) : wpQuiet P ops C Q (⟨some d, .binOp .leq t1 X Y t2, ty, pos, af, none⟩ :: rest) a :=
  q_bin hf hx hy hd (fun w => by simp [binOp, Op.intCmp]) k
theorem q_gtr (hf : Fr n a m) (hx : lkO m X = some (.int kd x)) (hy : lkO m Y = some (.int kd y)) (hd : Nat.blt d n = true)
    (k : ∀ a, Fr n a ((d, .bool (decide (y < x))) :: m) → wpQuiet P ops C Q rest a) : wpQuiet P ops C Q (⟨some d, .binOp .gtr t1 X Y t2, ty, pos, af, none⟩ :: rest) a :=
  q_bin hf hx hy hd (fun w => by simp [binOp, Op.intCmp]) k
theorem q_geq (hf : Fr n a m) (hx : lkO m X = some (.int kd x)) (hy : lkO m Y = some (.int kd y)) (hd : Nat.blt d n = true)
    (k : ∀ a, Fr n a ((d, .bool (decide (y ≤ x))) :: m) → wpQuiet P ops C Q rest a) : wpQuiet P ops C Q (⟨some d, .binOp .geq t1 X Y t2, ty, pos, af, none⟩ :: rest) a :=
  q_bin hf hx hy hd (fun w => by simp [binOp, Op.intCmp]) k
theorem q_eql (hf : Fr n a m) (hx : lkO m X = some (.int kd x)) (hy : lkO m Y = some (.int kd y)) (hd : Nat.blt d n = true)
    (k : ∀ a, Fr n a ((d, .bool (decide (x = y))) :: m) → wpQuiet P ops C Q rest a) : wpQuiet P ops C Q (⟨some d, .binOp .eql t1 X Y t2, ty, pos, af, none⟩ :: rest) a :=
  q_bin hf hx hy hd (fun w => by simp [binOp, Op.intCmp, int_beq]) k
theorem q_neq (hf : Fr n a m) (hx : lkO m X = some (.int kd x)) (hy : lkO m Y = some (.int kd y)) (hd : Nat.blt d n = true)
    (k : ∀ a, Fr n a ((d, .bool (decide (x ≠ y))) :: m) → wpQuiet P ops C Q rest a) : wpQuiet P ops C Q (⟨some d, .binOp .neq t1 X Y t2, ty, pos, af, none⟩ :: rest) a :=
  q_bin hf hx hy hd (fun w => by simp [binOp, Op.intCmp, bne, int_beq]) k
end ints

theorem q_not {X t1 b} (hf : Fr n a m) (hx : lkO m X = some (.bool b)) (hd : Nat.blt d n = true)
    (k : ∀ a, Fr n a ((d, .bool (!b)) :: m) → wpQuiet P ops C Q rest a) : wpQuiet P ops C Q (⟨some d, .unOp .not t1 X, ty, pos, af, none⟩ :: rest) a :=
  q_gen hf hd (fun w _ => by simp [execOp, hf.eval hx, Op.unary]) k
theorem q_negw {X t1 x} (hf : Fr n a m) (hx : lkO m X = some (.int .i64 x)) (hd : Nat.blt d n = true)
    (k : ∀ a, Fr n a ((d, .int .i64 (w64 (0 - x))) :: m) → wpQuiet P ops C Q rest a) : wpQuiet P ops C Q (⟨some d, .unOp .neg t1 X, ty, pos, af, none⟩ :: rest) a :=
  q_gen hf hd (fun w _ => by simp [execOp, hf.eval hx, Op.unary, Op.intArith]) k

/-! loads -/
section loads
variable {A S : Nat → Prop} {L : List HP} {h : Heap} {X : Operand} {p : Value} {t : TypeId}

theorem q_ldc {cs : List Value} {sz : Nat} {ag : Bool} (ck : CK C h) (hA : ∀ b, A b → b < h.size) (hf : Fr n a m) (hx : lkO m X = some p) (k0 : Cells A h p cs) (hl : cs.length = sz) (ht : tyB P t sz ag = true) (h1 : ag = false → sz = 1) (hd : Nat.blt d n = true)
    (k : ∀ a, Fr n a ((d, if ag then .agg cs.toArray else cs.headD undef) :: m) → wpQuiet P ops C Q rest a) : wpQuiet P ops C Q (⟨some d, .load t X, ty, pos, af, none⟩ :: rest) a := by
  refine q_gen hf hd (fun w hw => ?_) k
  have := run_loadAt (P := P) (w := w) (k0.mono (fun _ x => x) fun b hb => ck w hw b (hA b hb)) hl ht h1
  simp [execOp, hf.eval hx, this]

theorem q_ld {α} {r : Rep α} {x} (ck : CK C h) (hA : ∀ b, A b → b < h.size) (hf : Fr n a m) (hx : lkO m X = some p) (k0 : Pt2 A S h r p x) (ht : tyB P t r.sz r.ag = true) (h1 : r.ag = false → r.sz = 1) (hd : Nat.blt d n = true)
    (k : ∀ v a, Fr n a ((d, v) :: m) → Rd S h r v x → wpQuiet P ops C Q rest a) : wpQuiet P ops C Q (⟨some d, .load t X, ty, pos, af, none⟩ :: rest) a := by
  obtain ⟨cs, k1, k2⟩ := k0
  exact q_ldc ck hA hf hx k1 (r.len k2) ht h1 hd fun a' hf' => k _ a' hf' ⟨cs, rfl, k2⟩
theorem q_ldi {x} (ck : CK C h) (hA : ∀ b, A b → b < h.size) (hf : Fr n a m) (hx : lkO m X = some p) (k0 : Pt2 A S h Rep.int p x) (ht : tyB P t 1 false = true) (hd : Nat.blt d n = true)
    (k : ∀ a, Fr n a ((d, .int .i64 x) :: m) → inI64 x → wpQuiet P ops C Q rest a) : wpQuiet P ops C Q (⟨some d, .load t X, ty, pos, af, none⟩ :: rest) a :=
  q_ld ck hA hf hx k0 ht (fun _ => rfl) hd fun v a' hf' hr => by obtain ⟨rfl, hi⟩ := hr.int; exact k a' hf' hi
theorem q_ldb {x} (ck : CK C h) (hA : ∀ b, A b → b < h.size) (hf : Fr n a m) (hx : lkO m X = some p) (k0 : Pt2 A S h Rep.bool p x) (ht : tyB P t 1 false = true) (hd : Nat.blt d n = true)
    (k : ∀ a, Fr n a ((d, .bool x) :: m) → wpQuiet P ops C Q rest a) : wpQuiet P ops C Q (⟨some d, .load t X, ty, pos, af, none⟩ :: rest) a :=
  q_ld ck hA hf hx k0 ht (fun _ => rfl) hd fun v a' hf' hr => by obtain rfl := hr.bool; exact k a' hf'
theorem q_lds {x} (ck : CK C h) (hA : ∀ b, A b → b < h.size) (hf : Fr n a m) (hx : lkO m X = some p) (k0 : Pt2 A S h Rep.str p x) (ht : tyB P t 1 false = true) (hd : Nat.blt d n = true)
    (k : ∀ a, Fr n a ((d, .string x) :: m) → x.size ≤ maxLen → wpQuiet P ops C Q rest a) : wpQuiet P ops C Q (⟨some d, .load t X, ty, pos, af, none⟩ :: rest) a :=
  q_ld ck hA hf hx k0 ht (fun _ => rfl) hd fun v a' hf' hr => by obtain ⟨rfl, hi⟩ := hr.str; exact k a' hf' hi
theorem q_ldl {α} {r : Rep α} {x} (ck : CK C h) (hA : ∀ b, A b → b < h.size) (hf : Fr n a m) (hx : lkO m X = some p) (k0 : Pt2 A S h r.sl p x) (ht : tyB P t 1 false = true) (hd : Nat.blt d n = true)
    (k : ∀ v a, Fr n a ((d, v) :: m) → Sl S h r v x → wpQuiet P ops C Q rest a) : wpQuiet P ops C Q (⟨some d, .load t X, ty, pos, af, none⟩ :: rest) a :=
  q_ld ck hA hf hx k0 ht (fun _ => rfl) hd fun v a' hf' hr => k v a' hf' hr.sl

theorem q_fa {α β} {r : Rep α} {r' : Rep β} {f : α → β} {j off x} (hf : Fr n a m) (hx : lkO m X = some p) (k0 : Pt2 A S h r p x) (fl : Fld r off r' f) (ht : faB P t j off = true) (hd : Nat.blt d n = true)
    (k : ∀ q a, Fr n a ((d, q) :: m) → Pt2 A S h r' q (f x) → wpQuiet P ops C Q rest a) : wpQuiet P ops C Q (⟨some d, .fieldAddr t X j, ty, pos, af, none⟩ :: rest) a := by
  obtain ⟨ad, rfl, k1⟩ := k0.fld fl
  exact q_gen hf hd (fun w _ => by simp [execOp, hf.eval hx, run_fieldAt ht]) fun a' hf' => k _ a' hf' k1
theorem q_fao {b o j off} (hf : Fr n a m) (hx : lkO m X = some (.pointer (some ⟨b, o, none⟩))) (ht : faB P t j off = true) (hd : Nat.blt d n = true)
    (k : ∀ a, Fr n a ((d, .pointer (some ⟨b, o + off, none⟩)) :: m) → wpQuiet P ops C Q rest a) : wpQuiet P ops C Q (⟨some d, .fieldAddr t X j, ty, pos, af, none⟩ :: rest) a := by
  have hadd : (⟨b, o, none⟩ : Addr).add off = ⟨b, o + off, none⟩ := by unfold Addr.add; split <;> simp_all
  exact q_gen hf hd (fun w _ => by simp [execOp, hf.eval hx, run_fieldAt ht, hadd]) k

theorem Sl.at_ {α} {r : Rep α} {v : Value} {l : List α} (k0 : Sl S h r v l) {i : Nat} {x : α} (hi : l[i]? = some x) :
    ∃ (ad : Addr) (cap : Nat), v = .slice (some ad) l.length cap ∧ Pt S h r (.pointer (some (ad.add (i * r.sz)))) x := by
  rcases k0 with ⟨rfl, rfl⟩ | ⟨ad, cap, h1, h4, h5, h6⟩
  · simp at hi
  · refine ⟨ad, cap, h1, ?_⟩
    obtain ⟨h2, this⟩ := h6 i x hi
    obtain ⟨b, o, s⟩ := ad
    simp only at h2; subst h2
    have hadd : (⟨b, o, none⟩ : Addr).add (i * r.sz) = ⟨b, o + i * r.sz, none⟩ := by unfold Addr.add; split <;> simp_all
    rw [hadd]; exact this

theorem q_ix {α} {r : Rep α} {l : List α} {e i x Y v} (hf : Fr n a m) (hx : lkO m X = some v) (hy : lkO m Y = some (.int .i64 i)) (k0 : Sl S h r v l) (ht : slB P t e r.sz = true) (h0 : 0 ≤ i) (hi : l[i.toNat]? = some x) (hd : Nat.blt d n = true)
    (k : ∀ q a, Fr n a ((d, q) :: m) → Pt S h r q x → wpQuiet P ops C Q rest a) : wpQuiet P ops C Q (⟨some d, .indexAddr t X Y, ty, pos, af, none⟩ :: rest) a := by
  obtain ⟨ad, cap, rfl, k1⟩ := k0.at_ hi
  have hl : i.toNat < l.length := (List.getElem?_eq_some_iff.1 hi).1
  exact q_gen hf hd (fun w _ => by simp [execOp, hf.eval hx, hf.eval hy, run_indexAt (P := P) (w := w) (cap := cap) (a := ad) ht h0 hl]) fun a' hf' => k _ a' hf' k1

theorem q_len {α} {r : Rep α} {l : List α} {v aty e} (hf : Fr n a m) (hx : lkO m X = some v) (k0 : Sl S h r v l) (ht : slB P t e r.sz = true) (hd : Nat.blt d n = true)
    (k : ∀ a, Fr n a ((d, .int .i64 l.length) :: m) → l.length ≤ maxLen → wpQuiet P ops C Q rest a) : wpQuiet P ops C Q (⟨some d, .call ⟨.builtin .len, #[X], #[t]⟩, aty, pos, af, none⟩ :: rest) a := by
  obtain ⟨ad, cap, rfl, hm⟩ := k0.len
  obtain ⟨i, h1, _⟩ := slB_spec ht
  exact q_gen hf hd (fun w _ => by simp [execOp, resolve, invoke, builtin, Builtin.len_, hf.eval hx, run_underlying h1, goInt]) fun a' hf' => k a' hf' hm
theorem q_lenr {ad len cap aty e sz} (hf : Fr n a m) (hx : lkO m X = some (.slice ad len cap)) (ht : slB P t e sz = true) (hd : Nat.blt d n = true)
    (k : ∀ a, Fr n a ((d, .int .i64 len) :: m) → wpQuiet P ops C Q rest a) : wpQuiet P ops C Q (⟨some d, .call ⟨.builtin .len, #[X], #[t]⟩, aty, pos, af, none⟩ :: rest) a := by
  obtain ⟨i, h1, _⟩ := slB_spec ht
  exact q_gen hf hd (fun w _ => by simp [execOp, resolve, invoke, builtin, Builtin.len_, hf.eval hx, run_underlying h1, goInt]) k
end loads

theorem q_max {X Y t1 t2 x y aty kd} (hf : Fr n a m) (hx : lkO m X = some (.int kd x)) (hy : lkO m Y = some (.int kd y)) (hd : Nat.blt d n = true)
    (k : ∀ a, Fr n a ((d, .int kd (max x y)) :: m) → wpQuiet P ops C Q rest a) : wpQuiet P ops C Q (⟨some d, .call ⟨.builtin .max, #[X, Y], #[t1, t2]⟩, aty, pos, af, none⟩ :: rest) a :=
  q_gen hf hd (fun w _ => by
    have : (if y > x then y else x) = max x y := by rw [Int.max_def]; split <;> split <;> omega
    simp [execOp, resolve, invoke, builtin, Builtin.max_, Builtin.max2, hf.eval hx, hf.eval hy, this]) k
theorem q_min {X Y t1 t2 x y aty kd} (hf : Fr n a m) (hx : lkO m X = some (.int kd x)) (hy : lkO m Y = some (.int kd y)) (hd : Nat.blt d n = true)
    (k : ∀ a, Fr n a ((d, .int kd (min x y)) :: m) → wpQuiet P ops C Q rest a) : wpQuiet P ops C Q (⟨some d, .call ⟨.builtin .min, #[X, Y], #[t1, t2]⟩, aty, pos, af, none⟩ :: rest) a :=
  q_gen hf hd (fun w _ => by
    have : (if y < x then y else x) = min x y := by rw [Int.min_def]; split <;> split <;> omega
    simp [execOp, resolve, invoke, builtin, Builtin.min_, Builtin.min2, hf.eval hx, hf.eval hy, this]) k
end
end Go.Proofs.Ytibidnaedddfdaa
