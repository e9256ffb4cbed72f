/- Append of a slice that is known as a whole; parts of slices. No function of the program. -/
import Derived.Test.YtibidnaedddfdaaCore11
namespace Go.Proofs.Ytibidnaedddfdaa
open Go.RowKit
set_option linter.unusedVariables false
set_option linter.unusedSimpArgs false

/-- A slice whose cells are known: what an append may copy. -/
def Src {α} (S : Nat → Prop) (h : Heap) (r : Rep α) (s : Value) (xs : List α) : Prop :=
  (s = .slice none 0 0 ∧ xs = []) ∨ ∃ (sd : Addr) (sc : Nat) (news : List Value), s = .slice (some sd) xs.length sc ∧ xs.length ≤ maxLen ∧ RdC S h r news xs ∧ ∀ j u, news[j]? = some u → hcell h (sd.add j) = some u

theorem pts_cells {α} {S : Nat → Prop} {h : Heap} {r : Rep α} (b : Nat) : ∀ (l : List α) (o : Nat), (∀ i x, l[i]? = some x → Pt S h r (.pointer (some ⟨b, o + i * r.sz, none⟩)) x) → ∃ news, RdC S h r news l ∧ ∀ j u, news[j]? = some u → hcell h ⟨b, o + j, none⟩ = some u
  | [], _, _ => ⟨[], rfl, fun j u hj => by simp at hj⟩
  | x :: l, o, k => by
    obtain ⟨cs, ⟨a, ha, _, hS, hc⟩, hr⟩ := k 0 x rfl
    obtain ⟨news, n1, n2⟩ := pts_cells b l (o + r.sz) fun i y hi => by
      have := k (i + 1) y (by simpa using hi)
      rwa [Nat.succ_mul, Nat.add_comm (i * r.sz), ← Nat.add_assoc] at this
    have hl := r.len hr
    refine ⟨cs ++ news, ⟨cs, news, rfl, hr, n1⟩, fun j u hj => ?_⟩
    have ha' : a = ⟨b, o, none⟩ := by simpa using ha.symm
    subst ha'
    by_cases hlt : j < cs.length
    · rw [List.getElem?_append_left hlt] at hj
      rw [← hj]; exact hc j hlt
    · rw [List.getElem?_append_right (by omega)] at hj
      have := n2 _ u hj
      rw [show o + r.sz + (j - cs.length) = o + j by omega] at this
      exact this

theorem Sl.src {α} {S : Nat → Prop} {h : Heap} {r : Rep α} {s : Value} {xs : List α} (k : Sl S h r s xs) : Src S h r s xs := by
  rcases k with k | ⟨a, cap, h1, h4, h5, h6⟩
  · exact .inl k
  · cases xs with
    | nil => exact .inr ⟨a, cap, [], h1, Nat.zero_le _, rfl, fun j u hj => by simp at hj⟩
    | cons x xs =>
      have hsp := (h6 0 x rfl).1
      obtain ⟨b, o, s⟩ := a
      simp only at hsp; subst hsp
      obtain ⟨news, n1, n2⟩ := pts_cells b (x :: xs) o fun i y hi => (h6 i y hi).2
      refine .inr ⟨_, cap, news, h1, Nat.le_trans h4 h5, n1, fun j u hj => ?_⟩
      have hadd : (⟨b, o, none⟩ : Addr).add j = ⟨b, o + j, none⟩ := by unfold Addr.add; split <;> simp_all
      rw [hadd]; exact n2 j u hj

theorem St.src {α} {S : Nat → Prop} {h : Heap} {r : Rep α} {T : Nat} {s : Value} {xs : List α} {L : List HP} (hs : St S L h) (hm : OS r T s xs ∈ L) : Src S h r s xs := by
  obtain ⟨F, k, h2⟩ := hs.get hm
  rcases k with ⟨k1, k2, _⟩ | ⟨g, cap, cur, k1, k2, k3, k4, k5, k6, k7⟩
  · exact .inl ⟨k1, k2⟩
  · refine .inr ⟨_, cap, _, k1, Nat.le_trans k4 k5, k7, fun j u hj => ?_⟩
    have hadd : (⟨g, 0, none⟩ : Addr).add j = ⟨g, j, none⟩ := by unfold Addr.add; split <;> simp_all
    have hj' := (List.getElem?_eq_some_iff.1 hj).1
    simp only [List.length_take] at hj'
    rw [List.getElem?_take_of_lt (by omega)] at hj
    rw [hadd]
    simp only [hcell, k3, Option.isSome_none, Bool.false_eq_true, if_false]
    simpa using hj

section
variable {P : Program} {ops : Array Oper} {Q : Exit → Act → World → Prop} {n : Nat} {m : SM} {rest : List Oper}
variable {d : Nat} {ty : TypeId} {pos : String} {af : Array Edge} {X Y : Operand} {B w : World} {h : Heap} {S : Nat → Prop} {L L2 : List HP} {v : Value}
theorem run_appS {α} {r : Rep α} {T ty e sz by_ : Nat} {z : List Value} {v s : Value} {l xs : List α} {F : Nat → Prop} (he : elL P T = some (e, sz, by_, z)) (hrs : r.sz = sz)
    (hsrc : Src S h r s xs) (hmx : l.length + xs.length ≤ maxLen) (hby : (l.length + xs.length) * by_ ≤ 140737488355328) (hw : Wd B h w) (k : (OS r e v l).holds S F h) (hS : ∀ b, S b → b < h.size ∧ ¬ F b) :
    ∃ v' w' h' F', (Builtin.append_ #[T, T] ty #[v, s]).run P w = .ok v' w' ∧ Wd B h' w' ∧ h.size ≤ h'.size ∧ (OS r e v' (l ++ xs)).holds S F' h' ∧ (∀ b, F' b → F b ∨ (h.size ≤ b ∧ b < h'.size)) ∧ ∀ b, b < h.size → ¬ F b → h'[b]? = h[b]? := by
  rcases hsrc with ⟨rfl, rfl⟩ | ⟨sd, sc, news, h1, _, hn, hc⟩
  · obtain ⟨i, zv, h1, h2, h3, h4, h5, h6, h7, h8⟩ := elL_spec he
    rw [List.append_nil]
    refine ⟨v, w, h, F, ?_, hw, Nat.le_refl _, k, fun b hb => .inl hb, fun _ _ _ => rfl⟩
    rcases k with ⟨rfl, rfl, hF⟩ | ⟨g, cap, cur, rfl, hF, hg, hlc, hcm, hcs, hrd⟩
    · simp [Builtin.append_, run_underlying h1, sizeOf, typeInfo, h2, Builtin.lenOf, Builtin.firstCells, loadCells, loadCellsFrom]
    · have hle : l.length ≤ cap := hlc
      simp [Builtin.append_, run_underlying h1, sizeOf, typeInfo, h2, Builtin.lenOf, Builtin.firstCells, loadCells, loadCellsFrom, storeCells, hle]
  · exact run_app he hrs h1 hn hc hmx hby hw k hS
theorem l_appS {α} {r : Rep α} {T e sz by_ : Nat} {z : List Value} {v s : Value} {l xs : List α} {LL : Value → List HP} {a : Act} (hf : Fr n a m) (hx : lkO m X = some v) (hy : lkO m Y = some s) (he : elL P T = some (e, sz, by_, z)) (hrs : r.sz = sz)
    (hsrc : Src S h r s xs) (hmx : l.length + xs.length ≤ maxLen) (hby : (l.length + xs.length) * by_ ≤ 140737488355328) (hd : Nat.blt d n = true) (hw : Wd B h w) (hs : St S L h) (rp : ∀ v', Repl L (OS r e v l) (OS r e v' (l ++ xs)) (LL v'))
    (k : ∀ v' a w h', Fr n a ((d, v') :: m) → Wd B h' w → St S (LL v') h' → Ext S h S h' → wpList P ops Q rest a w) :
    wpList P ops Q (⟨some d, .call ⟨.builtin .append, #[X, Y], #[T, T]⟩, ty, pos, af, none⟩ :: rest) a w := by
  refine wpList_plain rfl fun K hK => ?_
  unfold Oper.wp
  obtain ⟨M, p, _⟩ := (rp v).pick
  obtain ⟨F, g1, g2, _⟩ := Sp.pick p hs.2
  obtain ⟨v', w', h', F', e1, e2, e3, e4, e5, e6⟩ := run_appS (ty := ty) he hrs hsrc hmx hby hw g1 fun b hb => ⟨hs.1 b hb, fun hf => (g2 b hf).2 hb⟩
  have hrun : (execOp a.eval ⟨some d, .call ⟨.builtin .append, #[X, Y], #[T, T]⟩, ty, pos, af, none⟩).run P w = .ok (.value v') w' := by
    simp [execOp, resolve, invoke, builtin, hf.eval hx, hf.eval hy, e1]
  rw [hrun]
  obtain ⟨M, p, q⟩ := (rp v').pick
  have hst : St S (LL v') h' ∧ Ext S h S h' := by
    obtain ⟨G, g1', g2', g3'⟩ := Sp.pick p hs.2
    obtain ⟨v'', w'', h'', F'', e1', e2', e3', e4', e5', e6'⟩ := run_appS (ty := ty) he hrs hsrc hmx hby hw g1' fun b hb => ⟨hs.1 b hb, fun hf => (g2' b hf).2 hb⟩
    rw [e1] at e1'
    injection e1' with ev ew
    subst ev; subst ew
    have hh : h'' = h' := by rw [← e2'.heap, e2.heap]
    subst hh
    have hSS : ∀ b, S b → h''[b]? = h[b]? := fun b hb => e6' b (hs.1 b hb) fun hf => (g2' b hf).2 hb
    refine ⟨⟨fun b hb => Nat.lt_of_lt_of_le (hs.1 b hb) e3', Sp.unpick q ⟨F'', e4', fun b hb => ?_, ?_⟩⟩, fun _ x => x, hSS, e3'⟩
    · rcases e5' b hb with hf | ⟨hl, hu⟩
      · exact ⟨Nat.lt_of_lt_of_le (g2' b hf).1 e3', (g2' b hf).2⟩
      · exact ⟨hu, fun hb' => absurd (hs.1 b hb') (by omega)⟩
    · refine Sp.ext g3' (fun _ x => x) (fun b hb => ?_) fun b hb => ⟨⟨Nat.lt_of_lt_of_le hb.1.1 e3', hb.1.2⟩, fun hf' => ?_⟩
      · rcases hb with hb | hb
        · exact hSS b hb
        · exact e6' b hb.1.1 hb.2
      · rcases e5' b hf' with hf | ⟨hl, _⟩
        · exact hb.2 hf
        · exact absurd hb.1.1 (by omega)
  exact hK _ _ (k v' _ w' h' (hf.put hd _) e2 hst.1 hst.2)

theorem LF.appS {α} {r : Rep α} {T e sz by_ : Nat} {z : List Value} {v s : Value} {l xs : List α} {LL : Value → List HP} (hx : lkO m X = some v) (hy : lkO m Y = some s) (he : elL P T = some (e, sz, by_, z)) (hrs : r.sz = sz)
    (hsrc : Src S h r s xs) (hpos : Nat.blt 0 by_ = true) (hby : room (l.length + xs.length) by_ = true) (hd : Nat.blt d n = true) (hs : St S L h) (rp : ∀ v', Repl L (OS r e v l) (OS r e v' (l ++ xs)) (LL v'))
    (k : ∀ v' h', St S (LL v') h' → Ext S h S h' → LF P ops Q rest B h' n ((d, v') :: m)) : LF P ops Q (⟨some d, .call ⟨.builtin .append, #[X, Y], #[T, T]⟩, ty, pos, af, none⟩ :: rest) B h n m := fun a w hf hw =>
  have h1 : 1 ≤ by_ := by simpa [Nat.blt] using hpos
  have h2 : l.length + xs.length ≤ (l.length + xs.length) * by_ := Nat.le_mul_of_pos_right _ h1
  have h3 := room_spec hby
  l_appS hf hx hy he hrs hsrc (by unfold maxLen; omega) h3 hd hw hs rp fun v' a w h' hf hw hs e => k v' h' hs e a w hf hw
end
/-! ### whole numbers of any kind -/
theorem has_wrap (k : IntKind) (n : Int) : k.has (k.wrap n) := by
  cases k <;> simp only [IntKind.has, IntKind.wrap, IntKind.min, IntKind.max, IntKind.bits, IntKind.signed] <;> simp <;> (try split) <;> omega
theorem has_shr (k : IntKind) {n : Int} (h : k.has n) (j : Nat) : k.has (n.fdiv (2 ^ j)) := by
  have hp : (0 : Int) < 2 ^ j := Int.pow_pos (by decide)
  have h1 : k.min ≤ 0 ∧ 0 ≤ k.max := by cases k <;> decide
  have e : n.fdiv (2 ^ j) = n / 2 ^ j := Int.fdiv_eq_ediv_of_nonneg _ (Int.le_of_lt hp)
  rw [e]
  obtain ⟨a, b⟩ := h
  by_cases h0 : 0 ≤ n
  · have u1 := Int.ediv_nonneg h0 (Int.le_of_lt hp)
    have u2 := Int.ediv_le_self (2 ^ j) h0
    exact ⟨by omega, by omega⟩
  · have u1 : n / 2 ^ j ≤ 0 := by
      have := Int.ediv_le_ediv hp (show n ≤ 0 by omega)
      simpa using this
    have u2 : n ≤ n / 2 ^ j := by
      have hq : (1 : Int) ≤ 2 ^ j := hp
      rw [Int.le_ediv_iff_mul_le hp]
      have := Int.mul_le_mul_of_nonpos_left (a := n) (by omega) hq
      simpa using this
    exact ⟨by omega, by omega⟩
theorem has_rem (k : IntKind) {n m : Int} (h : k.has n) : k.has (n.tmod m) := by
  have h1 : k.min ≤ 0 ∧ 0 ≤ k.max := by cases k <;> decide
  obtain ⟨a, b⟩ := h
  by_cases h0 : 0 ≤ n
  · have u1 : 0 ≤ n.tmod m := Int.tmod_nonneg m h0
    have u2 : n.tmod m ≤ n := by
      have e := Int.natAbs_tmod n m
      have u3 : n.natAbs % m.natAbs ≤ n.natAbs := Nat.mod_le _ _
      omega
    exact ⟨by omega, by omega⟩
  · have u1 : (-n).tmod m = -(n.tmod m) := Int.neg_tmod n m
    have u2 : 0 ≤ (-n).tmod m := Int.tmod_nonneg m (by omega)
    have u3 : (-n).tmod m ≤ -n := by
      have e := Int.natAbs_tmod (-n) m
      have u3 : (-n).natAbs % m.natAbs ≤ (-n).natAbs := Nat.mod_le _ _
      omega
    exact ⟨by omega, by omega⟩
theorem has_i64 {n : Int} : IntKind.i64.has n ↔ inI64 n := by
  simp [IntKind.has, IntKind.min, IntKind.max, IntKind.bits, IntKind.signed, inI64]
theorem has_max {k : IntKind} {a b : Int} (h1 : k.has a) (h2 : k.has b) : k.has (Max.max a b) := by
  unfold IntKind.has at *; omega
theorem has_min {k : IntKind} {a b : Int} (h1 : k.has a) (h2 : k.has b) : k.has (Min.min a b) := by
  unfold IntKind.has at *; omega
def Rep.intk (k : IntKind) : Rep Int where
  sz := 1
  ag := false
  rd := fun _ _ cs x => cs = [.int k x] ∧ k.has x
  len := fun ⟨h, _⟩ => by rw [h]; rfl
  one := fun ⟨h, _⟩ v hv => by rw [h] at hv; simp at hv; rw [hv]; rfl
  mono := fun h _ _ => h
theorem Rd.intk {S h v k x} (q : Rd S h (Rep.intk k) v x) : v = .int k x ∧ k.has x := by obtain ⟨_, rfl, rfl, h⟩ := q; exact ⟨rfl, h⟩
/-- the words of the pure forms -/
def bitK (o : BinOp) (k : IntKind) (x y : Int) : Int :=
  let a := BitVec.ofInt k.bits x
  let b := BitVec.ofInt k.bits y
  k.wrap ((match o with | .and => a &&& b | .or => a ||| b | .xor => a ^^^ b | _ => a &&& ~~~b).toNat)
def quoK (k : IntKind) (x y : Int) : Option Int := if y = 0 then none else some (k.wrap (x.tdiv y))
def remK (x y : Int) : Option Int := if y = 0 then none else some (x.tmod y)
def shlK (k : IntKind) (x : Int) (j : Nat) : Int := k.wrap (x * 2 ^ (min j k.bits))
def shrK (k : IntKind) (x : Int) (j : Nat) : Int := x.fdiv (2 ^ (min j k.bits))
def cntK (y : Int) : Option Nat := if y < 0 then none else some y.toNat
theorem quoK_has {k x y z} (h : quoK k x y = some z) : k.has z := by
  unfold quoK at h; split at h
  · cases h
  · cases h; exact has_wrap _ _
theorem remK_has {k : IntKind} {x y z} (hx : k.has x) (h : remK x y = some z) : k.has z := by
  unfold remK at h; split at h
  · cases h
  · cases h; exact has_rem k hx
/-- byte i of a string -/
def bix (s : ByteArray) (i : Int) : Option Int := if i < 0 then none else (s[i.toNat]?).map fun b => (b.toNat : Int)
theorem bix_has {s i x} (h : bix s i = some x) : IntKind.u8.has x := by
  unfold bix at h; split at h
  · cases h
  · obtain ⟨b, _, rfl⟩ := Option.map_eq_some_iff.1 h
    have := b.toNat_lt
    simp [IntKind.has, IntKind.min, IntKind.max, IntKind.bits, IntKind.signed]; omega
/-- part of a list, of a string -/
def sub? {α} (l : List α) (i j : Int) : Option (List α) := if 0 ≤ i ∧ i ≤ j ∧ j ≤ l.length then some ((l.take j.toNat).drop i.toNat) else none
def bsub (s : ByteArray) (i j : Int) : Option ByteArray := if 0 ≤ i ∧ i ≤ j ∧ j ≤ s.size then some (s.extract i.toNat j.toNat) else none

section
variable {P : Program} {ops : Array Oper} {C : World → Prop} {Q : Act → Prop} {n : Nat} {m m' : SM} {rest : List Oper}
variable {d : Nat} {ty : TypeId} {pos : String} {af : Array Edge} {X Y Z : Operand} {t t1 t2 : TypeId} {x y z : Int} {kd kd2 : IntKind} {v p : Value} {S : Nat → Prop} {L : List HP} {h : Heap}
namespace QF
theorem bin {op : BinOp} {u : Value} (hx : lkO m X = some (.int kd x)) (hy : lkO m Y = some (.int kd y)) (hd : Nat.blt d n = true) (hr : ∀ w, (binOp op t1 (.int kd x) (.int kd y)).run P w = .ok u w)
    (k : QF P ops C Q rest n ((d, u) :: m)) : QF P ops C Q (⟨some d, .binOp op t1 X Y t2, ty, pos, af, none⟩ :: rest) n m := fun _ hf => q_bin hf hx hy hd hr k
theorem addk (hx : lkO m X = some (.int kd x)) (hy : lkO m Y = some (.int kd y)) (hd : Nat.blt d n = true) (k : QF P ops C Q rest n ((d, .int kd (kd.wrap (x + y))) :: m)) : QF P ops C Q (⟨some d, .binOp .add t1 X Y t2, ty, pos, af, none⟩ :: rest) n m := bin hx hy hd (fun w => by simp [binOp, Op.intArith]) k
theorem subk (hx : lkO m X = some (.int kd x)) (hy : lkO m Y = some (.int kd y)) (hd : Nat.blt d n = true) (k : QF P ops C Q rest n ((d, .int kd (kd.wrap (x - y))) :: m)) : QF P ops C Q (⟨some d, .binOp .sub t1 X Y t2, ty, pos, af, none⟩ :: rest) n m := bin hx hy hd (fun w => by simp [binOp, Op.intArith]) k
theorem mulk (hx : lkO m X = some (.int kd x)) (hy : lkO m Y = some (.int kd y)) (hd : Nat.blt d n = true) (k : QF P ops C Q rest n ((d, .int kd (kd.wrap (x * y))) :: m)) : QF P ops C Q (⟨some d, .binOp .mul t1 X Y t2, ty, pos, af, none⟩ :: rest) n m := bin hx hy hd (fun w => by simp [binOp, Op.intArith]) k
theorem andk (hx : lkO m X = some (.int kd x)) (hy : lkO m Y = some (.int kd y)) (hd : Nat.blt d n = true) (k : QF P ops C Q rest n ((d, .int kd (bitK .and kd x y)) :: m)) : QF P ops C Q (⟨some d, .binOp .and t1 X Y t2, ty, pos, af, none⟩ :: rest) n m := bin hx hy hd (fun w => by simp [binOp, Op.intBits, bitK]) k
theorem ork (hx : lkO m X = some (.int kd x)) (hy : lkO m Y = some (.int kd y)) (hd : Nat.blt d n = true) (k : QF P ops C Q rest n ((d, .int kd (bitK .or kd x y)) :: m)) : QF P ops C Q (⟨some d, .binOp .or t1 X Y t2, ty, pos, af, none⟩ :: rest) n m := bin hx hy hd (fun w => by simp [binOp, Op.intBits, bitK]) k
theorem xork (hx : lkO m X = some (.int kd x)) (hy : lkO m Y = some (.int kd y)) (hd : Nat.blt d n = true) (k : QF P ops C Q rest n ((d, .int kd (bitK .xor kd x y)) :: m)) : QF P ops C Q (⟨some d, .binOp .xor t1 X Y t2, ty, pos, af, none⟩ :: rest) n m := bin hx hy hd (fun w => by simp [binOp, Op.intBits, bitK]) k
theorem andNotk (hx : lkO m X = some (.int kd x)) (hy : lkO m Y = some (.int kd y)) (hd : Nat.blt d n = true) (k : QF P ops C Q rest n ((d, .int kd (bitK .andNot kd x y)) :: m)) : QF P ops C Q (⟨some d, .binOp .andNot t1 X Y t2, ty, pos, af, none⟩ :: rest) n m := bin hx hy hd (fun w => by simp [binOp, Op.intBits, bitK]) k
theorem quok (hx : lkO m X = some (.int kd x)) (hy : lkO m Y = some (.int kd y)) (hd : Nat.blt d n = true) (hz : quoK kd x y = some z) (k : QF P ops C Q rest n ((d, .int kd z) :: m)) : QF P ops C Q (⟨some d, .binOp .quo t1 X Y t2, ty, pos, af, none⟩ :: rest) n m := by
  unfold quoK at hz
  split at hz
  · cases hz
  · rename_i h0; cases hz; exact bin hx hy hd (fun w => by simp [binOp, Op.intDiv, h0]) k
theorem remk (hx : lkO m X = some (.int kd x)) (hy : lkO m Y = some (.int kd y)) (hd : Nat.blt d n = true) (hz : remK x y = some z) (k : QF P ops C Q rest n ((d, .int kd z) :: m)) : QF P ops C Q (⟨some d, .binOp .rem t1 X Y t2, ty, pos, af, none⟩ :: rest) n m := by
  unfold remK at hz
  split at hz
  · cases hz
  · rename_i h0; cases hz; exact bin hx hy hd (fun w => by simp [binOp, Op.intDiv, h0]) k
theorem binS {op : BinOp} {u : Value} (hx : lkO m X = some (.int kd x)) (hy : lkO m Y = some (.int kd2 y)) (hd : Nat.blt d n = true) (hr : ∀ w, (binOp op t1 (.int kd x) (.int kd2 y)).run P w = .ok u w)
    (k : QF P ops C Q rest n ((d, u) :: m)) : QF P ops C Q (⟨some d, .binOp op t1 X Y t2, ty, pos, af, none⟩ :: rest) n m := fun a hf => by
  refine q_gen hf hd (fun w _ => ?_) k
  have hg : (eqGuard op t1 X Y (.int kd x) (.int kd2 y)).run P w = .ok () w := by
    unfold eqGuard; cases op <;> simp
  simp [execOp, hf.eval hx, hf.eval hy, hg, hr]
theorem shlk {j : Nat} (hx : lkO m X = some (.int kd x)) (hy : lkO m Y = some (.int kd2 y)) (hd : Nat.blt d n = true) (hz : cntK y = some j) (k : QF P ops C Q rest n ((d, .int kd (shlK kd x j)) :: m)) : QF P ops C Q (⟨some d, .binOp .shl t1 X Y t2, ty, pos, af, none⟩ :: rest) n m := by
  unfold cntK at hz
  split at hz
  · cases hz
  · rename_i h0; cases hz; exact binS hx hy hd (fun w => by simp [binOp, Op.shift, h0, shlK]) k
theorem shrk {j : Nat} (hx : lkO m X = some (.int kd x)) (hy : lkO m Y = some (.int kd2 y)) (hd : Nat.blt d n = true) (hz : cntK y = some j) (k : QF P ops C Q rest n ((d, .int kd (shrK kd x j)) :: m)) : QF P ops C Q (⟨some d, .binOp .shr t1 X Y t2, ty, pos, af, none⟩ :: rest) n m := by
  unfold cntK at hz
  split at hz
  · cases hz
  · rename_i h0; cases hz; exact binS hx hy hd (fun w => by simp [binOp, Op.shift, h0, shrK]) k
theorem negk (hx : lkO m X = some (.int kd x)) (hd : Nat.blt d n = true) (k : QF P ops C Q rest n ((d, .int kd (kd.wrap (0 - x))) :: m)) : QF P ops C Q (⟨some d, .unOp .neg t1 X, ty, pos, af, none⟩ :: rest) n m := fun a hf =>
  q_gen hf hd (fun w _ => by simp [execOp, hf.eval hx, Op.unary, Op.intArith]) k
theorem notk (hx : lkO m X = some (.int kd x)) (hd : Nat.blt d n = true) (k : QF P ops C Q rest n ((d, .int kd (bitK .xor kd (if kd.signed then -1 else kd.max) x)) :: m)) : QF P ops C Q (⟨some d, .unOp .xor t1 X, ty, pos, af, none⟩ :: rest) n m := fun a hf =>
  q_gen hf hd (fun w _ => by simp [execOp, hf.eval hx, Op.unary, Op.intBits, bitK]) k
theorem convk {src dst : TypeId} {ds : TypeDesc} (hx : lkO m X = some (.int kd x)) (h1 : P.underlying src = some ds) (h2 : P.underlying dst = some (.int kd2)) (hd : Nat.blt d n = true) (k : QF P ops C Q rest n ((d, .int kd2 (kd2.wrap x)) :: m)) : QF P ops C Q (⟨some d, .convert src dst X, ty, pos, af, none⟩ :: rest) n m := fun a hf =>
  q_gen hf hd (fun w _ => by simp [execOp, hf.eval hx, convert, run_underlying h1, run_underlying h2, Conv.intToInt]) k
theorem bixk {s : ByteArray} (hx : lkO m X = some (.string s)) (hy : lkO m Y = some (.int kd y)) (hu : P.underlying t = some .string) (hz : bix s y = some z) (hd : Nat.blt d n = true) (k : QF P ops C Q rest n ((d, .int .u8 z) :: m)) : QF P ops C Q (⟨some d, .index t X Y, ty, pos, af, none⟩ :: rest) n m := fun a hf => by
  unfold bix at hz
  split at hz
  · cases hz
  · rename_i h0
    obtain ⟨b, h1, rfl⟩ := Option.map_eq_some_iff.1 hz
    exact q_gen hf hd (fun w _ => by simp [execOp, hf.eval hx, hf.eval hy, Instr.index, asIntOf, run_underlying hu, show 0 ≤ y by omega, h1]) k
theorem ldk {A : Nat → Prop} (ck : CK C h) (hA : ∀ b, A b → b < h.size) (hx : lkO m X = some p) (k0 : Pt2 A S h (Rep.intk kd) p x) (ht : tyB P t 1 false = true) (hd : Nat.blt d n = true)
    (k : kd.has x → QF P ops C Q rest n ((d, .int kd x) :: m)) : QF P ops C Q (⟨some d, .load t X, ty, pos, af, none⟩ :: rest) n m := fun a hf =>
  q_ld ck hA hf hx k0 ht (fun _ => rfl) hd fun v a' hf' hr => by obtain ⟨rfl, hi⟩ := hr.intk; exact k hi a' hf'
end QF
end
end Go.Proofs.Ytibidnaedddfdaa
