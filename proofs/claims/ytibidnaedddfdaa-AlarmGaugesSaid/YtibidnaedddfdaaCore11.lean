/- A region that draws its order and allocates or calls in its midst: each operation by itself, from what it waits for. No function of the program. -/
import Derived.Test.YtibidnaedddfdaaCore10
namespace Go.Proofs.Ytibidnaedddfdaa
open Go.RowKit
set_option linter.unusedVariables false
set_option linter.unusedSimpArgs false

abbrev AR := Nat → Value → Heap → Prop

def dstA (ops : Array Oper) (i : Nat) : Option Nat := (ops[i]?).bind (·.dst)
def predsA (o : Oper) : List Nat := (o.after.toList.filter (Region.binds .any)).map (·.on)
/-- operation i writes a slot of its own, below n, that m does not know -/
def ownB (ops : Array Oper) (kk n : Nat) (m : List Nat) : Bool :=
  (List.range kk).all fun i => match dstA ops i with
    | some d => Nat.blt d n && !(m.contains d) && (List.range kk).all fun j => Nat.beq i j || !((dstA ops j).any (Nat.beq d ·))
    | none => false
/-- all behind kk wait for all before, one after the other -/
def cutB (ops : Array Oper) (kk : Nat) : Bool := Nat.ble kk ops.size && (Nat.beq kk ops.size || (Region.sinkB .any ops kk && Region.chainB .any ops kk)) && backB ops

/-- What is asked at the end of one operation. -/
def KS (B : World) (n : Nat) (d : Nat) (R : Value → Heap → Prop) (h : Heap) (m : SM) : Act → World → Prop := fun a w =>
  ∃ v h', Fr n a ((d, v) :: m) ∧ Wd B h' w ∧ Old h h' ∧ R v h'
def PA (R : AR) (h : Heap) (K : SM → Prop) : List (Nat × Nat) → SM → Prop
  | [], fr => K fr
  | (j, d) :: js, fr => ∀ u, R j u h → PA R h K js ((d, u) :: fr)
def yb : Value → Option Bool
  | .bool b => some b
  | _ => none
/-- Operation i, at any later heap, from what it waits for (ps: operations and their slots). -/
def AStep (P : Program) (ops : Array Oper) (Q : Exit → Act → World → Prop) (B : World) (n : Nat) (m : SM) (h0 : Heap) (R : AR) (i : Nat) (o : Oper) (d : Nat) (ps : List (Nat × Nat)) : Prop :=
  ∀ mt h, Old h0 h → PA R h (fun fr => match o.guard with
    | none => LF P ops (Exit.then (KS B n d (R i) h (fr ++ (m ++ mt))) Q) [o] B h n (fr ++ (m ++ mt))
    | some (g, b) => ∃ dg, dstA ops g = some dg ∧ ((lk fr dg = some (.bool b) ∧ LF P ops (Exit.then (KS B n d (R i) h (fr ++ (m ++ mt))) Q) [{ o with guard := none }] B h n (fr ++ (m ++ mt))) ∨ ∃ v, lk fr dg = some v ∧ yb v ≠ some b ∧ R i undef h)) ps []
/-- the pairs of ps are operations that o waits for, with their slots -/
def psB (ops : Array Oper) (o : Oper) (ps : List (Nat × Nat)) : Bool := ps.all fun p => (predsA o).contains p.1 && (dstA ops p.1).any (Nat.beq p.2 ·)

theorem lk_append {m mt : SM} {i : Nat} : lk (m ++ mt) i = (lk m i).or (lk mt i) := by
  induction m with
  | nil => simp [lk]
  | cons e r ih =>
    obtain ⟨j, v⟩ := e
    simp only [List.cons_append, lk]
    cases Nat.beq j i with
    | true => simp
    | false => simpa using ih
theorem Fr.append {n a m mt} (h1 : Fr n a m) (h2 : Fr n a mt) : Fr n a (m ++ mt) := ⟨h1.dfr, h1.siz, fun i v hi => by
  rw [lk_append] at hi
  cases hm : lk m i with
  | some u => rw [hm] at hi; simp at hi; subst hi; exact h1.at_ i _ hm
  | none => rw [hm] at hi; simp at hi; exact h2.at_ i v hi⟩
/-- all of a frame -/
def fullA (a : Act) : SM := (List.range a.tmps.size).map fun i => (i, a.tmps.getD i undef)
theorem lk_full_aux (f : Nat → Value) : ∀ (k s i : Nat), s ≤ i → i < s + k → lk ((List.range' s k).map fun i => (i, f i)) i = some (f i)
  | 0, s, i, h1, h2 => by omega
  | k + 1, s, i, h1, h2 => by
    simp only [List.range'_succ, List.map_cons, lk]
    by_cases e : s = i
    · subst e; simp
    · have : Nat.beq s i = false := by
        cases hb : Nat.beq s i with
        | false => rfl
        | true => exact absurd (Nat.eq_of_beq_eq_true hb) e
      rw [this]
      exact lk_full_aux f k (s + 1) i (by omega) (by omega)
theorem lk_full {a : Act} {i : Nat} (h : i < a.tmps.size) : lk (fullA a) i = some (a.tmps.getD i undef) := by
  unfold fullA
  rw [List.range_eq_range']
  exact lk_full_aux _ _ 0 i (by omega) (by omega)
theorem lk_none_aux (f : Nat → Value) : ∀ (k s i : Nat), s + k ≤ i → lk ((List.range' s k).map fun i => (i, f i)) i = none
  | 0, s, i, h => rfl
  | k + 1, s, i, h => by
    simp only [List.range'_succ, List.map_cons, lk]
    have : Nat.beq s i = false := by
      cases hb : Nat.beq s i with
      | false => rfl
      | true => exact absurd (Nat.eq_of_beq_eq_true hb) (by omega)
    rw [this]
    exact lk_none_aux f k (s + 1) i (by omega)
theorem Fr.full {n a m} (h : Fr n a m) : Fr n a (fullA a) := ⟨h.dfr, h.siz, fun i v hi => by
  by_cases hl : i < a.tmps.size
  · rw [lk_full hl] at hi
    injection hi with hi
    subst hi
    simp [Array.getD_eq_getD_getElem?, Array.getElem?_eq_getElem hl]
  · unfold fullA at hi
    rw [List.range_eq_range', lk_none_aux _ _ 0 i (by omega)] at hi
    cases hi⟩

section
variable {P : Program} {ops : Array Oper} {Q : Exit → Act → World → Prop} {a : Act} {w : World}

theorem wp_of_then {o : Oper} {K : Act → World → Prop} (hg : o.guard = none) (h : wpList P ops (Exit.then K Q) [o] a w) : o.wp P a w K Q ∨ (o.asks P a w ∧ LetsOut Q) := by
  unfold wpList at h
  rw [if_pos (by simp [Region.wanted, hg])] at h
  rcases h with h1 | ⟨h1, a0, w0, h2⟩
  · refine .inl ?_
    unfold Oper.wp at h1 ⊢
    generalize (execOp a.eval o).run P w = r at h1
    cases r with
    | ok nx w' =>
      cases nx <;> simp only [Oper.upon] at h1 ⊢
      case value v => exact h1
      case skip => exact h1
      case defer d => exact h1
      case enter f args =>
        refine h1.mono fun e w'' he => ?_
        cases e with
        | returned v => exact he
        | panicked c => exact he
        | outgrown => obtain ⟨a0, w0, h0⟩ := he; exact ⟨a0, w0, h0⟩
      case row r args => obtain h1 := h1; exact Rows.mono h1 fun v w'' hv => hv
    | halt x w' => cases x <;> simp only [Oper.upon] at h1 ⊢; exact h1
  · exact .inr ⟨h1, a0, w0, h2⟩

theorem wp_unguard {o : Oper} {K : Act → World → Prop} (h : ({ o with guard := none } : Oper).wp P a w K Q ∨ (({ o with guard := none } : Oper).asks P a w ∧ LetsOut Q)) : o.wp P a w K Q ∨ (o.asks P a w ∧ LetsOut Q) := h

def unl (listed : Array Bool) : Nat := listed.toList.count false
theorem unl_set {listed : Array Bool} {i : Nat} (h : listed.getD i true = false) : unl (listed.setIfInBounds i true) + 1 = unl listed := by
  have hlt : i < listed.size := by
    rcases Nat.lt_or_ge i listed.size with h' | h'
    · exact h'
    · simp [Array.getElem?_eq_none h'] at h
  have hi : listed[i] = false := by simpa [hlt] using h
  have hm : false ∈ listed.toList := by rw [← hi]; simp
  have hpos : 0 < listed.toList.count false := List.count_pos_iff.2 hm
  unfold unl
  rw [Array.toList_setIfInBounds, List.count_set (by simpa using hlt)]
  have e1 : listed.toList[i]'(by simpa using hlt) = false := by simpa using hi
  rw [e1]
  rw [show (if (false == false) = true then 1 else 0 : Nat) = 1 from rfl, show (if (true == false) = true then 1 else 0 : Nat) = 0 from rfl]
  omega
theorem unl_zero {listed : Array Bool} (h : unl listed = 0) {i : Nat} : listed.getD i true = true := by
  cases hl : listed.getD i true with
  | true => rfl
  | false => have := unl_set hl; omega

theorem ready_nil {listed : Array Bool} (h : ∀ i, i < ops.size → listed.getD i true = true) : Region.ready .any ops listed = [] := by
  apply List.eq_nil_iff_forall_not_mem.2
  intro j hj
  obtain ⟨h1, o, ho, _⟩ := mem_ready.1 hj
  rw [h j (Array.getElem?_eq_some_iff.1 ho).1] at h1
  cases h1

theorem ready_least {listed : Array Bool} (hb : backB ops = true) (hs : listed.size = ops.size) {k : Nat} (hk : k < ops.size) (hu : listed.getD k true = false) : ∃ i, i ≤ k ∧ i ∈ Region.ready .any ops listed ∧ ∀ j, j < i → listed.getD j true = true := by
  obtain ⟨i, h1, h2, h3⟩ := least_undone (p := fun i => listed.getD i true) k hu
  have hilt : i < ops.size := by omega
  refine ⟨i, h1, mem_ready.2 ⟨h2, ops[i], by simp [hilt], fun e he hbi => ?_⟩, h3⟩
  have h4 := List.all_eq_true.1 hb i (List.mem_range.2 hilt)
  have h5 : ops[i]? = some ops[i] := by simp [hilt]
  rw [h5] at h4
  simp only [Option.map_some, Option.getD_some, Array.all_eq_true_iff_forall_mem] at h4
  have h6 := h4 e he
  simp only [hbi, Bool.not_true, Bool.false_or, decide_eq_true_eq] at h6
  have h7 := h3 e.on h6
  have h8 : e.on < listed.size := by omega
  simp only [Array.getD_eq_getD_getElem?, Array.getElem?_eq_getElem h8, Option.getD_some] at h7 ⊢
  exact h7

/-- The operations behind the cut, one after the other. -/
theorem suffix_run {kk : Nat} (hc : Region.chainB .any ops kk = true) (hb : backB ops = true) : ∀ (fuel t : Nat) (listed : Array Bool) (a : Act) (w : World), kk ≤ t → t + fuel = ops.size → listed.size = ops.size → (∀ j, j < t → listed.getD j true = true) → (∀ j, t ≤ j → j < ops.size → listed.getD j true = false) →
    wpList P ops Q (ops.toList.drop t) a w → wpAny P .any ops Q fuel listed a w
  | 0, t, listed, a, w, _, h1, h2, h3, h4, h5 => by
    rw [List.drop_eq_nil_of_le (by simp; omega)] at h5
    exact ⟨ready_nil fun i hi => h3 i (by omega), h5⟩
  | fuel + 1, t, listed, a, w, hk, h1, h2, h3, h4, h5 => by
    have htlt : t < ops.size := by omega
    have hut := h4 t (Nat.le_refl _) htlt
    obtain ⟨i, q1, q2, q3⟩ := ready_least hb h2 htlt hut
    have hit : i = t := by
      rcases Nat.lt_or_eq_of_le q1 with h | h
      · exact absurd (h3 i h) (by rw [(mem_ready.1 q2).1]; exact Bool.false_ne_true)
      · exact h
    subst hit
    refine ⟨fun h0 => absurd (h0 ▸ q2) (by simp), fun j hj => ?_⟩
    have hji : j = i := by
      obtain ⟨g1, oj, hoj, hall⟩ := mem_ready.1 hj
      have hjlt := (Array.getElem?_eq_some_iff.1 hoj).1
      by_cases hlt : j < i
      · rw [h3 j hlt] at g1; cases g1
      · by_cases e : j = i
        · exact e
        · have g2 := List.all_eq_true.1 hc j (List.mem_range.2 hjlt)
          simp only [Bool.or_eq_true, decide_eq_true_eq] at g2
          rcases g2 with g2 | g2
          · omega
          · obtain ⟨o', ho', e', he', hb', hon⟩ := Region.waitsFor_spec g2
            have : o' = oj := Option.some.inj (ho'.symm.trans hoj)
            subst this
            have g3 := hall e' he' hb'
            have g4 := h4 (j - 1) (by omega) (by omega)
            rw [hon, getD_both g4] at g3
            cases g3
    subst hji
    have hoj : ops[j]? = some ops[j] := by simp [htlt]
    rw [List.drop_eq_getElem_cons (by simpa using htlt)] at h5
    simp only [Array.getElem_toList] at h5
    have ih := fun a w => suffix_run hc hb fuel (j + 1) (listed.setIfInBounds j true) a w (by omega) (by omega) (by simpa using h2)
      (fun i hi => by
        by_cases e : i = j
        · subst e
          have : i < listed.size := by omega
          simp [Array.getD_eq_getD_getElem?, Array.getElem?_setIfInBounds, this]
        · rw [getD_set_ne true (by omega)]; exact h3 i (by omega))
      (fun i hi hi' => by rw [getD_set_ne true (by omega)]; exact h4 i (by omega) hi')
    unfold wpOp
    simp only [hoj]
    unfold wpList at h5
    split
    · rename_i hw
      rw [if_pos hw] at h5
      exact h5.imp (Oper.wp_mono ih) id
    · rename_i hw
      rw [if_neg hw] at h5
      exact ih _ _ h5

/-- The part that goes in any order. -/
structure AInv (B : World) (h0 : Heap) (n : Nat) (m : SM) (ops : Array Oper) (kk : Nat) (R : AR) (listed : Array Bool) (a : Act) (w : World) : Prop where
  ex : ∃ h, Wd B h w ∧ Old h0 h ∧ Fr n a m ∧ ∀ i, i < kk → listed.getD i false = true → ∃ d v, dstA ops i = some d ∧ a.tmps[d]? = some v ∧ R i v h

theorem Fr.same {n : Nat} {a a' : Act} {d : Nat} {v : Value} {fm m' : SM} (hd : d < n) (h : Fr n a fm) (h' : Fr n a' ((d, v) :: m')) (hm : ∀ i u, i ≠ d → a.tmps[i]? = some u → lk ((d, v) :: m') i = some u) : a' = a.put (some d) v := by
  obtain ⟨t, ds⟩ := a
  obtain ⟨t', ds'⟩ := a'
  have e1 : ds = [] := h.dfr
  have e2 : ds' = [] := h'.dfr
  subst e1; subst e2
  have s1 : t.size = n := h.siz
  have s2 : t'.size = n := h'.siz
  simp only [Act.put, Act.mk.injEq, and_true]
  apply Array.ext_getElem?
  intro i
  rw [Array.getElem?_setIfInBounds]
  by_cases e : d = i
  · subst e
    rw [if_pos rfl, if_pos (by omega)]
    exact h'.at_ d v (by simp [lk])
  · rw [if_neg e]
    cases hu : t[i]? with
    | some u => exact h'.at_ i u (hm i u (fun e' => e e'.symm) hu)
    | none =>
      have : t.size ≤ i := by
        rcases Nat.lt_or_ge i t.size with h1 | h1
        · rw [Array.getElem?_eq_getElem h1] at hu; cases hu
        · exact h1
      exact Array.getElem?_eq_none (by omega)

theorem unl_split {listed : Array Bool} {kk : Nat} (hk : kk ≤ listed.size) (h1 : ∀ i, i < kk → listed.getD i true = true) (h2 : ∀ i, kk ≤ i → i < listed.size → listed.getD i true = false) : kk + unl listed = listed.size := by
  have e : listed.toList = listed.toList.take kk ++ listed.toList.drop kk := (List.take_append_drop _ _).symm
  unfold unl
  rw [e, List.count_append]
  have c1 : (listed.toList.take kk).count false = 0 := by
    rw [List.count_eq_zero]
    intro hm
    obtain ⟨i, hi, hb⟩ := List.mem_iff_getElem.1 hm
    have hi' : i < kk ∧ i < listed.size := by simp at hi; omega
    have := h1 i hi'.1
    rw [List.getElem_take] at hb
    simp [hi'.2] at this
    simp [this] at hb
  have c2 : (listed.toList.drop kk).count false = (listed.toList.drop kk).length := by
    rw [List.count_eq_length]
    intro b hm
    obtain ⟨i, hi, hb⟩ := List.mem_iff_getElem.1 hm
    have hi' : kk + i < listed.size := by simp at hi; omega
    have := h2 (kk + i) (by omega) hi'
    rw [List.getElem_drop] at hb
    simp [hi'] at this
    simp [this] at hb
    exact hb.symm
  rw [c1, c2]
  simp
  omega

theorem PA_use {R : AR} {h : Heap} {K : SM → Prop} {n : Nat} : ∀ (js : List (Nat × Nat)) (fr : SM), PA R h K js fr → (∀ p ∈ js, ∃ v, a.tmps[p.2]? = some v ∧ R p.1 v h) → Fr n a fr → ∃ fr', K fr' ∧ Fr n a fr'
  | [], fr, hp, _, hf => ⟨fr, hp, hf⟩
  | (j, d) :: js, fr, hp, hj, hf => by
    obtain ⟨v, e2, e3⟩ := hj (j, d) (by simp)
    refine PA_use js _ (hp v e3) (fun j' hj' => hj j' (by simp [hj'])) ⟨hf.dfr, hf.siz, fun i u hi => ?_⟩
    simp only [lk] at hi
    cases hb : Nat.beq d i with
    | true =>
      rw [hb] at hi
      simp only [cond_true, Option.some.injEq] at hi
      have := Nat.eq_of_beq_eq_true hb
      subst this; subst hi
      exact e2
    | false => rw [hb] at hi; simp only [cond_false] at hi; exact hf.at_ i u hi

theorem lk_mem {m : SM} {i : Nat} {v : Value} (h : lk m i = some v) : i ∈ m.map (·.1) := by
  induction m with
  | nil => simp [lk] at h
  | cons e r ih =>
    obtain ⟨j, u⟩ := e
    simp only [lk] at h
    cases hb : Nat.beq j i with
    | true => have := Nat.eq_of_beq_eq_true hb; subst this; simp
    | false => rw [hb] at h; simp only [cond_false] at h; simp [ih h]

theorem yld_spec {n : Nat} {fr : SM} {g d : Nat} (hf : Fr n a fr) {v : Value} (h1 : dstA ops g = some d) (h2 : lk fr d = some v) : yielded ops a.tmps g = yb v := by
  have h3 := hf.at_ d v h2
  unfold yielded
  unfold dstA at h1
  simp only [h1, Option.bind_some, h3]
  cases v <;> rfl

theorem any_run {B : World} {h0 : Heap} {n kk : Nat} {m : SM} {R : AR} (hkk : kk ≤ ops.size) (hb : backB ops = true)
    (hcut : kk = ops.size ∨ (Region.sinkB .any ops kk = true ∧ Region.chainB .any ops kk = true))
    (hown : ownB ops kk n (m.map (·.1)) = true)
    (hmono : ∀ i v h h', Old h0 h → Old h h' → R i v h → R i v h')
    (step : ∀ i o d, i < kk → ops[i]? = some o → o.dst = some d → ∃ ps, psB ops o ps = true ∧ AStep P ops Q B n m h0 R i o d ps)
    (fin : ∀ a w h, Wd B h w → Old h0 h → Fr n a m → (∀ i, i < kk → ∃ d v, dstA ops i = some d ∧ a.tmps[d]? = some v ∧ R i v h) → wpList P ops Q (ops.toList.drop kk) a w) :
    ∀ (fuel : Nat) (listed : Array Bool) (a : Act) (w : World), unl listed = fuel → HeadInv .any ops kk listed → AInv B h0 n m ops kk R listed a w → wpAny P .any ops Q fuel listed a w := by
  intro fuel
  induction fuel with
  | zero =>
    intro listed a w hu inv ai
    have hall : ∀ i, listed.getD i true = true := fun i => unl_zero hu
    obtain ⟨h, g1, g2, g3, g4⟩ := ai.ex
    have hk : kk = ops.size := by
      rcases Nat.lt_or_eq_of_le hkk with h | h
      · have h1 := inv.tail kk (Nat.le_refl _) h
        have h2 := hall kk
        rw [h1] at h2
        cases h2
      · exact h
    have hf := fin a w h g1 g2 g3 fun i hi => g4 i hi (by
      have h2 := hall i
      have : i < listed.size := by rw [inv.size]; omega
      simpa [this] using h2)
    rw [List.drop_eq_nil_of_le (by simp; omega)] at hf
    exact ⟨ready_nil fun i _ => hall i, hf⟩
  | succ fuel ih =>
    intro listed a w hu inv ai
    obtain ⟨h, g1, g2, g3, g4⟩ := ai.ex
    by_cases hall : ∀ i, i < kk → listed.getD i true = true
    · -- all are done: the suffix
      have hf := fin a w h g1 g2 g3 fun i hi => g4 i hi (by
        have h2 := hall i hi
        have : i < listed.size := by rw [inv.size]; omega
        simpa [this] using h2)
      have hlt : kk < ops.size := by
        rcases Nat.lt_or_eq_of_le hkk with h | h
        · exact h
        · exfalso
          have hnone : ∀ b ∈ listed.toList, b = true := by
            intro b hb'
            obtain ⟨i, hi, rfl⟩ := List.mem_iff_getElem.1 hb'
            have hi' : i < listed.size := by simpa using hi
            have := hall i (by have := inv.size; omega)
            simpa [hi'] using this
          have : unl listed = 0 := by
            unfold unl
            rw [List.count_eq_zero]
            intro hm
            have := hnone _ hm
            cases this
          omega
      rcases hcut with hc | ⟨_, hc⟩
      · omega
      · refine suffix_run hc hb (fuel + 1) kk listed a w (Nat.le_refl _) ?_ inv.size hall (fun j hj hj' => inv.tail j hj hj') hf
        have := unl_split (by rw [inv.size]; exact hkk) hall (fun j hj hj' => inv.tail j hj (by rw [← inv.size]; exact hj'))
        rw [inv.size] at this
        omega
    · obtain ⟨k0, hk0, hu0⟩ : ∃ k0, k0 < kk ∧ listed.getD k0 true = false := by
        apply Classical.byContradiction
        intro hno
        refine hall fun i hi => ?_
        cases hl : listed.getD i true with
        | true => rfl
        | false => exact absurd ⟨i, hi, hl⟩ hno
      obtain ⟨i0, _, hi0, _⟩ := ready_least hb inv.size (show k0 < ops.size by omega) hu0
      refine ⟨fun h0 => absurd (h0 ▸ hi0) (by simp), fun i hi => ?_⟩
      obtain ⟨hun, o, ho, hpre⟩ := mem_ready.1 hi
      have hilt : i < ops.size := (Array.getElem?_eq_some_iff.1 ho).1
      have hik : i < kk := by
        rcases Nat.lt_or_ge i kk with h | h
        · exact h
        · rcases hcut with hc | ⟨hs, hc⟩
          · omega
          · exact absurd hi (tail_waits hs hc (by omega) inv _ k0 rfl hk0 hu0 i h)
      have hown' := List.all_eq_true.1 hown i (List.mem_range.2 hik)
      cases hd : dstA ops i with
      | none => rw [hd] at hown'; cases hown'
      | some d =>
      rw [hd] at hown'
      simp only [Bool.and_eq_true, Bool.not_eq_true', List.all_eq_true, List.mem_range, Bool.or_eq_true] at hown'
      obtain ⟨⟨hdn, hdm⟩, hdj⟩ := hown'
      have hdn1 : d + 1 ≤ n := by simpa [Nat.blt] using hdn
      have hdn' : d < n := hdn1
      have hod : o.dst = some d := by unfold dstA at hd; rw [ho] at hd; exact hd
      -- what it waits for
      have hpreds : ∀ j ∈ predsA o, ∃ d v, dstA ops j = some d ∧ a.tmps[d]? = some v ∧ R j v h := by
        intro j hj
        obtain ⟨e, he, rfl⟩ := List.mem_map.1 hj
        obtain ⟨he1, he2⟩ := List.mem_filter.1 he
        have he3 : e ∈ o.after := by simpa using he1
        have h1 := hpre e he3 he2
        have h4 := List.all_eq_true.1 hb i (List.mem_range.2 hilt)
        rw [ho] at h4
        simp only [Option.map_some, Option.getD_some, Array.all_eq_true_iff_forall_mem] at h4
        have h6 := h4 e he3
        simp only [he2, Bool.not_true, Bool.false_or, decide_eq_true_eq] at h6
        exact g4 e.on (by omega) h1
      obtain ⟨ps, hps, hstep⟩ := step i o d hik ho hod
      have hpreds2 : ∀ p ∈ ps, ∃ v, a.tmps[p.2]? = some v ∧ R p.1 v h := by
        intro p hp
        have h1 := List.all_eq_true.1 hps p hp
        simp only [Bool.and_eq_true] at h1
        obtain ⟨d', v, q1, q2, q3⟩ := hpreds p.1 (by simpa using h1.1)
        have h2 := h1.2
        rw [q1] at h2
        have : p.2 = d' := Nat.eq_of_beq_eq_true (by simpa using h2)
        exact ⟨v, by rw [this]; exact q2, q3⟩
      obtain ⟨fr, hK, hfr⟩ := PA_use (a := a) (n := n) _ _ (hstep (fullA a) h g2) hpreds2 ⟨g3.dfr, g3.siz, fun i v hi => by simp [lk] at hi⟩
      have hfull : Fr n a (fr ++ (m ++ fullA a)) := hfr.append (g3.append g3.full)
      have hlk : ∀ i u, a.tmps[i]? = some u → lk (fr ++ (m ++ fullA a)) i = some u := by
        intro i u hu
        have hl : lk (fullA a) i = some u := by
          have : i < a.tmps.size := (Array.getElem?_eq_some_iff.1 hu).1
          rw [lk_full this]
          simp [Array.getD_eq_getD_getElem?, hu]
        have hex : ∃ u', lk (fr ++ (m ++ fullA a)) i = some u' := by
          rw [lk_append, lk_append, hl]
          cases lk fr i with
          | some x => exact ⟨x, by simp⟩
          | none => cases lk m i with
            | some x => exact ⟨x, by simp⟩
            | none => exact ⟨u, by simp⟩
        obtain ⟨u', hu'⟩ := hex
        have := hfull.at_ i u' hu'
        rw [hu] at this
        rw [hu', ← Option.some.inj this]
      -- what follows
      have next : ∀ v w' h', Wd B h' w' → Old h h' → R i v h' → wpAny P .any ops Q fuel (listed.setIfInBounds i true) (a.put (some d) v) w' := by
        intro v w' h' hw' ho' hr
        refine ih _ _ _ (by have := unl_set hun; omega) (inv.set hi hik) ⟨h', hw', g2.trans ho', ?_, fun j hj hl => ?_⟩
        · have hp := g3.put hdn v
          refine ⟨hp.dfr, hp.siz, fun i' u hi' => hp.at_ i' u ?_⟩
          have hne : Nat.beq d i' = false := by
            cases hb' : Nat.beq d i' with
            | false => rfl
            | true =>
              have := Nat.eq_of_beq_eq_true hb'
              subst this
              have h1 := lk_mem hi'
              rw [← List.contains_iff_mem] at h1
              rw [h1] at hdm
              cases hdm
          simp only [lk, hne, cond_false]
          exact hi'
        · by_cases e : i = j
          · subst e
            refine ⟨d, v, hd, ?_, hr⟩
            simp only [Act.put, Array.getElem?_setIfInBounds]
            have := g3.siz
            simp [this, hdn']
          · rw [getD_set_ne false e] at hl
            obtain ⟨dj, vj, q1, q2, q3⟩ := g4 j hj hl
            refine ⟨dj, vj, q1, ?_, hmono _ _ _ _ g2 ho' q3⟩
            have h1 := hdj j hj
            rw [q1] at h1
            have hne : d ≠ dj := by
              rcases h1 with h1 | h1
              · exact absurd (Nat.eq_of_beq_eq_true h1) e
              · intro e'
                subst e'
                simp at h1
            simp only [Act.put, Array.getElem?_setIfInBounds]
            rw [if_neg hne]
            exact q2
      have conv : ∀ a' w', KS B n d (R i) h (fr ++ (m ++ fullA a)) a' w' → wpAny P .any ops Q fuel (listed.setIfInBounds i true) a' w' := by
        rintro a' w' ⟨v, h', f1, f2, f3, f4⟩
        have := Fr.same hdn' hfull f1 fun i u hi hu => by
          have hne : Nat.beq d i = false := by
            cases hb' : Nat.beq d i with
            | false => rfl
            | true => exact absurd (Nat.eq_of_beq_eq_true hb').symm hi
          simp only [lk, hne, cond_false]
          exact hlk i u hu
        subst this
        exact next v w' h' f2 f3 f4
      unfold wpOp
      simp only [ho]
      cases hg : o.guard with
      | none =>
        rw [hg] at hK
        rw [if_pos (by simp [Region.wanted, hg])]
        exact (wp_of_then hg (hK a w hfull g1)).imp (Oper.wp_mono conv) id
      | some gb =>
        obtain ⟨g, b⟩ := gb
        rw [hg] at hK
        obtain ⟨dg, q1, hK⟩ := hK
        rcases hK with ⟨k1, k2⟩ | ⟨v, k1, k2, k3⟩
        · have hy : yielded ops a.tmps g = some b := yld_spec hfr q1 k1
          rw [if_pos (by simp [Region.wanted, hg, hy])]
          exact (wp_unguard (wp_of_then rfl (k2 a w hfull g1))).imp (Oper.wp_mono conv) id
        · have hy : yielded ops a.tmps g ≠ some b := by rw [yld_spec hfr q1 k1]; exact k2
          rw [if_neg (by simp [Region.wanted, hg, hy]), hod]
          exact next undef w h g1 (Old.refl h) k3

/-- every operation's step, one after the other -/
def SAll (P : Program) (ops : Array Oper) (Q : Exit → Act → World → Prop) (B : World) (n : Nat) (m : SM) (h0 : Heap) (R : AR) : Nat → List Oper → List (List (Nat × Nat)) → Prop
  | i, o :: l, ps :: pss => (match o.dst with | some d => AStep P ops Q B n m h0 R i o d ps | none => False) ∧ SAll P ops Q B n m h0 R (i + 1) l pss
  | _, _, _ => True
def pssB (ops : Array Oper) (l : List Oper) (pss : List (List (Nat × Nat))) : Bool := Nat.beq l.length pss.length && (l.zip pss).all fun p => psB ops p.1 p.2
theorem SAll.at_ {B : World} {n : Nat} {m : SM} {h0 : Heap} {R : AR} : ∀ {l : List Oper} {pss : List (List (Nat × Nat))} {k i : Nat} {o : Oper} {d : Nat}, SAll P ops Q B n m h0 R k l pss → pssB ops l pss = true → l[i]? = some o → o.dst = some d → ∃ ps, psB ops o ps = true ∧ AStep P ops Q B n m h0 R (k + i) o d ps
  | [], _, _, _, _, _, _, _, h, _ => by simp at h
  | _ :: _, [], _, _, _, _, _, hb, _, _ => by simp [pssB] at hb
  | o' :: l, ps :: pss, k, 0, o, d, hs, hb, ho, hd => by
    simp only [List.getElem?_cons_zero, Option.some.injEq] at ho
    subst ho
    simp only [SAll, hd] at hs
    simp only [pssB, List.zip_cons_cons, List.all_cons, Bool.and_eq_true] at hb
    exact ⟨ps, hb.2.1, hs.1⟩
  | o' :: l, ps :: pss, k, i + 1, o, d, hs, hb, ho, hd => by
    simp only [List.getElem?_cons_succ] at ho
    simp only [SAll] at hs
    simp only [pssB, List.zip_cons_cons, List.all_cons, Bool.and_eq_true, List.length_cons] at hb
    have := SAll.at_ (l := l) (pss := pss) (k := k + 1) (i := i) hs.2 (by simp only [pssB, Bool.and_eq_true]; exact ⟨by have := hb.1; simpa using this, hb.2.2⟩) ho hd
    rw [show k + (i + 1) = k + 1 + i by omega]
    exact this
end

theorem SAll.cons {P : Program} {ops : Array Oper} {Q : Exit → Act → World → Prop} {B : World} {n : Nat} {m : SM} {h0 : Heap} {R : AR} {i : Nat} {o : Oper} {l : List Oper} {ps : List (Nat × Nat)} {pss : List (List (Nat × Nat))} {d : Nat} (hd : o.dst = some d) (h : AStep P ops Q B n m h0 R i o d ps) (t : SAll P ops Q B n m h0 R (i + 1) l pss) : SAll P ops Q B n m h0 R i (o :: l) (ps :: pss) := by
  simp only [SAll, hd]
  exact ⟨h, t⟩
/-- The stable part and all that is new. -/
def SN (S : Nat → Prop) (h0 h : Heap) : Nat → Prop := fun b => S b ∨ (h0.size ≤ b ∧ b < h.size)
theorem SN.mono {S h0 h h'} (hS : ∀ b, S b → b < h0.size) (o1 : Old h0 h) (o2 : Old h h') : Ext (SN S h0 h) h (SN S h0 h') h' :=
  ⟨fun b hb => hb.imp_right fun x => ⟨x.1, Nat.lt_of_lt_of_le x.2 o2.siz⟩, fun b hb => o2.same b (hb.elim (fun x => Nat.lt_of_lt_of_le (hS b x) o1.siz) (·.2)), o2.siz⟩
theorem SN.st {S L h0 h} (hs : St S L h0) (o : Old h0 h) : St (SN S h0 h) L h := by
  refine ⟨fun b hb => hb.elim (fun x => Nat.lt_of_lt_of_le (hs.1 b x) o.siz) (·.2), ?_⟩
  refine Sp.ext hs.2 (fun b x => .inl x) (fun b hb => o.same b (hb.elim (hs.1 b) (·.1))) fun b hb => ⟨Nat.lt_of_lt_of_le hb.1 o.siz, fun x => x.elim hb.2 fun y => by omega⟩
theorem SN.ext {S h0 h} (hS : ∀ b, S b → b < h0.size) (o : Old h0 h) : Ext S h0 (SN S h0 h) h := ⟨fun _ x => .inl x, fun b hb => o.same b (hS b hb), o.siz⟩

section
variable {P : Program} {ex : List (Nat × AP)} {RR N : AP} {cs : List Code} {B : World} {h : Heap} {n : Nat} {m m0 : SM} {S : Nat → Prop} {L : List HP}
/-- A region that draws its order: kk operations in any order, the others one after the other. fs: what the others, and what follows, need. -/
theorem WF.ra {l : List Oper} {id : Nat} (kk : Nat) (R : AR) (pss : List (List (Nat × Nat))) (fs : List (Nat × Nat)) (hm : P.follows .mixedOrders = true) (hc : cutB l.toArray kk = true) (ms : List Nat) (hms : m.map (·.1) = ms) (hown : ownB l.toArray kk n ms = true)
    (hps : pssB l.toArray (l.take kk) pss = true) (hfs : (fs.all fun p => Nat.blt p.1 kk && (dstA l.toArray p.1).any (Nat.beq p.2 ·)) = true) (hsub : Sub m0 m)
    (hmono : ∀ i v h1 h2, Old h h1 → Old h1 h2 → R i v h1 → R i v h2)
    (step : SAll P l.toArray (Qx ex RR (W P ex RR cs N)) B n m h R 0 (l.take kk) pss)
    (fin : ∀ h', Old h h' → PA R h' (fun fr => LF P l.toArray (Qx ex RR (W P ex RR cs N)) (l.drop kk) B h' n (fr ++ m)) fs []) : WF P ex RR (.region id l.toArray true :: cs) N B h n m0 := by
  intro a w hf hw
  subst hms
  simp only [cutB, Bool.and_eq_true, Bool.or_eq_true] at hc
  obtain ⟨⟨h1, h2⟩, h3⟩ := hc
  have hkk : kk ≤ l.toArray.size := Nat.le_of_ble_eq_true h1
  refine wp_region_any hm (any_run (kk := kk) (R := R) (B := B) (h0 := h) (n := n) (m := m) hkk h3 (h2.imp (fun e => Nat.eq_of_beq_eq_true e) fun x => x) hown hmono (fun i o d hi ho hd => ?_) (fun a w h' g1 g2 g3 g4 => ?_) _ _ _ _ ?_ ⟨by simp, fun j oj _ hl => (by rw [getD_replicate_false] at hl; cases hl), fun t _ ht => getD_in (by simpa using ht) (getD_replicate_false _ _)⟩ ⟨h, hw.drew, Old.refl h, hf.sub hsub, fun i _ hl => (by rw [getD_replicate_false] at hl; cases hl)⟩)
  · have ho' : (l.take kk)[i]? = some o := by rw [List.getElem?_take_of_lt hi]; simpa using ho
    have := SAll.at_ step hps ho' hd
    rw [Nat.zero_add] at this
    exact this
  · obtain ⟨fr, k1, k2⟩ := PA_use (a := a) (n := n) _ _ (fin h' g2) (fun p hp => by
      have e := List.all_eq_true.1 hfs p hp
      simp only [Bool.and_eq_true] at e
      have e1 : p.1 < kk := (by simpa [Nat.blt] using e.1 : p.1 + 1 ≤ kk)
      obtain ⟨d, v, q1, q2, q3⟩ := g4 p.1 e1
      have e2 := e.2
      rw [q1] at e2
      have : p.2 = d := Nat.eq_of_beq_eq_true (by simpa using e2)
      exact ⟨v, by rw [this]; exact q2, q3⟩) ⟨g3.dfr, g3.siz, fun i v hi => by simp [lk] at hi⟩
    exact k1 a w (k2.append g3) g1
  · unfold unl
    rw [Array.toList_replicate]
    simp
end
/-- The end of one operation of such a region. -/
theorem LF.aend {P : Program} {ops : Array Oper} {Q : Exit → Act → World → Prop} {B : World} {n d : Nat} {R : Value → Heap → Prop} {h h' : Heap} {m : SM} {v : Value} (o : Old h h') (r : R v h') : LF P ops (Exit.then (KS B n d R h m) Q) [] B h' n ((d, v) :: m) :=
  fun _ _ hf hw => ⟨v, h', hf, hw, o, r⟩

/-- All other old blocks, as they are. -/
def Fz (F0 : Nat → Prop) (h : Heap) : HP where
  holds := fun _ F h' => (∀ b, F b ↔ F0 b) ∧ ∀ b, F0 b → h'[b]? = h[b]?
  loc := fun ⟨k1, k2⟩ _ e => ⟨k1, fun b hb => (e b (.inr ((k1 b).2 hb))).trans (k2 b hb)⟩
def FzO (S : Nat → Prop) (h : Heap) : HP := Fz (fun b => b < h.size ∧ ¬ S b) h
theorem St.fz {S L h} (hs : St S L h) : St S [FzO S h] h := ⟨hs.1, _, ⟨fun _ => Iff.rfl, fun _ _ => rfl⟩, fun b hb => hb, trivial⟩
/-- What such a step leaves: all old blocks are as they were, the stable part lies in SN. -/
theorem Fz.done {S S2 : Nat → Prop} {h0 h h2 : Heap} (o : Old h0 h) (e : Ext (SN S h0 h) h S2 h2) (hs : St S2 [FzO (SN S h0 h) h] h2) : Old h h2 ∧ Ext S2 h2 (SN S h0 h2) h2 := by
  obtain ⟨F, ⟨k1, k2⟩, k3, _⟩ := hs.2
  refine ⟨⟨e.siz, fun b hb => ?_⟩, fun b hb => ?_, fun _ _ => rfl, Nat.le_refl _⟩
  · rcases Classical.em (SN S h0 h b) with g | g
    · exact e.same b g
    · exact k2 b ⟨hb, g⟩
  · rcases Nat.lt_or_ge b h.size with g | g
    · rcases Classical.em (SN S h0 h b) with g2 | g2
      · exact g2.imp_right fun x => ⟨x.1, hs.1 b hb⟩
      · exact absurd hb (k3 b ((k1 b).2 ⟨g, g2⟩)).2
    · exact .inr ⟨Nat.le_trans o.siz g, hs.1 b hb⟩

/-! ### a literal whose parts are all its places, in order -/
def seqV (sz : Nat) : Nat → List (Nat × Value) → Bool
  | _, [] => true
  | k, (i, v) :: r => Nat.beq i k && Nat.beq v.cells.toList.length sz && seqV sz (k + 1) r
theorem fillV_seq {sz len : Nat} : ∀ (pv : List (Nat × Value)) (k : Nat) (pre rest : List Value), seqV sz k pv = true → pre.length = k * sz → rest.length = pv.length * sz → k + pv.length ≤ len →
    fillV (plcs sz len) (pre ++ rest) pv = some (pre ++ (pv.map fun p => p.2.cells.toList).flatten)
  | [], k, pre, rest, _, _, h2, _ => by
    have : rest = [] := List.eq_nil_of_length_eq_zero (by simpa using h2)
    subst this
    simp [fillV]
  | (i, v) :: r, k, pre, rest, h0, h1, h2, h3 => by
    simp only [seqV, Bool.and_eq_true] at h0
    obtain ⟨⟨e1, e2⟩, e3⟩ := h0
    have e1 := Nat.eq_of_beq_eq_true e1
    subst e1
    have hv := Nat.eq_of_beq_eq_true e2
    simp only [List.length_cons, Nat.succ_mul] at h2
    have hk : i < len := by simp at h3; omega
    have hp : (plcs sz len)[i]? = some (i * sz, sz) := by simp [plcs, hk]
    simp only [fillV, hp]
    have hc : (Nat.beq v.cells.toList.length sz && Nat.ble (i * sz + sz) (pre ++ rest).length) = true := by
      rw [e2, Bool.true_and]
      exact Nat.ble_eq_true_of_le (by rw [List.length_append]; omega)
    rw [hc]
    simp only [cond_true]
    have hput : putC (pre ++ rest) (i * sz) v.cells.toList = (pre ++ v.cells.toList) ++ rest.drop sz := by
      unfold putC
      rw [← h1, List.take_left, ← List.drop_drop, List.drop_left, hv]
    rw [hput, fillV_seq r (i + 1) (pre ++ v.cells.toList) (rest.drop sz) e3 (by rw [List.length_append, hv, Nat.succ_mul]; omega) (by rw [List.length_drop]; omega) (by simp at h3; omega)]
    simp
theorem seqV_lt {sz : Nat} : ∀ (pv : List (Nat × Value)) (k : Nat), seqV sz k pv = true → ∀ p ∈ pv, p.1 < k + pv.length
  | [], _, _, p, hp => by cases hp
  | (i, v) :: r, k, h0, p, hp => by
    simp only [seqV, Bool.and_eq_true] at h0
    obtain ⟨⟨e1, e2⟩, e3⟩ := h0
    have e1 := Nat.eq_of_beq_eq_true e1
    rcases List.mem_cons.1 hp with h | h
    · subst h; simp; omega
    · have := seqV_lt r (k + 1) e3 p h; simp; omega
theorem LF.bsq {P : Program} {ops : Array Oper} {Q : Exit → Act → World → Prop} {n : Nat} {m : SM} {rest : List Oper} {d : Nat} {ty : TypeId} {pos : String} {af : Array Edge} {B : World} {h : Heap} {S : Nat → Prop} {L : List HP}
    {T e sz by_ len : Nat} {z cs : List Value} {parts : Array (Nat × Operand)} {pv : List (Nat × Value)} (he : elL P T = some (e, sz, by_, z)) (hp : parts.toList.mapM (prt m) = some pv)
    (hq : seqV sz 0 pv = true) (hl : Nat.beq pv.length len = true) (hc : (pv.map fun p => p.2.cells.toList).flatten = cs) (hl0 : Nat.blt 0 len = true) (hsm : Nat.ble (len * sz) 16777216 = true) (hd : Nat.blt d n = true) (hs : St S L h)
    (k : ∀ b h', St S (Bx b e cs :: L) h' → Ext S h S h' → LF P ops Q rest B h' n ((d, .slice (some ⟨b, 0, none⟩) len len) :: m)) : LF P ops Q (⟨some d, .buildSlice T len parts, ty, pos, af, none⟩ :: rest) B h n m := by
  have hl := Nat.eq_of_beq_eq_true hl
  subst hl
  obtain ⟨i, zv, _, _, _, _, _, _, h7, _⟩ := elL_spec he
  refine LF.bs he hp (cs := cs) ?_ hl0 hsm (fun p hp => by have := seqV_lt pv 0 hq p hp; omega) hd hs k
  have := fillV_seq (len := pv.length) pv 0 [] (List.replicate pv.length z).flatten hq (by simp) (by simp [h7]) (by omega)
  rw [List.nil_append, List.nil_append, hc] at this
  exact this
end Go.Proofs.Ytibidnaedddfdaa
