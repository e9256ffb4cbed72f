/- A small logic over the model: sparse frames, heaps with a stable part and owned items, typed readings. No function of the program. -/
import Derived.WalkKit
import Derived.WalkSpells
import Derived.WalkLawsBesides
import Derived.Deep.QuietTactic
import Derived.KernelRfl
namespace Go.Proofs.Ytibidnaedddfdaa
open Go.RowKit

abbrev Heap := Array Obj

/-! ### sparse frames -/
def lk : List (Nat × Value) → Nat → Option Value
  | [], _ => none
  | (i, v) :: r, j => cond (Nat.beq i j) (some v) (lk r j)

structure Fr (n : Nat) (a : Act) (m : List (Nat × Value)) : Prop where
  dfr : a.defers = []
  siz : a.tmps.size = n
  at_ : ∀ i v, lk m i = some v → a.tmps[i]? = some v

def lkO (m : List (Nat × Value)) : Operand → Option Value
  | .tmp t => lk m t
  | .const v => some v
  | .global g => some (.pointer (some ⟨g, 0, none⟩))
  | .func f => some (.func (.func f) #[] #[])

theorem Fr.eval {n a m X v} (h : Fr n a m) (hx : lkO m X = some v) : a.eval X = v := by
  cases X with
  | tmp t =>
    have := h.at_ t v hx
    simp [Act.eval, Array.getD_eq_getD_getElem?, this]
  | const u => simpa [lkO, Act.eval] using hx
  | global g => simpa [lkO, Act.eval] using hx
  | func f => simpa [lkO, Act.eval] using hx

theorem Fr.put {n a m d} (h : Fr n a m) (hd : Nat.blt d n = true) (v : Value) : Fr n (a.put (some d) v) ((d, v) :: m) := by
  have hd' : d < n := (by simpa [Nat.blt] using hd : d + 1 ≤ n)
  refine ⟨by simpa [Act.put] using h.dfr, by simpa [Act.put] using h.siz, fun i u hu => ?_⟩
  simp only [Act.put, Array.getElem?_setIfInBounds]
  simp only [lk] at hu
  by_cases e : d = i
  · subst e
    have : Nat.beq d d = true := by simp
    rw [this] at hu
    simp only [cond_true, Option.some.injEq] at hu
    subst hu
    simp [h.siz, hd']
  · have : Nat.beq d i = false := by
      cases hb : Nat.beq d i with
      | false => rfl
      | true => exact absurd (Nat.eq_of_beq_eq_true hb) e
    rw [this] at hu
    simp only [cond_false] at hu
    rw [if_neg e]
    exact h.at_ i u hu

theorem Fr.put0 {n a m} (h : Fr n a m) (v : Value) : Fr n (a.put none v) m := h

def Sub (m : List (Nat × Value)) : List (Nat × Value) → Prop
  | [] => True
  | e :: r => lk m e.1 = some e.2 ∧ Sub m r

theorem Fr.sub {n a m m'} (h : Fr n a m) (hs : Sub m m') : Fr n a m' := by
  refine ⟨h.dfr, h.siz, fun i v hi => h.at_ i v ?_⟩
  induction m' with
  | nil => simp [lk] at hi
  | cons e r ih =>
    obtain ⟨j, u⟩ := e
    simp only [lk] at hi
    cases hb : Nat.beq j i with
    | true =>
      rw [hb] at hi
      simp only [cond_true, Option.some.injEq] at hi
      have := Nat.eq_of_beq_eq_true hb
      subst this; subst hi
      exact hs.1
    | false =>
      rw [hb] at hi
      simp only [cond_false] at hi
      exact ih hs.2 hi

/-! ### heaps -/
def hcell (h : Heap) (a : Addr) : Option Value :=
  match h[a.block]? with
  | some (.cells c _ _) => if a.spot.isSome then none else c[a.off]?
  | _ => none

theorem hcell_world (w : World) (a : Addr) : w.cell? a = hcell w.heap a := rfl

/-- The world's heap is h; all else (but for draws) is as in B. -/
structure Wd (B : World) (h : Heap) (w : World) : Prop where
  heap : w.heap = h
  os : w.os = B.os
  tape : w.tape = B.tape
  out : w.output = B.output

structure Ext (S : Nat → Prop) (h : Heap) (S' : Nat → Prop) (h' : Heap) : Prop where
  sub : ∀ b, S b → S' b
  same : ∀ b, S b → h'[b]? = h[b]?
  siz : h.size ≤ h'.size

theorem Ext.refl (S : Nat → Prop) (h : Heap) : Ext S h S h := ⟨fun _ x => x, fun _ _ => rfl, Nat.le_refl _⟩
theorem Ext.trans {S h S' h' S'' h''} (x : Ext S h S' h') (y : Ext S' h' S'' h'') : Ext S h S'' h'' :=
  ⟨fun b hb => y.sub b (x.sub b hb), fun b hb => (y.same b (x.sub b hb)).trans (x.same b hb), Nat.le_trans x.siz y.siz⟩

theorem hcell_of_same {h h' : Heap} {a : Addr} (e : h'[a.block]? = h[a.block]?) : hcell h' a = hcell h a := by simp [hcell, e]

/-- An owned item: what holds of its own blocks F (and of the stable ones S). -/
structure HP where
  holds : (Nat → Prop) → (Nat → Prop) → Heap → Prop
  loc : ∀ {S S' F h h'}, holds S F h → (∀ b, S b → S' b) → (∀ b, S b ∨ F b → h'[b]? = h[b]?) → holds S' F h'

def Sp (S : Nat → Prop) : List HP → Heap → (Nat → Prop) → Prop
  | [], _, _ => True
  | H :: L, h, A => ∃ F, H.holds S F h ∧ (∀ b, F b → A b) ∧ Sp S L h (fun b => A b ∧ ¬ F b)

def St (S : Nat → Prop) (L : List HP) (h : Heap) : Prop := (∀ b, S b → b < h.size) ∧ Sp S L h (fun b => b < h.size ∧ ¬ S b)

theorem Sp.mono {S : Nat → Prop} {L h} : ∀ {A A' : Nat → Prop}, Sp S L h A → (∀ b, A b → A' b) → Sp S L h A' := by
  induction L with
  | nil => intros; trivial
  | cons H L ih =>
    rintro A A' ⟨F, h1, h2, h3⟩ ha
    exact ⟨F, h1, fun b hb => ha b (h2 b hb), ih h3 fun b hb => ⟨ha b hb.1, hb.2⟩⟩

theorem Sp.ext {S S' : Nat → Prop} {L h h'} : ∀ {A A' : Nat → Prop}, Sp S L h A → (∀ b, S b → S' b) → (∀ b, S b ∨ A b → h'[b]? = h[b]?) → (∀ b, A b → A' b) → Sp S' L h' A' := by
  induction L with
  | nil => intros; trivial
  | cons H L ih =>
    rintro A A' ⟨F, h1, h2, h3⟩ hs he ha
    refine ⟨F, H.loc h1 hs fun b hb => he b (hb.imp_right (h2 b)), fun b hb => ha b (h2 b hb), ?_⟩
    exact ih h3 hs (fun b hb => he b (hb.imp_right (·.1))) fun b hb => ⟨ha b hb.1, hb.2⟩

/-- L2 is L with an item H turned into H'. -/
inductive Repl : List HP → HP → HP → List HP → Prop
  | head {L H H'} : Repl (H :: L) H H' (H' :: L)
  | tail {K L H H' L2} : Repl L H H' L2 → Repl (K :: L) H H' (K :: L2)

/-- L is L2 and H. -/
inductive Pick : List HP → HP → List HP → Prop
  | head {L H} : Pick (H :: L) H L
  | tail {K L H L2} : Pick L H L2 → Pick (K :: L) H (K :: L2)

theorem Sp.pick {S : Nat → Prop} {h} {L L2 : List HP} {H : HP} (p : Pick L H L2) : ∀ {A : Nat → Prop}, Sp S L h A → Sp S (H :: L2) h A := by
  induction p with
  | head => exact id
  | tail p ih =>
    rintro A ⟨F, h1, h2, h3⟩
    obtain ⟨G, g1, g2, g3⟩ := ih h3
    refine ⟨G, g1, fun b hb => (g2 b hb).1, F, h1, fun b hb => ⟨h2 b hb, fun hg => (g2 b hg).2 hb⟩, g3.mono fun b hb => ⟨⟨hb.1.1, hb.2⟩, hb.1.2⟩⟩

theorem Sp.unpick {S : Nat → Prop} {h} {L L2 : List HP} {H : HP} (p : Pick L H L2) : ∀ {A : Nat → Prop}, Sp S (H :: L2) h A → Sp S L h A := by
  induction p with
  | head => exact id
  | tail p ih =>
    rintro A ⟨G, g1, g2, F, h1, h2, h3⟩
    refine ⟨F, h1, fun b hb => (h2 b hb).1, ih ⟨G, g1, fun b hb => ⟨g2 b hb, fun hf => (h2 b hf).2 hb⟩, h3.mono fun b hb => ⟨⟨hb.1.1, hb.2⟩, hb.1.2⟩⟩⟩

theorem Repl.pick {L H H' L2} (r : Repl L H H' L2) : ∃ M, Pick L H M ∧ Pick L2 H' M := by
  induction r with
  | head => exact ⟨_, .head, .head⟩
  | tail r ih => obtain ⟨M, p, q⟩ := ih; exact ⟨_, .tail p, .tail q⟩

theorem Sp.get {S : Nat → Prop} {h} {L : List HP} {H : HP} {A : Nat → Prop} (hm : H ∈ L) (hs : Sp S L h A) : ∃ F, H.holds S F h ∧ ∀ b, F b → A b := by
  induction L generalizing A with
  | nil => cases hm
  | cons K L ih =>
    obtain ⟨F, h1, h2, h3⟩ := hs
    cases hm with
    | head => exact ⟨F, h1, h2⟩
    | tail _ hm => obtain ⟨G, g1, g2⟩ := ih hm h3; exact ⟨G, g1, fun b hb => (g2 b hb).1⟩

theorem St.get {S L h H} (hs : St S L h) (hm : H ∈ L) : ∃ F, H.holds S F h ∧ ∀ b, F b → b < h.size ∧ ¬ S b := Sp.get hm hs.2

/-- One item is turned: its own blocks and new ones alone differ. -/
theorem St.upd {S L h H H' L2 h'} (hs : St S L h) (r : Repl L H H' L2) (hz : h.size ≤ h'.size)
    (k : ∀ F, H.holds S F h → (∀ b, F b → b < h.size ∧ ¬ S b) → ∃ F', H'.holds S F' h' ∧ (∀ b, F' b → F b ∨ (h.size ≤ b ∧ b < h'.size)) ∧ ∀ b, b < h.size → ¬ F b → h'[b]? = h[b]?) :
    St S L2 h' ∧ Ext S h S h' := by
  obtain ⟨M, p, q⟩ := r.pick
  obtain ⟨F, h1, h2, h3⟩ := Sp.pick p hs.2
  obtain ⟨F', k1, k2, k3⟩ := k F h1 h2
  have hS : ∀ b, S b → h'[b]? = h[b]? := fun b hb => k3 b (hs.1 b hb) fun hf => (h2 b hf).2 hb
  refine ⟨⟨fun b hb => Nat.lt_of_lt_of_le (hs.1 b hb) hz, ?_⟩, fun _ x => x, hS, hz⟩
  refine Sp.unpick q ⟨F', k1, fun b hb => ?_, ?_⟩
  · rcases k2 b hb with hf | ⟨hl, hu⟩
    · exact ⟨Nat.lt_of_lt_of_le (h2 b hf).1 hz, (h2 b hf).2⟩
    · exact ⟨hu, fun hb' => absurd (hs.1 b hb') (by omega)⟩
  · refine Sp.ext h3 (fun _ x => x) (fun b hb => ?_) fun b hb => ⟨⟨Nat.lt_of_lt_of_le hb.1.1 hz, hb.1.2⟩, fun hf' => ?_⟩
    · rcases hb with hb | hb
      · exact hS b hb
      · exact k3 b hb.1.1 hb.2
    · rcases k2 b hf' with hf | ⟨hl, _⟩
      · exact hb.2 hf
      · exact absurd hb.1.1 (by omega)

/-- A new item beside the others. -/
theorem St.add {S L h H' h'} (hs : St S L h) (hz : h.size ≤ h'.size) (hk : ∀ b, b < h.size → h'[b]? = h[b]?)
    (k : ∃ F', H'.holds S F' h' ∧ ∀ b, F' b → h.size ≤ b ∧ b < h'.size) : St S (H' :: L) h' ∧ Ext S h S h' := by
  obtain ⟨F', k1, k2⟩ := k
  refine ⟨⟨fun b hb => Nat.lt_of_lt_of_le (hs.1 b hb) hz, F', k1, fun b hb => ⟨(k2 b hb).2, fun hb' => absurd (hs.1 b hb') (by have := (k2 b hb).1; omega)⟩, ?_⟩, fun _ x => x, fun b hb => hk b (hs.1 b hb), hz⟩
  refine Sp.ext hs.2 (fun _ x => x) (fun b hb => hk b (hb.elim (hs.1 b) (·.1))) fun b hb => ⟨⟨Nat.lt_of_lt_of_le hb.1 hz, hb.2⟩, fun hf => absurd hb.1 (by have := (k2 b hf).1; omega)⟩

/-- An owned item is handed over to the stable part. -/
theorem St.pub {S L h H L2} (hs : St S L h) (p : Pick L H L2) : ∃ F, H.holds S F h ∧ (∀ b, F b → b < h.size ∧ ¬ S b) ∧ St (fun b => S b ∨ F b) L2 h ∧ Ext S h (fun b => S b ∨ F b) h := by
  obtain ⟨F, h1, h2, h3⟩ := Sp.pick p hs.2
  refine ⟨F, h1, h2, ⟨fun b hb => hb.elim (hs.1 b) fun hf => (h2 b hf).1, ?_⟩, fun _ x => .inl x, fun _ _ => rfl, Nat.le_refl _⟩
  exact Sp.ext h3 (fun _ x => .inl x) (fun _ _ => rfl) fun b hb => ⟨hb.1.1, fun h => h.elim hb.1.2 hb.2⟩

theorem St.drop {S L h H L2} (hs : St S L h) (p : Pick L H L2) : St S L2 h := by
  obtain ⟨F, h1, h2, h3⟩ := Sp.pick p hs.2
  exact ⟨hs.1, h3.mono fun b hb => hb.1⟩

/-! ### typed readings -/
structure Rep (α : Type) where
  sz : Nat
  ag : Bool
  rd : (Nat → Prop) → Heap → List Value → α → Prop
  len : ∀ {S h cs x}, rd S h cs x → cs.length = sz
  one : ∀ {S h cs x}, rd S h cs x → ∀ v ∈ cs, v.oneCell' = true
  mono : ∀ {S S' h h' cs x}, rd S h cs x → (∀ b, S b → S' b) → (∀ b, S b → h'[b]? = h[b]?) → rd S' h' cs x

def Rep.val {α} (r : Rep α) (cs : List Value) : Value := if r.ag then .agg cs.toArray else cs.headD undef

/-- A value that reads as x. -/
def Rd {α} (S : Nat → Prop) (h : Heap) (r : Rep α) (v : Value) (x : α) : Prop := ∃ cs, v = r.val cs ∧ r.rd S h cs x
theorem Rd.mono {α S h S' h'} {r : Rep α} {v x} (k : Rd S h r v x) (e : Ext S h S' h') : Rd S' h' r v x :=
  let ⟨cs, h1, h2⟩ := k; ⟨cs, h1, r.mono h2 e.sub e.same⟩

def Cells (S : Nat → Prop) (h : Heap) (p : Value) (cs : List Value) : Prop :=
  ∃ a : Addr, p = .pointer (some a) ∧ a.spot = none ∧ S a.block ∧ ∀ j, j < cs.length → hcell h ⟨a.block, a.off + j, none⟩ = cs[j]?
theorem Cells.mono {S h S' h' p cs} (k : Cells S h p cs) (s : ∀ b, S b → S' b) (e : ∀ b, S b → h'[b]? = h[b]?) : Cells S' h' p cs :=
  let ⟨a, h1, h2, h3, h4⟩ := k; ⟨a, h1, h2, s _ h3, fun j hj => (hcell_of_same (a := ⟨a.block, a.off + j, none⟩) (e _ h3)).trans (h4 j hj)⟩

/-- A pointer to memory that reads as x. -/
def Pt2 {α} (A S : Nat → Prop) (h : Heap) (r : Rep α) (p : Value) (x : α) : Prop := ∃ cs, Cells A h p cs ∧ r.rd S h cs x
abbrev Pt {α} (S : Nat → Prop) (h : Heap) (r : Rep α) (p : Value) (x : α) : Prop := Pt2 S S h r p x
theorem Pt2.mono {α S h S' h'} {r : Rep α} {p x} (k : Pt S h r p x) (e : Ext S h S' h') : Pt S' h' r p x :=
  let ⟨cs, h1, h2⟩ := k; ⟨cs, h1.mono e.sub e.same, r.mono h2 e.sub e.same⟩

def inI64 (n : Int) : Prop := -9223372036854775808 ≤ n ∧ n ≤ 9223372036854775807

def Rep.int : Rep Int where
  sz := 1
  ag := false
  rd := fun _ _ cs x => cs = [.int .i64 x] ∧ inI64 x
  len := fun ⟨h, _⟩ => by rw [h]; rfl
  one := fun ⟨h, _⟩ v hv => by rw [h] at hv; simp at hv; rw [hv]; rfl
  mono := fun h _ _ => h
def Rep.bool : Rep Bool where
  sz := 1
  ag := false
  rd := fun _ _ cs x => cs = [.bool x]
  len := fun h => by rw [h]; rfl
  one := fun h v hv => by rw [h] at hv; simp at hv; rw [hv]; rfl
  mono := fun h _ _ => h
def Rep.str : Rep ByteArray where
  sz := 1
  ag := false
  rd := fun _ _ cs x => cs = [.string x] ∧ x.size ≤ maxLen
  len := fun ⟨h, _⟩ => by rw [h]; rfl
  one := fun ⟨h, _⟩ v hv => by rw [h] at hv; simp at hv; rw [hv]; rfl
  mono := fun h _ _ => h

/-- A slice value that reads as l. -/
def Sl {α} (S : Nat → Prop) (h : Heap) (r : Rep α) (v : Value) (l : List α) : Prop :=
  (v = .slice none 0 0 ∧ l = []) ∨
  ∃ (a : Addr) (cap : Nat), v = .slice (some a) l.length cap ∧ l.length ≤ cap ∧ cap ≤ maxLen ∧
    ∀ i x, l[i]? = some x → a.spot = none ∧ Pt S h r (.pointer (some ⟨a.block, a.off + i * r.sz, none⟩)) x
theorem Sl.mono {α S h S' h'} {r : Rep α} {v l} (k : Sl S h r v l) (s : ∀ b, S b → S' b) (e : ∀ b, S b → h'[b]? = h[b]?) : Sl S' h' r v l := by
  rcases k with k | ⟨a, cap, h1, h4, h5, h6⟩
  · exact .inl k
  · refine .inr ⟨a, cap, h1, h4, h5, fun i x hi => ?_⟩
    obtain ⟨hsp, cs, k1, k2⟩ := h6 i x hi
    exact ⟨hsp, cs, k1.mono s e, r.mono k2 s e⟩
theorem Sl.len {α S h} {r : Rep α} {v l} (k : Sl S h r v l) : ∃ a cap, v = .slice a l.length cap ∧ l.length ≤ maxLen := by
  rcases k with ⟨rfl, rfl⟩ | ⟨a, cap, h1, h4, h5, h6⟩
  · exact ⟨none, 0, rfl, Nat.zero_le _⟩
  · exact ⟨some a, cap, h1, Nat.le_trans h4 h5⟩

def Rep.sl {α} (r : Rep α) : Rep (List α) where
  sz := 1
  ag := false
  rd := fun S h cs l => ∃ v, cs = [v] ∧ Sl S h r v l
  len := fun ⟨_, h, _⟩ => by rw [h]; rfl
  one := fun ⟨u, h, k⟩ v hv => by
    rw [h] at hv; simp at hv; rw [hv]
    rcases k with ⟨rfl, _⟩ | ⟨a, c, rfl, _⟩ <;> rfl
  mono := fun ⟨v, h, k⟩ s e => ⟨v, h, k.mono s e⟩

theorem Sl.mono' {α S h S' h'} {r : Rep α} {v l} (k : Sl S h r v l) (e : Ext S h S' h') : Sl S' h' r v l := k.mono e.sub e.same

theorem Rd.int {S h v x} (k : Rd S h Rep.int v x) : v = .int .i64 x ∧ inI64 x := by obtain ⟨_, rfl, rfl, h⟩ := k; exact ⟨rfl, h⟩
theorem Rd.bool {S h v x} (k : Rd S h Rep.bool v x) : v = .bool x := by obtain ⟨_, rfl, rfl⟩ := k; rfl
theorem Rd.str {S h v x} (k : Rd S h Rep.str v x) : v = .string x ∧ x.size ≤ maxLen := by obtain ⟨_, rfl, rfl, h⟩ := k; exact ⟨rfl, h⟩
theorem Rd.sl {α S h v x} {r : Rep α} (k : Rd S h r.sl v x) : Sl S h r v x := by obtain ⟨_, rfl, _, rfl, h⟩ := k; exact h
theorem Rd.ofSl {α S h v x} {r : Rep α} (k : Sl S h r v x) : Rd S h r.sl v x := ⟨[v], rfl, v, rfl, k⟩

/-- The part of r at offset o is r', by the projection f. -/
def Fld {α β} (r : Rep α) (o : Nat) (r' : Rep β) (f : α → β) : Prop :=
  ∀ {S h cs x}, r.rd S h cs x → r'.rd S h ((cs.drop o).take r'.sz) (f x)

theorem Pt2.fld {α β A S h} {r : Rep α} {r' : Rep β} {o f p x} (k : Pt2 A S h r p x) (hf : Fld r o r' f) :
    ∃ a : Addr, p = .pointer (some a) ∧ Pt2 A S h r' (.pointer (some (a.add o))) (f x) := by
  obtain ⟨cs, ⟨a, rfl, h2, h3, h4⟩, h5⟩ := k
  refine ⟨a, rfl, _, ⟨a.add o, rfl, ?_, ?_, ?_⟩, hf h5⟩
  · unfold Addr.add; split <;> simp [h2]
  · unfold Addr.add; split <;> exact h3
  · intro j hj
    have hb : (a.add o).block = a.block := by unfold Addr.add; split <;> rfl
    have ho : (a.add o).off = a.off + o := by unfold Addr.add; split <;> simp_all
    rw [hb, ho]
    simp only [List.length_take, List.length_drop] at hj
    have := h4 (o + j) (by omega)
    rw [Nat.add_assoc, this, List.getElem?_take_of_lt (by omega), List.getElem?_drop]

end Go.Proofs.Ytibidnaedddfdaa
