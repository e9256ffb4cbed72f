/- Maps that a call owns; arrays in a block of their own. No function of the program. -/
import Derived.Test.YtibidnaedddfdaaCore12
import Derived.MapKept
namespace Go.Proofs.Ytibidnaedddfdaa
open Go.RowKit
set_option linter.unusedVariables false
set_option linter.unusedSimpArgs false

theorem all_nil {α} {p : α → Prop} : ∀ x ∈ ([] : List α), p x := fun u h => by cases h
theorem all_cons {α} {p : α → Prop} {x : α} {l : List α} (h : p x) (t : ∀ x ∈ l, p x) : ∀ y ∈ x :: l, p y := fun u hu => by
  rcases List.mem_cons.1 hu with rfl | hu
  · exact h
  · exact t u hu
theorem ixall {α} {p : α → Prop} {l : List α} {i : Int} {z : α} (h : ∀ x ∈ l, p x) (hz : ix l i = some z) : p z := h _ (List.mem_of_getElem? (ix_spec hz).2)
theorem bft (b : Bool) : b = false ∨ b = true := by cases b <;> simp
theorem one_nil : ∀ u ∈ ([] : List Value), u.oneCell' = true := fun u h => by cases h
theorem one_cons {v : Value} {vs : List Value} (h : v.oneCell' = true) (t : ∀ u ∈ vs, u.oneCell' = true) : ∀ u ∈ v :: vs, u.oneCell' = true := fun u hu => by
  rcases List.mem_cons.1 hu with rfl | hu
  · exact h
  · exact t u hu
theorem St.osone {α} {r : Rep α} {T : Nat} {v : Value} {l : List α} {S : Nat → Prop} {L : List HP} {h : Heap} (hs : St S L h) (hm : OS r T v l ∈ L) : v.oneCell' = true := (hs.oslAll hm).one

def eqKV : Value → Value → Bool
  | .agg a, .agg b => eqC a.toList b.toList
  | a, b => eqV a b
/-- the words of the pure forms -/
def mget {κ β} (kv : κ → Value) (m : List (κ × β)) (k : κ) : Option β := (m.find? fun e => eqKV (kv k) (kv e.1)).map (·.2)
def mput {κ β} (kv : κ → Value) : List (κ × β) → κ → β → List (κ × β)
  | [], k, x => [(k, x)]
  | (k', y) :: r, k, x => if eqKV (kv k) (kv k') then (k, x) :: r else (k', y) :: mput kv r k x

def fnd (p : Value → Bool) : List MapEntry → Nat → Option (Nat × Value)
  | [], _ => none
  | e :: es, i => if p e.key then some (i, e.val) else fnd p es (i + 1)

structure KeyOK {κ : Type} (P : Program) (T : TypeId) (kv : κ → Value) : Prop where
  chk : ∀ k e w, (Instr.checkKey e 10000 T (kv k)).run P w = .ok () w
  find : ∀ k (es : List MapEntry) w, (∀ e ∈ es, ∃ k', e.key = kv k') → (Instr.findKey T (kv k) es).run P w = .ok (fnd (eqKV (kv k)) es 0) w
  same : ∀ k k', eqKV (kv k) (kv k') = true → Instr.sameBits 10000 (kv k') (kv k) = true

theorem findNow_fnd (kind : TypeDesc) (k : Value) (p : Value → Bool) : ∀ (es : List MapEntry) (i : Nat), (∀ e ∈ es, Instr.sameNow kind k e.key = some (p e.key)) → Instr.findNow kind k es i = some (fnd p es i)
  | [], _, _ => rfl
  | e :: es, i, h => by
    have h1 := h e (by simp)
    have h2 := findNow_fnd kind k p es (i + 1) fun e he => h e (by simp [he])
    simp only [Instr.findNow, h1, fnd]
    cases p e.key
    · simpa using h2
    · rfl
theorem findAsking_fnd {P : Program} (T : TypeId) (k : Value) (p : Value → Bool) (w : World) : ∀ (es : List MapEntry) (i : Nat), (∀ e ∈ es, (Op.equal T k e.key).run P w = .ok (p e.key) w) → (Instr.findAsking T k es i).run P w = .ok (fnd p es i) w
  | [], _, _ => rfl
  | e :: es, i, h => by
    have h1 := h e (by simp)
    have h2 := findAsking_fnd T k p w es (i + 1) fun e he => h e (by simp [he])
    simp only [Instr.findAsking, Sem.run_bind, h1, Result.andThen_ok, fnd]
    cases p e.key
    · simpa using h2
    · rfl
theorem ba_beq {a b : ByteArray} : (a == b) = true ↔ a = b := by
  obtain ⟨a⟩ := a
  obtain ⟨b⟩ := b
  rw [show ((⟨a⟩ : ByteArray) == ⟨b⟩) = (a == b) from rfl]
  simp
theorem KeyOK.str {P : Program} {T : TypeId} (hu : P.underlying T = some .string) (hc : ∀ (s : ByteArray) e w, (Instr.checkKey e 10000 T (.string s)).run P w = .ok () w) : KeyOK P T Value.string where
  chk := hc
  find := fun k es w h => by
    have : Instr.findNow .string (.string k) es 0 = some (fnd (eqKV (.string k)) es 0) := findNow_fnd _ _ _ es 0 fun e he => by obtain ⟨k', e1⟩ := h e he; rw [e1]; rfl
    simp [Instr.findKey, run_underlying hu, this]
  same := fun k k' h => by
    have : k = k' := ba_beq.1 (by simpa [eqKV, eqV] using h)
    subst this
    simp [Instr.sameBits, ba_beq.2]
theorem KeyOK.int {P : Program} {T : TypeId} {kd : IntKind} (hu : P.underlying T = some (.int kd)) (hc : ∀ (s : Int) e w, (Instr.checkKey e 10000 T (.int kd s)).run P w = .ok () w) : KeyOK P T (Value.int kd) where
  chk := hc
  find := fun k es w h => by
    have : Instr.findNow (.int kd) (.int kd k) es 0 = some (fnd (eqKV (.int kd k)) es 0) := findNow_fnd _ _ _ es 0 fun e he => by
      obtain ⟨k', e1⟩ := h e he; rw [e1]; simp [Instr.sameNow, eqKV, eqV, int_beq]
    simp [Instr.findKey, run_underlying hu, this]
  same := fun k k' h => by
    have : k = k' := by simpa [eqKV, eqV] using h
    subst this
    simp [Instr.sameBits]
theorem KeyOK.agg {κ : Type} {P : Program} {T : TypeId} {f : κ → List Value} {ks : List Nat} {fs : Array _} (hu : P.underlying T = some (.struct fs)) (hl : flL P T = some ks) (h1 : ∀ k, (f k).map kindV = ks) (h3 : ∀ a b, sameK (f a) (f b) = true)
    (hc : ∀ k e w, (Instr.checkKey e 10000 T (.agg (f k).toArray)).run P w = .ok () w) (hb : ∀ a b, eqC (f a) (f b) = true → f a = f b) (hs : ∀ a, Instr.sameBits 10000 (.agg (f a).toArray) (.agg (f a).toArray) = true) : KeyOK P T (fun k => Value.agg (f k).toArray) where
  chk := hc
  find := fun k es w h => by
    have hask : (Instr.findAsking T (.agg (f k).toArray) es).run P w = .ok (fnd (eqKV (.agg (f k).toArray)) es 0) w := findAsking_fnd T _ _ w es 0 fun e he => by
      obtain ⟨k', e1⟩ := h e he
      rw [e1]
      have := (flL_spec (w := w) hl (h1 k) (h1 k') (h3 k k')).1
      simpa [Op.equal, Op.maxDepth, eqKV] using this
    have hnow : Instr.findNow (.struct fs) (.agg (f k).toArray) es 0 = some (fnd (eqKV (.agg (f k).toArray)) es 0) ∨ Instr.findNow (.struct fs) (.agg (f k).toArray) es 0 = none := by
      cases es with
      | nil => exact .inl rfl
      | cons e es => exact .inr rfl
    rcases hnow with hn | hn
    · simp [Instr.findKey, run_underlying hu, hn]
    · simp [Instr.findKey, run_underlying hu, hn, hask]
  same := fun k k' h => by
    have h' : eqC (f k) (f k') = true := by simpa [eqKV] using h
    have := hb k k' h'
    simp only [this]
    exact hs k'

def MP {κ β : Type} (kv : κ → Value) (vv : β → Value) (b : Nat) (m : List (κ × β)) : HP where
  holds := fun _ F h => (∀ c, F c ↔ c = b) ∧ ∃ es clock, h[b]? = some (.map es clock) ∧ es.toList.map (fun e => (e.key, e.val)) = m.map fun e => (kv e.1, vv e.2)
  loc := fun ⟨k1, es, c, k2, k3⟩ _ e => ⟨k1, es, c, (e _ (.inr ((k1 _).2 rfl))).trans k2, k3⟩
theorem MP.flat {κ β} {kv : κ → Value} {vv : β → Value} {b m} : (MP kv vv b m).Flat := fun {_ _ _ _} k => k

section
variable {κ β : Type} {kv : κ → Value} {vv : β → Value}
theorem ents_key : ∀ {es : List MapEntry} {m : List (κ × β)}, es.map (fun e => (e.key, e.val)) = m.map (fun e => (kv e.1, vv e.2)) → ∀ e ∈ es, ∃ k', e.key = kv k'
  | [], _, _, _, he => by cases he
  | x :: es, [], h, _, _ => by simp at h
  | x :: es, y :: m, h, e, he => by
    simp only [List.map_cons, List.cons.injEq, Prod.mk.injEq] at h
    rcases List.mem_cons.1 he with rfl | he
    · exact ⟨_, h.1.1⟩
    · exact ents_key h.2 e he
theorem fnd_get (k : κ) : ∀ {es : List MapEntry} {m : List (κ × β)} (i : Nat), es.map (fun e => (e.key, e.val)) = m.map (fun e => (kv e.1, vv e.2)) → (fnd (eqKV (kv k)) es i).map (·.2) = (mget kv m k).map vv
  | [], [], _, _ => rfl
  | [], _ :: _, _, h => by simp at h
  | x :: es, [], _, h => by simp at h
  | x :: es, y :: m, i, h => by
    simp only [List.map_cons, List.cons.injEq, Prod.mk.injEq] at h
    have ih := fnd_get k (i + 1) h.2
    simp only [fnd, h.1.1, mget, List.find?_cons] at ih ⊢
    cases eqKV (kv k) (kv y.1)
    · simpa using ih
    · simp [h.1.2]
theorem fnd_none (k : κ) : ∀ {es : List MapEntry} {m : List (κ × β)} (i : Nat) (x : β), es.map (fun e => (e.key, e.val)) = m.map (fun e => (kv e.1, vv e.2)) → fnd (eqKV (kv k)) es i = none → mput kv m k x = m ++ [(k, x)]
  | [], [], _, _, _, _ => rfl
  | [], _ :: _, _, _, h, _ => by simp at h
  | x :: es, [], _, _, h, _ => by simp at h
  | x :: es, y :: m, i, z, h, hn => by
    simp only [List.map_cons, List.cons.injEq, Prod.mk.injEq] at h
    simp only [fnd, h.1.1] at hn
    split at hn
    · cases hn
    · rename_i hq
      simp only [mput, hq, Bool.false_eq_true, if_false, fnd_none k (i + 1) z h.2 hn, List.cons_append]
theorem fnd_some (k : κ) (u : Value) : ∀ {es : List MapEntry} {m : List (κ × β)} (i j : Nat) (v : Value) (x : β), es.map (fun e => (e.key, e.val)) = m.map (fun e => (kv e.1, vv e.2)) → fnd (eqKV (kv k)) es i = some (j, v) →
    i ≤ j ∧ j - i < es.length ∧ (∃ k', (es[j - i]?).map (·.key) = some (kv k') ∧ eqKV (kv k) (kv k') = true) ∧ (es.modify (j - i) fun e => { e with key := kv k, val := vv x }).map (fun e => (e.key, e.val)) = (mput kv m k x).map fun e => (kv e.1, vv e.2)
  | [], _, _, _, _, _, _, h => by simp [fnd] at h
  | x :: es, [], _, _, _, _, h, _ => by simp at h
  | x :: es, y :: m, i, j, v, z, h, hn => by
    simp only [List.map_cons, List.cons.injEq, Prod.mk.injEq] at h
    simp only [fnd, h.1.1] at hn
    split at hn
    · rename_i hq
      obtain ⟨rfl, rfl⟩ : i = j ∧ x.val = v := by simpa using hn
      refine ⟨Nat.le_refl _, by simp, ⟨y.1, by simp [h.1.1], hq⟩, ?_⟩
      simp [mput, hq, h.2]
    · rename_i hq
      obtain ⟨h1, h2, ⟨k', h3, h4⟩, h5⟩ := fnd_some k u (i + 1) j v z h.2 hn
      have e : j - i = (j - (i + 1)) + 1 := by omega
      refine ⟨by omega, by rw [e]; simpa using h2, ⟨k', by rw [e]; simpa using h3, h4⟩, ?_⟩
      rw [e]
      simp only [List.modify_succ_cons, List.map_cons, mput, hq, Bool.false_eq_true, if_false, h5, h.1.1, h.1.2]
end

section
variable {P : Program} {ops : Array Oper} {C : World → Prop} {Q : Act → Prop} {n : Nat} {m m' : SM} {rest : List Oper}
variable {d : Nat} {ty : TypeId} {pos : String} {af : Array Edge} {X Y Z : Operand} {t t1 t2 : TypeId} {v p u : Value} {S : Nat → Prop} {L L2 : List HP} {h : Heap} {b : Nat}
variable {κ β : Type} {kv : κ → Value} {vv : β → Value} {l : List (κ × β)} {k0 : κ} {z : β} {kt et : TypeId}
theorem run_lookup {w : World} {ok : Bool} (hT : P.underlying t = some (.map kt et)) (hK : KeyOK P kt kv) (hz : ∀ w, (zeroValue et).run P w = .ok (vv z) w) {es : Array MapEntry} {c : Nat} (hg : w.heap[b]? = some (.map es c)) (he : es.toList.map (fun e => (e.key, e.val)) = l.map fun e => (kv e.1, vv e.2)) :
    (Instr.lookup t (.map (some b)) (kv k0) ok).run P w = .ok (if ok then .tuple #[vv ((mget kv l k0).getD z), .bool (mget kv l k0).isSome] else vv ((mget kv l k0).getD z)) w := by
  have h1 := hK.find k0 es.toList w (ents_key he)
  have h2 := fnd_get (kv := kv) (vv := vv) k0 0 he
  have h3 := hz w
  cases hf : fnd (eqKV (kv k0)) es.toList 0 with
  | none =>
    rw [hf] at h1 h2
    have h4 : mget kv l k0 = none := by simpa using h2.symm
    simp [Instr.lookup, run_underlying hT, MapKept.run_getObj_map hg, hK.chk, h1, h3, h4]
  | some r =>
    rw [hf] at h1 h2
    obtain ⟨y, h4, h5⟩ : ∃ y, mget kv l k0 = some y ∧ vv y = r.2 := Option.map_eq_some_iff.1 (by simpa using h2.symm)
    obtain ⟨r1, r2⟩ := r
    simp only at h5
    subst h5
    simp [Instr.lookup, run_underlying hT, MapKept.run_getObj_map hg, hK.chk, h1, h4]
theorem QF.lkp {ok : Bool} (ck : CK C h) (hs : St S L h) (hm : MP kv vv b l ∈ L) (hx : lkO m X = some (.map (some b))) (hy : lkO m Y = some (kv k0)) (hT : P.underlying t = some (.map kt et)) (hK : KeyOK P kt kv) (hz : ∀ w, (zeroValue et).run P w = .ok (vv z) w) (hd : Nat.blt d n = true)
    (hu : (if ok then .tuple #[vv ((mget kv l k0).getD z), .bool (mget kv l k0).isSome] else vv ((mget kv l k0).getD z)) = u)
    (k : QF P ops C Q rest n ((d, u) :: m)) : QF P ops C Q (⟨some d, .lookup t X Y ok, ty, pos, af, none⟩ :: rest) n m := fun a hf => by
  refine q_gen hf hd (fun w hw => ?_) k
  obtain ⟨F, ⟨g1, es, c, g2, g3⟩, hFs⟩ := hs.get hm
  have hg : w.heap[b]? = some (.map es c) := (ck w hw b (hFs b ((g1 b).2 rfl)).1).trans g2
  simp [execOp, hf.eval hx, hf.eval hy, run_lookup hT hK hz hg g3, hu]
/-- a map that is nil -/
theorem run_lookup_nil {w : World} {ok : Bool} (hT : P.underlying t = some (.map kt et)) (hK : KeyOK P kt kv) (hz : ∀ w, (zeroValue et).run P w = .ok (vv z) w) :
    (Instr.lookup t (.map none) (kv k0) ok).run P w = .ok (if ok then .tuple #[vv z, .bool false] else vv z) w := by
  have h1 := hK.find k0 [] w (by simp)
  simp [Instr.lookup, run_underlying hT, hK.chk, h1, hz w, fnd]
end

section
variable {P : Program} {ops : Array Oper} {Q : Exit → Act → World → Prop} {n : Nat} {m : SM} {rest : List Oper}
variable {d : Nat} {ty : TypeId} {pos : String} {af : Array Edge} {X Y Z : Operand} {B w : World} {h : Heap} {S : Nat → Prop} {L L2 : List HP} {v : Value} {t kt et : TypeId} {b : Nat}
variable {κ β : Type} {kv : κ → Value} {vv : β → Value} {l : List (κ × β)} {k0 : κ} {x : β}
theorem LF.mup (hs : St S L h) (rp : Repl L (MP kv vv b l) (MP kv vv b (mput kv l k0 x)) L2) (hx : lkO m X = some (.map (some b))) (hy : lkO m Y = some (kv k0)) (hz : lkO m Z = some (vv x)) (hT : P.underlying t = some (.map kt et)) (hK : KeyOK P kt kv)
    (k : ∀ h', St S L2 h' → Ext S h S h' → LF P ops Q rest B h' n m) : LF P ops Q (⟨none, .mapUpdate t X Y Z, ty, pos, af, none⟩ :: rest) B h n m := by
  intro a w hf hw
  refine wpList_plain rfl fun K hKK => ?_
  unfold Oper.wp
  obtain ⟨M, p, _⟩ := rp.pick
  obtain ⟨F, ⟨g1, es, c, g2, g3⟩, hF, _⟩ := Sp.pick p hs.2
  have hg : w.heap[b]? = some (.map es c) := by rw [hw.heap]; exact g2
  have h1 := hK.find k0 es.toList w (ents_key g3)
  have hset : ∀ (o : Obj) (h0 : w.heap = h), (∀ c', c' ≠ b → (w.heap.setIfInBounds b o)[c']? = h[c']?) ∧ (w.heap.setIfInBounds b o)[b]? = some o ∧ (w.heap.setIfInBounds b o).size = h.size := fun o h0 => by
    have hlt : b < w.heap.size := (Array.getElem?_eq_some_iff.1 hg).1
    refine ⟨fun c' hc => by rw [Array.getElem?_setIfInBounds_ne (Ne.symm hc), h0], ?_, by simp [h0]⟩
    rw [Array.getElem?_setIfInBounds_self]; simp [hlt]
  have fin : ∀ (es' : Array MapEntry) (c' : Nat), es'.toList.map (fun e => (e.key, e.val)) = (mput kv l k0 x).map (fun e => (kv e.1, vv e.2)) → wpList P ops Q rest a { w with heap := w.heap.setIfInBounds b (.map es' c') } := fun es' c' he => by
    obtain ⟨s1, s2, s3⟩ := hset (.map es' c') hw.heap
    have hw' : Wd B (w.heap.setIfInBounds b (.map es' c')) { w with heap := w.heap.setIfInBounds b (.map es' c') } := ⟨rfl, hw.os, hw.tape, hw.out⟩
    obtain ⟨u1, u2⟩ := hs.upd (h' := w.heap.setIfInBounds b (.map es' c')) rp (by omega) fun F k1 k2 => ⟨F, ⟨k1.1, es', c', s2, he⟩, fun c hc => .inl hc, fun c _ hc => s1 c fun e => hc ((k1.1 c).2 e)⟩
    exact k _ u1 u2 a _ hf hw'
  cases hfd : fnd (eqKV (kv k0)) es.toList 0 with
  | none =>
    rw [hfd] at h1
    have hrun : (execOp a.eval ⟨none, .mapUpdate t X Y Z, ty, pos, af, none⟩).run P w = .ok .skip { w with heap := w.heap.setIfInBounds b (.map (es.push { key := kv k0, val := vv x, born := c }) (c + 1)) } := by
      simp [execOp, hf.eval hx, hf.eval hy, hf.eval hz, Instr.mapUpdate, run_underlying hT, MapKept.run_getObj_map hg, hK.chk, h1, MapKept.run_setObj_map _ hg]
    rw [hrun]
    refine hKK _ _ (fin _ _ ?_)
    rw [fnd_none k0 0 x g3 hfd]
    simp [g3]
  | some r =>
    obtain ⟨j, r2⟩ := r
    rw [hfd] at h1
    obtain ⟨_, q2, ⟨k', q3, q4⟩, q5⟩ := fnd_some k0 (vv x) 0 j r2 x g3 hfd
    have hkey : ((es[j]?).map (·.key)).getD (kv k0) = kv k' := by
      have : (es[j]?).map (·.key) = some (kv k') := by simpa using q3
      simp [this]
    have hstay : (Instr.keyThatStays (kv k') (kv k0)).run P w = .ok (kv k0) w := by simp [Instr.keyThatStays, hK.same _ _ q4]
    have hrun : (execOp a.eval ⟨none, .mapUpdate t X Y Z, ty, pos, af, none⟩).run P w = .ok .skip { w with heap := w.heap.setIfInBounds b (.map (es.modify j fun e => { e with key := kv k0, val := vv x }) c) } := by
      simp [execOp, hf.eval hx, hf.eval hy, hf.eval hz, Instr.mapUpdate, run_underlying hT, MapKept.run_getObj_map hg, hK.chk, h1, hkey, hstay, MapKept.run_setObj_map _ hg]
    rw [hrun]
    refine hKK _ _ (fin _ _ ?_)
    simpa using q5
theorem LF.mkm {K E : TypeId} (hd : Nat.blt d n = true) (hs : St S L h) (kv : κ → Value) (vv : β → Value)
    (k : ∀ b h', St S (MP kv vv b [] :: L) h' → Ext S h S h' → LF P ops Q rest B h' n ((d, .map (some b)) :: m)) : LF P ops Q (⟨some d, .makeMap t none, ty, pos, af, none⟩ :: rest) B h n m := by
  intro a w hf hw
  refine wpList_plain rfl fun K hKK => ?_
  unfold Oper.wp
  have hrun : (execOp a.eval ⟨some d, .makeMap t none, ty, pos, af, none⟩).run P w = .ok (.value (.map (some w.heap.size))) (w.alloc (.map #[] 0)) := by
    first | rfl | (simp [execOp, Instr.makeMap, newObj, Sem.run])
  rw [hrun]
  obtain ⟨g1, g2⟩ := hs.add (h' := h.push (.map #[] 0)) (H' := MP kv vv h.size []) (by simp) (fun b hb => push_same _ _ _ hb) ⟨fun b => b = h.size, ⟨fun _ => Iff.rfl, #[], 0, push_new _ _, rfl⟩, fun b hb => by subst hb; simp⟩
  have hsz := hw.heap
  exact hKK _ _ (k w.heap.size _ (by rw [hsz]; exact g1) g2 _ _ (hf.put hd _) (hw.alloc _))
end
/-! ### arrays -/
def arL (P : Program) (T : TypeId) : Option (List (Nat × Nat) × List Value) :=
  match P.underlying T, zcells P T with
  | some (.array n e), some z => (P.info? e).map fun i => ((List.range n).map fun k => (k * i.size, i.size), z)
  | _, _ => none
def arB (P : Program) (t len sz : Nat) : Bool :=
  match P.underlying t with
  | some (.array n e) => Nat.beq n len && (match P.info? e with | some i => Nat.beq i.size sz | none => false)
  | _ => false
theorem fill_mono {p q : Nat → Option (Nat × Nat)} (h : ∀ i x, p i = some x → q i = some x) : ∀ (pv : List (Nat × Value)) (cs cs' : Array Value), Instr.fill p cs pv = some cs' → Instr.fill q cs pv = some cs'
  | [], _, _, e => e
  | (i, v) :: r, cs, cs', e => by
    simp only [Instr.fill] at e ⊢
    cases hp : p i with
    | none => rw [hp] at e; cases e
    | some x =>
      obtain ⟨o, s⟩ := x
      rw [hp] at e
      rw [h i _ hp]
      simp only at e ⊢
      split at e
      · cases e
      · rename_i hh
        rw [if_neg hh]
        exact fill_mono h r _ _ e
theorem built_ar {P : Program} {T : TypeId} {pl z pv cs} (h : arL P T = some (pl, z)) (hc : fillV pl z pv = some cs) : P.built T pv = some cs.toArray := by
  unfold arL at h
  split at h
  · rename_i n e z' hu hz
    simp only [Option.map_eq_some_iff, Prod.mk.injEq] at h
    obtain ⟨ie, hie, rfl, rfl⟩ := h
    unfold zcells at hz
    simp only [Option.map_eq_some_iff, Option.bind_eq_some_iff] at hz
    obtain ⟨zv, ⟨i, hi, hzv⟩, hcs⟩ := hz
    simp only [Program.built, hi, hu, hzv, hie]
    have h1 := fillV_spec _ pv z' cs hc
    rw [← hcs] at h1
    have h2 := fill_mono (q := fun i => some (i * ie.size, ie.size)) (fun j x hj => by
      rw [List.getElem?_toArray, List.getElem?_map] at hj
      obtain ⟨k, hk, rfl⟩ := Option.map_eq_some_iff.1 hj
      obtain ⟨_, rfl⟩ := List.getElem?_eq_some_iff.1 hk
      simp) pv _ _ h1
    simpa using h2
  · cases h
section
variable {P : Program} {ops : Array Oper} {C : World → Prop} {Q : Act → Prop} {n : Nat} {m m' : SM} {rest : List Oper}
variable {d : Nat} {ty : TypeId} {pos : String} {af : Array Edge} {X Y Z : Operand} {t : TypeId} {S : Nat → Prop} {L : List HP} {h : Heap} {i : Int} {kd : IntKind}
theorem QF.blda {T : TypeId} {parts : Array (Nat × Operand)} {pl z pv cs} (hl : arL P T = some (pl, z)) (hp : parts.toList.mapM (prt m) = some pv) (hc : fillV pl z pv = some cs) (hd : Nat.blt d n = true) (k : QF P ops C Q rest n ((d, .agg cs.toArray) :: m)) : QF P ops C Q (⟨some d, .build T parts, ty, pos, af, none⟩ :: rest) n m := fun a hf => by
  refine q_gen hf hd (fun w _ => ?_) k
  have hpv : (parts.map fun (p : Nat × Operand) => (p.1, a.eval p.2)).toList = pv := by
    obtain ⟨l⟩ := parts
    simp only at hp
    simp only [List.map_toArray]
    clear hc k
    induction l generalizing pv with
    | nil => simp at hp; subst hp; rfl
    | cons x l ih =>
      simp only [List.mapM_cons, Option.bind_eq_bind, Option.bind_eq_some_iff, prt, Option.map_eq_some_iff] at hp
      obtain ⟨y, ⟨v, hv, rfl⟩, ys, hys, hxy⟩ := hp
      simp only [Option.pure_def, Option.some.injEq] at hxy
      subst hxy
      simp only [List.map_cons, hf.eval hv, ih hys]
  have := run_build (P := P) w T (parts.map fun (p : Nat × Operand) => (p.1, a.eval p.2)) cs.toArray (by rw [hpv]; exact built_ar hl hc)
  simp only [execOp, Sem.run_bind, this]
  rfl
theorem QF.ixb {b o len sz : Nat} (hx : lkO m X = some (.pointer (some ⟨b, o, none⟩))) (hy : lkO m Y = some (.int kd i)) (ht : arB P t len sz = true) (h0 : 0 ≤ i) (h1 : i < len) (hd : Nat.blt d n = true)
    (k : QF P ops C Q rest n ((d, .pointer (some ⟨b, o + i.toNat * sz, none⟩)) :: m)) : QF P ops C Q (⟨some d, .indexAddr t X Y, ty, pos, af, none⟩ :: rest) n m := fun a hf => by
  unfold arB at ht
  split at ht
  · rename_i n' e hu
    simp only [Bool.and_eq_true] at ht
    obtain ⟨e1, e2⟩ := ht
    have e1 := Nat.eq_of_beq_eq_true e1
    subst e1
    split at e2
    · rename_i ie hie
      have e2 := Nat.eq_of_beq_eq_true e2
      subst e2
      have hadd : (⟨b, o, none⟩ : Addr).add (i.toNat * ie.size) = ⟨b, o + i.toNat * ie.size, none⟩ := by unfold Addr.add; split <;> simp_all
      exact q_gen hf hd (fun w _ => by simp [execOp, hf.eval hx, hf.eval hy, Instr.indexAt, asIntOf, run_underlying hu, Instr.sureAddr, h0, h1, run_sz hie, hadd]) k
    · cases e2
  · cases ht
theorem QF.ldb' {α : Type} {T b o : Nat} {cs : List Value} {l : List α} {z : α} (f : α → Value) (ck : CK C h) (hs : St S L h) (hx : lkO m X = some (.pointer (some ⟨b, o + i.toNat * 1, none⟩))) (hm : Bx b T cs ∈ L) (hv : (cs.drop o).take l.length = l.map f) (hi : Go.Proofs.Ytibidnaedddfdaa.ix l i = some z) (ht : tyB P t 1 false = true) (hd : Nat.blt d n = true)
    (k : QF P ops C Q rest n ((d, f z) :: m)) : QF P ops C Q (⟨some d, .load t X, ty, pos, af, none⟩ :: rest) n m := by
  obtain ⟨h0, h1⟩ := ix_spec hi
  have h2 : (cs.drop (o + i.toNat * 1)).take 1 = [f z] := by
    have h3 : ((cs.drop o).take l.length)[i.toNat]? = some (f z) := by rw [hv, List.getElem?_map, h1]; rfl
    have hlt : i.toNat < l.length := (List.getElem?_eq_some_iff.1 h1).1
    rw [List.getElem?_take_of_lt hlt, List.getElem?_drop] at h3
    rw [Nat.mul_one]
    obtain ⟨hlt2, h4⟩ := List.getElem?_eq_some_iff.1 h3
    rw [List.drop_eq_getElem_cons hlt2, h4]
    rfl
  exact QF.ldo (vs := [f z]) ck hs hx hm h2 rfl ht rfl hd k
end
/-! ### a new block in a region that draws its order -/
def AlR (h : Heap) (T : TypeId) (cs : List Value) (v : Value) (hh : Heap) : Prop := ∃ b, v = .pointer (some ⟨b, 0, none⟩) ∧ h.size ≤ b ∧ b < hh.size ∧ hh[b]? = some (.cells cs.toArray T (0, 0))
theorem AlR.mono {h h1 h2 : Heap} {T cs v} (k : AlR h T cs v h1) (o : Old h1 h2) : AlR h T cs v h2 := by
  obtain ⟨b, e, h3, h4, h5⟩ := k
  exact ⟨b, e, h3, Nat.lt_of_lt_of_le h4 o.siz, (o.same b h4).trans h5⟩
theorem AlR.st {h h2 : Heap} {T cs v} {S : Nat → Prop} {L : List HP} (k : AlR h T cs v h2) (hs : St S L h) (o : Old h h2) : ∃ b, v = .pointer (some ⟨b, 0, none⟩) ∧ St S (Bx b T cs :: L) h2 := by
  obtain ⟨b, e, h3, h4, h5⟩ := k
  refine ⟨b, e, fun c hc => Nat.lt_of_lt_of_le (hs.1 c hc) o.siz, fun c => c = b, ⟨fun _ => Iff.rfl, h5⟩, fun c hc => by subst hc; exact ⟨h4, fun hb => absurd (hs.1 c hb) (by omega)⟩, ?_⟩
  refine Sp.ext hs.2 (fun _ x => x) (fun c hc => o.same c (hc.elim (hs.1 c) (·.1))) fun c hc => ⟨⟨Nat.lt_of_lt_of_le hc.1 o.siz, hc.2⟩, fun e => by have := hc.1; omega⟩
theorem LF.alA {P : Program} {ops : Array Oper} {Q : Exit → Act → World → Prop} {n : Nat} {m : SM} {rest : List Oper} {d : Nat} {ty : TypeId} {pos : String} {af : Array Edge} {B : World} {h hh : Heap} {T : TypeId} {cs : List Value} (o : Old h hh) (hz : zcells P T = some cs) (hd : Nat.blt d n = true)
    (k : ∀ v h', Old hh h' → AlR h T cs v h' → LF P ops Q rest B h' n ((d, v) :: m)) : LF P ops Q (⟨some d, .alloc T, ty, pos, af, none⟩ :: rest) B hh n m := by
  intro a w hf hw
  refine wpList_plain rfl fun K hK => ?_
  unfold Oper.wp
  unfold zcells at hz
  simp only [Option.map_eq_some_iff, Option.bind_eq_some_iff] at hz
  obtain ⟨z, ⟨i, hi, hz⟩, hcs⟩ := hz
  have hc : z.cells = cs.toArray := by rw [← hcs]
  have hrun : (execOp a.eval ⟨some d, .alloc T, ty, pos, af, none⟩).run P w = .ok (.value (.pointer (some ⟨w.heap.size, 0, none⟩))) (w.alloc (.cells cs.toArray T)) := by
    simp [execOp, Instr.alloc, newVar, newRow, zeroValue, typeInfo, hi, hz, hc]
  rw [hrun]
  have hsz := hw.heap
  exact hK _ _ (k _ _ ⟨by simp, fun b hb => push_same _ _ _ hb⟩ ⟨hh.size, by rw [hsz], o.siz, by simp, push_new _ _⟩ _ _ (hf.put hd _) (hw.alloc _))
/-- append to a slice that has no room: what comes out is new, or, where nothing is appended, the slice itself -/
theorem LF.appF {P : Program} {ops : Array Oper} {Q : Exit → Act → World → Prop} {n : Nat} {m : SM} {rest : List Oper} {d : Nat} {ty : TypeId} {pos : String} {af : Array Edge} {B : World} {h : Heap} {S : Nat → Prop} {L : List HP} {X Y : Operand}
    {α} {r : Rep α} {T e sz by_ c : Nat} {z : List Value} {s : Value} {ad : Addr} {l xs : List α} (hx : lkO m X = some (.slice (some ad) c c)) (hv : Sl S h r (.slice (some ad) c c) l) (hc : c = l.length) (hy : lkO m Y = some s) (he : elL P T = some (e, sz, by_, z)) (hrs : r.sz = sz)
    (hsrc : Src S h r s xs) (hpos : Nat.blt 0 by_ = true) (hby : room (l.length + xs.length) by_ = true) (hd : Nat.blt d n = true) (hs : St S L h)
    (k : ∀ v' S' h', St S' L h' → Ext S h S' h' → Sl S' h' r v' (l ++ xs) → LF P ops Q rest B h' n ((d, v') :: m)) : LF P ops Q (⟨some d, .call ⟨.builtin .append, #[X, Y], #[T, T]⟩, ty, pos, af, none⟩ :: rest) B h n m := by
  intro a w hf hw
  refine wpList_plain rfl fun K hK => ?_
  unfold Oper.wp
  obtain ⟨i, zv, h1, h2, h3, h4, h5, h6, h7, h8⟩ := elL_spec he
  have p1 : 1 ≤ by_ := by simpa [Nat.blt] using hpos
  have p2 : l.length + xs.length ≤ (l.length + xs.length) * by_ := Nat.le_mul_of_pos_right _ p1
  have p3 := room_spec hby
  have hmx : l.length + xs.length ≤ maxLen := by unfold maxLen; omega
  have same : xs = [] → (Builtin.append_ #[T, T] ty #[.slice (some ad) c c, s]).run P w = .ok (.slice (some ad) c c) w := fun hx0 => by
    subst hx0
    rcases hsrc with ⟨rfl, _⟩ | ⟨sd, sc, news, rfl, _, hn, hcs⟩
    · simp [Builtin.append_, run_underlying h1, sizeOf, typeInfo, h2, Builtin.lenOf, Builtin.firstCells, loadCells, loadCellsFrom, storeCells]
    · simp [Builtin.append_, run_underlying h1, sizeOf, typeInfo, h2, Builtin.lenOf, Builtin.firstCells, loadCells, loadCellsFrom, storeCells]
  by_cases hx0 : xs = []
  · have hrun : (execOp a.eval ⟨some d, .call ⟨.builtin .append, #[X, Y], #[T, T]⟩, ty, pos, af, none⟩).run P w = .ok (.value (.slice (some ad) c c)) w := by
      simp [execOp, resolve, invoke, builtin, hf.eval hx, hf.eval hy, same hx0]
    rw [hrun]
    subst hx0
    exact hK _ _ (k _ _ _ hs (Ext.refl _ _) (by rw [List.append_nil]; exact hv) _ _ (hf.put hd _) hw)
  · rcases hsrc with ⟨_, rfl⟩ | ⟨sd, sc, news, rfl, _, hn, hcs⟩
    · exact absurd rfl hx0
    · have hxl : 0 < xs.length := List.length_pos_iff.2 hx0
      rcases hv.src with ⟨e0, _⟩ | ⟨sd2, sc2, olds, e0, _, ho, hco⟩
      · cases e0
      · have e1 : sd2 = ad := by simp at e0; exact e0.1.symm
        rw [e1] at hco
        have hol := ho.len
        have hnl := hn.len
        rw [hrs, ← h4] at hol hnl
        have hlt : c < c + xs.length := by omega
        have hr := run_append_grow (P := P) w T ty e i zv h1 h2 h3 ad c c olds (by rw [hc]; exact hol) (fun j u hu => by rw [hcell_world, hw.heap]; exact hco j u hu) sd xs.length sc news hnl (fun j u hu => by rw [hcell_world, hw.heap]; exact hcs j u hu) (by omega) (by unfold maxLen at hmx; omega) (growslice_fits (by omega) (by rw [h5, hc]; exact p3))
        have hrun : ∀ v' w', (Builtin.append_ #[T, T] ty #[.slice (some ad) c c, .slice (some sd) xs.length sc]).run P w = .ok v' w' → (execOp a.eval ⟨some d, .call ⟨.builtin .append, #[X, Y], #[T, T]⟩, ty, pos, af, none⟩).run P w = .ok (.value v') w' := fun v' w' e => by
          simp [execOp, resolve, invoke, builtin, hf.eval hx, hf.eval hy, e]
        rw [hrun _ _ hr]
        have hge := grownCap_ge w (c + xs.length) c e
        have hzs : zv.cells.size = sz := by rw [h6]; simpa using h7
        have hos : (OS r e (.slice (some ⟨h.size, 0, none⟩) (c + xs.length) (grownCap w (c + xs.length) c e)) (l ++ xs)).holds S (fun b => b = h.size)
            (h.push (.cells (olds.toArray ++ news.toArray ++ Builtin.zeroCells zv.cells (grownCap w (c + xs.length) c e - (c + xs.length))) e)) := by
          refine .inr ⟨h.size, _, _, by rw [List.length_append, ← hc], fun _ => Iff.rfl, push_new _ _, by rw [List.length_append, ← hc]; exact hge, grownCap_le_maxLen w _ c e (by rw [hc]; exact hmx), ?_, ?_⟩
          · simp only [Array.size_append, List.size_toArray, size_zeroCells, hzs, hol, hnl, h4, hrs, ← Nat.add_mul]
            rw [← hc]
            congr 1
            omega
          · have hlen : (l ++ xs).length * r.sz = (olds ++ news).length := by rw [List.length_append, List.length_append, ho.len, hn.len, Nat.add_mul]
            rw [hlen]
            simp only [Array.toList_append]
            rw [List.take_left]
            exact (ho.append hn).mono (fun _ x => x) fun b hb => push_same _ _ _ (hs.1 b hb)
        obtain ⟨g1, g2⟩ := hs.add (by simp) (fun b hb => push_same _ _ _ hb) ⟨_, hos, fun b hb => by subst hb; simp⟩
        obtain ⟨S', q1, q2, q3⟩ := g1.pubs .head
        refine hK _ _ (k _ S' _ q1 (g2.trans q2) q3 _ _ ?_ ?_)
        · have hsz : w.heap.size = h.size := by rw [hw.heap]
          rw [hsz]
          exact hf.put hd _
        · refine ⟨?_, hw.os, hw.tape, hw.out⟩
          show (w.heap.push _) = _
          rw [hw.heap]
end Go.Proofs.Ytibidnaedddfdaa
