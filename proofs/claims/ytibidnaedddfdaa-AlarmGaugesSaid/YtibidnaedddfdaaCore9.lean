/- From the form's readings to the typed ones, and from a function's contract to its law. No function of the program. -/
import Derived.Test.YtibidnaedddfdaaCore8
import Derived.ProofKit
import Derived.OpenShut
import Derived.JoinedCond
import Derived.Deep.Slices
namespace Go.Proofs.Ytibidnaedddfdaa
open Go.ChangeShapes Go.WideShapes Go.ChangeAt Go.RowKit Go.Deep
set_option linter.unusedVariables false

/-- What the form reads at type t, r reads. -/
def Opens {α} (P : Program) (t : TypeId) (r : Rep α) : Prop :=
  P.cellsOf t = r.sz ∧ ∀ {H : Type} {enc : TypeId × Value → H} {w : World} {base : Nat} {spare : Nat → Bool} {held : Bool} {fuel : Nat} {cs : List Value} {x : DataW H × List MemPlace},
    DataW.trod enc P w base spare held fuel t cs = some x → ∃ y, r.rd (fun b => b < w.heap.size) w.heap cs y

theorem lit_i64 {n : Int} (h : (Lit.int .i64 n).wf = true) : inI64 n := by
  simpa [Lit.wf, IntKind.min, IntKind.max, IntKind.signed, IntKind.bits, inI64] using h

theorem opens_int {P : Program} {t : TypeId} (hc : P.cellsOf t = 1) (hu : P.underlying t = some (.int .i64)) : Opens P t Rep.int := by
  refine ⟨hc, fun {H enc w base spare held fuel cs x} h => ?_⟩
  cases fuel with
  | zero => simp [DataW.trod] at h
  | succ n =>
    unfold DataW.trod at h
    simp only [hu] at h
    split at h <;> simp_all
    rename_i k n' hh
    obtain ⟨⟨rfl, hwf⟩, _⟩ := h
    subst hh
    exact ⟨n', rfl, lit_i64 hwf⟩
theorem opens_bool {P : Program} {t : TypeId} (hc : P.cellsOf t = 1) (hu : P.underlying t = some .bool) : Opens P t Rep.bool := by
  refine ⟨hc, fun {H enc w base spare held fuel cs x} h => ?_⟩
  cases fuel with
  | zero => simp [DataW.trod] at h
  | succ n =>
    unfold DataW.trod at h
    simp only [hu] at h
    split at h <;> first | (exact ⟨_, rfl⟩) | simp_all
theorem opens_str {P : Program} {t : TypeId} (hc : P.cellsOf t = 1) (hu : P.underlying t = some .string) : Opens P t Rep.str := by
  refine ⟨hc, fun {H enc w base spare held fuel cs x} h => ?_⟩
  cases fuel with
  | zero => simp [DataW.trod] at h
  | succ n =>
    unfold DataW.trod at h
    simp only [hu] at h
    split at h <;> simp_all
    exact ⟨_, rfl, h.1⟩

theorem list_of_all {α} {p : Nat → α → Prop} : ∀ n, (∀ i, i < n → ∃ x, p i x) → ∃ l : List α, l.length = n ∧ ∀ i x, l[i]? = some x → p i x
  | 0, _ => ⟨[], rfl, fun i x h => by simp at h⟩
  | n + 1, h => by
    obtain ⟨l, h1, h2⟩ := list_of_all n fun i hi => h i (by omega)
    obtain ⟨x, hx⟩ := h n (by omega)
    refine ⟨l ++ [x], by simp [h1], fun i y hy => ?_⟩
    rw [List.getElem?_append] at hy
    split at hy
    · exact h2 i y hy
    · rename_i hi
      have : i - l.length = 0 := by
        have := (List.getElem?_eq_some_iff.1 hy).1
        simp at this; omega
      rw [this] at hy
      simp at hy
      subst hy
      have : i = n := by omega
      subst this
      exact hx

theorem opens_sl {P : Program} {t e : TypeId} {α} {r : Rep α} (hc : P.cellsOf t = 1) (hu : P.underlying t = some (.slice e)) (he : Opens P e r) (hz : Nat.blt 0 r.sz = true) : Opens P t (Rep.sl r) := by
  refine ⟨hc, fun {H enc w base spare held fuel cs x} h => ?_⟩
  have hz' : 0 < r.sz := (by simpa [Nat.blt] using hz : 1 ≤ r.sz)
  rcases open_slice hu h with ⟨rfl, _⟩ | ⟨a, len, cap, m, n, D, Pl, rfl, hb, hlc, hcm, hm, _, hel⟩
  · exact ⟨[], _, rfl, .inl ⟨rfl, rfl⟩⟩
  · have hlm : len ≤ m := by rw [hm]; split <;> omega
    obtain ⟨l, hl, hat⟩ := list_of_all (p := fun i x => a.spot = none ∧ Pt (fun b => b < w.heap.size) w.heap r (.pointer (some ⟨a.block, a.off + i * r.sz, none⟩)) x) len fun i hi => by
      obtain ⟨cs', hc', ht'⟩ := hel i (by omega)
      obtain ⟨y, hy⟩ := he.2 ht'
      obtain ⟨_, hlen, hcell⟩ := World.cells?_some hc'
      rw [he.1] at hlen hcell
      -- the first element tells that the address is plain
      have hsp : a.spot = none := by
        obtain ⟨cs0, hc0, _⟩ := hel 0 (by omega)
        obtain ⟨_, hlen0, hcell0⟩ := World.cells?_some hc0
        rw [he.1] at hlen0 hcell0
        have h0 := hcell0 0 hz'
        have ha : (a.add (0 * r.sz)).add 0 = a := by simp [Addr.add]
        rw [ha] at h0
        cases hs : a.spot with
        | none => rfl
        | some s =>
          have : w.cell? a = none := by
            unfold World.cell?
            split
            · simp [hs]
            · rfl
          rw [this] at h0
          have : cs0[0]? = some (cs0[0]'(by omega)) := List.getElem?_eq_getElem (by omega)
          rw [this] at h0
          cases h0
      obtain ⟨b, o, s⟩ := a
      simp only at hsp
      subst hsp
      have hadd : ∀ j, ((⟨b, o, none⟩ : Addr).add (i * r.sz)).add j = ⟨b, o + i * r.sz + j, none⟩ := by
        intro j
        have e1 : (⟨b, o, none⟩ : Addr).add (i * r.sz) = ⟨b, o + i * r.sz, none⟩ := by unfold Addr.add; split <;> simp_all
        rw [e1]; unfold Addr.add; split <;> simp_all
      have hblk : b < w.heap.size := by
        have h0 := hcell 0 hz'
        rw [hadd] at h0
        have : cs'[0]? = some (cs'[0]'(by omega)) := List.getElem?_eq_getElem (by omega)
        rw [this] at h0
        exact World.block_lt_of_cell? w _ h0
      refine ⟨y, rfl, cs', ⟨⟨b, o + i * r.sz, none⟩, rfl, rfl, hblk, fun j hj => ?_⟩, hy⟩
      have := hcell j (by omega)
      rw [hadd] at this
      exact this
    exact ⟨l, _, rfl, .inr ⟨a, cap, by rw [hl], by omega, hcm, hat⟩⟩

/-- The readings of a struct's fields. -/
theorem open_fields {P : Program} {t : TypeId} {fs : Array Field} (hu : P.underlying t = some (.struct fs)) {H : Type} {enc : TypeId × Value → H} {w : World} {base : Nat} {spare : Nat → Bool} {held : Bool} {fuel : Nat} {cs : List Value} {x : DataW H × List MemPlace}
    (h : DataW.trod enc P w base spare held fuel t cs = some x) : cs.length = P.cellsOf t ∧ ∀ (j : Nat) (f : Field) {α} (r : Rep α), fs[j]? = some f → Opens P f.type r → ∃ y, r.rd (fun b => b < w.heap.size) w.heap ((cs.drop f.offset).take r.sz) y := by
  obtain ⟨xs, n, _, _, hl, hlen, hf⟩ := DataW.trod_struct hu h
  refine ⟨hl, fun j f α r hj ho => ?_⟩
  have h1 := hf j f hj
  have hjl : j < xs.length := by rw [hlen]; exact (Array.getElem?_eq_some_iff.1 hj).1
  rw [List.getElem?_eq_getElem hjl, ho.1] at h1
  exact ho.2 h1

/-- An argument of a struct type. -/
theorem arg_st {P : Program} {t : TypeId} {fs : Array Field} {α} {r : Rep α} (ho : Opens P t r) (hag : r.ag = true) (hu : P.underlying t = some (.struct fs)) {H : Type} {enc : TypeId × Value → H} {w : World} {rch : Reach} {b0 base : Nat} {spare : Nat → Bool} {held : Bool} {v : Value} {d : DataW H} {p : List MemPlace}
    (hv : Value.okWide P w rch b0 t v) (h : DataW.Trod enc P w base spare held t v d p) : ∃ y, Rd (fun b => b < w.heap.size) w.heap r v y := by
  obtain ⟨cs, rfl, _⟩ := okWide_struct hu hv
  obtain ⟨fuel, hf⟩ := h
  obtain ⟨y, hy⟩ := ho.2 hf
  exact ⟨y, cs.toList, by simp [Rep.val, hag], hy⟩

/-- An argument of one cell. -/
theorem cells_one {v : Value} {c : Value} (h : v.cells.toList = [c]) (hc : c.oneCell' = true) : v = c ∨ ∃ cs, v = .agg cs := by
  cases v <;> first | (right; exact ⟨_, rfl⟩) | (left; simpa [Value.cells] using h)
theorem arg_one {P : Program} {t : TypeId} {α} {r : Rep α} (ho : Opens P t r) (hag : r.ag = false) (hsz : r.sz = 1) {H : Type} {enc : TypeId × Value → H} {w : World} {base : Nat} {spare : Nat → Bool} {held : Bool} {v : Value} {d : DataW H} {p : List MemPlace}
    (hne : ∀ cs, v ≠ .agg cs) (h : DataW.Trod enc P w base spare held t v d p) : ∃ y, Rd (fun b => b < w.heap.size) w.heap r v y := by
  obtain ⟨fuel, hf⟩ := h
  obtain ⟨y, hy⟩ := ho.2 hf
  have hl := r.len hy
  rw [hsz] at hl
  match hcs : v.cells.toList, hl with
  | [c], _ =>
    rw [hcs] at hy
    have hone := r.one hy c (by simp)
    rcases cells_one hcs hone with rfl | ⟨cs, rfl⟩
    · exact ⟨y, [v], by simp [Rep.val, hag], hy⟩
    · exact absurd rfl (hne cs)

theorem ne_slice {P : Program} {t e : TypeId} (hu : P.underlying t = some (.slice e)) {w : World} {rch : Reach} {b0 : Nat} {v : Value} (hv : Value.okWide P w rch b0 t v) : ∀ cs, v ≠ .agg cs := by
  rintro cs rfl; simp [Value.okWide, hu, Cell.okWide, Cell.ok] at hv
theorem ne_int {P : Program} {t : TypeId} {k : IntKind} (hu : P.underlying t = some (.int k)) {w : World} {rch : Reach} {b0 : Nat} {v : Value} (hv : Value.okWide P w rch b0 t v) : ∀ cs, v ≠ .agg cs := by
  rintro cs rfl; simp [Value.okWide, hu, Cell.okWide, Cell.ok] at hv
theorem ne_bool {P : Program} {t : TypeId} (hu : P.underlying t = some .bool) {w : World} {rch : Reach} {b0 : Nat} {v : Value} (hv : Value.okWide P w rch b0 t v) : ∀ cs, v ≠ .agg cs := by
  rintro cs rfl; simp [Value.okWide, hu, Cell.okWide, Cell.ok] at hv
theorem ne_string {P : Program} {t : TypeId} (hu : P.underlying t = some .string) {w : World} {rch : Reach} {b0 : Nat} {v : Value} (hv : Value.okWide P w rch b0 t v) : ∀ cs, v ≠ .agg cs := by
  rintro cs rfl; simp [Value.okWide, hu, Cell.okWide, Cell.ok] at hv

/-! ### the law -/
theorem trodAll_stays {H : Type} {enc : TypeId × Value → H} {P : Program} (hl : laidOutB P = true) {W W' : World} (hb : Below W.heap.size W W') :
    ∀ {ts : List TypeId} {vs : List Value} {ds : List (DataW H)} {ps : List MemPlace}, (∀ t ∈ ts, P.readableRec t = true ∧ t < P.types.size) → DataW.TrodAll enc P W 0 (fun _ => true) true ts vs ds ps → (∀ x ∈ ps, x.block < W.heap.size) →
      ∀ sp : Nat → Bool, (∀ x ∈ ps, sp x.block = true) → DataW.TrodAll enc P W' 0 sp true ts vs ds ps
  | [], vs, ds, ps, _, h, _, sp, _ => by
    obtain ⟨rfl, rfl, rfl⟩ := trodAll_nil h
    exact rfl
  | t :: ts, vs, ds, ps, ht, h, hlt, sp, hsp => by
    obtain ⟨v, vs', d, ds', p, q, rfl, rfl, rfl, h1, h2⟩ := trodAll_cons h
    obtain ⟨r1, r2⟩ := ht t (by simp)
    refine ⟨p, q, WideElems.Trod_stays hl r1 r2 h1 (fun x hx => hb.same (hlt x (by simp [hx]))) (fun x hx => hsp x (by simp [hx])), ?_, rfl⟩
    exact trodAll_stays hl hb (fun t ht' => ht t (by simp [ht'])) h2 (fun x hx => hlt x (by simp [hx])) sp fun x hx => hsp x (by simp [hx])

theorem law_post {H : Type} {enc : TypeId × Value → H} {P : Program} {f : Func} {s : ChangeSpec} {W W' : World} {args : Array Value} {ds gs : List (DataW H)} {before : List MemPlace} {tb : TypeId}
    (hl : laidOutB P = true) (hts : f.params.toList.all (fun t => P.readableRec t && decide (t < P.types.size)) = true) (hW : DataW.Whole enc P f.params.toList s.vars false W args.toList ds gs before)
    (hr : f.resultTypes = #[tb]) (hu : P.underlying tb = some .bool) (hvars : s.vars = []) (h1 : (s.fn H (ds ++ gs)).results = [.lit (.bool true)]) (h2 : (s.fn H (ds ++ gs)).args = ds) (h3 : (s.fn H (ds ++ gs)).vars = [])
    (hb : Below W.heap.size W W') : s.post enc P f false true false false W args (.bool true) W' := by
  have hlt : ∀ p ∈ before, p.block < W.heap.size := fun p hp => hW.lt p hp
  obtain ⟨pa, pv, hA, hV, rfl, hz, hn⟩ := id hW
  rw [hvars] at hV
  obtain ⟨rfl, rfl⟩ := trodVars_none hV
  simp only [List.append_nil] at *
  refine ⟨ds, [], pa, [], pa, [], by simpa using hW, ?_, ?_, ?_, ?_, fun h => by cases h⟩
  · simp only [List.append_nil]
    rw [h1, hr]
    exact trodAll_mk1 (shut_bool hu true)
  · simp only [List.append_nil]
    rw [h2]
    refine trodAll_stays hl hb (fun t ht => ?_) hA hlt _ fun x hx => by simpa using hlt x hx
    have := List.all_eq_true.1 hts t ht
    simpa using this
  · simp only [List.append_nil]
    rw [h3, hvars]
    exact rfl
  · exact hb.frame _

/-- From the contract over this logic. -/
theorem law_calls {P : Program} {f : FuncId} {args : Array Value} {W : World} {L : (Nat → Prop) → Heap → Prop} (k : Ret P f args (fun b => b < W.heap.size) W.heap (fun v S' h' => v = .bool true ∧ L S' h')) :
    Calls P f args W fun e W' => e = .returned (.bool true) ∧ Below W.heap.size W W' :=
  (k W W ⟨rfl, rfl, rfl, rfl⟩).mono fun e W' ⟨v, S', h', h1, h2, h3, h4, _⟩ => by
    subst h1; subst h4
    exact ⟨rfl, h2.os, h2.tape, h2.out, by rw [h2.heap]; exact h3.siz, fun b hb => by rw [h2.heap]; exact h3.same b hb⟩
end Go.Proofs.Ytibidnaedddfdaa
