/- The plain law of harms: the worst of a list. No program in sight. -/
import Derived.Test.YtkbooafdccnkeaaPure
namespace Go.Proofs.Ytkbooafdccnkeaa
open Go.RowKit
set_option linter.unusedVariables false

def wl : Nat → GHarm → List GHarm → GHarm
  | _, w, [] => w
  | k, w, x :: r => wl (k + 1) (if k = 0 ∨ lessB w x = true then x else w) r
theorem worst_l1 {N : Nat} (hN : 10 ≤ N) (l : List GHarm) (kj : Int → Int → Int → Int → Option GHarm) (hl : l.length ≤ 1000000) : ∀ (r : List GHarm) (k n : Nat) (w : GHarm), l.drop k = r → r.length < n →
    f_harm_Worst_l1 N l kj n (k : Int) w.Flood w.Spill w.Short w.Moves = kj (wl k w r).Flood (wl k w r).Spill (wl k w r).Short (wl k w r).Moves
  | [], k, n + 1, w, h, _ => by
    have : l.length ≤ k := by simpa using h
    simp only [f_harm_Worst_l1, wl]
    rw [show decide ((k : Int) < (l.length : Int)) = false by simp; omega]
    rfl
  | x :: r, k, n + 1, w, h, hn => by
    have h1 : l[k]? = some x := by have := congrArg (·[0]?) h; simpa using this
    have h2 : l.drop (k + 1) = r := by have := congrArg List.tail h; simpa [List.tail_drop] using this
    have h3 : k < l.length := (List.getElem?_eq_some_iff.1 h1).1
    have h4 : ix l (k : Int) = some x := by simp [ix, h1]
    have ih := fun w => worst_l1 hN l kj hl r (k + 1) n w h2 (by simp at hn; omega)
    have h5 : w64 ((k : Int) + 1) = ((k + 1 : Nat) : Int) := by rw [w64_in (by unfold inI64; omega)]; rfl
    simp only [f_harm_Worst_l1, h4, Option.bind_some, less_eq hN, f_harm_Worst_j2, h5]
    rw [show decide ((k : Int) < (l.length : Int)) = true by simp; omega, cond_true]
    have e : (⟨w.Flood, w.Spill, w.Short, w.Moves⟩ : GHarm) = w := rfl
    rw [e, wl]
    by_cases hk : k = 0
    · subst hk
      simpa using ih x
    · have hk' : decide ((k : Int) = 0) = false := by simp; omega
      simp only [hk', cond_false, Option.bind_some, hk, false_or]
      cases hc : lessB w x
      · simpa using ih w
      · simpa using ih x
theorem worst_eq {N : Nat} (hN : 10 ≤ N) {l : List GHarm} (hl : l.length < N) (hl2 : l.length ≤ 1000000) : f_harm_Worst N l = some (wl 0 ⟨0, 0, 0, 0⟩ l) := by
  have := worst_l1 hN l (f_harm_Worst_j0 N) hl2 l 0 N ⟨0, 0, 0, 0⟩ rfl hl
  unfold f_harm_Worst
  exact this
theorem wl_max : ∀ (r : List GHarm) (k : Nat) (w : GHarm), wl (k + 1) w r ∈ w :: r ∧ ∀ x ∈ w :: r, lessB (wl (k + 1) w r) x = false
  | [], k, w => by simp [wl, les_irr]
  | x :: r, k, w => by
    simp only [wl, Nat.succ_ne_zero, false_or]
    cases hc : lessB w x
    · simp only [Bool.false_eq_true, if_false]
      obtain ⟨h1, h2⟩ := wl_max r (k + 1) w
      generalize wl (k + 1 + 1) w r = R at *
      refine ⟨?_, fun y hy => ?_⟩
      · simp only [List.mem_cons] at h1 ⊢; rcases h1 with h1 | h1 <;> simp [h1]
      · simp only [List.mem_cons] at hy
        rcases hy with rfl | rfl | hy
        · exact h2 _ (by simp)
        · have h3 := h2 w (by simp)
          cases h4 : lessB R y
          · rfl
          · cases h5 : lessB w R
            · have := les_tri h3 h5; subst this; rw [hc] at h4; cases h4
            · rw [les_trans h5 h4] at hc; cases hc
        · exact h2 y (by simp [hy])
    · simp only [if_true]
      obtain ⟨h1, h2⟩ := wl_max r (k + 1) x
      generalize wl (k + 1 + 1) x r = R at *
      refine ⟨?_, fun y hy => ?_⟩
      · simp only [List.mem_cons] at h1 ⊢; rcases h1 with h1 | h1 <;> simp [h1]
      · simp only [List.mem_cons] at hy
        have h3 := h2 x (by simp)
        rcases hy with rfl | rfl | hy
        · cases h4 : lessB R y
          · rfl
          · rw [les_trans h4 hc] at h3; cases h3
        · exact h3
        · exact h2 y (by simp [hy])
theorem wl0_max {l : List GHarm} (hl : l ≠ []) (w : GHarm) : wl 0 w l ∈ l ∧ ∀ x ∈ l, lessB (wl 0 w l) x = false := by
  cases l with
  | nil => exact absurd rfl hl
  | cons x r => simpa [wl] using wl_max r 0 x
theorem wl0_rev (w : GHarm) (l : List GHarm) : wl 0 w l.reverse = wl 0 w l := by
  by_cases hl : l = []
  · subst hl; rfl
  · obtain ⟨h1, h2⟩ := wl0_max hl w
    obtain ⟨h3, h4⟩ := wl0_max (l := l.reverse) (by simpa using hl) w
    exact les_tri (h4 _ (by simpa using h1)) (h2 _ (by simpa using h3))
theorem hw_l1 {N : Nat} (hN : 10 ≤ N) (l : List GHarm) (y : GHarm) (kj : Bool → List GHarm → Option Bool) (hl : l.length ≤ 1000) (hy : ∀ x ∈ l, lessB y x = false) : ∀ (r : List GHarm) (k n : Nat) (b : Bool), l.drop k = r → r.length < n →
    f_bournelaw33_HarmWorst_l1 N l y kj n b (l.take k).reverse (k : Int) = kj (b || r.any (fun x => eqC x.v y.v)) l.reverse
  | [], k, n + 1, b, h, _ => by
    have : l.length ≤ k := by simpa using h
    simp only [f_bournelaw33_HarmWorst_l1]
    rw [show decide ((k : Int) < (l.length : Int)) = false by simp; omega, List.take_of_length_le this]
    simp
  | x :: r, k, n + 1, b, h, hn => by
    have h1 : l[k]? = some x := by have := congrArg (·[0]?) h; simpa using this
    have h2 : l.drop (k + 1) = r := by have := congrArg List.tail h; simpa [List.tail_drop] using this
    have h3 : k < l.length := (List.getElem?_eq_some_iff.1 h1).1
    have h4 : ix l (k : Int) = some x := by simp [ix, h1]
    have hm : x ∈ l := List.mem_of_getElem? h1
    have ih := fun b => hw_l1 hN l y kj hl hy r (k + 1) n b h2 (by simp at hn; omega)
    have h5 : w64 ((k : Int) + 1) = ((k + 1 : Nat) : Int) := by rw [w64_in (by unfold inI64; omega)]; rfl
    have h6 : (l.take (k + 1)).reverse = [x] ++ (l.take k).reverse := by rw [List.take_add_one, h1]; simp
    have h7 : room (([x] : List GHarm).length + (l.take k).reverse.length) 32 = true := by
      simp only [room, decide_eq_true_eq, List.length_reverse, List.length_take, List.length_singleton]; omega
    simp only [f_bournelaw33_HarmWorst_l1, h4, Option.bind_some, less_eq hN, h5, h7, hy x hm, cond_false, chk, cond_true, ← h6]
    rw [show decide ((k : Int) < (l.length : Int)) = true by simp; omega, cond_true]
    cases b
    · simp only [cond_false, Option.bind_some, Bool.false_or, List.any_cons]; exact ih _
    · simp only [cond_true, Option.bind_some, Bool.true_or]; rw [ih]; simp
theorem worst_plain (l : List GHarm) : f_bournelaw33_HarmWorst 1000 l = some true := by
  simp only [f_bournelaw33_HarmWorst, small_ok, Option.bind_some]
  by_cases hl : 10 < l.length
  · rw [show decide (10 < (l.length : Int)) = true by simp; omega]; rfl
  · rw [show decide (10 < (l.length : Int)) = false by simp; omega, cond_false, worst_eq (by decide) (by omega) (by omega)]
    simp only [Option.bind_some]
    have hmx : ∀ x ∈ l, lessB (wl 0 ⟨0, 0, 0, 0⟩ l) x = false := fun x hx => (wl0_max (by rintro rfl; cases hx) _).2 x hx
    have := hw_l1 (N := 1000) (by decide) l (wl 0 ⟨0, 0, 0, 0⟩ l) (f_bournelaw33_HarmWorst_j0 1000 true (wl 0 ⟨0, 0, 0, 0⟩ l)) (by omega) hmx l 0 1000 (decide ((l.length : Int) = 0) && eqC (wl 0 ⟨0, 0, 0, 0⟩ l).v (⟨0, 0, 0, 0⟩ : GHarm).v) rfl (by omega)
    simp only [List.take_zero, List.reverse_nil] at this
    rw [show ((0 : Nat) : Int) = 0 from rfl] at this
    rw [this]
    have hf : (decide ((l.length : Int) = 0) && eqC (wl 0 ⟨0, 0, 0, 0⟩ l).v (⟨0, 0, 0, 0⟩ : GHarm).v || l.any fun x => eqC x.v (wl 0 ⟨0, 0, 0, 0⟩ l).v) = true := by
      by_cases he : l = []
      · subst he; simp [wl, eqC_self]
      · have := (wl0_max he ⟨0, 0, 0, 0⟩).1
        rw [Bool.or_eq_true]
        exact .inr (List.any_eq_true.2 ⟨_, this, eqC_self _⟩)
    rw [hf]
    simp only [f_bournelaw33_HarmWorst_j0, Bool.and_self, cond_true, worst_eq (N := 1000) (l := l.reverse) (by decide) (by simp; omega) (by simp; omega), Option.bind_some, wl0_rev, eqC_self]
end Go.Proofs.Ytkbooafdccnkeaa
