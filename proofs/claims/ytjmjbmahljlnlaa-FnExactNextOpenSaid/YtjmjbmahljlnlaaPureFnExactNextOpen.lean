/- FnExactNextOpen: the program's NextOpen returns what the reference's returns, for all arguments; no condition. -/
import Derived.Test.YtjmjbmahljlnlaaGFnExactNextOpenx1
namespace Go.Proofs.Ytjmjbmahljlnlaa.Pure
open Go.RowKit Go.Proofs.Ytjmjbmahljlnlaa.GFnExactNextOpen Go.Proofs.YtjmjbmahljlnlaaW.PrintWords Go.Proofs.YtjmjbmahljlnlaaW.PrintLast
set_option linter.unusedSimpArgs false
set_option linter.unusedVariables false

theorem w64 {x : Int} (h0 : -9223372036854775808 ≤ x) (h1 : x ≤ 9223372036854775807) : wrap64 x = x := by
  unfold wrap64; omega

theorem within_eq (a b c : Int) : impl_within.f a b c = some (decide (b ≤ a ∧ a ≤ c)) := by
  unfold impl_within.f
  by_cases h : a ≥ b
  · rw [if_pos h]; simp [h]
  · rw [if_neg h]; simp; omega

theorem l00In_eq (a b c : Int) : spec_l00In.f a b c = some (decide (b ≤ a ∧ a ≤ c)) := by
  unfold spec_l00In.f
  by_cases h : a ≥ b
  · rw [if_pos h]; simp [h]
  · rw [if_neg h]; simp; omega

def canB (t o e w : Int) : Bool := decide (o ≤ t % 96 ∧ t % 96 + w ≤ e)

theorem can_eq {t o e w : Int} (ht : 0 ≤ t) (hw : 0 ≤ w ∧ w ≤ 1000) : spec_l22Can.f t o e w = some (canB t o e w) := by
  unfold spec_l22Can.f canB
  rw [Int.tmod_eq_emod_of_nonneg ht, w64 (x := t % 96 + w) (by omega) (by omega)]
  by_cases h : t % 96 ≥ o
  · rw [if_pos h]; simp [h]
  · rw [if_neg h]; simp; omega

theorem next_loop {o e w T : Int} (hw : 0 ≤ w ∧ w ≤ 1000) (hT : T ≤ 10000000) (hc : canB T o e w = true) : ∀ (n : Nat) (s : Int) (k : Nat), s + n = T → 0 ≤ s → n < k → (∀ x, s ≤ x → x < T → canB x o e w = false) →
    spec_l22Next.l0 k s o e w = some T := by
  intro n
  induction n with
  | zero =>
    intro s k hs h0 hk hn
    obtain ⟨k, rfl⟩ : ∃ m, k = m + 1 := ⟨k - 1, by omega⟩
    obtain rfl : s = T := by omega
    simp only [spec_l22Next.l0]
    rw [can_eq h0 hw, hc]; rfl
  | succ n ih =>
    intro s k hs h0 hk hn
    obtain ⟨k, rfl⟩ : ∃ m, k = m + 1 := ⟨k - 1, by omega⟩
    simp only [spec_l22Next.l0]
    rw [can_eq h0 hw, hn s (by omega) (by omega), w64 (by omega) (by omega)]
    exact ih (s + 1) k (by omega) (by omega) (by omega) (fun x h1 h2 => hn x (by omega) h2)

/-- the first time of at least t at which the work fits: what both find -/
def nxt (t o e w : Int) : Int := if t % 96 ≤ o then t / 96 * 96 + o else if t % 96 + w ≤ e then t else t / 96 * 96 + 96 + o

theorem next_spec {t o e w : Int} (h0 : 0 ≤ t) (h1 : t ≤ 9000000) (ho : 0 ≤ o) (he : e ≤ 96) (hw : 1 ≤ w ∧ w ≤ 32) (hoe : o + w ≤ e) (k : Nat) (hk : 300 ≤ k) :
    spec_l22Next.f k t o e w = some (nxt t o e w) ∧ impl_nextOpen.f t o e w = some (nxt t o e w) ∧ t ≤ nxt t o e w ∧ nxt t o e w ≤ t + 192 := by
  have hb : t ≤ nxt t o e w ∧ nxt t o e w ≤ t + 192 := by
    unfold nxt
    split
    · omega
    · split <;> omega
  refine ⟨?_, ?_, hb⟩
  · unfold spec_l22Next.f
    refine next_loop (by omega) (by omega) ?_ (nxt t o e w - t).toNat t k (by omega) h0 (by omega) ?_
    · unfold canB nxt
      rw [decide_eq_true_eq]
      split
      · omega
      · split <;> omega
    · intro x hx1 hx2
      unfold canB
      unfold nxt at hx2
      rw [decide_eq_false_iff_not]
      split at hx2
      · omega
      · split at hx2 <;> omega
  · unfold impl_nextOpen.f nxt
    rw [Int.tmod_eq_emod_of_nonneg h0, Int.tdiv_eq_ediv_of_nonneg h0]
    rw [w64 (x := t / 96) (by omega) (by omega), w64 (x := t / 96 * 96) (by omega) (by omega), w64 (x := t / 96 * 96 + o) (by omega) (by omega), w64 (x := t % 96 + w) (by omega) (by omega), w64 (x := t / 96 * 96 + 96) (by omega) (by omega), w64 (x := t / 96 * 96 + 96 + o) (by omega) (by omega)]
    split
    · rfl
    · split <;> rfl

theorem hours_eq {o e : Int} : impl_areHours.f o e = some (decide (0 ≤ o ∧ o < e ∧ e ≤ 96)) := by
  unfold impl_areHours.f
  by_cases h1 : 0 ≤ o
  · rw [if_pos h1]
    by_cases h2 : o < e
    · rw [if_pos h2]; simp [h1, h2]
    · rw [if_neg h2]; simp [h2]
  · rw [if_neg h1]; simp [h1]

theorem l22Hours_eq {o e : Int} : spec_l22Hours.f o e = some (decide (0 ≤ o ∧ o < e ∧ e ≤ 96)) := by
  unfold spec_l22Hours.f
  simp only [l00In_eq, Option.bind_some, decide_eq_true_eq]
  by_cases h : 0 ≤ o ∧ o ≤ 96
  · rw [if_pos h, w64 (by omega) (by omega)]
    congr 1
    rw [decide_eq_decide]; omega
  · rw [if_neg h]; simp; omega

theorem FnExactNextOpen : laws_FnExactNextOpen.Pure := by
  intro t o e w h0 h1 h2 h3
  clear h0 h1 h2 h3
  obtain ⟨k, hk⟩ : ∃ k : Nat, k = 400 := ⟨_, rfl⟩
  refine ⟨k + 1, ?_⟩
  unfold laws_FnExactNextOpen.f spec_NextOpen.f impl_NextOpen.f spec_l22Time.f
  rw [hours_eq, l22Hours_eq]
  simp only [within_eq, l00In_eq, Option.bind_some, decide_eq_true_eq]
  by_cases g1 : 0 ≤ o ∧ o < e ∧ e ≤ 96
  · by_cases g0 : 0 ≤ t ∧ t ≤ 100000
    · by_cases g2 : 1 ≤ w ∧ w ≤ 32
      · simp only [g0, g1, g2, spec_NextOpen.j0, impl_NextOpen.j0, and_self, decide_true, Bool.not_true, if_true, Bool.false_eq_true, if_false, w64 (x := e - o) (by omega) (by omega)]
        by_cases g3 : w ≤ e - o
        · obtain ⟨e1, e2, _, _⟩ := next_spec g0.1 (by omega) g1.1 g1.2.2 g2 (by omega) k (by omega)
          rw [e2]
          first
          | (rw [if_neg (by omega), if_neg (by omega), e1]; simp)
          | (simp [e1, show ¬ (w > e - o) by omega, show ¬ (e - o < w) by omega])
        · simp [show w > e - o by omega]
      · simp [g0, g1, g2, spec_NextOpen.j0, impl_NextOpen.j0]
    · simp [g0, g1, spec_NextOpen.j0, impl_NextOpen.j0]
  · by_cases g0 : 0 ≤ t ∧ t ≤ 100000
    · simp [g0, g1, spec_NextOpen.j0, impl_NextOpen.j0]
    · simp [g0, g1, spec_NextOpen.j0, impl_NextOpen.j0]

end Go.Proofs.Ytjmjbmahljlnlaa.Pure
