/- FnShades: more time in sand never makes wood lighter, and the least time is just enough; no condition. -/
import Derived.Test.YtdmiihpblfkamaaGFnShadesx
import Derived.OpenShut
namespace Go.Proofs.Ytdmiihpblfkamaa.Pure
open Go.RowKit Go.Proofs.Ytdmiihpblfkamaa.GFnShades Go.Proofs.YtdmiihpblfkamaaW.PrintWords Go.Proofs.YtdmiihpblfkamaaW.PrintLast
set_option linter.unusedSimpArgs false
set_option linter.unusedVariables false

theorem w64 {x : Int} (h0 : -9223372036854775808 ≤ x) (h1 : x ≤ 9223372036854775807) : wrap64 x = x := by
  unfold wrap64; omega

theorem within_eq (a b c : Int) : impl_within.f a b c = some (decide (b ≤ a ∧ a ≤ c)) := by
  unfold impl_within.f
  by_cases h : a ≥ b
  · rw [if_pos h]; simp [h]
  · rw [if_neg h]; simp; omega

theorem rdi (xs : List Int) (i : Nat) (h : i < xs.length) : rd xs (i : Int) = xs[i] := by
  unfold rd; simp [List.getD, h]

theorem tdiv_pos {a b : Int} (h : 0 ≤ a) : Int.tdiv a b = a / b := Int.tdiv_eq_ediv_of_nonneg h

theorem lit_toList (l : Array UInt8) : (⟨l⟩ : ByteArray).toList = l.toList := ByteArray.toList_eq _

def G (h x t : Int) : Int := (x - 100) * t / (10 * h)

theorem gain_eq {a : ByteArray} {s h w : Int} (hd : impl_SpeciesData.f a = some (s, h, w, 0)) (h0 : 33 ≤ h) (h1 : h ≤ 85) (x y : Int) (hx : 100 ≤ x ∧ x ≤ 300) (hy : 0 ≤ y ∧ y ≤ 600) :
    impl_gain.f a x y = some (G h x y) ∧ 0 ≤ G h x y := by
  unfold G
  have m0 : 0 ≤ (x - 100) * y := Int.mul_nonneg (by omega) (by omega)
  have m1 : (x - 100) * y ≤ 200 * 600 := Int.mul_le_mul (by omega) (by omega) (by omega) (by omega)
  have d0 : 0 ≤ (x - 100) * y / (10 * h) := Int.ediv_nonneg m0 (by omega)
  have d1 : (x - 100) * y / (10 * h) ≤ (x - 100) * y := Int.ediv_le_self _ m0
  refine ⟨?_, d0⟩
  unfold impl_gain.f
  rw [hd]
  simp only [Option.bind_some]
  rw [w64 (x := 10 * h) (by omega) (by omega), if_neg (by omega), w64 (x := x - 100) (by omega) (by omega), w64 (x := (x - 100) * y) (by omega) (by omega), tdiv_pos m0, w64 (by omega) (by omega)]

theorem sand_eq {a : ByteArray} {s h w : Int} (hd : impl_SpeciesData.f a = some (s, h, w, 0)) (h0 : 33 ≤ h) (h1 : h ≤ 85) (x y : Int) (hx : 100 ≤ x ∧ x ≤ 300) (hy : 0 ≤ y ∧ y ≤ 600) :
    impl_SandGain.f a x y = some (G h x y, 0) := by
  unfold impl_SandGain.f impl_isSpecies.f impl_speciesShade.f
  rw [hd]
  simp [within_eq, hx, hy, (gain_eq hd h0 h1 x y hx hy).1]

theorem G_mono (h x t : Int) (h0 : 33 ≤ h) (hx : 100 ≤ x) : G h x t ≤ G h x (t + 1) := by
  unfold G
  apply Int.ediv_le_ediv (by omega)
  exact Int.mul_le_mul_of_nonneg_left (by omega) (by omega)

/-- the search: the first time that is enough, or none is -/
theorem time_eq {a : ByteArray} {s h w : Int} (hd : impl_SpeciesData.f a = some (s, h, w, 0)) (h0 : 33 ≤ h) (h1 : h ≤ 85) (x want : Int) (hx : 100 ≤ x ∧ x ≤ 300) :
    ∀ (n : Nat) (t : Int) (k : Nat), t + n = 601 → 0 ≤ t → n < k → (t = 0 ∨ G h x (t - 1) < want) →
    (impl_SandTime.l0 k a x want t = some (0, 6) ∧ G h x 600 < want) ∨ ∃ r, impl_SandTime.l0 k a x want t = some (r, 0) ∧ 0 ≤ r ∧ r ≤ 600 ∧ want ≤ G h x r ∧ (r = 0 ∨ G h x (r - 1) < want) := by
  intro n
  induction n with
  | zero =>
    intro t k e t0 hk hl
    obtain ⟨k, rfl⟩ : ∃ m, k = m + 1 := ⟨k - 1, by omega⟩
    obtain rfl : t = 601 := by omega
    left
    refine ⟨by simp only [impl_SandTime.l0]; rw [if_neg (by omega)], ?_⟩
    rcases hl with hl | hl
    · omega
    · exact hl
  | succ n ih =>
    intro t k e t0 hk hl
    obtain ⟨k, rfl⟩ : ∃ m, k = m + 1 := ⟨k - 1, by omega⟩
    obtain ⟨e1, _⟩ := gain_eq hd h0 h1 x t hx (by omega)
    simp only [impl_SandTime.l0]
    rw [if_pos (by omega), e1]
    simp only [Option.bind_some]
    by_cases g : G h x t ≥ want
    · rw [if_pos g]
      exact .inr ⟨t, rfl, t0, by omega, g, hl⟩
    · rw [if_neg g, w64 (by omega) (by omega)]
      exact ih (t + 1) k (by omega) (by omega) (by omega) (.inr (by rw [show t + 1 - 1 = t by omega]; omega))

theorem at_eq (l : List Int) (hw : ∀ n ∈ l, (Lit.int .u8 n).wf = true) (i m : Int) (hi : 0 ≤ i ∧ i ≤ 100) (hm : 2 ≤ m) : ∃ v, laws_r8At.f l i m = some v ∧ 0 ≤ v ∧ v < m ∧ v ≤ 255 := by
  unfold laws_r8At.f
  rw [if_neg (by omega)]
  by_cases h : i ≥ (l.length : Int)
  · rw [if_pos h]; exact ⟨0, rfl, by omega, by omega, by omega⟩
  · rw [if_neg h, if_pos hi.1, if_pos (by omega), if_neg (by omega)]
    obtain ⟨j, rfl⟩ := Int.eq_ofNat_of_zero_le hi.1
    have b := Go.bounds_u8 (hw (l[j]'(by omega)) (List.getElem_mem _))
    rw [rdi l j (by omega), w64 (by omega) (by omega), Int.tmod_eq_emod_of_nonneg b.1]
    have := Int.emod_nonneg (l[j]'(by omega)) (show m ≠ 0 by omega)
    have := Int.emod_lt_of_pos (l[j]'(by omega)) (show 0 < m by omega)
    have : (l[j]'(by omega)) % m ≤ l[j]'(by omega) := by have := Int.mul_ediv_add_emod (l[j]'(by omega)) m; have := Int.mul_nonneg (show 0 ≤ m by omega) (Int.ediv_nonneg b.1 (show 0 ≤ m by omega)); omega
    exact ⟨_, rfl, by omega, by omega, by omega⟩

theorem wide_eq (l : List Int) (hw : ∀ n ∈ l, (Lit.int .u8 n).wf = true) (i m : Int) (hi : 0 ≤ i ∧ i ≤ 99) (hm : 2 ≤ m) : ∃ v, laws_r8Wide.f l i m = some v ∧ 0 ≤ v ∧ v < m := by
  unfold laws_r8Wide.f
  obtain ⟨x, e1, x0, x1, x2⟩ := at_eq l hw i 256 (by omega) (by omega)
  obtain ⟨y, e2, y0, y1, y2⟩ := at_eq l hw (i + 1) 256 (by omega) (by omega)
  rw [e1, w64 (x := i + 1) (by omega) (by omega), e2]
  simp only [Option.bind_some]
  rw [if_neg (by omega), w64 (x := 256 * x) (by omega) (by omega), w64 (x := 256 * x + y) (by omega) (by omega), Int.tmod_eq_emod_of_nonneg (by omega)]
  have := Int.emod_nonneg (256 * x + y) (show m ≠ 0 by omega)
  have := Int.emod_lt_of_pos (256 * x + y) (show 0 < m by omega)
  exact ⟨_, rfl, by omega, by omega⟩

theorem pick_eq (l : List Int) (hw : ∀ n ∈ l, (Lit.int .u8 n).wf = true) : ∃ v z, spec_l00Src_pick.f l 0 0 10 = some (v, z) ∧ 0 ≤ v ∧ v < 10 := by
  unfold spec_l00Src_pick.f
  rw [if_neg (by omega)]
  have hn : ∃ x z, spec_l00Src_next.f l 0 0 = some (x, z) ∧ 0 ≤ x ∧ x ≤ 255 := by
    unfold spec_l00Src_next.f
    by_cases h : (0 : Int) < (l.length : Int)
    · rw [if_pos h, if_pos (by omega), w64 (x := 0 + 1) (by omega) (by omega), if_pos (by omega)]
      have b := Go.bounds_u8 (hw (l[0]'(by omega)) (List.getElem_mem _))
      have r : rd l 0 = l[0]'(by omega) := rdi l 0 (by omega)
      rw [r]
      rw [w64 (x := l[0]'(by omega)) (by omega) (by omega)]
      exact ⟨_, _, rfl, b.1, b.2⟩
    · rw [if_neg h, w64 (x := 0 + 1) (by omega) (by omega), if_neg (by omega)]
      exact ⟨_, _, rfl, by decide +kernel, by decide +kernel⟩
  obtain ⟨x, z, e, x0, x1⟩ := hn
  rw [e]
  simp only [Option.bind_some]
  rw [if_neg (by omega), if_neg (by omega), Int.tmod_eq_emod_of_nonneg x0]
  exact ⟨_, _, rfl, by omega, by omega⟩

theorem species10 (l : List Int) (hw : ∀ n ∈ l, (Lit.int .u8 n).wf = true) : ∃ a s h w, spec_R8Species.f l = some a ∧ impl_SpeciesData.f a = some (s, h, w, 0) ∧ 33 ≤ h ∧ h ≤ 85 := by
  unfold spec_R8Species.f spec_l00From.f spec_l07Names.f
  obtain ⟨v, z, e, v0, v1⟩ := pick_eq l hw
  simp only [Option.bind_some]
  rw [e]
  simp only [Option.bind_some]
  rw [if_pos v0, if_pos (by simpa using v1)]
  have hv : v = 0 ∨ v = 1 ∨ v = 2 ∨ v = 3 ∨ v = 4 ∨ v = 5 ∨ v = 6 ∨ v = 7 ∨ v = 8 ∨ v = 9 := by omega
  rcases hv with h | h | h | h | h | h | h | h | h | h <;> subst h
  all_goals exact ⟨_, _, _, _, rfl, by (unfold impl_SpeciesData.f; simp [rdOf, lit_toList]; exact ⟨rfl, rfl, rfl⟩), by decide, by decide⟩

theorem FnShades : laws_FnShades.Pure := by
  intro l m hl _ hlw hm _ hmw
  obtain ⟨k, hk⟩ : ∃ k : Nat, k = 1000 := ⟨_, rfl⟩
  refine ⟨k + 1 + 1, ?_⟩
  unfold laws_FnShades.f
  have hL : ∃ b, laws_r8Long.f l m = some b := by
    unfold laws_r8Long.f
    split
    · exact ⟨_, rfl⟩
    · exact ⟨_, rfl⟩
  obtain ⟨b, hb⟩ := hL
  rw [hb]
  simp only [Option.bind_some]
  cases b with
  | true => rfl
  | false =>
    obtain ⟨a, s, h, w, e0, hd, h0, h1⟩ := species10 l hlw
    obtain ⟨x, e1, x0, x1⟩ := wide_eq m hmw 0 201 (by omega) (by omega)
    obtain ⟨t, e2, t0, t1⟩ := wide_eq m hmw 2 600 (by omega) (by omega)
    obtain ⟨want, e3, n0, n1, _⟩ := at_eq m hmw 4 80 (by omega) (by omega)
    rw [if_neg (by simp), e0]
    simp only [Option.bind_some]
    rw [e1]
    simp only [Option.bind_some]
    rw [e2]
    simp only [Option.bind_some]
    rw [w64 (x := 100 + x) (by omega) (by omega), w64 (x := t + 1) (by omega) (by omega), sand_eq hd h0 h1 (100 + x) t (by omega) (by omega), sand_eq hd h0 h1 (100 + x) (t + 1) (by omega) (by omega), e3]
    simp only [Option.bind_some, if_true]
    have g0 := (gain_eq hd h0 h1 (100 + x) t (by omega) (by omega)).2
    have g1 := G_mono h (100 + x) t h0 (by omega)
    have hT : impl_SandTime.f (k + 1 + 1) a (100 + x) want = impl_SandTime.l0 (k + 1 + 1) a (100 + x) want 0 := by
      unfold impl_SandTime.f impl_isSpecies.f impl_speciesShade.f
      rw [hd]
      simp [within_eq, show 100 ≤ 100 + x ∧ 100 + x ≤ 300 by omega, show 0 ≤ want ∧ want ≤ 100 by omega]
    rw [hT]
    rcases time_eq hd h0 h1 (100 + x) want (by omega) 601 0 (k + 1 + 1) (by omega) (by omega) (by omega) (.inl rfl) with ⟨q1, q2⟩ | ⟨r, q1, r0, r1, q2, q3⟩
    · rw [q1]
      simp only [Option.bind_some]
      rw [if_neg (by omega), decide_eq_false (show ¬ G h (100 + x) (t + 1) < G h (100 + x) t by omega)]
      simp only [laws_FnShades.j0, Bool.false_eq_true, if_false, show ¬ ((6 : Int) = 0) by omega]
      rw [sand_eq hd h0 h1 (100 + x) 600 (by omega) (by omega)]
      simp [q2]
    · rw [q1]
      simp only [Option.bind_some]
      rw [if_neg (by omega), decide_eq_false (show ¬ G h (100 + x) (t + 1) < G h (100 + x) t by omega)]
      simp only [laws_FnShades.j0, Bool.false_eq_true, if_false, if_true]
      rw [sand_eq hd h0 h1 (100 + x) r (by omega) (by omega)]
      simp only [Option.bind_some, if_true]
      rw [decide_eq_false (show ¬ G h (100 + x) r < want by omega)]
      simp only [laws_FnShades.j1, Bool.false_eq_true, if_false]
      by_cases c : r = 0
      · rw [if_pos c]
      · rw [if_neg c, w64 (x := r - 1) (by omega) (by omega), sand_eq hd h0 h1 (100 + x) (r - 1) (by omega) (by omega)]
        rcases q3 with q3 | q3
        · exact absurd q3 c
        · simp [q3]

end Go.Proofs.Ytdmiihpblfkamaa.Pure
