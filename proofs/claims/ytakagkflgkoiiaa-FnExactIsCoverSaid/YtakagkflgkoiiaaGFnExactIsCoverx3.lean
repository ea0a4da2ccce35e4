-- Written by the session's own program (gen.py) out of the translation's print. Lean checks it.
import Derived.Test.YtakagkflgkoiiaaQ
import Derived.Test.YtakagkflgkoiiaaGFnExactIsCoverx0
import Derived.Test.YtakagkflgkoiiaaGFnExactIsCoverx2
namespace Go.Proofs.Ytakagkflgkoiiaa.GFnExactIsCover
open Go.RowKit Go.Proofs.YtakagkflgkoiiaaW.PrintWords Go.Proofs.YtakagkflgkoiiaaW.PrintLast Go.Proofs.YtakagkflgkoiiaaW.PrintMore
open List renaming setIfInBounds_toArray → sA, set_cons_zero → sB, set_cons_succ → sC
open Go.Proofs.YtakagkflgkoiiaaW.PrintWords.Aside0 renaming mk → mkA
open Go.Proofs.YtakagkflgkoiiaaX (dt_ bc_ p0_ p1_ bl_ cb_ bs0_ bs1_ bs2_ bs3_ bs4_ bs5_ bs6_ bs7_ bs8_ bs9_ bs10_ bs11_ bs12_)
open Go.Proofs.YtakagkflgkoiiaaQ
attribute [local go_sem] max2_int min2_int max_two min_two max_three min_three max_four min_four 
set_option linter.unusedVariables false
set_option linter.unusedSimpArgs false

/-! ### laws_toPiece: function 35 -/
def laws_toPiece.f (k : Nat) (a0_0 : ByteArray) (l0_1 : List (S123)) (a0_2 : Int) (a0_3 : Bool) : Option (ByteArray × (List (S105)) × Int × Bool) := (laws_toPointS.f k l0_1).bind fun t136 => (some (a0_0, t136, a0_2, a0_3))
set_option maxHeartbeats 8000000 in
set_option maxRecDepth 100000 in
theorem laws_toPiece.calls (k : Nat) (a0_0 : ByteArray) (A0_1 : Option Addr) (c0_1 : Nat) (l0_1 : List (S123)) (a0_2 : Int) (a0_3 : Bool) (r1 : ByteArray) (r2 : List (S105)) (r3 : Int) (r4 : Bool) (w : World) (hr0_1 : Kd.C k123 w A0_1 l0_1.length l0_1) (hc0_1 : l0_1.length ≤ c0_1) (h : laws_toPiece.f k a0_0 l0_1 a0_2 a0_3 = some (r1, r2, r3, r4)) :
 Calls Try.prog 35 #[.agg #[.string a0_0, .slice A0_1 l0_1.length c0_1, .int .i64 a0_2, .bool a0_3]] w fun e w' => ∃ v1_ : Value, e = .returned (.agg #[.string r1, v1_, .int .i64 r3, .bool r4]) ∧ Kd.R k105 105 w' w.heap.size (fun _ => True) v1_ r2 ∧ Below w.heap.size w w' := by
 have hu47 := Try.underlying47
 have hu53 := Try.underlying53
 have HR0_1 := mkA hr0_1
 have HC0_1 := mkA hc0_1
 clear hr0_1 hc0_1
 have HB := mkA (Below.refl w.heap.size w)
 unfold laws_toPiece.f at h
 have H := h
 clear h
 revert H
 refine ob_ fun t136 A2 => ?_
 intro H
 simp only [Option.some.injEq, Prod.mk.injEq] at H
 obtain ⟨rfl, rfl, rfl, rfl⟩ := H
 go_enter Try.func35, Try.ntmps35
 go_wp2_with (first | ((with_reducible refine gt_ 1 ?_); refine bx_ 1 #[.string a0_0, .slice A0_1 l0_1.length c0_1, .int .i64 a0_2, .bool a0_3] 47 fun gb133 hg w3 hbox hb => ?_; have BK133 := mkA (hbox); have GW133 := gs_ hg (bs0_ HB.out); have GE133 := GW133; replace HB := mkA (below_step (bs0_ HB.out) hb); clear hb hbox hg) | ((with_reducible refine gt_ 2 ?_); refine bx_ 2 #[.string (⟨#[]⟩ : ByteArray), .slice none 0 0, .int .i64 0, .bool false] 53 fun gb134 hg w4 hbox hb => ?_; have BK134 := mkA (hbox); have GW134 := gs_ hg (bs1_ HB.out GE133.out); have GE134 := GW134; replace HB := mkA (below_step (bs1_ HB.out GE133.out) hb); have NB133_134 := nl_ hg (bl_ BK133.out); have NB134_133 := nr_ hg (bl_ BK133.out); replace BK133 := mkA (blk_below (bl_ BK133.out) hb); clear hb hbox hg) | ((with_reducible refine gt_ 3 ?_); refine bx_ 3 #[.string (⟨#[]⟩ : ByteArray), .slice none 0 0, .int .i64 0, .bool false] 53 fun gb135 hg w5 hbox hb => ?_; have BK135 := mkA (hbox); have GW135 := gs_ hg (bs2_ HB.out GE133.out GE134.out); have GE135 := GW135; replace HB := mkA (below_step (bs2_ HB.out GE133.out GE134.out) hb); have NB133_135 := nl_ hg (bl_ BK133.out); have NB135_133 := nr_ hg (bl_ BK133.out); replace BK133 := mkA (blk_below (bl_ BK133.out) hb); have NB134_135 := nl_ hg (bl_ BK134.out); have NB135_134 := nr_ hg (bl_ BK134.out); replace BK134 := mkA (blk_below (bl_ BK134.out) hb); clear hb hbox hg; have hnb6 := NB133_134.out; have hnc6 := NB134_133.out; have hnb7 := NB133_135.out; have hnc7 := NB135_133.out; obtain ⟨hcz8_0, hcz8_1, hcz8_2, hcz8_3, hfz8_0, hfz8_1, hfz8_2, hfz8_3⟩ := z4_ BK133.out; have hnb9 := NB135_134.out; have hnc9 := NB134_135.out; obtain ⟨hcz10_0, hcz10_1, hcz10_2, hcz10_3, hfz10_0, hfz10_1, hfz10_2, hfz10_3⟩ := z4_ BK135.out) | ((with_reducible refine gk_ 74 ?_); refine gl_ (some 9) Try.func74 #[.slice A0_1 l0_1.length c0_1] ?_; (with_reducible refine (laws_toPointS.calls k _ _ l0_1 t136 _ ?side1 ?side2 A2.out).mono ?_); (case side1 => exact Kd.C_below HR0_1.out (bs3_ HB.out GE133.out GE134.out GE135.out)); (case side2 => exact HC0_1.out); rintro e w11 ⟨v137, rfl, ho0, hb⟩; refine ⟨_, rfl, ?_⟩; have HO138 := mkA (Kd.R_lower ho0 (below_size (bs3_ HB.out GE133.out GE134.out GE135.out))); replace BK133 := mkA (blk_below (g := gb133) (o := .cells #[.string a0_0, .slice A0_1 l0_1.length c0_1, .int .i64 a0_2, .bool a0_3] 47 (0, 0)) (by refine bl_ ?_; refine blk_far ?_ NB133_135.out _; refine bl_ ?_; exact BK133.out) hb); replace BK134 := mkA (blk_below (g := gb134) (o := .cells #[.string (⟨#[]⟩ : ByteArray), .slice none 0 0, .int .i64 0, .bool false] 53 (0, 0)) (by refine bl_ ?_; refine blk_far ?_ NB134_135.out _; refine bl_ ?_; exact BK134.out) hb); replace BK135 := mkA (blk_below (g := gb135) (o := .cells #[.string a0_0, .slice none 0 0, .int .i64 0, .bool false] 53 (0, 0)) (by refine bl_ ?_; refine blk_put (cs := #[.string (⟨#[]⟩ : ByteArray), .slice none 0 0, .int .i64 0, .bool false]) ?_ 0 _ rfl; refine bl_ ?_; exact BK135.out) hb); replace HB := mkA (below_step (bs3_ HB.out GE133.out GE134.out GE135.out) hb); (try clear hb); (try clear hb2); (try clear hk); (try clear hi); (try clear ho0); obtain ⟨Ao12, co12, eo12⟩ := Kd.R_slice HO138.out; subst eo12; obtain ⟨hcz13_0, hcz13_1, hcz13_2, hcz13_3, hfz13_0, hfz13_1, hfz13_2, hfz13_3⟩ := z4_ BK135.out; obtain ⟨hcz14_0, hcz14_1, hcz14_2, hcz14_3, hfz14_0, hfz14_1, hfz14_2, hfz14_3⟩ := z4_ BK133.out; obtain ⟨hcz15_0, hcz15_1, hcz15_2, hcz15_3, hfz15_0, hfz15_1, hfz15_2, hfz15_3⟩ := z4_ BK134.out))
 refine bodyPost_ret (results_cell_row rfl _ _ gb134 53 #[.string a0_0, .slice Ao12 t136.length co12, .int .i64 a0_2, .bool a0_3] (0, 0) _ rfl (by refine bl_ ?_; refine blk_put (cs := #[.string a0_0, .slice Ao12 t136.length co12, .int .i64 a0_2, .bool false]) ?_ 3 _ rfl; refine bl_ ?_; refine blk_put (cs := #[.string a0_0, .slice Ao12 t136.length co12, .int .i64 0, .bool false]) ?_ 2 _ rfl; refine bl_ ?_; refine blk_put (cs := #[.string a0_0, .slice none 0 0, .int .i64 0, .bool false]) ?_ 1 _ rfl; refine bl_ ?_; refine blk_put (cs := #[.string (⟨#[]⟩ : ByteArray), .slice none 0 0, .int .i64 0, .bool false]) ?_ 0 _ rfl; refine bl_ ?_; refine blk_far ?_ NB134_135.out _; refine bl_ ?_; refine blk_far ?_ NB134_135.out _; refine bl_ ?_; refine blk_far ?_ NB134_135.out _; refine bl_ ?_; exact BK134.out) Try.underlying53 rfl (by kernel_rfl)) rfl ?_
 exact ⟨_, re_, by refine r_ ?_; exact Kd.R_mono (Kd.R_far (p := ⟨gb134, 3, none⟩) (Kd.R_far (p := ⟨gb134, 2, none⟩) (Kd.R_far (p := ⟨gb134, 1, none⟩) (Kd.R_far (p := ⟨gb134, 0, none⟩) (Kd.R_far (p := ⟨gb135, 3, none⟩) (Kd.R_far (p := ⟨gb135, 2, none⟩) (Kd.R_far (p := ⟨gb135, 1, none⟩) (Kd.R_types (Kd.R_types HO138.out BK135.out (by decide)) BK134.out (by decide)) (fun _ hk => hk.1.2) (.slice Ao12 t136.length co12)) (fun _ hk => hk.1.2) (.int .i64 a0_2)) (fun _ hk => hk.1.2) (.bool a0_3)) (fun _ hk => hk.2) (.string a0_0)) (fun _ hk => hk.2) (.slice Ao12 t136.length co12)) (fun _ hk => hk.2) (.int .i64 a0_2)) (fun _ hk => hk.2) (.bool a0_3)) (fun _ hk => trivial), bs3_ HB.out GE133.out GE134.out GE135.out⟩
/-! ### laws_toPieceS: function 30 -/
def laws_toPieceS.l0 : Nat → List (S47) → List (S53) → Int → Option ((List (S53)))
  | 0, _, _, _ => none
  | k + 1, x0, x3, x4 => if x4 < (x0.length : Int) then (if 0 ≤ x4 then ((laws_toPiece.f k ((rd_T47 x0 x4).f0) ((rd_T47 x0 x4).f1) ((rd_T47 x0 x4).f2) ((rd_T47 x0 x4).f3)).bind fun bt143 => (if x4 < (x3.length : Int) then (laws_toPieceS.l0 k x0 (x3.set (x4 : Int).toNat (⟨bt143.1, bt143.2.1, bt143.2.2.1, bt143.2.2.2⟩ : S53)) (wrap64 (x4 + 1))) else (none))) else (none)) else (some x3)
def laws_toPieceS.f (k : Nat) (l0 : List (S47)) : Option ((List (S53))) := if 0 ≤ (l0.length : Int) then (if ((l0.length : Int) : Int).toNat ≤ 5026338869833 then (laws_toPieceS.l0 k l0 (List.replicate ((l0.length : Int) : Int).toNat z53) 0) else (none)) else (none)
set_option maxHeartbeats 8000000 in
set_option maxRecDepth 100000 in
theorem laws_toPieceS.calls (k : Nat) (A0 : Option Addr) (c0 : Nat) (l0 : List (S47)) (r : List (S53)) (w : World) (hr0 : Kd.C k47 w A0 l0.length l0) (hc0 : l0.length ≤ c0) (h : laws_toPieceS.f k l0 = some r) :
 Calls Try.prog 30 #[.slice A0 l0.length c0] w fun e w' => ∃ v0_ : Value, e = .returned (v0_) ∧ Kd.S k53 53 w' w.heap.size (fun _ => True) v0_ r ∧ Below w.heap.size w w' := by
 have hu47 := Try.underlying47
 have hu53 := Try.underlying53
 have HR0 := mkA hr0
 have HC0 := mkA hc0
 clear hr0 hc0
 have HB := mkA (Below.refl w.heap.size w)
 unfold laws_toPieceS.f at h
 have H := h
 clear h
 revert H
 refine ng_ fun c2 => ng_ fun c3 => ?_
 intro H
 have c2b0 := eq_true c2
 have c2b1 := decide_eq_true c2
 clear c2
 have c3b0 := eq_true c3
 have c3b1 := decide_eq_true c3
 clear c3
 obtain ⟨y139, hy139⟩ := gy_ (List.replicate ((l0.length : Int) : Int).toNat z53 : List (S53))
 rw [← hy139] at H
 (try with_reducible replace H := bso_ H)
 have Ny139 := mkA hy139
 clear hy139
 have H' := mkA H
 clear H
 go_enter Try.func30, Try.ntmps30
 go_wp2_with (first | ((with_reducible refine gt_ 7 ?_); refine Kd.S_make k53 _ 53 rfl (N := 7) rfl 41 _ _ rfl (l0.length : Int) rfl rfl Try.underlying41 (.agg #[(.string ⟨#[]⟩), (.slice none 0 0), (.int .i64 0), (.bool false)]) 56 info53 rfl (by decide) (by omega) z53 (ok := fun _ => True) (okp := fun _ => True) (k53_mkM _ _ _ z53 (Kd.R_nil _ _ _ _ _)) (fun _ hk => hk) trivial (dt_) (Nat.le_trans (Nat.mul_le_mul_right _ (dt_ : (l0.length : Int).toNat ≤ 5026338869833)) (by omega)) (Below.refl _ _) (Nat.le_refl _) ?_; intro v140 w4 ho5 hb hg_ hnew_; clear hg_ hnew_; (first | rw [← Ny139.out] at ho5 | (simp only [Int.reduceToNat] at ho5; rw [← Ny139.out] at ho5)); have HO141 := mkA (Kd.S_lower ho5 (below_size (bs0_ HB.out))); replace HB := mkA (below_step (bs0_ HB.out) hb); clear hb ho5))
 go_loopg [4] k (fun kq v4 w' => ∃ (x3_1 : List (S53)) (x4_1 : Int), v4 = .int .i64 x4_1 ∧ Aside0 (laws_toPieceS.l0 kq l0 x3_1 x4_1 = some r) ∧ Aside0 (kq ≤ k) ∧ Aside0 (Kd.S k53 53 w' w.heap.size (fun _ => True) v140 x3_1) ∧ Aside0 (Below w.heap.size w w'))
 case atStart => exact ⟨(y139), (0), rf_, H', ⟨Nat.le_refl _⟩, ⟨s_ HO141.out⟩, ⟨bs0_ HB.out⟩⟩
 case round =>
  clear H'
  try clear c2 c2b0 c2b1 c3 c3b0 c3b1
  obtain ⟨x3_1, x4_1, rfl, HA, HK1, HO_3, HB⟩ := hrel
  cases gk with
  | zero => exact absurd HA.out (by simp [laws_toPieceS.l0])
  | succ k1 =>
   have H := HA.out
   clear HA
   simp only [laws_toPieceS.l0] at H
   by_cases c6 : x4_1 < (l0.length : Int)
   rotate_left
   · rw [if_neg c6] at H
     have c6b0 := decide_eq_false c6
     clear c6
     obtain rfl := Option.some.inj H
     go_wp2
     go_ret
     exact ⟨_, re_, s_ HO_3.out, bs0_ HB.out⟩
   rw [if_pos c6] at H
   have c6b0 := decide_eq_true c6
   clear c6
   revert H
   refine ng_ fun c7 => ob_ fun t_ A8 => ?_
   intro H
   have c7b0 := decide_eq_true c7
   clear c7
   obtain ⟨t143, t144, t147, t148⟩ := t_
   try dsimp only at H
   revert H
   refine ng_ fun c9 => ?_
   intro H
   have c9b0 := decide_eq_true c9
   clear c9
   obtain ⟨y149, hy149⟩ := gy_ (x3_1.set (x4_1 : Int).toNat (⟨t143, t144, t147, t148⟩ : S53) : List (S53))
   rw [← hy149] at H
   (try with_reducible replace H := bso_ H)
   have Ny149 := mkA hy149
   clear hy149
   have H' := mkA H
   clear H
   obtain ⟨ad142, A142_1, c142_1, e142, hx142_0, hx142_1, hx142_2, hx142_3, hl142_1, hi142_1⟩ := at_T47 HR0.out x4_1 dt_ dt_
   cases e142
   have HR142_1 := mkA hi142_1
   have HC142_1 := mkA hl142_1
   clear hi142_1 hl142_1
   obtain ⟨hx142_0, hx142_1, hx142_2, hx142_3⟩ := b4_ HB.out hx142_0 hx142_1 hx142_2 hx142_3
   have p142 : (0 ≤ (x4_1 : Int)) = True := eq_true dt_
   have q142 : (x4_1 < (l0.length : Int)) = True := eq_true dt_
   go_wp2_with (first | ((with_reducible refine gk_ 35 ?_); refine gl_ (some 20) Try.func35 #[.agg #[.string ((rd_T47 l0 x4_1).f0), .slice A142_1 ((rd_T47 l0 x4_1).f1).length c142_1, .int .i64 ((rd_T47 l0 x4_1).f2), .bool ((rd_T47 l0 x4_1).f3)]] ?_; (with_reducible refine (laws_toPiece.calls k1 ((rd_T47 l0 x4_1).f0) _ _ ((rd_T47 l0 x4_1).f1) ((rd_T47 l0 x4_1).f2) ((rd_T47 l0 x4_1).f3) t143 t144 t147 t148 _ ?side1 ?side2 A8.out).mono ?_); (case side1 => exact cb_ HR142_1.out HB.out); (case side2 => exact HC142_1.out); rintro e w11 ⟨v145, rfl, ho0, hb⟩; refine ⟨_, rfl, ?_⟩; replace HO_3 := mkA (Kd.S_elder' (s_ HO_3.out) (Kd.R_base ho0) hb); have HO146 := mkA (Kd.R_lower ho0 (below_size (bs0_ HB.out))); replace HB := mkA (below_step (bs0_ HB.out) hb); (try clear hb); (try clear hb2); (try clear hk); (try clear hi); (try clear ho0); have p10 : 0 ≤ (x4_1 : Int) := dt_; have q10 : (x4_1 : Int) < ((x3_1.length : Int) : Int) := dt_; obtain ⟨go10, co10, eo10, gb10, gl10, cl10, HG10⟩ := Kd.S_form HO_3.out (by omega); (first | cases eo10 | (injection eo10 with ea_ en_ ec_; (first | subst ea_ | (injection ea_ with ea_; subst ea_)); subst ec_; clear en_)); have GB10 := mkA gb10; have GG10 := mkA HG10; clear gb10 gl10 HG10; obtain ⟨_, ce10, hcl10, hM10, hcc10, hfr10, _, _⟩ := Kd.S_elem HO_3.out z53 (x4_1 : Int) p10 q10; obtain ⟨ve10_1, rfl, ge10_1⟩ := k53_openM hM10; have hx10_0 : w11.cell? ⟨go10, (x4_1 : Int).toNat * 4, none⟩ = some (.string ((rd_T53 x3_1 x4_1).f0)) := hcc10 0 _ rfl; have hx10_1 : w11.cell? ⟨go10, (x4_1 : Int).toNat * 4 + 1, none⟩ = some (ve10_1) := hcc10 1 _ rfl; have hx10_2 : w11.cell? ⟨go10, (x4_1 : Int).toNat * 4 + 2, none⟩ = some (.int .i64 ((rd_T53 x3_1 x4_1).f2)) := hcc10 2 _ rfl; have hx10_3 : w11.cell? ⟨go10, (x4_1 : Int).toNat * 4 + 3, none⟩ = some (.bool ((rd_T53 x3_1 x4_1).f3)) := hcc10 3 _ rfl; have hf10_0 : w11.frozen? ⟨go10, (x4_1 : Int).toNat * 4, none⟩ = false := hfr10 0; have hf10_1 : w11.frozen? ⟨go10, (x4_1 : Int).toNat * 4 + 1, none⟩ = false := hfr10 1; have hf10_2 : w11.frozen? ⟨go10, (x4_1 : Int).toNat * 4 + 2, none⟩ = false := hfr10 2; have hf10_3 : w11.frozen? ⟨go10, (x4_1 : Int).toNat * 4 + 3, none⟩ = false := hfr10 3; clear hcl10 hcc10 hfr10 hM10; replace p10 := eq_true p10; replace q10 := eq_true q10; have n_ := mkA (Kd.S_mono (ok' := (fun k_ => some k_ ≠ (v145 : Value).ownBlock)) HO_3.out (fun k_ hk => hk.2)); clear HO_3; have HO_3 := n_; clear n_; obtain ⟨Ao14, co14, eo14⟩ := Kd.R_slice HO146.out; subst eo14; have HX12 := mkA (show Kd.S k53 53 w11 w.heap.size (fun k_ => ((fun _ => True)) k_ ∧ ¬ ((fun k_ => some k_ = (.slice Ao14 t144.length co14 : Value).ownBlock)) k_) (.slice (some ⟨go10, 0, none⟩) x3_1.length co10) x3_1 from (by refine s_ ?_; exact Kd.S_mono HO_3.out (fun k_ hk => ⟨trivial, fun e_ => hk e_⟩))); obtain ⟨oki12, ce12, hcl12, hM12, hcc12, hfr12, hoki12, hH12⟩ := Kd.S_elem HX12.out z53 (x4_1 : Int) (dt_) (by have h_ : (x4_1 : Int) < ((x3_1.length : Int) : Int) := dt_; first | exact h_ | (have e_ := (Kd.S_reads' HO_3.out).1; omega) | simpa using h_); obtain ⟨ve12_1, rfl, ge12_1⟩ := k53_openM hM12; have HP12 := Kd.S_seg hH12 (dt_) (by have h_ : (x4_1 : Int) < ((x3_1.length : Int) : Int) := dt_; first | exact h_ | (have e_ := (Kd.S_reads' HO_3.out).1; omega) | simpa using h_) (seg := [.string t143, .slice Ao14 t144.length co14, .int .i64 t147, .bool t148]) (j := 0) (show 4 ≤ 4 from by decide) (x' := (⟨t143, t144, t147, t148⟩ : S53)) (k53_mkM _ _ _ (⟨t143, t144, t147, t148⟩ : S53) (Kd.R_mono (Kd.R_tight rfl (Kd.R_mono (ok' := fun k_ => ((fun _ => True)) k_ ∧ k_ ≠ go10) (Kd.R_apart' (HO146.out) (Kd.S_typed HO_3.out) (by decide)) (fun k_ hk => ⟨trivial, fun e_ => (hk.2) (by rw [e_]; rfl)⟩))) (fun _ h_ => Or.inr (h_)))) (fun _ hk => hk) (fun k_ hk_ => ((Kd.R_mono (ok' := fun k_ => ((fun _ => True)) k_ ∧ k_ ≠ go10) (Kd.R_apart' (HO146.out) (Kd.S_typed HO_3.out) (by decide)) (fun k_ hk => ⟨trivial, fun e_ => (hk.2) (by rw [e_]; rfl)⟩))).1 k_ hk_.symm); have hx12_0 := hcc12 0 _ rfl; (try simp only [show (k53).sz = 4 from rfl, Nat.mul_one, Nat.add_zero] at hx12_0); have hf12_0 := hfr12 0; (try simp only [show (k53).sz = 4 from rfl, Nat.mul_one, Nat.add_zero] at hf12_0); have hx12_1 := hcc12 1 _ rfl; (try simp only [show (k53).sz = 4 from rfl, Nat.mul_one, Nat.add_zero] at hx12_1); have hf12_1 := hfr12 1; (try simp only [show (k53).sz = 4 from rfl, Nat.mul_one, Nat.add_zero] at hf12_1); have hx12_2 := hcc12 2 _ rfl; (try simp only [show (k53).sz = 4 from rfl, Nat.mul_one, Nat.add_zero] at hx12_2); have hf12_2 := hfr12 2; (try simp only [show (k53).sz = 4 from rfl, Nat.mul_one, Nat.add_zero] at hf12_2); have hx12_3 := hcc12 3 _ rfl; (try simp only [show (k53).sz = 4 from rfl, Nat.mul_one, Nat.add_zero] at hx12_3); have hf12_3 := hfr12 3; (try simp only [show (k53).sz = 4 from rfl, Nat.mul_one, Nat.add_zero] at hf12_3); clear hcl12 hcc12 hfr12 hM12 hoki12 hH12) | ((with_reducible refine gate_store (t := 53) (p := 21) rfl ?_); refine store_event (t := 53) (p := 21) (v := ?vo_w13) (w1 := ((((w11.setCell ⟨go10, (x4_1 : Int).toNat * 4, none⟩ (.string t143)).setCell ⟨go10, (x4_1 : Int).toNat * 4 + 1, none⟩ (.slice Ao14 t144.length co14)).setCell ⟨go10, (x4_1 : Int).toNat * 4 + 2, none⟩ (.int .i64 t147)).setCell ⟨go10, (x4_1 : Int).toNat * 4 + 3, none⟩ (.bool t148))) ?hg ?ho ?hn ?hr ?_; (case ho => rfl); (case hg => rfl); (case hn => rfl); (case hr => first | (go_simp; done) | (go_simp; rfl)); intro w13 hw; have hg : w11.grownBy w13 (some go10) := (by rw [hw]; exact HP12.2); have hp_ : Kd.S k53 53 w13 w.heap.size (fun _ => True) (.slice (some ⟨go10, 0, none⟩) x3_1.length co10) y149 := (by rw [hw, Ny149.out]; exact HP12.1); clear HP12; replace HO_3 := mkA (hp_); replace HB := mkA ((by rw [hw]; exact below_set (below_set (below_set (below_set (HB.out) GB10.out) GB10.out) GB10.out) GB10.out : Below w.heap.size w w13)); clear HO146; clear hg hw hp_))
   go_roundg k1
   case measure => have := HK1.out; omega
   case rel => exact ⟨(y149), (wrap64 (x4_1 + 1)), rf_, H', ⟨om_ HK1.out⟩, ⟨s_ HO_3.out⟩, ⟨bs0_ HB.out⟩⟩
/-! ### laws_eqPoint: function 80 -/
def laws_eqPoint.f (a0_0 : Int) (a0_1 : Int) (a1_0 : Int) (a1_1 : Int) : Option (Bool) := if a0_0 = a1_0 then (if a0_1 = a1_1 then (some true) else (some false)) else (some false)
set_option maxHeartbeats 8000000 in
set_option maxRecDepth 100000 in
theorem laws_eqPoint.calls (a0_0 : Int) (a0_1 : Int) (a1_0 : Int) (a1_1 : Int) (r : Bool) (w : World) (h : laws_eqPoint.f a0_0 a0_1 a1_0 a1_1 = some r) :
 Calls Try.prog 80 #[.agg #[.int .i64 a0_0, .int .i64 a0_1], .agg #[.int .i64 a1_0, .int .i64 a1_1]] w fun e w' => e = .returned (.bool r) ∧ Below w.heap.size w w' := by
 have hu105 := Try.underlying105
 have HB := mkA (Below.refl w.heap.size w)
 unfold laws_eqPoint.f at h
 have H := h
 clear h
 by_cases c3 : a0_0 = a1_0
 rotate_left
 · rw [if_neg c3] at H
   have c3b0 : (a0_0 == a1_0) = false := beq_eq_false_iff_ne.mpr c3
   have c3b1 : (a0_0 != a1_0) = true := bne_iff_ne.mpr c3
   obtain rfl := Option.some.inj H
   go_enter Try.func80, Try.ntmps80
   go_wp2_with (first | ((with_reducible refine gt_ 2 ?_); refine bx_ 2 #[.int .i64 a0_0, .int .i64 a0_1] 105 fun gb150 hg w15 hbox hb => ?_; have BK150 := mkA (hbox); have GW150 := gs_ hg (bs0_ HB.out); have GE150 := GW150; replace HB := mkA (below_step (bs0_ HB.out) hb); clear hb hbox hg) | ((with_reducible refine gt_ 3 ?_); refine bx_ 3 #[.int .i64 a1_0, .int .i64 a1_1] 105 fun gb151 hg w16 hbox hb => ?_; have BK151 := mkA (hbox); have GW151 := gs_ hg (bs1_ HB.out GE150.out); have GE151 := GW151; replace HB := mkA (below_step (bs1_ HB.out GE150.out) hb); have NB150_151 := nl_ hg (bl_ BK150.out); have NB151_150 := nr_ hg (bl_ BK150.out); replace BK150 := mkA (blk_below (bl_ BK150.out) hb); clear hb hbox hg; have hnb17 := NB150_151.out; have hnc17 := NB151_150.out; obtain ⟨hcz18_0, hcz18_1, hfz18_0, hfz18_1⟩ := z2_ BK150.out; obtain ⟨hcz19_0, hcz19_1, hfz19_0, hfz19_1⟩ := z2_ BK151.out))
   go_ret
   exact ⟨re_, bs2_ HB.out GE150.out GE151.out⟩
 rw [if_pos c3] at H
 have c3b0 : (a0_0 == a1_0) = true := beq_iff_eq.mpr c3
 have c3b1 : (a0_0 != a1_0) = false := bne_eq_false_iff_eq.mpr c3
 clear c3
 by_cases c4 : a0_1 = a1_1
 rotate_left
 · rw [if_neg c4] at H
   have c4b0 : (a0_1 == a1_1) = false := beq_eq_false_iff_ne.mpr c4
   have c4b1 : (a0_1 != a1_1) = true := bne_iff_ne.mpr c4
   obtain rfl := Option.some.inj H
   go_enter Try.func80, Try.ntmps80
   go_wp2_with (first | ((with_reducible refine gt_ 2 ?_); refine bx_ 2 #[.int .i64 a0_0, .int .i64 a0_1] 105 fun gb150 hg w10 hbox hb => ?_; have BK150 := mkA (hbox); have GW150 := gs_ hg (bs0_ HB.out); have GE150 := GW150; replace HB := mkA (below_step (bs0_ HB.out) hb); clear hb hbox hg) | ((with_reducible refine gt_ 3 ?_); refine bx_ 3 #[.int .i64 a1_0, .int .i64 a1_1] 105 fun gb151 hg w11 hbox hb => ?_; have BK151 := mkA (hbox); have GW151 := gs_ hg (bs1_ HB.out GE150.out); have GE151 := GW151; replace HB := mkA (below_step (bs1_ HB.out GE150.out) hb); have NB150_151 := nl_ hg (bl_ BK150.out); have NB151_150 := nr_ hg (bl_ BK150.out); replace BK150 := mkA (blk_below (bl_ BK150.out) hb); clear hb hbox hg; have hnb12 := NB150_151.out; have hnc12 := NB151_150.out; obtain ⟨hcz13_0, hcz13_1, hfz13_0, hfz13_1⟩ := z2_ BK150.out; obtain ⟨hcz14_0, hcz14_1, hfz14_0, hfz14_1⟩ := z2_ BK151.out))
   go_ret
   exact ⟨re_, bs2_ HB.out GE150.out GE151.out⟩
 rw [if_pos c4] at H
 have c4b0 : (a0_1 == a1_1) = true := beq_iff_eq.mpr c4
 have c4b1 : (a0_1 != a1_1) = false := bne_eq_false_iff_eq.mpr c4
 clear c4
 obtain rfl := Option.some.inj H
 go_enter Try.func80, Try.ntmps80
 go_wp2_with (first | ((with_reducible refine gt_ 2 ?_); refine bx_ 2 #[.int .i64 a0_0, .int .i64 a0_1] 105 fun gb150 hg w5 hbox hb => ?_; have BK150 := mkA (hbox); have GW150 := gs_ hg (bs0_ HB.out); have GE150 := GW150; replace HB := mkA (below_step (bs0_ HB.out) hb); clear hb hbox hg) | ((with_reducible refine gt_ 3 ?_); refine bx_ 3 #[.int .i64 a1_0, .int .i64 a1_1] 105 fun gb151 hg w6 hbox hb => ?_; have BK151 := mkA (hbox); have GW151 := gs_ hg (bs1_ HB.out GE150.out); have GE151 := GW151; replace HB := mkA (below_step (bs1_ HB.out GE150.out) hb); have NB150_151 := nl_ hg (bl_ BK150.out); have NB151_150 := nr_ hg (bl_ BK150.out); replace BK150 := mkA (blk_below (bl_ BK150.out) hb); clear hb hbox hg; have hnb7 := NB150_151.out; have hnc7 := NB151_150.out; obtain ⟨hcz8_0, hcz8_1, hfz8_0, hfz8_1⟩ := z2_ BK150.out; obtain ⟨hcz9_0, hcz9_1, hfz9_0, hfz9_1⟩ := z2_ BK151.out))
 go_ret
 exact ⟨re_, bs2_ HB.out GE150.out GE151.out⟩
/-! ### laws_eqPointS: function 44 -/
def laws_eqPointS.l0 : Nat → List (S105) → List (S105) → Int → Option (Bool)
  | 0, _, _, _ => none
  | k + 1, x0, x1, x5 => if x5 < (x0.length : Int) then (if 0 ≤ x5 then (if x5 < (x1.length : Int) then ((laws_eqPoint.f ((rd_T105 x0 x5).f0) ((rd_T105 x0 x5).f1) ((rd_T105 x1 x5).f0) ((rd_T105 x1 x5).f1)).bind fun t154 => (if t154 = true then (laws_eqPointS.l0 k x0 x1 (wrap64 (x5 + 1))) else (some false))) else (none)) else (none)) else (some true)
def laws_eqPointS.f (k : Nat) (l0 : List (S105)) (l1 : List (S105)) : Option (Bool) := if (l0.length : Int) = (l1.length : Int) then (laws_eqPointS.l0 k l0 l1 0) else (some false)
def laws_eqPointS.T6 : Bool × List (List Nat × List Nat) := (true, [([], []), ([], []), ([0, 1], [0, 1]), ([2], [2]), ([], []), ([], []), ([4, 5], [4, 5]), ([6], [6]), ([3, 7], [3, 7]), ([8], [8])])
def laws_eqPointS.B6 : List Nat := [0, 0, 3, 7, 0, 0, 48, 112, 255, 511]
theorem laws_eqPointS.tab6 : rtab .any (opsOf Try.f44 6) = laws_eqPointS.T6 := by kernel_rfl
theorem laws_eqPointS.bits6 : waitsOk laws_eqPointS.T6.2 laws_eqPointS.B6 = true := by kernel_rfl
set_option maxHeartbeats 8000000 in
set_option maxRecDepth 100000 in
theorem laws_eqPointS.calls (k : Nat) (A0 : Option Addr) (c0 : Nat) (l0 : List (S105)) (A1 : Option Addr) (c1 : Nat) (l1 : List (S105)) (r : Bool) (w : World) (hr0 : Kd.C k105 w A0 l0.length l0) (hc0 : l0.length ≤ c0) (hr1 : Kd.C k105 w A1 l1.length l1) (hc1 : l1.length ≤ c1) (h : laws_eqPointS.f k l0 l1 = some r) :
 Calls Try.prog 44 #[.slice A0 l0.length c0, .slice A1 l1.length c1] w fun e w' => e = .returned (.bool r) ∧ Below w.heap.size w w' := by
 have hu105 := Try.underlying105
 have HR0 := mkA hr0
 have HC0 := mkA hc0
 clear hr0 hc0
 have HR1 := mkA hr1
 have HC1 := mkA hc1
 clear hr1 hc1
 have HB := mkA (Below.refl w.heap.size w)
 unfold laws_eqPointS.f at h
 have H := h
 clear h
 by_cases c3 : (l0.length : Int) = (l1.length : Int)
 rotate_left
 · rw [if_neg c3] at H
   have c3b0 : ((l0.length : Int) == (l1.length : Int)) = false := beq_eq_false_iff_ne.mpr c3
   have c3b1 : ((l0.length : Int) != (l1.length : Int)) = true := bne_iff_ne.mpr c3
   have c3b2 : (l0.length == l1.length) = false := by first | simpa using c3 | (simp at c3 ⊢; omega)
   obtain rfl := Option.some.inj H
   go_enter Try.func44, Try.ntmps44
   go_wp2
   go_ret
   exact ⟨re_, bs0_ HB.out⟩
 rw [if_pos c3] at H
 have c3b0 : ((l0.length : Int) == (l1.length : Int)) = true := beq_iff_eq.mpr c3
 have c3b1 : ((l0.length : Int) != (l1.length : Int)) = false := bne_eq_false_iff_eq.mpr c3
 have c3b2 : (l0.length == l1.length) = true := by first | simpa using c3 | (simp at c3 ⊢; omega)
 clear c3
 have H' := mkA H
 clear H
 go_enter Try.func44, Try.ntmps44
 go_wp2
 go_loopg [5] k (fun kq v5 w' => ∃ (x5_1 : Int), v5 = .int .i64 x5_1 ∧ Aside0 (laws_eqPointS.l0 kq l0 l1 x5_1 = some r) ∧ Aside0 (kq ≤ k) ∧ Aside0 (Below w.heap.size w w'))
 case atStart => exact ⟨(0), rf_, H', ⟨Nat.le_refl _⟩, ⟨bs0_ HB.out⟩⟩
 case round =>
  clear H'
  try clear c3 c3b0 c3b1 c3b2
  obtain ⟨x5_1, rfl, HA, HK1, HB⟩ := hrel
  cases gk with
  | zero => exact absurd HA.out (by simp [laws_eqPointS.l0])
  | succ k1 =>
   have H := HA.out
   clear HA
   simp only [laws_eqPointS.l0] at H
   by_cases c4 : x5_1 < (l0.length : Int)
   rotate_left
   · rw [if_neg c4] at H
     have c4b0 := decide_eq_false c4
     clear c4
     obtain rfl := Option.some.inj H
     go_wp2
     go_ret
     exact ⟨re_, bs0_ HB.out⟩
   rw [if_pos c4] at H
   have c4b0 := decide_eq_true c4
   clear c4
   revert H
   refine ng_ fun c5 => ng_ fun c6 => ob_ fun t154 A7 => ?_
   intro H
   have c5b0 := decide_eq_true c5
   clear c5
   have c6b0 := decide_eq_true c6
   clear c6
   by_cases c8 : t154 = true
   rotate_left
   · replace c8 := Bool.eq_false_iff.mpr c8
     subst c8
     rw [if_neg Bool.false_ne_true] at H
     obtain rfl := Option.some.inj H
     try go_wp2
     replace HB := mkA (below_drew1 HB.out)
     obtain ⟨ad152, e152, hw152_0, hw152_1⟩ := at_T105 HR0.out x5_1 dt_ dt_
     cases e152
     obtain ⟨hx152_0, hx152_1⟩ := b2_ HB.out hw152_0 hw152_1
     have p152 : (0 ≤ (x5_1 : Int)) = True := eq_true dt_
     have q152 : (x5_1 < (l0.length : Int)) = True := eq_true dt_
     obtain ⟨ad153, e153, hw153_0, hw153_1⟩ := at_T105 HR1.out x5_1 dt_ dt_
     cases e153
     obtain ⟨hx153_0, hx153_1⟩ := b2_ HB.out hw153_0 hw153_1
     have p153 : (0 ≤ (x5_1 : Int)) = True := eq_true dt_
     have q153 : (x5_1 < (l1.length : Int)) = True := eq_true dt_
     refine st_ 10 (fun w' => C_ hw152_0 w' ∧ C_ hw152_1 w' ∧ C_ hw153_0 w' ∧ C_ hw153_1 w') [] laws_eqPointS.tab6 laws_eqPointS.bits6 sp_ fun hHeld HT_ HW_ => ?_
     generalize wr.drew = w11 at HB hx152_0 hx152_1 hx153_0 hx153_1 hHeld ⊢
     refine a1_ 0 17 (h := a1_ 1 18 (h := a1_ 2 19 (h := a1_ 4 21 (h := a1_ 5 22 (h := a1_ 6 23 (h := tk_ 3 20 (h := tk_ 7 24 (h := ?_))))))))
     refine on_ 8 25 fun K hK => ?_
     refine go_ Try.func80 #[.agg #[.int .i64 ((rd_T105 l0 x5_1).f0), .int .i64 ((rd_T105 l0 x5_1).f1)], .agg #[.int .i64 ((rd_T105 l1 x5_1).f0), .int .i64 ((rd_T105 l1 x5_1).f1)]] ?_
     with_reducible refine (laws_eqPoint.calls ((rd_T105 l0 x5_1).f0) ((rd_T105 l0 x5_1).f1) ((rd_T105 l1 x5_1).f0) ((rd_T105 l1 x5_1).f1) false _ A7.out).mono ?_
     rintro e w12 ⟨rfl, hb⟩
     refine ⟨_, rfl, ?_⟩
     replace HB := mkA (below_step (bs0_ HB.out) hb)
     (try clear hb)
     (try clear hb2)
     (try clear hk)
     (try clear hi)
     refine hK.out _ _ sp_ fun hHeld => ?_
     clear hK K
     refine nm_ 25 ?_
     refine a1_ 9 26 (h := ?_)
     refine dn_ ?_
     try go_wp2
     go_ret
     exact ⟨re_, bs0_ HB.out⟩
   subst c8
   rw [if_pos rfl] at H
   have H' := mkA H
   clear H
   try go_wp2
   replace HB := mkA (below_drew1 HB.out)
   obtain ⟨ad152, e152, hw152_0, hw152_1⟩ := at_T105 HR0.out x5_1 dt_ dt_
   cases e152
   obtain ⟨hx152_0, hx152_1⟩ := b2_ HB.out hw152_0 hw152_1
   have p152 : (0 ≤ (x5_1 : Int)) = True := eq_true dt_
   have q152 : (x5_1 < (l0.length : Int)) = True := eq_true dt_
   obtain ⟨ad153, e153, hw153_0, hw153_1⟩ := at_T105 HR1.out x5_1 dt_ dt_
   cases e153
   obtain ⟨hx153_0, hx153_1⟩ := b2_ HB.out hw153_0 hw153_1
   have p153 : (0 ≤ (x5_1 : Int)) = True := eq_true dt_
   have q153 : (x5_1 < (l1.length : Int)) = True := eq_true dt_
   refine st_ 10 (fun w' => C_ hw152_0 w' ∧ C_ hw152_1 w' ∧ C_ hw153_0 w' ∧ C_ hw153_1 w') [] laws_eqPointS.tab6 laws_eqPointS.bits6 sp_ fun hHeld HT_ HW_ => ?_
   generalize wr.drew = w9 at HB hx152_0 hx152_1 hx153_0 hx153_1 hHeld ⊢
   refine a1_ 0 17 (h := a1_ 1 18 (h := a1_ 2 19 (h := a1_ 4 21 (h := a1_ 5 22 (h := a1_ 6 23 (h := tk_ 3 20 (h := tk_ 7 24 (h := ?_))))))))
   refine on_ 8 25 fun K hK => ?_
   refine go_ Try.func80 #[.agg #[.int .i64 ((rd_T105 l0 x5_1).f0), .int .i64 ((rd_T105 l0 x5_1).f1)], .agg #[.int .i64 ((rd_T105 l1 x5_1).f0), .int .i64 ((rd_T105 l1 x5_1).f1)]] ?_
   with_reducible refine (laws_eqPoint.calls ((rd_T105 l0 x5_1).f0) ((rd_T105 l0 x5_1).f1) ((rd_T105 l1 x5_1).f0) ((rd_T105 l1 x5_1).f1) true _ A7.out).mono ?_
   rintro e w10 ⟨rfl, hb⟩
   refine ⟨_, rfl, ?_⟩
   replace HB := mkA (below_step (bs0_ HB.out) hb)
   (try clear hb)
   (try clear hb2)
   (try clear hk)
   (try clear hi)
   refine hK.out _ _ sp_ fun hHeld => ?_
   clear hK K
   refine nm_ 25 ?_
   refine a1_ 9 26 (h := ?_)
   refine dn_ ?_
   try go_wp2
   go_roundg k1
   case measure => have := HK1.out; omega
   case rel => exact ⟨(wrap64 (x5_1 + 1)), rf_, H', ⟨om_ HK1.out⟩, ⟨bs0_ HB.out⟩⟩
/-! ### laws_eqPiece: function 38 -/
def laws_eqPiece.f (k : Nat) (a0_0 : ByteArray) (l0_1 : List (S105)) (a0_2 : Int) (a0_3 : Bool) (a1_0 : ByteArray) (l1_1 : List (S105)) (a1_2 : Int) (a1_3 : Bool) : Option (Bool) := if a0_0.toList = a1_0.toList then ((laws_eqPointS.f k l0_1 l1_1).bind fun t157 => (if t157 = true then (if a0_2 = a1_2 then (if (a0_3 != a1_3) = true then (some false) else (some true)) else (some false)) else (some false))) else (some false)
set_option maxHeartbeats 8000000 in
set_option maxRecDepth 100000 in
theorem laws_eqPiece.calls (k : Nat) (a0_0 : ByteArray) (A0_1 : Option Addr) (c0_1 : Nat) (l0_1 : List (S105)) (a0_2 : Int) (a0_3 : Bool) (a1_0 : ByteArray) (A1_1 : Option Addr) (c1_1 : Nat) (l1_1 : List (S105)) (a1_2 : Int) (a1_3 : Bool) (r : Bool) (w : World) (hr0_1 : Kd.C k105 w A0_1 l0_1.length l0_1) (hc0_1 : l0_1.length ≤ c0_1) (hr1_1 : Kd.C k105 w A1_1 l1_1.length l1_1) (hc1_1 : l1_1.length ≤ c1_1) (h : laws_eqPiece.f k a0_0 l0_1 a0_2 a0_3 a1_0 l1_1 a1_2 a1_3 = some r) :
 Calls Try.prog 38 #[.agg #[.string a0_0, .slice A0_1 l0_1.length c0_1, .int .i64 a0_2, .bool a0_3], .agg #[.string a1_0, .slice A1_1 l1_1.length c1_1, .int .i64 a1_2, .bool a1_3]] w fun e w' => e = .returned (.bool r) ∧ Below w.heap.size w w' := by
 have hu53 := Try.underlying53
 have HR0_1 := mkA hr0_1
 have HC0_1 := mkA hc0_1
 clear hr0_1 hc0_1
 have HR1_1 := mkA hr1_1
 have HC1_1 := mkA hc1_1
 clear hr1_1 hc1_1
 have HB := mkA (Below.refl w.heap.size w)
 unfold laws_eqPiece.f at h
 have H := h
 clear h
 by_cases c3 : a0_0.toList = a1_0.toList
 rotate_left
 · rw [if_neg c3] at H
   have c3b0 : (a0_0.toList == a1_0.toList) = false := beq_eq_false_iff_ne.mpr c3
   have c3b1 : (a0_0.toList != a1_0.toList) = true := bne_iff_ne.mpr c3
   obtain rfl := Option.some.inj H
   go_enter Try.func38, Try.ntmps38
   go_wp2_with (first | ((with_reducible refine gt_ 2 ?_); refine bx_ 2 #[.string a0_0, .slice A0_1 l0_1.length c0_1, .int .i64 a0_2, .bool a0_3] 53 fun gb155 hg w38 hbox hb => ?_; have BK155 := mkA (hbox); have GW155 := gs_ hg (bs0_ HB.out); have GE155 := GW155; replace HB := mkA (below_step (bs0_ HB.out) hb); clear hb hbox hg) | ((with_reducible refine gt_ 3 ?_); refine bx_ 3 #[.string a1_0, .slice A1_1 l1_1.length c1_1, .int .i64 a1_2, .bool a1_3] 53 fun gb156 hg w39 hbox hb => ?_; have BK156 := mkA (hbox); have GW156 := gs_ hg (bs1_ HB.out GE155.out); have GE156 := GW156; replace HB := mkA (below_step (bs1_ HB.out GE155.out) hb); have NB155_156 := nl_ hg (bl_ BK155.out); have NB156_155 := nr_ hg (bl_ BK155.out); replace BK155 := mkA (blk_below (bl_ BK155.out) hb); clear hb hbox hg; have hnb40 := NB155_156.out; have hnc40 := NB156_155.out; obtain ⟨hcz41_0, hcz41_1, hcz41_2, hcz41_3, hfz41_0, hfz41_1, hfz41_2, hfz41_3⟩ := z4_ BK155.out; obtain ⟨hcz42_0, hcz42_1, hcz42_2, hcz42_3, hfz42_0, hfz42_1, hfz42_2, hfz42_3⟩ := z4_ BK156.out))
   go_ret
   exact ⟨re_, bs2_ HB.out GE155.out GE156.out⟩
 rw [if_pos c3] at H
 have c3b0 : (a0_0.toList == a1_0.toList) = true := beq_iff_eq.mpr c3
 have c3b1 : (a0_0.toList != a1_0.toList) = false := bne_eq_false_iff_eq.mpr c3
 clear c3
 revert H
 refine ob_ fun t157 A4 => ?_
 intro H
 by_cases c5 : t157 = true
 rotate_left
 · replace c5 := Bool.eq_false_iff.mpr c5
   subst c5
   rw [if_neg Bool.false_ne_true] at H
   obtain rfl := Option.some.inj H
   go_enter Try.func38, Try.ntmps38
   go_wp2_with (first | ((with_reducible refine gt_ 2 ?_); refine bx_ 2 #[.string a0_0, .slice A0_1 l0_1.length c0_1, .int .i64 a0_2, .bool a0_3] 53 fun gb155 hg w32 hbox hb => ?_; have BK155 := mkA (hbox); have GW155 := gs_ hg (bs0_ HB.out); have GE155 := GW155; replace HB := mkA (below_step (bs0_ HB.out) hb); clear hb hbox hg) | ((with_reducible refine gt_ 3 ?_); refine bx_ 3 #[.string a1_0, .slice A1_1 l1_1.length c1_1, .int .i64 a1_2, .bool a1_3] 53 fun gb156 hg w33 hbox hb => ?_; have BK156 := mkA (hbox); have GW156 := gs_ hg (bs1_ HB.out GE155.out); have GE156 := GW156; replace HB := mkA (below_step (bs1_ HB.out GE155.out) hb); have NB155_156 := nl_ hg (bl_ BK155.out); have NB156_155 := nr_ hg (bl_ BK155.out); replace BK155 := mkA (blk_below (bl_ BK155.out) hb); clear hb hbox hg; have hnb34 := NB155_156.out; have hnc34 := NB156_155.out; obtain ⟨hcz35_0, hcz35_1, hcz35_2, hcz35_3, hfz35_0, hfz35_1, hfz35_2, hfz35_3⟩ := z4_ BK155.out; obtain ⟨hcz36_0, hcz36_1, hcz36_2, hcz36_3, hfz36_0, hfz36_1, hfz36_2, hfz36_3⟩ := z4_ BK156.out) | ((with_reducible refine gk_ 44 ?_); refine gl_ (some 14) Try.func44 #[.slice A0_1 l0_1.length c0_1, .slice A1_1 l1_1.length c1_1] ?_; (with_reducible refine (laws_eqPointS.calls k _ _ l0_1 _ _ l1_1 false _ ?side1 ?side2 ?side3 ?side4 A4.out).mono ?_); (case side1 => exact cb_ HR0_1.out HB.out); (case side2 => exact HC0_1.out); (case side3 => exact cb_ HR1_1.out HB.out); (case side4 => exact HC1_1.out); rintro e w37 ⟨rfl, hb⟩; refine ⟨_, rfl, ?_⟩; replace BK155 := mkA (blk_below (bl_ BK155.out) hb); replace BK156 := mkA (blk_below (bl_ BK156.out) hb); replace HB := mkA (below_step (bs2_ HB.out GE155.out GE156.out) hb); (try clear hb); (try clear hb2); (try clear hk); (try clear hi)))
   go_ret
   exact ⟨re_, bs2_ HB.out GE155.out GE156.out⟩
 subst c5
 rw [if_pos rfl] at H
 by_cases c6 : a0_2 = a1_2
 rotate_left
 · rw [if_neg c6] at H
   have c6b0 : (a0_2 == a1_2) = false := beq_eq_false_iff_ne.mpr c6
   have c6b1 : (a0_2 != a1_2) = true := bne_iff_ne.mpr c6
   obtain rfl := Option.some.inj H
   go_enter Try.func38, Try.ntmps38
   go_wp2_with (first | ((with_reducible refine gt_ 2 ?_); refine bx_ 2 #[.string a0_0, .slice A0_1 l0_1.length c0_1, .int .i64 a0_2, .bool a0_3] 53 fun gb155 hg w24 hbox hb => ?_; have BK155 := mkA (hbox); have GW155 := gs_ hg (bs0_ HB.out); have GE155 := GW155; replace HB := mkA (below_step (bs0_ HB.out) hb); clear hb hbox hg) | ((with_reducible refine gt_ 3 ?_); refine bx_ 3 #[.string a1_0, .slice A1_1 l1_1.length c1_1, .int .i64 a1_2, .bool a1_3] 53 fun gb156 hg w25 hbox hb => ?_; have BK156 := mkA (hbox); have GW156 := gs_ hg (bs1_ HB.out GE155.out); have GE156 := GW156; replace HB := mkA (below_step (bs1_ HB.out GE155.out) hb); have NB155_156 := nl_ hg (bl_ BK155.out); have NB156_155 := nr_ hg (bl_ BK155.out); replace BK155 := mkA (blk_below (bl_ BK155.out) hb); clear hb hbox hg; have hnb26 := NB155_156.out; have hnc26 := NB156_155.out; obtain ⟨hcz27_0, hcz27_1, hcz27_2, hcz27_3, hfz27_0, hfz27_1, hfz27_2, hfz27_3⟩ := z4_ BK155.out; obtain ⟨hcz28_0, hcz28_1, hcz28_2, hcz28_3, hfz28_0, hfz28_1, hfz28_2, hfz28_3⟩ := z4_ BK156.out) | ((with_reducible refine gk_ 44 ?_); refine gl_ (some 14) Try.func44 #[.slice A0_1 l0_1.length c0_1, .slice A1_1 l1_1.length c1_1] ?_; (with_reducible refine (laws_eqPointS.calls k _ _ l0_1 _ _ l1_1 true _ ?side1 ?side2 ?side3 ?side4 A4.out).mono ?_); (case side1 => exact cb_ HR0_1.out HB.out); (case side2 => exact HC0_1.out); (case side3 => exact cb_ HR1_1.out HB.out); (case side4 => exact HC1_1.out); rintro e w29 ⟨rfl, hb⟩; refine ⟨_, rfl, ?_⟩; replace BK155 := mkA (blk_below (bl_ BK155.out) hb); replace BK156 := mkA (blk_below (bl_ BK156.out) hb); replace HB := mkA (below_step (bs2_ HB.out GE155.out GE156.out) hb); (try clear hb); (try clear hb2); (try clear hk); (try clear hi); obtain ⟨hcz30_0, hcz30_1, hcz30_2, hcz30_3, hfz30_0, hfz30_1, hfz30_2, hfz30_3⟩ := z4_ BK155.out; obtain ⟨hcz31_0, hcz31_1, hcz31_2, hcz31_3, hfz31_0, hfz31_1, hfz31_2, hfz31_3⟩ := z4_ BK156.out))
   go_ret
   exact ⟨re_, bs2_ HB.out GE155.out GE156.out⟩
 rw [if_pos c6] at H
 have c6b0 : (a0_2 == a1_2) = true := beq_iff_eq.mpr c6
 have c6b1 : (a0_2 != a1_2) = false := bne_eq_false_iff_eq.mpr c6
 clear c6
 by_cases c7 : (a0_3 != a1_3) = true
 rotate_left
 · rw [if_neg c7] at H
   have c7b0 : (a0_3 != a1_3) = false := by simpa using c7
   (try (have c7b1 : decide (a0_3 = a1_3) = true := by simpa using c7))
   (try (have c7b2 : (a0_3 == a1_3) = true := by simpa using c7))
   clear c7
   obtain rfl := Option.some.inj H
   go_enter Try.func38, Try.ntmps38
   go_wp2_with (first | ((with_reducible refine gt_ 2 ?_); refine bx_ 2 #[.string a0_0, .slice A0_1 l0_1.length c0_1, .int .i64 a0_2, .bool a0_3] 53 fun gb155 hg w16 hbox hb => ?_; have BK155 := mkA (hbox); have GW155 := gs_ hg (bs0_ HB.out); have GE155 := GW155; replace HB := mkA (below_step (bs0_ HB.out) hb); clear hb hbox hg) | ((with_reducible refine gt_ 3 ?_); refine bx_ 3 #[.string a1_0, .slice A1_1 l1_1.length c1_1, .int .i64 a1_2, .bool a1_3] 53 fun gb156 hg w17 hbox hb => ?_; have BK156 := mkA (hbox); have GW156 := gs_ hg (bs1_ HB.out GE155.out); have GE156 := GW156; replace HB := mkA (below_step (bs1_ HB.out GE155.out) hb); have NB155_156 := nl_ hg (bl_ BK155.out); have NB156_155 := nr_ hg (bl_ BK155.out); replace BK155 := mkA (blk_below (bl_ BK155.out) hb); clear hb hbox hg; have hnb18 := NB155_156.out; have hnc18 := NB156_155.out; obtain ⟨hcz19_0, hcz19_1, hcz19_2, hcz19_3, hfz19_0, hfz19_1, hfz19_2, hfz19_3⟩ := z4_ BK155.out; obtain ⟨hcz20_0, hcz20_1, hcz20_2, hcz20_3, hfz20_0, hfz20_1, hfz20_2, hfz20_3⟩ := z4_ BK156.out) | ((with_reducible refine gk_ 44 ?_); refine gl_ (some 14) Try.func44 #[.slice A0_1 l0_1.length c0_1, .slice A1_1 l1_1.length c1_1] ?_; (with_reducible refine (laws_eqPointS.calls k _ _ l0_1 _ _ l1_1 true _ ?side1 ?side2 ?side3 ?side4 A4.out).mono ?_); (case side1 => exact cb_ HR0_1.out HB.out); (case side2 => exact HC0_1.out); (case side3 => exact cb_ HR1_1.out HB.out); (case side4 => exact HC1_1.out); rintro e w21 ⟨rfl, hb⟩; refine ⟨_, rfl, ?_⟩; replace BK155 := mkA (blk_below (bl_ BK155.out) hb); replace BK156 := mkA (blk_below (bl_ BK156.out) hb); replace HB := mkA (below_step (bs2_ HB.out GE155.out GE156.out) hb); (try clear hb); (try clear hb2); (try clear hk); (try clear hi); obtain ⟨hcz22_0, hcz22_1, hcz22_2, hcz22_3, hfz22_0, hfz22_1, hfz22_2, hfz22_3⟩ := z4_ BK155.out; obtain ⟨hcz23_0, hcz23_1, hcz23_2, hcz23_3, hfz23_0, hfz23_1, hfz23_2, hfz23_3⟩ := z4_ BK156.out))
   go_ret
   exact ⟨re_, bs2_ HB.out GE155.out GE156.out⟩
 rw [if_pos c7] at H
 have c7b0 : (a0_3 != a1_3) = true := c7
 (try (have c7b1 : decide (a0_3 = a1_3) = false := by simpa using c7))
 (try (have c7b2 : (a0_3 == a1_3) = false := by simpa using c7))
 (try (have c7b3 : ¬ (a0_3 = a1_3) := by simpa using c7))
 clear c7
 obtain rfl := Option.some.inj H
 go_enter Try.func38, Try.ntmps38
 go_wp2_with (first | ((with_reducible refine gt_ 2 ?_); refine bx_ 2 #[.string a0_0, .slice A0_1 l0_1.length c0_1, .int .i64 a0_2, .bool a0_3] 53 fun gb155 hg w8 hbox hb => ?_; have BK155 := mkA (hbox); have GW155 := gs_ hg (bs0_ HB.out); have GE155 := GW155; replace HB := mkA (below_step (bs0_ HB.out) hb); clear hb hbox hg) | ((with_reducible refine gt_ 3 ?_); refine bx_ 3 #[.string a1_0, .slice A1_1 l1_1.length c1_1, .int .i64 a1_2, .bool a1_3] 53 fun gb156 hg w9 hbox hb => ?_; have BK156 := mkA (hbox); have GW156 := gs_ hg (bs1_ HB.out GE155.out); have GE156 := GW156; replace HB := mkA (below_step (bs1_ HB.out GE155.out) hb); have NB155_156 := nl_ hg (bl_ BK155.out); have NB156_155 := nr_ hg (bl_ BK155.out); replace BK155 := mkA (blk_below (bl_ BK155.out) hb); clear hb hbox hg; have hnb10 := NB155_156.out; have hnc10 := NB156_155.out; obtain ⟨hcz11_0, hcz11_1, hcz11_2, hcz11_3, hfz11_0, hfz11_1, hfz11_2, hfz11_3⟩ := z4_ BK155.out; obtain ⟨hcz12_0, hcz12_1, hcz12_2, hcz12_3, hfz12_0, hfz12_1, hfz12_2, hfz12_3⟩ := z4_ BK156.out) | ((with_reducible refine gk_ 44 ?_); refine gl_ (some 14) Try.func44 #[.slice A0_1 l0_1.length c0_1, .slice A1_1 l1_1.length c1_1] ?_; (with_reducible refine (laws_eqPointS.calls k _ _ l0_1 _ _ l1_1 true _ ?side1 ?side2 ?side3 ?side4 A4.out).mono ?_); (case side1 => exact cb_ HR0_1.out HB.out); (case side2 => exact HC0_1.out); (case side3 => exact cb_ HR1_1.out HB.out); (case side4 => exact HC1_1.out); rintro e w13 ⟨rfl, hb⟩; refine ⟨_, rfl, ?_⟩; replace BK155 := mkA (blk_below (bl_ BK155.out) hb); replace BK156 := mkA (blk_below (bl_ BK156.out) hb); replace HB := mkA (below_step (bs2_ HB.out GE155.out GE156.out) hb); (try clear hb); (try clear hb2); (try clear hk); (try clear hi); obtain ⟨hcz14_0, hcz14_1, hcz14_2, hcz14_3, hfz14_0, hfz14_1, hfz14_2, hfz14_3⟩ := z4_ BK155.out; obtain ⟨hcz15_0, hcz15_1, hcz15_2, hcz15_3, hfz15_0, hfz15_1, hfz15_2, hfz15_3⟩ := z4_ BK156.out))
 go_ret
 exact ⟨re_, bs2_ HB.out GE155.out GE156.out⟩
end Go.Proofs.Ytakagkflgkoiiaa.GFnExactIsCover
