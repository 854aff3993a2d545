/- part 3 -/
import Derived.Sort.Defs
import Derived.Sort.Row
import Derived.Sort.Lot0
import Derived.Sort.LotA
import Derived.Shelf.SlSortCmp.Kit1
import Derived.Sort.WalkB2
import Derived.Sort.WalkB12
import Derived.Deep.LoopGhost
import Derived.BigRegion
import Derived.Sort.WalkA
import Derived.Shelf.SlSortCmp.QuietGrown
import Derived.Lib.Hide
import Derived.Sort.OwnSortedInts
import Derived.Shelf.Abstract
import Derived.Test.YtepeeahckgpapaaDoorA2
section
namespace Go.Proofs.YtepeeahckgpapaaDoor.Q
open Go.RowKit Go.Proofs.YtepeeahckgpapaaDoorW.PrintWords Go.Proofs.YtepeeahckgpapaaDoorW.PrintLast Go.Proofs.YtepeeahckgpapaaDoorW.PrintMore
attribute [local go_sem] max2_int max_two
set_option linter.unusedVariables false
set_option linter.unusedSimpArgs false
mutual
def spec_l05Parts.j0 : Nat → Int → Bool → Int → Bool → Option (List Int)
 | 0, _, _, _, _ => none
 | k + 1, x0, x1, x5, x9 => if x9 = true then (if (wrap64 (Int.tdiv x0 512)) = 16 then ((spec_l05Letter.f (wrap64 (Int.tdiv x5 8))).bind fun t101 => (some (([t101, wrap64 (4096 + (Int.tmod x5 8))] : List Int)))) else (if (wrap64 (Int.tdiv x0 512)) = 17 then ((spec_l05Letter.f (wrap64 (Int.tdiv x5 8))).bind fun t105 => (some (([t105, wrap64 (4112 + (Int.tmod x5 8))] : List Int)))) else (some (([wrap64 (8704 + x5), 4096] : List Int))))) else (if x0 ≥ 9728 then (spec_l05Parts.j1 k x0 x1 (decide (x0 ≤ 9753))) else (spec_l05Parts.j1 k x0 x1 false))
def spec_l05Parts.j1 : Nat → Int → Bool → Bool → Option (List Int)
 | 0, _, _, _ => none
 | k + 1, x0, x1, x43 => if x43 = true then (some (([wrap64 ((wrap64 (x0 - 9728)) + 65)] : List Int))) else (if x0 ≥ 12288 then (spec_l05Parts.j2 k x0 x1 (decide (x0 ≤ 23459))) else (spec_l05Parts.j2 k x0 x1 false))
def spec_l05Parts.j2 : Nat → Int → Bool → Bool → Option (List Int)
 | 0, _, _, _ => none
 | k + 1, x0, x1, x54 => if x54 = true then (if (Int.tmod (wrap64 (x0 - 12288)) 28) > 0 then (some (([wrap64 (x0 - (Int.tmod (wrap64 (x0 - 12288)) 28)), wrap64 (1856 + (Int.tmod (wrap64 (x0 - 12288)) 28))] : List Int))) else (some (([wrap64 (1792 + (wrap64 (Int.tdiv (wrap64 (x0 - 12288)) 588))), wrap64 (1824 + (Int.tmod (wrap64 (Int.tdiv (wrap64 (x0 - 12288)) 28)) 21))] : List Int)))) else (if x1 = true then ((spec_l05Wide.f k x0).bind fun t121 => (some t121)) else (some (([] : List Int))))
end
def spec_l05Parts.f (k : Nat) (a0 : Int) (a1 : Bool) : Option (List Int) := if a0 ≥ 8192 then (if a0 < 9728 then (spec_l05Parts.j0 k a0 a1 (Int.tmod a0 512) (decide ((Int.tmod a0 512) < 416))) else (spec_l05Parts.j0 k a0 a1 (Int.tmod a0 512) false)) else (spec_l05Parts.j0 k a0 a1 (Int.tmod a0 512) false)
theorem spec_l05Parts.mono_l : ∀ k, (∀ y0 y1 y2 y3, LeO (spec_l05Parts.j0 k y0 y1 y2 y3) (spec_l05Parts.j0 (k + 1) y0 y1 y2 y3)) ∧ (∀ y0 y1 y2, LeO (spec_l05Parts.j1 k y0 y1 y2) (spec_l05Parts.j1 (k + 1) y0 y1 y2)) ∧ (∀ y0 y1 y2, LeO (spec_l05Parts.j2 k y0 y1 y2) (spec_l05Parts.j2 (k + 1) y0 y1 y2))
 | 0 => ⟨fun _ _ _ _ r h => by simp [spec_l05Parts.j0] at h, fun _ _ _ r h => by simp [spec_l05Parts.j1] at h, fun _ _ _ r h => by simp [spec_l05Parts.j2] at h⟩
 | k + 1 => by
  obtain ⟨ih0, ih1, ih2⟩ := spec_l05Parts.mono_l k
  refine ⟨?_, ?_, ?_⟩
  all_goals intros
  all_goals first | unfold spec_l05Parts.j0 | unfold spec_l05Parts.j1 | unfold spec_l05Parts.j2
  all_goals repeat' first | (with_reducible first | exact ih0 _ _ _ _ | exact ih1 _ _ _ | exact ih2 _ _ _ | exact spec_l05Wide.mono _ _ | exact LeO.refl _ | exact LeO.none _ | refine LeO.ite ?_ ?_ | refine LeO.bind ?_ (fun _ => ?_)) | exact ih0 _ _ _ _ | exact ih1 _ _ _ | exact ih2 _ _ _ | exact spec_l05Wide.mono _ _ | exact LeO.none _ | refine LeO.ite ?_ ?_ | refine LeO.bind ?_ (fun _ => ?_)
theorem spec_l05Parts.mono : ∀ a0 a1 k, LeO (spec_l05Parts.f k a0 a1) (spec_l05Parts.f (k + 1) a0 a1) := by
 intro a0 a1 k
 obtain ⟨ih0, ih1, ih2⟩ := spec_l05Parts.mono_l k
 unfold spec_l05Parts.f
 repeat' first | (with_reducible first | exact ih0 _ _ _ _ | exact ih1 _ _ _ | exact ih2 _ _ _ | exact spec_l05Wide.mono _ _ | exact LeO.refl _ | exact LeO.none _ | refine LeO.ite ?_ ?_ | refine LeO.bind ?_ (fun _ => ?_)) | exact ih0 _ _ _ _ | exact ih1 _ _ _ | exact ih2 _ _ _ | exact spec_l05Wide.mono _ _ | exact LeO.none _ | refine LeO.ite ?_ ?_ | refine LeO.bind ?_ (fun _ => ?_)
set_option maxHeartbeats 8000000 in
set_option maxRecDepth 100000 in
theorem spec_l05Parts.calls (k : Nat) (a0 : Int) (a1 : Bool) (r : List Int) (w : World) (h : spec_l05Parts.f k a0 a1 = some r) :
  Calls Tryd.prog 213 #[.int .i64 a0, .bool a1] w fun e w' => ∃ v0_ : Value, e = .returned (v0_) ∧ Kd.R (Kd.int .i64) 2 w' w.heap.size (fun _ => True) v0_ r ∧ Below w.heap.size w w' := by
 have HB := Aside0.mk (Below.refl w.heap.size w)
 have H : (if a0 ≥ 8192 then (if a0 < 9728 then (spec_l05Parts.j0 k a0 a1 (Int.tmod a0 512) (decide ((Int.tmod a0 512) < 416))) else (spec_l05Parts.j0 k a0 a1 (Int.tmod a0 512) false)) else (spec_l05Parts.j0 k a0 a1 (Int.tmod a0 512) false)) = some r := h
 clear h
 have HC3 := Aside0.mk H
 clear H
 go_enter Tryd.func213, Tryd.ntmps213
 go_upto_region 2 with (fail)
 go_cut [9] (fun v9 wc => ∃ (kq : Nat) (x9_2 : Bool), v9 = .bool x9_2 ∧ Aside0 (spec_l05Parts.j0 kq a0 a1 (Int.tmod a0 512) x9_2 = some r) ∧ Aside0 (kq ≤ k) ∧ Aside0 (Below w.heap.size w wc))
 case first =>
  have H := HC3.out
  clear HC3
  by_cases c4 : a0 ≥ 8192
  ·rw [if_pos c4] at H
   have c4b0 : decide (8192 ≤ a0) = true := decide_eq_true c4
   clear c4
   (first | rw [c4b0] | (simp only [i64_w, i32_w]; rw [c4b0]) | skip)
   by_cases c5 : a0 < 9728
   ·rw [if_pos c5] at H
    have c5b0 : decide (a0 < 9728) = true := decide_eq_true c5
    clear c5
    have H' := Aside0.mk H
    clear H
    go_wp2
    go_meet
    case rel => exact ⟨_, (decide ((Int.tmod a0 512) < 416)), (by first | rfl | (simp; done) | (simp [*]; done)), H', ⟨by first | omega | exact Nat.le_refl _⟩, ⟨by repeat (first | (with_reducible first | exact HB.out | apply below_alloc | apply pw_below_drewN | apply below_drew1) | exact HB.out)⟩⟩
   ·rw [if_neg c5] at H
    have c5b0 : decide (a0 < 9728) = false := decide_eq_false c5
    clear c5
    have H' := Aside0.mk H
    clear H
    go_wp2
    go_meet
    case rel => exact ⟨_, (false), (by first | rfl | (simp; done) | (simp [*]; done)), H', ⟨by first | omega | exact Nat.le_refl _⟩, ⟨by repeat (first | (with_reducible first | exact HB.out | apply below_alloc | apply pw_below_drewN | apply below_drew1) | exact HB.out)⟩⟩
  ·rw [if_neg c4] at H
   have c4b0 : decide (8192 ≤ a0) = false := decide_eq_false c4
   clear c4
   (first | rw [c4b0] | (simp only [i64_w, i32_w]; rw [c4b0]) | skip)
   have H' := Aside0.mk H
   clear H
   go_wp2
   go_meet
   case rel => exact ⟨_, (false), (by first | rfl | (simp; done) | (simp [*]; done)), H', ⟨by first | omega | exact Nat.le_refl _⟩, ⟨by repeat (first | (with_reducible first | exact HB.out | apply below_alloc | apply pw_below_drewN | apply below_drew1) | exact HB.out)⟩⟩
 case rest =>
  clear HC3
  try clear c2
  try clear p2
  try clear c4
  try clear c4b0
  try clear c5
  try clear c5b0
  obtain ⟨kq, x9_2, rfl, HA, HJ2, HB⟩ := hcut
  cases kq with
  | zero => exact absurd HA.out (by simp [spec_l05Parts.j0])
  | succ kj2 =>
   have H := HA.out
   clear HA
   simp only [spec_l05Parts.j0] at H
   by_cases c6 : x9_2 = true
   ·subst c6
    have H1 : (if (wrap64 (Int.tdiv a0 512)) = 16 then ((spec_l05Letter.f (wrap64 (Int.tdiv (Int.tmod a0 512) 8))).bind fun t101 => (some (([t101, wrap64 (4096 + (Int.tmod (Int.tmod a0 512) 8))] : List Int)))) else (if (wrap64 (Int.tdiv a0 512)) = 17 then ((spec_l05Letter.f (wrap64 (Int.tdiv (Int.tmod a0 512) 8))).bind fun t105 => (some (([t105, wrap64 (4112 + (Int.tmod (Int.tmod a0 512) 8))] : List Int)))) else (some (([wrap64 (8704 + (Int.tmod a0 512)), 4096] : List Int))))) = some r := by rw [if_pos rfl] at H; exact H
    clear H
    have H := H1
    clear H1
    by_cases c7 : (wrap64 (Int.tdiv a0 512)) = 16
    ·rw [if_pos c7] at H
     have c7b0 : ((wrap64 (Int.tdiv a0 512)) == 16) = true := beq_iff_eq.mpr c7
     have c7b1 : ((wrap64 (Int.tdiv a0 512)) != 16) = false := bne_eq_false_iff_eq.mpr c7
     clear c7
     replace H := Option.bind_eq_some_iff.mp H
     obtain ⟨t101, A80, H⟩ := H
     replace H : (some (([t101, wrap64 (4096 + (Int.tmod (Int.tmod a0 512) 8))] : List Int))) = some r := H
     have A8 := Aside0.mk A80
     clear A80
     obtain ⟨y102, hy102⟩ : ∃ y_ : List Int, y_ = (([t101, wrap64 (4096 + (Int.tmod (Int.tmod a0 512) 8))] : List Int)) := ⟨_, rfl⟩
     replace H : (some y102) = some r := by first | (rw [hy102]; with_reducible exact H) | (have H2_ := (Option.bind_some _ _).symm.trans H; rw [hy102]; with_reducible exact H2_) | (have H2_ := (Option.bind_some _ _).symm.trans H; with_reducible exact H2_) | with_reducible exact H | (rw [hy102]; exact H) | exact H
     have Ny102 := Aside0.mk hy102
     clear hy102
     obtain rfl := Option.some.inj H
     go_wp2_with (first | ((with_reducible refine gate_callee (f := 245) rfl ?_); refine goesL_ (some 26) rfl rfl Tryd.func245 (by kernel_rfl) rfl #[.int .i64 (wrap64 (Int.tdiv (Int.tmod a0 512) 8))] rfl (by (try simp only [List.map_toArray, List.map_cons, List.map_nil]); first | done | rfl | (simp only [List.length_drop, List.length_take]; rfl)) ?_; (with_reducible refine (spec_l05Letter.calls (wrap64 (Int.tdiv (Int.tmod a0 512) 8)) t101 _ A8.out).mono ?_); rintro e w' ⟨rfl, ⟨nd, rfl⟩⟩; refine ⟨_, rfl, ?_⟩) | ((with_reducible refine gate_dst (N := 30) rfl ?_); refine Kd.R_lit (Kd.int .i64) _ 2 ?hg (N := 30) ?hd (xs := ([t101, wrap64 (4096 + (Int.tmod (Int.tmod a0 512) 8))] : List Int)) (inner := [.int .i64 t101, .int .i64 (wrap64 (4096 + (Int.tmod (Int.tmod a0 512) 8)))]) (ok := fun _ => True) (okp := fun _ => True) ?hr ?hp (fun _ hk => hk) trivial (Below.refl _ _) (Nat.le_refl _) (by simp) ?_; (case hd => rfl); (case hg => rfl); (case hr => first | (go_simp; done) | (go_simp; rfl)); (case hp => exact (Reps.one (show Kd.M (Kd.int .i64) _ _ _ t101 [.int .i64 t101] from rfl) (Reps.one (show Kd.M (Kd.int .i64) _ _ _ (wrap64 (4096 + (Int.tmod (Int.tmod a0 512) 8))) [.int .i64 (wrap64 (4096 + (Int.tmod (Int.tmod a0 512) 8)))] from rfl) (Reps.none _ _)))); intro v103 w9 ho10 hb hg_ hnew_; clear hg_ hnew_; (first | rw [← Ny102.out] at ho10 | (simp only [Int.reduceToNat] at ho10; rw [← Ny102.out] at ho10)); have n0_ := Aside0.mk (Kd.R_lower ho10 (below_size (by repeat (first | (with_reducible first | exact HB.out | apply below_alloc | apply pw_below_drewN | apply below_drew1) | exact HB.out)))); have n1_ := Aside0.mk (below_step (by repeat (first | (with_reducible first | exact HB.out | apply below_alloc | apply pw_below_drewN | apply below_drew1) | exact HB.out)) hb); clear HB; have HO104 := n0_; have HB := n1_; clear n0_ n1_; clear hb ho10))
     go_ret
     exact ⟨_, by first | rfl | (simp [errW_none, errW_some] <;> rfl) | (simp [*, errW_none, errW_some] <;> rfl), by (with_reducible repeat (first | apply Kd.R_alloc | apply Kd.R_drewN | apply Kd.R_drew)); exact HO104.out, by repeat (first | (with_reducible first | exact HB.out | apply below_alloc | apply pw_below_drewN | apply below_drew1) | exact HB.out)⟩
    ·rw [if_neg c7] at H
     have c7b0 : ((wrap64 (Int.tdiv a0 512)) == 16) = false := beq_eq_false_iff_ne.mpr c7
     have c7b1 : ((wrap64 (Int.tdiv a0 512)) != 16) = true := bne_iff_ne.mpr c7
     by_cases c11 : (wrap64 (Int.tdiv a0 512)) = 17
     ·rw [if_pos c11] at H
      have c11b0 : ((wrap64 (Int.tdiv a0 512)) == 17) = true := beq_iff_eq.mpr c11
      have c11b1 : ((wrap64 (Int.tdiv a0 512)) != 17) = false := bne_eq_false_iff_eq.mpr c11
      clear c11
      replace H := Option.bind_eq_some_iff.mp H
      obtain ⟨t105, A120, H⟩ := H
      replace H : (some (([t105, wrap64 (4112 + (Int.tmod (Int.tmod a0 512) 8))] : List Int))) = some r := H
      have A12 := Aside0.mk A120
      clear A120
      obtain ⟨y106, hy106⟩ : ∃ y_ : List Int, y_ = (([t105, wrap64 (4112 + (Int.tmod (Int.tmod a0 512) 8))] : List Int)) := ⟨_, rfl⟩
      replace H : (some y106) = some r := by first | (rw [hy106]; with_reducible exact H) | (have H2_ := (Option.bind_some _ _).symm.trans H; rw [hy106]; with_reducible exact H2_) | (have H2_ := (Option.bind_some _ _).symm.trans H; with_reducible exact H2_) | with_reducible exact H | (rw [hy106]; exact H) | exact H
      have Ny106 := Aside0.mk hy106
      clear hy106
      obtain rfl := Option.some.inj H
      go_wp2_with (first | ((with_reducible refine gate_callee (f := 245) rfl ?_); refine goesL_ (some 35) rfl rfl Tryd.func245 (by kernel_rfl) rfl #[.int .i64 (wrap64 (Int.tdiv (Int.tmod a0 512) 8))] rfl (by (try simp only [List.map_toArray, List.map_cons, List.map_nil]); first | done | rfl | (simp only [List.length_drop, List.length_take]; rfl)) ?_; (with_reducible refine (spec_l05Letter.calls (wrap64 (Int.tdiv (Int.tmod a0 512) 8)) t105 _ A12.out).mono ?_); rintro e w' ⟨rfl, ⟨nd, rfl⟩⟩; refine ⟨_, rfl, ?_⟩) | ((with_reducible refine gate_dst (N := 39) rfl ?_); refine Kd.R_lit (Kd.int .i64) _ 2 ?hg (N := 39) ?hd (xs := ([t105, wrap64 (4112 + (Int.tmod (Int.tmod a0 512) 8))] : List Int)) (inner := [.int .i64 t105, .int .i64 (wrap64 (4112 + (Int.tmod (Int.tmod a0 512) 8)))]) (ok := fun _ => True) (okp := fun _ => True) ?hr ?hp (fun _ hk => hk) trivial (Below.refl _ _) (Nat.le_refl _) (by simp) ?_; (case hd => rfl); (case hg => rfl); (case hr => first | (go_simp; done) | (go_simp; rfl)); (case hp => exact (Reps.one (show Kd.M (Kd.int .i64) _ _ _ t105 [.int .i64 t105] from rfl) (Reps.one (show Kd.M (Kd.int .i64) _ _ _ (wrap64 (4112 + (Int.tmod (Int.tmod a0 512) 8))) [.int .i64 (wrap64 (4112 + (Int.tmod (Int.tmod a0 512) 8)))] from rfl) (Reps.none _ _)))); intro v107 w13 ho14 hb hg_ hnew_; clear hg_ hnew_; (first | rw [← Ny106.out] at ho14 | (simp only [Int.reduceToNat] at ho14; rw [← Ny106.out] at ho14)); have n0_ := Aside0.mk (Kd.R_lower ho14 (below_size (by repeat (first | (with_reducible first | exact HB.out | apply below_alloc | apply pw_below_drewN | apply below_drew1) | exact HB.out)))); have n1_ := Aside0.mk (below_step (by repeat (first | (with_reducible first | exact HB.out | apply below_alloc | apply pw_below_drewN | apply below_drew1) | exact HB.out)) hb); clear HB; have HO108 := n0_; have HB := n1_; clear n0_ n1_; clear hb ho14))
      go_ret
      exact ⟨_, by first | rfl | (simp [errW_none, errW_some] <;> rfl) | (simp [*, errW_none, errW_some] <;> rfl), by (with_reducible repeat (first | apply Kd.R_alloc | apply Kd.R_drewN | apply Kd.R_drew)); exact HO108.out, by repeat (first | (with_reducible first | exact HB.out | apply below_alloc | apply pw_below_drewN | apply below_drew1) | exact HB.out)⟩
     ·rw [if_neg c11] at H
      have c11b0 : ((wrap64 (Int.tdiv a0 512)) == 17) = false := beq_eq_false_iff_ne.mpr c11
      have c11b1 : ((wrap64 (Int.tdiv a0 512)) != 17) = true := bne_iff_ne.mpr c11
      obtain ⟨y109, hy109⟩ : ∃ y_ : List Int, y_ = (([wrap64 (8704 + (Int.tmod a0 512)), 4096] : List Int)) := ⟨_, rfl⟩
      replace H : (some y109) = some r := by first | (rw [hy109]; with_reducible exact H) | (have H2_ := (Option.bind_some _ _).symm.trans H; rw [hy109]; with_reducible exact H2_) | (have H2_ := (Option.bind_some _ _).symm.trans H; with_reducible exact H2_) | with_reducible exact H | (rw [hy109]; exact H) | exact H
      have Ny109 := Aside0.mk hy109
      clear hy109
      obtain rfl := Option.some.inj H
      go_wp2_with (first | ((with_reducible refine gate_dst (N := 42) rfl ?_); refine Kd.R_lit (Kd.int .i64) _ 2 ?hg (N := 42) ?hd (xs := ([wrap64 (8704 + (Int.tmod a0 512)), 4096] : List Int)) (inner := [.int .i64 (wrap64 (8704 + (Int.tmod a0 512))), .int .i64 4096]) (ok := fun _ => True) (okp := fun _ => True) ?hr ?hp (fun _ hk => hk) trivial (Below.refl _ _) (Nat.le_refl _) (by simp) ?_; (case hd => rfl); (case hg => rfl); (case hr => first | (go_simp; done) | (go_simp; rfl)); (case hp => exact (Reps.one (show Kd.M (Kd.int .i64) _ _ _ (wrap64 (8704 + (Int.tmod a0 512))) [.int .i64 (wrap64 (8704 + (Int.tmod a0 512)))] from rfl) (Reps.one (show Kd.M (Kd.int .i64) _ _ _ 4096 [.int .i64 4096] from rfl) (Reps.none _ _)))); intro v110 w15 ho16 hb hg_ hnew_; clear hg_ hnew_; (first | rw [← Ny109.out] at ho16 | (simp only [Int.reduceToNat] at ho16; rw [← Ny109.out] at ho16)); have n0_ := Aside0.mk (Kd.R_lower ho16 (below_size (by repeat (first | (with_reducible first | exact HB.out | apply below_alloc | apply pw_below_drewN | apply below_drew1) | exact HB.out)))); have n1_ := Aside0.mk (below_step (by repeat (first | (with_reducible first | exact HB.out | apply below_alloc | apply pw_below_drewN | apply below_drew1) | exact HB.out)) hb); clear HB; have HO111 := n0_; have HB := n1_; clear n0_ n1_; clear hb ho16))
      go_ret
      exact ⟨_, by first | rfl | (simp [errW_none, errW_some] <;> rfl) | (simp [*, errW_none, errW_some] <;> rfl), by (with_reducible repeat (first | apply Kd.R_alloc | apply Kd.R_drewN | apply Kd.R_drew)); exact HO111.out, by repeat (first | (with_reducible first | exact HB.out | apply below_alloc | apply pw_below_drewN | apply below_drew1) | exact HB.out)⟩
   ·replace c6 := Bool.eq_false_iff.mpr c6
    subst c6
    have H1 : (if a0 ≥ 9728 then (spec_l05Parts.j1 kj2 a0 a1 (decide (a0 ≤ 9753))) else (spec_l05Parts.j1 kj2 a0 a1 false)) = some r := by rw [if_neg (show ¬ (false = true) by decide)] at H; exact H
    clear H
    have H := H1
    clear H1
    have HC17 := Aside0.mk H
    clear H
    go_upto_region 9 with (fail)
    go_cut [43] (fun v43 wc => ∃ (kq : Nat) (x43_16 : Bool), v43 = .bool x43_16 ∧ Aside0 (spec_l05Parts.j1 kq a0 a1 x43_16 = some r) ∧ Aside0 (kq ≤ kj2) ∧ Aside0 (Below w.heap.size w wc))
    case first =>
     have H := HC17.out
     clear HC17
     by_cases c18 : a0 ≥ 9728
     ·rw [if_pos c18] at H
      have c18b0 : decide (9728 ≤ a0) = true := decide_eq_true c18
      clear c18
      (first | rw [c18b0] | (simp only [i64_w, i32_w]; rw [c18b0]) | skip)
      have H' := Aside0.mk H
      clear H
      go_wp2
      go_meet
      case rel => exact ⟨_, (decide (a0 ≤ 9753)), (by first | rfl | (simp; done) | (simp [*]; done)), H', ⟨by have := HJ2.out; first | omega | exact Nat.le_refl _⟩, ⟨by repeat (first | (with_reducible first | exact HB.out | apply below_alloc | apply pw_below_drewN | apply below_drew1) | exact HB.out)⟩⟩
     ·rw [if_neg c18] at H
      have c18b0 : decide (9728 ≤ a0) = false := decide_eq_false c18
      clear c18
      (first | rw [c18b0] | (simp only [i64_w, i32_w]; rw [c18b0]) | skip)
      have H' := Aside0.mk H
      clear H
      go_wp2
      go_meet
      case rel => exact ⟨_, (false), (by first | rfl | (simp; done) | (simp [*]; done)), H', ⟨by have := HJ2.out; first | omega | exact Nat.le_refl _⟩, ⟨by repeat (first | (with_reducible first | exact HB.out | apply below_alloc | apply pw_below_drewN | apply below_drew1) | exact HB.out)⟩⟩
    case rest =>
     clear HC17
     try clear c1
     try clear c2
     try clear p2
     try clear c4
     try clear c4b0
     try clear c5
     try clear c5b0
     try clear c6
     try clear p6
     try clear c7
     try clear c7b0
     try clear c7b1
     try clear c11
     try clear c11b0
     try clear c11b1
     try clear c18
     try clear c18b0
     try clear p2
     obtain ⟨kq, x43_16, rfl, HA, HJ16, HB⟩ := hcut
     cases kq with
     | zero => exact absurd HA.out (by simp [spec_l05Parts.j1])
     | succ kj16 =>
      have H := HA.out
      clear HA
      simp only [spec_l05Parts.j1] at H
      by_cases c19 : x43_16 = true
      ·subst c19
       have H1 : (some (([wrap64 ((wrap64 (a0 - 9728)) + 65)] : List Int))) = some r := by rw [if_pos rfl] at H; exact H
       clear H
       have H := H1
       clear H1
       obtain ⟨y112, hy112⟩ : ∃ y_ : List Int, y_ = (([wrap64 ((wrap64 (a0 - 9728)) + 65)] : List Int)) := ⟨_, rfl⟩
       replace H : (some y112) = some r := by first | (rw [hy112]; with_reducible exact H) | (have H2_ := (Option.bind_some _ _).symm.trans H; rw [hy112]; with_reducible exact H2_) | (have H2_ := (Option.bind_some _ _).symm.trans H; with_reducible exact H2_) | with_reducible exact H | (rw [hy112]; exact H) | exact H
       have Ny112 := Aside0.mk hy112
       clear hy112
       obtain rfl := Option.some.inj H
       go_wp2_with (first | ((with_reducible refine gate_dst (N := 53) rfl ?_); refine Kd.R_lit (Kd.int .i64) _ 2 ?hg (N := 53) ?hd (xs := ([wrap64 ((wrap64 (a0 - 9728)) + 65)] : List Int)) (inner := [.int .i64 (wrap64 ((wrap64 (a0 - 9728)) + 65))]) (ok := fun _ => True) (okp := fun _ => True) ?hr ?hp (fun _ hk => hk) trivial (Below.refl _ _) (Nat.le_refl _) (by simp) ?_; (case hd => rfl); (case hg => rfl); (case hr => first | (go_simp; done) | (go_simp; rfl)); (case hp => exact (Reps.one (show Kd.M (Kd.int .i64) _ _ _ (wrap64 ((wrap64 (a0 - 9728)) + 65)) [.int .i64 (wrap64 ((wrap64 (a0 - 9728)) + 65))] from rfl) (Reps.none _ _))); intro v113 w20 ho21 hb hg_ hnew_; clear hg_ hnew_; (first | rw [← Ny112.out] at ho21 | (simp only [Int.reduceToNat] at ho21; rw [← Ny112.out] at ho21)); have n0_ := Aside0.mk (Kd.R_lower ho21 (below_size (by repeat (first | (with_reducible first | exact HB.out | apply below_alloc | apply pw_below_drewN | apply below_drew1) | exact HB.out)))); have n1_ := Aside0.mk (below_step (by repeat (first | (with_reducible first | exact HB.out | apply below_alloc | apply pw_below_drewN | apply below_drew1) | exact HB.out)) hb); clear HB; have HO114 := n0_; have HB := n1_; clear n0_ n1_; clear hb ho21))
       go_ret
       exact ⟨_, by first | rfl | (simp [errW_none, errW_some] <;> rfl) | (simp [*, errW_none, errW_some] <;> rfl), by (with_reducible repeat (first | apply Kd.R_alloc | apply Kd.R_drewN | apply Kd.R_drew)); exact HO114.out, by repeat (first | (with_reducible first | exact HB.out | apply below_alloc | apply pw_below_drewN | apply below_drew1) | exact HB.out)⟩
      ·replace c19 := Bool.eq_false_iff.mpr c19
       subst c19
       have H1 : (if a0 ≥ 12288 then (spec_l05Parts.j2 kj16 a0 a1 (decide (a0 ≤ 23459))) else (spec_l05Parts.j2 kj16 a0 a1 false)) = some r := by rw [if_neg (show ¬ (false = true) by decide)] at H; exact H
       clear H
       have H := H1
       clear H1
       have HC22 := Aside0.mk H
       clear H
       go_upto_region 11 with (fail)
       go_cut [54] (fun v54 wc => ∃ (kq : Nat) (x54_21 : Bool), v54 = .bool x54_21 ∧ Aside0 (spec_l05Parts.j2 kq a0 a1 x54_21 = some r) ∧ Aside0 (kq ≤ kj16) ∧ Aside0 (Below w.heap.size w wc))
       case first =>
        have H := HC22.out
        clear HC22
        by_cases c23 : a0 ≥ 12288
        ·rw [if_pos c23] at H
         have c23b0 : decide (12288 ≤ a0) = true := decide_eq_true c23
         clear c23
         (first | rw [c23b0] | (simp only [i64_w, i32_w]; rw [c23b0]) | skip)
         have H' := Aside0.mk H
         clear H
         go_wp2
         go_meet
         case rel => exact ⟨_, (decide (a0 ≤ 23459)), (by first | rfl | (simp; done) | (simp [*]; done)), H', ⟨by have := HJ2.out; have := HJ16.out; first | omega | exact Nat.le_refl _⟩, ⟨by repeat (first | (with_reducible first | exact HB.out | apply below_alloc | apply pw_below_drewN | apply below_drew1) | exact HB.out)⟩⟩
        ·rw [if_neg c23] at H
         have c23b0 : decide (12288 ≤ a0) = false := decide_eq_false c23
         clear c23
         (first | rw [c23b0] | (simp only [i64_w, i32_w]; rw [c23b0]) | skip)
         have H' := Aside0.mk H
         clear H
         go_wp2
         go_meet
         case rel => exact ⟨_, (false), (by first | rfl | (simp; done) | (simp [*]; done)), H', ⟨by have := HJ2.out; have := HJ16.out; first | omega | exact Nat.le_refl _⟩, ⟨by repeat (first | (with_reducible first | exact HB.out | apply below_alloc | apply pw_below_drewN | apply below_drew1) | exact HB.out)⟩⟩
       case rest =>
        clear HC22
        try clear c1
        try clear c2
        try clear p2
        try clear c4
        try clear c4b0
        try clear c5
        try clear c5b0
        try clear c6
        try clear p6
        try clear c7
        try clear c7b0
        try clear c7b1
        try clear c11
        try clear c11b0
        try clear c11b1
        try clear c18
        try clear c18b0
        try clear c19
        try clear c21
        try clear c23
        try clear c23b0
        try clear p2
        try clear p6
        obtain ⟨kq, x54_21, rfl, HA, HJ21, HB⟩ := hcut
        cases kq with
        | zero => exact absurd HA.out (by simp [spec_l05Parts.j2])
        | succ kj21 =>
         have H := HA.out
         clear HA
         simp only [spec_l05Parts.j2] at H
         by_cases c24 : x54_21 = true
         ·subst c24
          have H1 : (if (Int.tmod (wrap64 (a0 - 12288)) 28) > 0 then (some (([wrap64 (a0 - (Int.tmod (wrap64 (a0 - 12288)) 28)), wrap64 (1856 + (Int.tmod (wrap64 (a0 - 12288)) 28))] : List Int))) else (some (([wrap64 (1792 + (wrap64 (Int.tdiv (wrap64 (a0 - 12288)) 588))), wrap64 (1824 + (Int.tmod (wrap64 (Int.tdiv (wrap64 (a0 - 12288)) 28)) 21))] : List Int)))) = some r := by rw [if_pos rfl] at H; exact H
          clear H
          have H := H1
          clear H1
          by_cases c25 : (Int.tmod (wrap64 (a0 - 12288)) 28) > 0
          ·rw [if_pos c25] at H
           have c25b0 : decide (0 < (Int.tmod (wrap64 (a0 - 12288)) 28)) = true := decide_eq_true c25
           clear c25
           obtain ⟨y115, hy115⟩ : ∃ y_ : List Int, y_ = (([wrap64 (a0 - (Int.tmod (wrap64 (a0 - 12288)) 28)), wrap64 (1856 + (Int.tmod (wrap64 (a0 - 12288)) 28))] : List Int)) := ⟨_, rfl⟩
           replace H : (some y115) = some r := by first | (rw [hy115]; with_reducible exact H) | (have H2_ := (Option.bind_some _ _).symm.trans H; rw [hy115]; with_reducible exact H2_) | (have H2_ := (Option.bind_some _ _).symm.trans H; with_reducible exact H2_) | with_reducible exact H | (rw [hy115]; exact H) | exact H
           have Ny115 := Aside0.mk hy115
           clear hy115
           obtain rfl := Option.some.inj H
           go_wp2_with (first | ((with_reducible refine gate_dst (N := 73) rfl ?_); refine Kd.R_lit (Kd.int .i64) _ 2 ?hg (N := 73) ?hd (xs := ([wrap64 (a0 - (Int.tmod (wrap64 (a0 - 12288)) 28)), wrap64 (1856 + (Int.tmod (wrap64 (a0 - 12288)) 28))] : List Int)) (inner := [.int .i64 (wrap64 (a0 - (Int.tmod (wrap64 (a0 - 12288)) 28))), .int .i64 (wrap64 (1856 + (Int.tmod (wrap64 (a0 - 12288)) 28)))]) (ok := fun _ => True) (okp := fun _ => True) ?hr ?hp (fun _ hk => hk) trivial (Below.refl _ _) (Nat.le_refl _) (by simp) ?_; (case hd => rfl); (case hg => rfl); (case hr => first | (go_simp; done) | (go_simp; rfl)); (case hp => exact (Reps.one (show Kd.M (Kd.int .i64) _ _ _ (wrap64 (a0 - (Int.tmod (wrap64 (a0 - 12288)) 28))) [.int .i64 (wrap64 (a0 - (Int.tmod (wrap64 (a0 - 12288)) 28)))] from rfl) (Reps.one (show Kd.M (Kd.int .i64) _ _ _ (wrap64 (1856 + (Int.tmod (wrap64 (a0 - 12288)) 28))) [.int .i64 (wrap64 (1856 + (Int.tmod (wrap64 (a0 - 12288)) 28)))] from rfl) (Reps.none _ _)))); intro v116 w26 ho27 hb hg_ hnew_; clear hg_ hnew_; (first | rw [← Ny115.out] at ho27 | (simp only [Int.reduceToNat] at ho27; rw [← Ny115.out] at ho27)); have n0_ := Aside0.mk (Kd.R_lower ho27 (below_size (by repeat (first | (with_reducible first | exact HB.out | apply below_alloc | apply pw_below_drewN | apply below_drew1) | exact HB.out)))); have n1_ := Aside0.mk (below_step (by repeat (first | (with_reducible first | exact HB.out | apply below_alloc | apply pw_below_drewN | apply below_drew1) | exact HB.out)) hb); clear HB; have HO117 := n0_; have HB := n1_; clear n0_ n1_; clear hb ho27))
           go_ret
           exact ⟨_, by first | rfl | (simp [errW_none, errW_some] <;> rfl) | (simp [*, errW_none, errW_some] <;> rfl), by (with_reducible repeat (first | apply Kd.R_alloc | apply Kd.R_drewN | apply Kd.R_drew)); exact HO117.out, by repeat (first | (with_reducible first | exact HB.out | apply below_alloc | apply pw_below_drewN | apply below_drew1) | exact HB.out)⟩
          ·rw [if_neg c25] at H
           have c25b0 : decide (0 < (Int.tmod (wrap64 (a0 - 12288)) 28)) = false := decide_eq_false c25
           clear c25
           obtain ⟨y118, hy118⟩ : ∃ y_ : List Int, y_ = (([wrap64 (1792 + (wrap64 (Int.tdiv (wrap64 (a0 - 12288)) 588))), wrap64 (1824 + (Int.tmod (wrap64 (Int.tdiv (wrap64 (a0 - 12288)) 28)) 21))] : List Int)) := ⟨_, rfl⟩
           replace H : (some y118) = some r := by first | (rw [hy118]; with_reducible exact H) | (have H2_ := (Option.bind_some _ _).symm.trans H; rw [hy118]; with_reducible exact H2_) | (have H2_ := (Option.bind_some _ _).symm.trans H; with_reducible exact H2_) | with_reducible exact H | (rw [hy118]; exact H) | exact H
           have Ny118 := Aside0.mk hy118
           clear hy118
           obtain rfl := Option.some.inj H
           go_wp2_with (first | ((with_reducible refine gate_dst (N := 81) rfl ?_); refine Kd.R_lit (Kd.int .i64) _ 2 ?hg (N := 81) ?hd (xs := ([wrap64 (1792 + (wrap64 (Int.tdiv (wrap64 (a0 - 12288)) 588))), wrap64 (1824 + (Int.tmod (wrap64 (Int.tdiv (wrap64 (a0 - 12288)) 28)) 21))] : List Int)) (inner := [.int .i64 (wrap64 (1792 + (wrap64 (Int.tdiv (wrap64 (a0 - 12288)) 588)))), .int .i64 (wrap64 (1824 + (Int.tmod (wrap64 (Int.tdiv (wrap64 (a0 - 12288)) 28)) 21)))]) (ok := fun _ => True) (okp := fun _ => True) ?hr ?hp (fun _ hk => hk) trivial (Below.refl _ _) (Nat.le_refl _) (by simp) ?_; (case hd => rfl); (case hg => rfl); (case hr => first | (go_simp; done) | (go_simp; rfl)); (case hp => exact (Reps.one (show Kd.M (Kd.int .i64) _ _ _ (wrap64 (1792 + (wrap64 (Int.tdiv (wrap64 (a0 - 12288)) 588)))) [.int .i64 (wrap64 (1792 + (wrap64 (Int.tdiv (wrap64 (a0 - 12288)) 588))))] from rfl) (Reps.one (show Kd.M (Kd.int .i64) _ _ _ (wrap64 (1824 + (Int.tmod (wrap64 (Int.tdiv (wrap64 (a0 - 12288)) 28)) 21))) [.int .i64 (wrap64 (1824 + (Int.tmod (wrap64 (Int.tdiv (wrap64 (a0 - 12288)) 28)) 21)))] from rfl) (Reps.none _ _)))); intro v119 w28 ho29 hb hg_ hnew_; clear hg_ hnew_; (first | rw [← Ny118.out] at ho29 | (simp only [Int.reduceToNat] at ho29; rw [← Ny118.out] at ho29)); have n0_ := Aside0.mk (Kd.R_lower ho29 (below_size (by repeat (first | (with_reducible first | exact HB.out | apply below_alloc | apply pw_below_drewN | apply below_drew1) | exact HB.out)))); have n1_ := Aside0.mk (below_step (by repeat (first | (with_reducible first | exact HB.out | apply below_alloc | apply pw_below_drewN | apply below_drew1) | exact HB.out)) hb); clear HB; have HO120 := n0_; have HB := n1_; clear n0_ n1_; clear hb ho29))
           go_ret
           exact ⟨_, by first | rfl | (simp [errW_none, errW_some] <;> rfl) | (simp [*, errW_none, errW_some] <;> rfl), by (with_reducible repeat (first | apply Kd.R_alloc | apply Kd.R_drewN | apply Kd.R_drew)); exact HO120.out, by repeat (first | (with_reducible first | exact HB.out | apply below_alloc | apply pw_below_drewN | apply below_drew1) | exact HB.out)⟩
         ·replace c24 := Bool.eq_false_iff.mpr c24
          subst c24
          have H1 : (if a1 = true then ((spec_l05Wide.f kj21 a0).bind fun t121 => (some t121)) else (some (([] : List Int)))) = some r := by rw [if_neg (show ¬ (false = true) by decide)] at H; exact H
          clear H
          have H := H1
          clear H1
          by_cases c30 : a1 = true
          ·subst c30
           have H1 : ((spec_l05Wide.f kj21 a0).bind fun t121 => (some t121)) = some r := by rw [if_pos rfl] at H; exact H
           clear H
           have H := H1
           clear H1
           replace H := Option.bind_eq_some_iff.mp H
           obtain ⟨t121, A310, H⟩ := H
           replace H : (some t121) = some r := H
           have A31 := Aside0.mk A310
           clear A310
           obtain rfl := Option.some.inj H
           go_wp2_with (first | ((with_reducible refine gate_callee (f := 164) rfl ?_); refine goesL_ (some 85) rfl rfl Tryd.func164 (by kernel_rfl) rfl #[.int .i64 a0] rfl (by (try simp only [List.map_toArray, List.map_cons, List.map_nil]); first | done | rfl | (simp only [List.length_drop, List.length_take]; rfl)) ?_; (with_reducible refine (spec_l05Wide.calls kj21 a0 t121 _ A31.out).mono ?_); rintro e w32 ⟨v122, rfl, ho0, hb⟩; refine ⟨_, rfl, ?_⟩; have n0_ := Aside0.mk (Kd.R_lower ho0 (below_size (by repeat (first | (with_reducible first | exact HB.out | apply below_alloc | apply pw_below_drewN | apply below_drew1) | exact HB.out)))); have n1_ := Aside0.mk (below_step (by repeat (first | (with_reducible first | exact HB.out | apply below_alloc | apply pw_below_drewN | apply below_drew1) | exact HB.out)) hb); clear HB; have HO123 := n0_; have HB := n1_; clear n0_ n1_; (try clear hb); (try clear hb2); (try clear hk); (try clear hi); (try clear ho0)))
           go_ret
           exact ⟨_, by first | rfl | (simp [errW_none, errW_some] <;> rfl) | (simp [*, errW_none, errW_some] <;> rfl), by (with_reducible repeat (first | apply Kd.R_alloc | apply Kd.R_drewN | apply Kd.R_drew)); exact HO123.out, by repeat (first | (with_reducible first | exact HB.out | apply below_alloc | apply pw_below_drewN | apply below_drew1) | exact HB.out)⟩
          ·replace c30 := Bool.eq_false_iff.mpr c30
           subst c30
           have H1 : (some (([] : List Int))) = some r := by rw [if_neg (show ¬ (false = true) by decide)] at H; exact H
           clear H
           have H := H1
           clear H1
           obtain ⟨y124, hy124⟩ : ∃ y_ : List Int, y_ = (([] : List Int)) := ⟨_, rfl⟩
           replace H : (some y124) = some r := by first | (rw [hy124]; with_reducible exact H) | (have H2_ := (Option.bind_some _ _).symm.trans H; rw [hy124]; with_reducible exact H2_) | (have H2_ := (Option.bind_some _ _).symm.trans H; with_reducible exact H2_) | with_reducible exact H | (rw [hy124]; exact H) | exact H
           have Ny124 := Aside0.mk hy124
           clear hy124
           obtain rfl := Option.some.inj H
           go_wp2_with (first | ((with_reducible refine gate_dst (N := 86) rfl ?_); refine Kd.R_lit (Kd.int .i64) _ 2 ?hg (N := 86) ?hd (xs := ([] : List Int)) (inner := []) (ok := fun _ => True) (okp := fun _ => True) ?hr ?hp (fun _ hk => hk) trivial (Below.refl _ _) (Nat.le_refl _) (by simp) ?_; (case hd => rfl); (case hg => rfl); (case hr => first | (go_simp; done) | (go_simp; rfl)); (case hp => exact (Reps.none _ _)); intro v125 w33 ho34 hb hg_ hnew_; clear hg_ hnew_; (first | rw [← Ny124.out] at ho34 | (simp only [Int.reduceToNat] at ho34; rw [← Ny124.out] at ho34)); have n0_ := Aside0.mk (Kd.R_lower ho34 (below_size (by repeat (first | (with_reducible first | exact HB.out | apply below_alloc | apply pw_below_drewN | apply below_drew1) | exact HB.out)))); have n1_ := Aside0.mk (below_step (by repeat (first | (with_reducible first | exact HB.out | apply below_alloc | apply pw_below_drewN | apply below_drew1) | exact HB.out)) hb); clear HB; have HO126 := n0_; have HB := n1_; clear n0_ n1_; clear hb ho34))
           go_ret
           exact ⟨_, by first | rfl | (simp [errW_none, errW_some] <;> rfl) | (simp [*, errW_none, errW_some] <;> rfl), by (with_reducible repeat (first | apply Kd.R_alloc | apply Kd.R_drewN | apply Kd.R_drew)); exact HO126.out, by repeat (first | (with_reducible first | exact HB.out | apply below_alloc | apply pw_below_drewN | apply below_drew1) | exact HB.out)⟩
end Go.Proofs.YtepeeahckgpapaaDoor.Q
end
section
namespace Go.Proofs.YtepeeahckgpapaaDoor.Q
open Go.RowKit Go.Proofs.YtepeeahckgpapaaDoorW.PrintWords Go.Proofs.YtepeeahckgpapaaDoorW.PrintLast Go.Proofs.YtepeeahckgpapaaDoorW.PrintMore
attribute [local go_sem] max2_int max_two
set_option linter.unusedVariables false
set_option linter.unusedSimpArgs false
mutual
def spec_l05All.l0 : Nat → Bool → List Int → List Int → Int → Option (List Int)
 | 0, _, _, _, _ => none
 | k + 1, x1, x5, x6, x7 => if x7 < (x5.length : Int) then (if 0 ≤ x7 then ((spec_l05All.f k (rd x5 x7) x1).bind fun t111 => (if x6.length + t111.length < 17592186044416 then (spec_l05All.l0 k x1 x5 (x6 ++ t111) (wrap64 (x7 + 1))) else (none))) else (none)) else (some x6)
def spec_l05All.f : Nat → Int → Bool → Option (List Int)
 | 0, _, _ => none
 | k + 1, a0, a1 => (spec_l05Parts.f k a0 a1).bind fun t101 => (if (t101.length : Int) = 0 then (some (([a0] : List Int))) else (spec_l05All.l0 k a1 t101 (([] : List Int)) 0))
end
theorem spec_l05All.mono_l : ∀ k, (∀ y0 y1, LeO (spec_l05All.f k y0 y1) (spec_l05All.f (k + 1) y0 y1)) ∧ (∀ y0 y1 y2 y3, LeO (spec_l05All.l0 k y0 y1 y2 y3) (spec_l05All.l0 (k + 1) y0 y1 y2 y3))
 | 0 => ⟨fun _ _ r h => by simp [spec_l05All.f] at h, fun _ _ _ _ r h => by simp [spec_l05All.l0] at h⟩
 | k + 1 => by
  obtain ⟨ih0, ih1⟩ := spec_l05All.mono_l k
  refine ⟨?_, ?_⟩
  all_goals intros
  all_goals first | unfold spec_l05All.f | unfold spec_l05All.l0
  all_goals repeat' first | (with_reducible first | exact ih0 _ _ | exact ih1 _ _ _ _ | exact spec_l05Parts.mono _ _ _ | exact LeO.refl _ | exact LeO.none _ | refine LeO.ite ?_ ?_ | refine LeO.bind ?_ (fun _ => ?_)) | exact ih0 _ _ | exact ih1 _ _ _ _ | exact spec_l05Parts.mono _ _ _ | exact LeO.none _ | refine LeO.ite ?_ ?_ | refine LeO.bind ?_ (fun _ => ?_)
theorem spec_l05All.mono : ∀ a0 a1 k, LeO (spec_l05All.f k a0 a1) (spec_l05All.f (k + 1) a0 a1) := by
 intro a0 a1 k
 obtain ⟨ih0, ih1⟩ := spec_l05All.mono_l k
 exact ih0 a0 a1
set_option maxHeartbeats 8000000 in
set_option maxRecDepth 100000 in
theorem spec_l05All.calls (k : Nat) : ∀ (a0 : Int) (a1 : Bool) (r : List Int) (w : World) (h : spec_l05All.f k a0 a1 = some r),
  Calls Tryd.prog 157 #[.int .i64 a0, .bool a1] w fun e w' => ∃ v0_ : Value, e = .returned (v0_) ∧ Kd.R (Kd.int .i64) 2 w' w.heap.size (fun _ => True) v0_ r ∧ Below w.heap.size w w' := by
 induction k using Nat.strongRecOn with
 | _ k ih =>
 intro a0 a1 r w h
 cases k with
 | zero => exact absurd h (by simp [spec_l05All.f])
 | succ k =>
 simp only [spec_l05All.f] at h
 have HB := Aside0.mk (Below.refl w.heap.size w)
 have H : ((spec_l05Parts.f k a0 a1).bind fun t101 => (if (t101.length : Int) = 0 then (some (([a0] : List Int))) else (spec_l05All.l0 k a1 t101 (([] : List Int)) 0))) = some r := h
 clear h
 replace H := Option.bind_eq_some_iff.mp H
 obtain ⟨t101, A30, H⟩ := H
 replace H : (if (t101.length : Int) = 0 then (some (([a0] : List Int))) else (spec_l05All.l0 k a1 t101 (([] : List Int)) 0)) = some r := H
 have A3 := Aside0.mk A30
 clear A30
 by_cases c4 : (t101.length : Int) = 0
 ·rw [if_pos c4] at H
  have c4b0 : ((t101.length : Int) == 0) = true := beq_iff_eq.mpr c4
  have c4b1 : ((t101.length : Int) != 0) = false := bne_eq_false_iff_eq.mpr c4
  clear c4
  obtain ⟨y104, hy104⟩ : ∃ y_ : List Int, y_ = (([a0] : List Int)) := ⟨_, rfl⟩
  replace H : (some y104) = some r := by first | (rw [hy104]; with_reducible exact H) | (have H2_ := (Option.bind_some _ _).symm.trans H; rw [hy104]; with_reducible exact H2_) | (have H2_ := (Option.bind_some _ _).symm.trans H; with_reducible exact H2_) | with_reducible exact H | (rw [hy104]; exact H) | exact H
  have Ny104 := Aside0.mk hy104
  clear hy104
  obtain rfl := Option.some.inj H
  go_enter Tryd.func157, Tryd.ntmps157
  go_wp2_with (first | ((with_reducible refine gate_callee (f := 213) rfl ?_); refine goesL_ (some 10) rfl rfl Tryd.func213 (by kernel_rfl) rfl #[.int .i64 a0, .bool a1] rfl (by (try simp only [List.map_toArray, List.map_cons, List.map_nil]); first | done | rfl | (simp only [List.length_drop, List.length_take]; rfl)) ?_; (with_reducible refine (spec_l05Parts.calls k a0 a1 t101 _ A3.out).mono ?_); rintro e w5 ⟨v102, rfl, ho0, hb⟩; refine ⟨_, rfl, ?_⟩; have n0_ := Aside0.mk (Kd.R_lower ho0 (below_size (by repeat (first | (with_reducible first | exact HB.out | apply below_alloc | apply pw_below_drewN | apply below_drew1) | exact HB.out)))); have n1_ := Aside0.mk (below_step (by repeat (first | (with_reducible first | exact HB.out | apply below_alloc | apply pw_below_drewN | apply below_drew1) | exact HB.out)) hb); clear HB; have HO103 := n0_; have HB := n1_; clear n0_ n1_; (try clear hb); (try clear hb2); (try clear hk); (try clear hi); (try clear ho0); obtain ⟨Ao6, co6, eo6⟩ := Kd.R_slice HO103.out; subst eo6) | ((with_reducible refine gate_dst (N := 15) rfl ?_); refine Kd.R_lit (Kd.int .i64) _ 2 ?hg (N := 15) ?hd (xs := ([a0] : List Int)) (inner := [.int .i64 a0]) (ok := fun _ => True) (okp := fun _ => True) ?hr ?hp (fun _ hk => hk) trivial (Below.refl _ _) (Nat.le_refl _) (by simp) ?_; (case hd => rfl); (case hg => rfl); (case hr => first | (go_simp; done) | (go_simp; rfl)); (case hp => exact (Reps.one (show Kd.M (Kd.int .i64) _ _ _ a0 [.int .i64 a0] from rfl) (Reps.none _ _))); intro v105 w7 ho8 hb hg_ hnew_; clear hg_ hnew_; (first | rw [← Ny104.out] at ho8 | (simp only [Int.reduceToNat] at ho8; rw [← Ny104.out] at ho8)); have n0_ := Aside0.mk (Kd.R_elder' (by (with_reducible repeat (first | apply Kd.R_alloc | apply Kd.R_drewN | apply Kd.R_drew)); exact HO103.out) (Kd.R_base ho8) hb); have n1_ := Aside0.mk (Kd.R_lower (Kd.R_new' ho8 (Kd.R_lt (by (with_reducible repeat (first | apply Kd.R_alloc | apply Kd.R_drewN | apply Kd.R_drew)); exact HO103.out))) (below_size (by repeat (first | (with_reducible first | exact HB.out | apply below_alloc | apply pw_below_drewN | apply below_drew1) | exact HB.out)))); have n2_ := Aside0.mk (below_step (by repeat (first | (with_reducible first | exact HB.out | apply below_alloc | apply pw_below_drewN | apply below_drew1) | exact HB.out)) hb); clear HO103; clear HB; have HO103 := n0_; have HO106 := n1_; have HB := n2_; clear n0_ n1_ n2_; clear hb ho8))
  go_ret
  exact ⟨_, by first | rfl | (simp [errW_none, errW_some] <;> rfl) | (simp [*, errW_none, errW_some] <;> rfl), by (with_reducible repeat (first | apply Kd.R_alloc | apply Kd.R_drewN | apply Kd.R_drew)); exact Kd.R_mono HO106.out (fun _ hk => trivial), by repeat (first | (with_reducible first | exact HB.out | apply below_alloc | apply pw_below_drewN | apply below_drew1) | exact HB.out)⟩
 ·rw [if_neg c4] at H
  have c4b0 : ((t101.length : Int) == 0) = false := beq_eq_false_iff_ne.mpr c4
  have c4b1 : ((t101.length : Int) != 0) = true := bne_iff_ne.mpr c4
  have c4b2 : ¬ (t101 = []) := fun h_ => c4 (by rw [h_]; rfl)
  obtain ⟨y107, hy107⟩ : ∃ y_ : List Int, y_ = (([] : List Int)) := ⟨_, rfl⟩
  replace H : (spec_l05All.l0 k a1 t101 y107 0) = some r := by first | (rw [hy107]; with_reducible exact H) | (have H2_ := (Option.bind_some _ _).symm.trans H; rw [hy107]; with_reducible exact H2_) | (have H2_ := (Option.bind_some _ _).symm.trans H; with_reducible exact H2_) | with_reducible exact H | (rw [hy107]; exact H) | exact H
  have Ny107 := Aside0.mk hy107
  clear hy107
  have H' := Aside0.mk H
  clear H
  go_enter Tryd.func157, Tryd.ntmps157
  go_wp2_with (first | ((with_reducible refine gate_callee (f := 213) rfl ?_); refine goesL_ (some 10) rfl rfl Tryd.func213 (by kernel_rfl) rfl #[.int .i64 a0, .bool a1] rfl (by (try simp only [List.map_toArray, List.map_cons, List.map_nil]); first | done | rfl | (simp only [List.length_drop, List.length_take]; rfl)) ?_; (with_reducible refine (spec_l05Parts.calls k a0 a1 t101 _ A3.out).mono ?_); rintro e w9 ⟨v102, rfl, ho0, hb⟩; refine ⟨_, rfl, ?_⟩; have n0_ := Aside0.mk (Kd.R_lower ho0 (below_size (by repeat (first | (with_reducible first | exact HB.out | apply below_alloc | apply pw_below_drewN | apply below_drew1) | exact HB.out)))); have n1_ := Aside0.mk (below_step (by repeat (first | (with_reducible first | exact HB.out | apply below_alloc | apply pw_below_drewN | apply below_drew1) | exact HB.out)) hb); clear HB; have HO103 := n0_; have HB := n1_; clear n0_ n1_; (try clear hb); (try clear hb2); (try clear hk); (try clear hi); (try clear ho0); obtain ⟨Ao10, co10, eo10⟩ := Kd.R_slice HO103.out; subst eo10) | ((with_reducible refine gate_dst (N := 16) rfl ?_); refine Kd.R_lit (Kd.int .i64) _ 2 ?hg (N := 16) ?hd (xs := ([] : List Int)) (inner := []) (ok := fun _ => True) (okp := fun _ => True) ?hr ?hp (fun _ hk => hk) trivial (Below.refl _ _) (Nat.le_refl _) (by simp) ?_; (case hd => rfl); (case hg => rfl); (case hr => first | (go_simp; done) | (go_simp; rfl)); (case hp => exact (Reps.none _ _)); intro v108 w11 ho12 hb hg_ hnew_; clear hg_ hnew_; (first | rw [← Ny107.out] at ho12 | (simp only [Int.reduceToNat] at ho12; rw [← Ny107.out] at ho12)); have n0_ := Aside0.mk (Kd.R_elder' (by (with_reducible repeat (first | apply Kd.R_alloc | apply Kd.R_drewN | apply Kd.R_drew)); exact HO103.out) (Kd.R_base ho12) hb); have n1_ := Aside0.mk (Kd.R_lower (Kd.R_new' ho12 (Kd.R_lt (by (with_reducible repeat (first | apply Kd.R_alloc | apply Kd.R_drewN | apply Kd.R_drew)); exact HO103.out))) (below_size (by repeat (first | (with_reducible first | exact HB.out | apply below_alloc | apply pw_below_drewN | apply below_drew1) | exact HB.out)))); have n2_ := Aside0.mk (below_step (by repeat (first | (with_reducible first | exact HB.out | apply below_alloc | apply pw_below_drewN | apply below_drew1) | exact HB.out)) hb); clear HO103; clear HB; have HO103 := n0_; have HO109 := n1_; have HB := n2_; clear n0_ n1_ n2_; clear hb ho12))
  go_loopg [6, 7] k (fun kq v6 v7 w' => ∃ (x6_1 : List Int) (x7_1 : Int), v7 = .int .i64 x7_1 ∧ Aside0 (spec_l05All.l0 kq a1 t101 x6_1 x7_1 = some r) ∧ Aside0 (kq ≤ k) ∧ Aside0 (Kd.R (Kd.int .i64) 2 w' w.heap.size (fun k_ => some k_ ≠ (v6 : Value).ownBlock) (.slice Ao10 t101.length co10) t101) ∧ Aside0 (Kd.R (Kd.int .i64) 2 w' w.heap.size (fun k_ => some k_ ≠ ((.slice Ao10 t101.length co10) : Value).ownBlock) v6 x6_1) ∧ Aside0 (Below w.heap.size w w'))
  case atStart => exact ⟨(y107), (0), (by first | rfl | (simp; done) | (simp [*]; done)), H', ⟨Nat.le_refl _⟩, ⟨by (with_reducible repeat (first | apply Kd.R_alloc | apply Kd.R_drewN | apply Kd.R_drew)); exact Kd.R_mono HO103.out (fun _ hk => hk.2)⟩, ⟨by (with_reducible repeat (first | apply Kd.R_alloc | apply Kd.R_drewN | apply Kd.R_drew)); exact Kd.R_mono HO109.out (fun _ hk => hk.2)⟩, ⟨by repeat (first | (with_reducible first | exact HB.out | apply below_alloc | apply pw_below_drewN | apply below_drew1) | exact HB.out)⟩⟩
  case round =>
   clear H'
   try clear c1
   try clear c2
   try clear p2
   try clear c4
   try clear c4b0
   try clear c4b1
   try clear c4b2
   obtain ⟨x6_1, x7_1, rfl, HA, HK1, HO_5, HO_6, HB⟩ := hrel
   cases gk with
   | zero => exact absurd HA.out (by simp [spec_l05All.l0])
   | succ k1 =>
    have H := HA.out
    clear HA
    simp only [spec_l05All.l0] at H
    by_cases c13 : x7_1 < (t101.length : Int)
    ·rw [if_pos c13] at H
     have c13b0 : decide (x7_1 < (t101.length : Int)) = true := decide_eq_true c13
     clear c13
     by_cases c14 : 0 ≤ x7_1
     ·rw [if_pos c14] at H
      have c14b0 : decide (0 ≤ x7_1) = true := decide_eq_true c14
      clear c14
      replace H := Option.bind_eq_some_iff.mp H
      obtain ⟨t111, A150, H⟩ := H
      replace H : (if x6_1.length + t111.length < 17592186044416 then (spec_l05All.l0 k1 a1 t101 (x6_1 ++ t111) (wrap64 (x7_1 + 1))) else (none)) = some r := H
      have A15 := Aside0.mk A150
      clear A150
      by_cases c16 : x6_1.length + t111.length < 17592186044416
      ·rw [if_pos c16] at H
       have LMc16 := Aside0.mk c16
       clear c16
       obtain ⟨y114, hy114⟩ : ∃ y_ : List Int, y_ = (x6_1 ++ t111) := ⟨_, rfl⟩
       replace H : (spec_l05All.l0 k1 a1 t101 y114 (wrap64 (x7_1 + 1))) = some r := by first | (rw [hy114]; with_reducible exact H) | (have H2_ := (Option.bind_some _ _).symm.trans H; rw [hy114]; with_reducible exact H2_) | (have H2_ := (Option.bind_some _ _).symm.trans H; with_reducible exact H2_) | with_reducible exact H | (rw [hy114]; exact H) | exact H
       have Ny114 := Aside0.mk hy114
       clear hy114
       have H' := Aside0.mk H
       clear H
       have p110 : 0 ≤ (x7_1 : Int) := of_decide_eq_true (by first | (with_reducible assumption) | assumption)
       have q110 : x7_1 < (t101.length : Int) := of_decide_eq_true (by first | (with_reducible assumption) | assumption)
       obtain ⟨ad110, e110, hx110_0⟩ := Kd.at_int (Kd.R_reads' HO_5.out).2.2 x7_1 p110 q110
       cases e110
       replace p110 := eq_true p110
       replace q110 := eq_true q110
       go_wp2_with (first | ((with_reducible refine gate_callee (f := 157) rfl ?_); refine goesL_ (some 29) rfl rfl Tryd.func157 (by kernel_rfl) rfl #[.int .i64 (rd t101 x7_1), .bool a1] rfl (by (try simp only [List.map_toArray, List.map_cons, List.map_nil]); first | done | rfl | (simp only [List.length_drop, List.length_take]; rfl)) ?_; (with_reducible refine (ih k1 (by have := HK1.out; omega) (rd t101 x7_1) a1 t111 _ A15.out).mono ?_); rintro e w17 ⟨v112, rfl, ho0, hb⟩; refine ⟨_, rfl, ?_⟩; have n0_ := Aside0.mk (Kd.R_elder' (by (with_reducible repeat (first | apply Kd.R_alloc | apply Kd.R_drewN | apply Kd.R_drew)); exact HO_5.out) (Kd.R_base ho0) hb); have n1_ := Aside0.mk (Kd.R_elder' (by (with_reducible repeat (first | apply Kd.R_alloc | apply Kd.R_drewN | apply Kd.R_drew)); exact HO_6.out) (Kd.R_base ho0) hb); have n2_ := Aside0.mk (Kd.R_lower (Kd.R_new' (Kd.R_new' ho0 (Kd.R_lt (by (with_reducible repeat (first | apply Kd.R_alloc | apply Kd.R_drewN | apply Kd.R_drew)); exact HO_5.out))) (Kd.R_lt (by (with_reducible repeat (first | apply Kd.R_alloc | apply Kd.R_drewN | apply Kd.R_drew)); exact HO_6.out))) (below_size (by repeat (first | (with_reducible first | exact HB.out | apply below_alloc | apply pw_below_drewN | apply below_drew1) | exact HB.out)))); have n3_ := Aside0.mk (below_step (by repeat (first | (with_reducible first | exact HB.out | apply below_alloc | apply pw_below_drewN | apply below_drew1) | exact HB.out)) hb); clear HO_5; clear HO_6; clear HB; have HO_5 := n0_; have HO_6 := n1_; have HO113 := n2_; have HB := n3_; clear n0_ n1_ n2_ n3_; (try clear hb); (try clear hb2); (try clear hk); (try clear hi); (try clear ho0); obtain ⟨Ao19, co19, eo19⟩ := Kd.R_slice HO113.out; subst eo19) | ((with_reducible refine gate_builtin (b := .append) (xs := #[.tmp 23, .tmp 29]) rfl ?_); at_builtin; refine Kd.R_append_rows (Kd.int .i64) (w0 := w) w.heap.size rfl (.tmp 23) (.tmp 29) 35 2 (.int .i64 0) 8 rfl Tryd.underlying35 info2 rfl (by decide) (by omega) u6 x6_1 t111 _ _ _ (fun k_ => some k_ ≠ (.slice (some ad110) t101.length co10 : Value).ownBlock ∧ some k_ ≠ (.slice Ao19 t111.length co19 : Value).ownBlock) (fun _ => False) rfl rfl ?aO ?aR (fun _ _ h => h) (fun _ h => h.elim) ?aF ?aB ?aS ?aL ?_; (case aR => repeat (first | exact (Kd.R_reads' HO113.out).2.2 | (with_reducible refine Kd.C_alloc ?_ _) | (with_reducible refine Kd.C_drewN ?_ _) | (with_reducible refine Kd.C_drew ?_))); (case aB => exact (by repeat (first | (with_reducible first | exact HB.out | apply below_alloc | apply pw_below_drewN | apply below_drew1) | exact HB.out))); (case aF => exact (fun k_ hk => ⟨Kd.fresh' (Kd.R_lt (by (with_reducible repeat (first | apply Kd.R_alloc | apply Kd.R_drewN | apply Kd.R_drew)); exact HO_5.out)) k_ hk, Kd.fresh' (Kd.R_lt (by (with_reducible repeat (first | apply Kd.R_alloc | apply Kd.R_drewN | apply Kd.R_drew)); exact HO113.out)) k_ hk⟩)); (case aO => exact (by (with_reducible repeat (first | apply Kd.R_alloc | apply Kd.R_drewN | apply Kd.R_drew)); exact HO_6.out)); (case aS => exact (below_size (by repeat (first | (with_reducible first | exact HB.out | apply below_alloc | apply pw_below_drewN | apply below_drew1) | exact HB.out)))); (case aL => have := LMc16.out; omega); intro v115 w18 ho hb hg hat; rw [← Ny114.out] at ho; have n0_ := Aside0.mk (Kd.R_after (ok := (fun k_ => some k_ ≠ (.slice Ao19 t111.length co19 : Value).ownBlock)) (by (with_reducible repeat (first | apply Kd.R_alloc | apply Kd.R_drewN | apply Kd.R_drew)); exact Kd.R_mono HO_5.out (fun _ hk => ⟨hk.2, hk.1⟩)) hg hat); have n1_ := Aside0.mk (Kd.R_after (ok := (fun k_ => some k_ ≠ (.slice (some ad110) t101.length co10 : Value).ownBlock)) (by (with_reducible repeat (first | apply Kd.R_alloc | apply Kd.R_drewN | apply Kd.R_drew)); exact Kd.R_mono HO113.out (fun _ hk => ⟨hk.1.2, hk.2⟩)) hg hat); have n2_ := Aside0.mk (hb); have n3_ := Aside0.mk (ho); clear HO_5; clear HO113; clear HB; clear HO_6; have HO_5 := n0_; have HO113 := n1_; have HB := n2_; have HO116 := n3_; clear n0_ n1_ n2_ n3_; clear ho hb hg hat))
       go_roundg k1
       case measure => have := HK1.out; omega
       case rel => exact ⟨(y114), (wrap64 (x7_1 + 1)), (by first | rfl | (simp; done) | (simp [*]; done)), H', ⟨by have := HK1.out; omega⟩, ⟨by (with_reducible repeat (first | apply Kd.R_alloc | apply Kd.R_drewN | apply Kd.R_drew)); exact Kd.R_mono HO_5.out (fun _ hk => hk.2)⟩, ⟨by (with_reducible repeat (first | apply Kd.R_alloc | apply Kd.R_drewN | apply Kd.R_drew)); exact Kd.R_mono HO116.out (fun _ hk => hk.1)⟩, ⟨by repeat (first | (with_reducible first | exact HB.out | apply below_alloc | apply pw_below_drewN | apply below_drew1) | exact HB.out)⟩⟩
      ·rw [if_neg c16] at H
       exact absurd H (by simp)
     ·rw [if_neg c14] at H
      exact absurd H (by simp)
    ·rw [if_neg c13] at H
     have c13b0 : decide (x7_1 < (t101.length : Int)) = false := decide_eq_false c13
     clear c13
     obtain rfl := Option.some.inj H
     go_wp2
     go_ret
     exact ⟨_, by first | rfl | (simp [errW_none, errW_some] <;> rfl) | (simp [*, errW_none, errW_some] <;> rfl), by (with_reducible repeat (first | apply Kd.R_alloc | apply Kd.R_drewN | apply Kd.R_drew)); exact Kd.R_mono HO_6.out (fun _ hk => trivial), by repeat (first | (with_reducible first | exact HB.out | apply below_alloc | apply pw_below_drewN | apply below_drew1) | exact HB.out)⟩
end Go.Proofs.YtepeeahckgpapaaDoor.Q
end
section
namespace Go.Proofs.YtepeeahckgpapaaDoor.Q
open Go.RowKit Go.Proofs.YtepeeahckgpapaaDoorW.PrintWords Go.Proofs.YtepeeahckgpapaaDoorW.PrintLast Go.Proofs.YtepeeahckgpapaaDoorW.PrintMore
attribute [local go_sem] max2_int max_two
set_option linter.unusedVariables false
set_option linter.unusedSimpArgs false
def spec_l01Class.j0 : Nat → Int → Bool → Option (Int)
 | 0, _, _ => none
 | k + 1, x0, x13 => if x13 = true then (some 0) else (if (wrap64 (x0 - 4096)) < 16 then (some 230) else (if (wrap64 (x0 - 4096)) < 32 then (some 220) else (if (wrap64 (x0 - 4096)) < 40 then (some 202) else (if (wrap64 (x0 - 4096)) < 48 then (some 1) else (if (wrap64 (x0 - 4096)) < 56 then (some 232) else (some 0))))))
def spec_l01Class.f (k : Nat) (a0 : Int) : Option (Int) := if a0 = 1584 then (some 9) else (if a0 = 1585 then (some 7) else (if a0 < 4096 then (spec_l01Class.j0 k a0 true) else (spec_l01Class.j0 k a0 (decide (a0 > 4159)))))
theorem spec_l01Class.mono_l : ∀ k, (∀ y0 y1, LeO (spec_l01Class.j0 k y0 y1) (spec_l01Class.j0 (k + 1) y0 y1))
 | 0 => fun _ _ r h => by simp [spec_l01Class.j0] at h
 | k + 1 => by
  have ih0 := spec_l01Class.mono_l k
  ·intro y0 y1
   unfold spec_l01Class.j0
   repeat' first | (with_reducible first | exact ih0 _ _ | exact LeO.refl _ | exact LeO.none _ | refine LeO.ite ?_ ?_ | refine LeO.bind ?_ (fun _ => ?_)) | exact ih0 _ _ | exact LeO.none _ | refine LeO.ite ?_ ?_ | refine LeO.bind ?_ (fun _ => ?_)
theorem spec_l01Class.mono : ∀ a0 k, LeO (spec_l01Class.f k a0) (spec_l01Class.f (k + 1) a0) := by
 intro a0 k
 have ih0 := spec_l01Class.mono_l k
 unfold spec_l01Class.f
 repeat' first | (with_reducible first | exact ih0 _ _ | exact LeO.refl _ | exact LeO.none _ | refine LeO.ite ?_ ?_ | refine LeO.bind ?_ (fun _ => ?_)) | exact ih0 _ _ | exact LeO.none _ | refine LeO.ite ?_ ?_ | refine LeO.bind ?_ (fun _ => ?_)
set_option maxHeartbeats 8000000 in
set_option maxRecDepth 100000 in
theorem spec_l01Class.calls (k : Nat) (a0 : Int) (r : Int) (w : World) (h : spec_l01Class.f k a0 = some r) :
  Calls Tryd.prog 214 #[.int .i64 a0] w fun e w' => e = .returned (.int .i64 r) ∧ Drawn0 w w' := by
 have H : (if a0 = 1584 then (some 9) else (if a0 = 1585 then (some 7) else (if a0 < 4096 then (spec_l01Class.j0 k a0 true) else (spec_l01Class.j0 k a0 (decide (a0 > 4159)))))) = some r := h
 clear h
 by_cases c2 : a0 = 1584
 ·rw [if_pos c2] at H
  have c2b0 : (a0 == 1584) = true := beq_iff_eq.mpr c2
  have c2b1 : (a0 != 1584) = false := bne_eq_false_iff_eq.mpr c2
  clear c2
  obtain rfl := Option.some.inj H
  go_enter Tryd.func214, Tryd.ntmps214
  go_wp2
  go_ret
  exact ⟨by first | rfl | (simp; done) | (simp [*]; done), by repeat (first | exact Drawn0.refl _ | apply Drawn0.step)⟩
 ·rw [if_neg c2] at H
  have c2b0 : (a0 == 1584) = false := beq_eq_false_iff_ne.mpr c2
  have c2b1 : (a0 != 1584) = true := bne_iff_ne.mpr c2
  by_cases c3 : a0 = 1585
  ·rw [if_pos c3] at H
   have c3b0 : (a0 == 1585) = true := beq_iff_eq.mpr c3
   have c3b1 : (a0 != 1585) = false := bne_eq_false_iff_eq.mpr c3
   clear c3
   obtain rfl := Option.some.inj H
   go_enter Tryd.func214, Tryd.ntmps214
   go_wp2
   go_ret
   exact ⟨by first | rfl | (simp; done) | (simp [*]; done), by repeat (first | exact Drawn0.refl _ | apply Drawn0.step)⟩
  ·rw [if_neg c3] at H
   have c3b0 : (a0 == 1585) = false := beq_eq_false_iff_ne.mpr c3
   have c3b1 : (a0 != 1585) = true := bne_iff_ne.mpr c3
   have HC4 := Aside0.mk H
   clear H
   go_enter Tryd.func214, Tryd.ntmps214
   go_upto_region 5 with (fail)
   go_cut [13] (fun v13 wc => ∃ (kq : Nat) (x13_3 : Bool), v13 = .bool x13_3 ∧ Aside0 (spec_l01Class.j0 kq a0 x13_3 = some r) ∧ Aside0 (kq ≤ k) ∧ Drawn0 w wc)
   case first =>
    have H := HC4.out
    clear HC4
    by_cases c5 : a0 < 4096
    ·rw [if_pos c5] at H
     have c5b0 : decide (a0 < 4096) = true := decide_eq_true c5
     clear c5
     (first | rw [c5b0] | (simp only [i64_w, i32_w]; rw [c5b0]) | skip)
     have H' := Aside0.mk H
     clear H
     go_wp2
     go_meet
     case rel => exact ⟨_, (true), (by first | rfl | (simp; done) | (simp [*]; done)), H', ⟨by first | omega | exact Nat.le_refl _⟩, by repeat (first | exact Drawn0.refl _ | apply Drawn0.step)⟩
    ·rw [if_neg c5] at H
     have c5b0 : decide (a0 < 4096) = false := decide_eq_false c5
     clear c5
     (first | rw [c5b0] | (simp only [i64_w, i32_w]; rw [c5b0]) | skip)
     have H' := Aside0.mk H
     clear H
     go_wp2
     go_meet
     case rel => exact ⟨_, (decide (a0 > 4159)), (by first | rfl | (simp; done) | (simp [*]; done)), H', ⟨by first | omega | exact Nat.le_refl _⟩, by repeat (first | exact Drawn0.refl _ | apply Drawn0.step)⟩
   case rest =>
    clear HC4
    try clear c2
    try clear c2b0
    try clear c2b1
    try clear p2
    try clear c3
    try clear c3b0
    try clear c3b1
    try clear c5
    try clear c5b0
    obtain ⟨kq, x13_3, rfl, HA, HJ3, ⟨mc3, rfl⟩⟩ := hcut
    cases kq with
    | zero => exact absurd HA.out (by simp [spec_l01Class.j0])
    | succ kj3 =>
     have H := HA.out
     clear HA
     simp only [spec_l01Class.j0] at H
     by_cases c6 : x13_3 = true
     ·subst c6
      have H1 : (some 0) = some r := by rw [if_pos rfl] at H; exact H
      clear H
      have H := H1
      clear H1
      obtain rfl := Option.some.inj H
      go_wp2
      go_ret
      exact ⟨by first | rfl | (simp; done) | (simp [*]; done), by repeat (first | exact Drawn0.refl _ | apply Drawn0.step)⟩
     ·replace c6 := Bool.eq_false_iff.mpr c6
      subst c6
      have H1 : (if (wrap64 (a0 - 4096)) < 16 then (some 230) else (if (wrap64 (a0 - 4096)) < 32 then (some 220) else (if (wrap64 (a0 - 4096)) < 40 then (some 202) else (if (wrap64 (a0 - 4096)) < 48 then (some 1) else (if (wrap64 (a0 - 4096)) < 56 then (some 232) else (some 0)))))) = some r := by rw [if_neg (show ¬ (false = true) by decide)] at H; exact H
      clear H
      have H := H1
      clear H1
      by_cases c7 : (wrap64 (a0 - 4096)) < 16
      ·rw [if_pos c7] at H
       have c7b0 : decide ((wrap64 (a0 - 4096)) < 16) = true := decide_eq_true c7
       clear c7
       obtain rfl := Option.some.inj H
       go_wp2
       go_ret
       exact ⟨by first | rfl | (simp; done) | (simp [*]; done), by repeat (first | exact Drawn0.refl _ | apply Drawn0.step)⟩
      ·rw [if_neg c7] at H
       have c7b0 : decide ((wrap64 (a0 - 4096)) < 16) = false := decide_eq_false c7
       clear c7
       by_cases c8 : (wrap64 (a0 - 4096)) < 32
       ·rw [if_pos c8] at H
        have c8b0 : decide ((wrap64 (a0 - 4096)) < 32) = true := decide_eq_true c8
        clear c8
        obtain rfl := Option.some.inj H
        go_wp2
        go_ret
        exact ⟨by first | rfl | (simp; done) | (simp [*]; done), by repeat (first | exact Drawn0.refl _ | apply Drawn0.step)⟩
       ·rw [if_neg c8] at H
        have c8b0 : decide ((wrap64 (a0 - 4096)) < 32) = false := decide_eq_false c8
        clear c8
        by_cases c9 : (wrap64 (a0 - 4096)) < 40
        ·rw [if_pos c9] at H
         have c9b0 : decide ((wrap64 (a0 - 4096)) < 40) = true := decide_eq_true c9
         clear c9
         obtain rfl := Option.some.inj H
         go_wp2
         go_ret
         exact ⟨by first | rfl | (simp; done) | (simp [*]; done), by repeat (first | exact Drawn0.refl _ | apply Drawn0.step)⟩
        ·rw [if_neg c9] at H
         have c9b0 : decide ((wrap64 (a0 - 4096)) < 40) = false := decide_eq_false c9
         clear c9
         by_cases c10 : (wrap64 (a0 - 4096)) < 48
         ·rw [if_pos c10] at H
          have c10b0 : decide ((wrap64 (a0 - 4096)) < 48) = true := decide_eq_true c10
          clear c10
          obtain rfl := Option.some.inj H
          go_wp2
          go_ret
          exact ⟨by first | rfl | (simp; done) | (simp [*]; done), by repeat (first | exact Drawn0.refl _ | apply Drawn0.step)⟩
         ·rw [if_neg c10] at H
          have c10b0 : decide ((wrap64 (a0 - 4096)) < 48) = false := decide_eq_false c10
          clear c10
          by_cases c11 : (wrap64 (a0 - 4096)) < 56
          ·rw [if_pos c11] at H
           have c11b0 : decide ((wrap64 (a0 - 4096)) < 56) = true := decide_eq_true c11
           clear c11
           obtain rfl := Option.some.inj H
           go_wp2
           go_ret
           exact ⟨by first | rfl | (simp; done) | (simp [*]; done), by repeat (first | exact Drawn0.refl _ | apply Drawn0.step)⟩
          ·rw [if_neg c11] at H
           have c11b0 : decide ((wrap64 (a0 - 4096)) < 56) = false := decide_eq_false c11
           clear c11
           obtain rfl := Option.some.inj H
           go_wp2
           go_ret
           exact ⟨by first | rfl | (simp; done) | (simp [*]; done), by repeat (first | exact Drawn0.refl _ | apply Drawn0.step)⟩
end Go.Proofs.YtepeeahckgpapaaDoor.Q
end
section
namespace Go.Proofs.YtepeeahckgpapaaDoor.Q
open Go.RowKit Go.Proofs.YtepeeahckgpapaaDoorW.PrintWords Go.Proofs.YtepeeahckgpapaaDoorW.PrintLast Go.Proofs.YtepeeahckgpapaaDoorW.PrintMore
def allB (f : Nat → Bool) : Nat → Nat → Bool
  | a, 0 => f a
  | a, k + 1 => allB f a k && allB f (a + 2 ^ k) k
theorem allB_all (f : Nat → Bool) : ∀ (k a : Nat), allB f a k = true → ∀ n, a ≤ n → n < a + 2 ^ k → f n = true := by
  intro k
  induction k with
  | zero => intro a h n h1 h2; have : n = a := by simp at h2; omega
            subst this; exact h
  | succ k ih =>
    intro a h n h1 h2
    simp only [allB, Bool.and_eq_true] at h
    rcases Nat.lt_or_ge n (a + 2 ^ k) with hn | hn
    · exact ih a h.1 n h1 hn
    · exact ih (a + 2 ^ k) h.2 n hn (by rw [Nat.pow_succ] at h2; omega)
def PtI (p : Int) : Prop := 0 ≤ p ∧ p ≤ 1114111
def ptB (p : Int) : Bool := decide (0 ≤ p) && decide (p ≤ 1114111)
def same2 (n : Nat) : Option (List Int) → Option (List Int) → Bool
  | some a, some b => a == b && decide (a.length ≤ n) && a.all ptB
  | _, _ => false
theorem same2_out {n : Nat} {x y : Option (List Int)} (h : same2 n x y = true) :
    ∃ l, x = some l ∧ y = some l ∧ l.length ≤ n ∧ ∀ q ∈ l, PtI q := by
  match x, y, h with
  | some a, some b, h =>
    simp only [same2, Bool.and_eq_true, beq_iff_eq, decide_eq_true_eq, List.all_eq_true, ptB] at h
    obtain ⟨⟨rfl, h1⟩, h2⟩ := h
    exact ⟨a, rfl, rfl, h1, fun q hq => h2 q hq⟩
  | none, _, h => simp [same2] at h
  | some _, none, h => simp [same2] at h
theorem wrap64_id {n : Int} (h1 : -9223372036854775808 ≤ n) (h2 : n < 9223372036854775808) : wrap64 n = n := by
  unfold wrap64; omega
theorem LeO.up {α : Type} {g : Nat → Option α} (m : ∀ k, LeO (g k) (g (k + 1))) {k : Nat} {r : α} (h : g k = some r) : ∀ j, g (k + j) = some r := by
  intro j
  induction j with
  | zero => exact h
  | succ j ih => exact m _ _ ih
theorem LeO.le {α : Type} {g : Nat → Option α} (m : ∀ k, LeO (g k) (g (k + 1))) {k : Nat} {r : α} (h : g k = some r) {j : Nat} (hj : k ≤ j) : g j = some r := by
  obtain ⟨d, rfl⟩ := Nat.le.dest hj
  exact LeO.up m h d
def ckCls (n : Nat) : Bool := match impl_MarkClass.f (n : Int), spec_l01Class.f 3 (n : Int) with
  | some a, some b => a == b && decide (0 ≤ a) && decide (a ≤ 255)
  | _, _ => false
theorem ckCls_all : allB ckCls 0 13 = true := by decide +kernel
theorem cls_high {p : Int} (h : 4160 ≤ p) : impl_MarkClass.f p = some 0 ∧ spec_l01Class.f 3 p = some 0 := by
  constructor
  · simp (disch := omega) only [impl_MarkClass.f, impl_in.f, if_pos, if_neg, Option.bind_some]
    have : decide (p ≤ 4159) = false := by simp; omega
    simp [this]
  · have : decide (p > 4159) = true := by simp; omega
    simp (disch := omega) only [spec_l01Class.f, spec_l01Class.j0, if_neg, this, if_true]
theorem cls_eq {p : Int} (h : PtI p) : ∃ c, impl_MarkClass.f p = some c ∧ (∀ k, 3 ≤ k → spec_l01Class.f k p = some c) ∧ 0 ≤ c ∧ c ≤ 255 := by
  rcases (by omega : p < 8192 ∨ 8192 ≤ p) with hp | hp
  · have := allB_all ckCls 13 0 ckCls_all p.toNat (by omega) (by have := h.1; omega)
    unfold ckCls at this
    rw [Int.toNat_of_nonneg h.1] at this
    split at this
    · rename_i a b h1 h2
      simp only [Bool.and_eq_true, beq_iff_eq, decide_eq_true_eq] at this
      obtain ⟨⟨rfl, h3⟩, h4⟩ := this
      exact ⟨a, h1, fun k hk => LeO.le (fun k => spec_l01Class.mono _ k) h2 hk, h3, h4⟩
    · cases this
  · have := cls_high (p := p) (by omega)
    exact ⟨0, this.1, fun k hk => LeO.le (fun k => spec_l01Class.mono _ k) this.2 hk, by omega, by omega⟩
end Go.Proofs.YtepeeahckgpapaaDoor.Q
end
section
set_option linter.unusedVariables false
set_option linter.unusedSimpArgs false
namespace Go.Proofs.YtepeeahckgpapaaDoor.Q
open Go.Sort
def swapGo {α : Type} [Inhabited α] (a b : Nat) : Nat → Nat → Array α → Array α
  | _, 0, d => d
  | i, n + 1, d => swapGo a b (i + 1) n (swp d (a + i) (b + i))
theorem swapGo_size {α : Type} [Inhabited α] (a b : Nat) : ∀ (n i : Nat) (d : Array α), (swapGo a b i n d).size = d.size
  | 0, _, _ => rfl
  | n + 1, i, d => by rw [swapGo, swapGo_size a b n, size_swp]
def swapRange {α : Type} [Inhabited α] (d : Array α) (a b n : Nat) : Array α := swapGo a b 0 n d
def rotGo {α : Type} [Inhabited α] (m : Nat) : Nat → Nat → Nat → Array α → Array α
  | 0, i, _, d => swapRange d (m - i) m i
  | f + 1, i, j, d => if i = j then swapRange d (m - i) m i else if j < i then rotGo m f (i - j) j (swapRange d (m - i) m j) else rotGo m f i (j - i) (swapRange d (m - i) (m + j - i) i)
def rotate {α : Type} [Inhabited α] (d : Array α) (a m b : Nat) : Array α := rotGo m (b - a) (m - a) (b - m) d
theorem rotGo_eq {α : Type} [Inhabited α] (m f i j : Nat) (d : Array α) (hf : 0 < f) (h : i = j) : rotGo m f i j d = swapRange d (m - i) m i := by
  obtain ⟨f, rfl⟩ : ∃ q, f = q + 1 := ⟨f - 1, by omega⟩
  rw [rotGo, if_pos h]
theorem rotGo_fuel {α : Type} [Inhabited α] (m : Nat) : ∀ (f f' i j : Nat) (d : Array α), 0 < i → 0 < j → i + j ≤ f → i + j ≤ f' → rotGo m f i j d = rotGo m f' i j d := by
  intro f
  induction f with
  | zero => intro f' i j d hi hj h _; omega
  | succ f ih =>
    intro f' i j d hi hj h h'
    obtain ⟨f', rfl⟩ : ∃ q, f' = q + 1 := ⟨f' - 1, by omega⟩
    rw [rotGo, rotGo]
    by_cases e : i = j
    · rw [if_pos e, if_pos e]
    · rw [if_neg e, if_neg e]
      by_cases e2 : j < i
      · rw [if_pos e2, if_pos e2]; exact ih _ _ _ _ (by omega) hj (by omega) (by omega)
      · rw [if_neg e2, if_neg e2]; exact ih _ _ _ _ hi (by omega) (by omega) (by omega)
theorem swapRange_size {α : Type} [Inhabited α] (d : Array α) (a b n : Nat) : (swapRange d a b n).size = d.size := swapGo_size _ _ _ _ _
theorem rotGo_gt {α : Type} [Inhabited α] (m i j : Nat) (d : Array α) (h : ¬ i = j) (h2 : j < i) (hj : 0 < j) : rotGo m (i + j) i j d = rotGo m (i - j + j) (i - j) j (swapRange d (m - i) m j) := by
  rw [show i + j = (i + j - 1) + 1 from by omega, rotGo, if_neg h, if_pos h2]
  exact rotGo_fuel m _ _ _ _ _ (by omega) hj (by omega) (by omega)
theorem rotGo_lt {α : Type} [Inhabited α] (m i j : Nat) (d : Array α) (h2 : i < j) (hi : 0 < i) : rotGo m (i + j) i j d = rotGo m (i + (j - i)) i (j - i) (swapRange d (m - i) (m + j - i) i) := by
  rw [show i + j = (i + j - 1) + 1 from by omega, rotGo, if_neg (by omega), if_neg (by omega)]
  exact rotGo_fuel m _ _ _ _ _ hi (by omega) (by omega) (by omega)
def binGo (p : Nat → Bool) : Nat → Nat → Nat → Nat
  | 0, i, _ => i
  | f + 1, i, j => if i < j then (if p ((i + j) / 2) = true then binGo p f ((i + j) / 2 + 1) j else binGo p f i ((i + j) / 2)) else i
theorem binGo_fuel (p : Nat → Bool) : ∀ (f f' i j : Nat), j - i ≤ f → j - i ≤ f' → binGo p f i j = binGo p f' i j := by
  intro f
  induction f with
  | zero =>
    intro f' i j h h'
    cases f' with
    | zero => rfl
    | succ f' => rw [binGo, binGo, if_neg (by omega)]
  | succ f ih =>
    intro f' i j h h'
    cases f' with
    | zero => rw [binGo, binGo, if_neg (by omega)]
    | succ f' =>
      rw [binGo, binGo]
      by_cases e : i < j
      · rw [if_pos e, if_pos e]
        split
        · exact ih _ _ _ (by omega) (by omega)
        · exact ih _ _ _ (by omega) (by omega)
      · rw [if_neg e, if_neg e]
theorem binGo_go (p : Nat → Bool) (i j : Nat) (h : i < j) : binGo p (j - i) i j = if p ((i + j) / 2) = true then binGo p (j - ((i + j) / 2 + 1)) ((i + j) / 2 + 1) j else binGo p ((i + j) / 2 - i) i ((i + j) / 2) := by
  rw [show j - i = (j - i - 1) + 1 from by omega, binGo, if_pos h]
  split
  · exact binGo_fuel p _ _ _ _ (by omega) (by omega)
  · exact binGo_fuel p _ _ _ _ (by omega) (by omega)
theorem binGo_done (p : Nat → Bool) (f i j : Nat) (h : ¬ i < j) : binGo p f i j = i := by
  cases f with
  | zero => rfl
  | succ f => rw [binGo, if_neg h]
theorem binGo_range (p : Nat → Bool) : ∀ (f i j : Nat), i ≤ j → i ≤ binGo p f i j ∧ binGo p f i j ≤ j := by
  intro f
  induction f with
  | zero => intro i j h; exact ⟨Nat.le_refl _, h⟩
  | succ f ih =>
    intro i j h
    rw [binGo]
    split
    · split
      · have := ih ((i + j) / 2 + 1) j (by omega); omega
      · have := ih i ((i + j) / 2) (by omega); omega
    · omega
section
variable {α : Type} [Inhabited α]
def upGo : Nat → Nat → Array α → Array α
  | 0, _, d => d
  | n + 1, k, d => upGo n (k + 1) (swp d k (k + 1))
def downGo : Nat → Nat → Array α → Array α
  | 0, _, d => d
  | n + 1, k, d => downGo n (k - 1) (swp d k (k - 1))
def symGo (lt : α → α → Bool) : Nat → Array α → Nat → Nat → Nat → Array α
  | 0, d, _, _, _ => d
  | N + 1, d, a, m, b =>
    if m - a = 1 then upGo (binGo (fun h => lt d[h]! d[a]!) (b - m) m b - 1 - a) a d
    else if b - m = 1 then downGo (m - binGo (fun h => !lt d[m]! d[h]!) (m - a) a m) m d
    else
      let mid := (a + b) / 2
      let n := mid + m
      let s0 := if m > mid then n - b else a
      let r0 := if m > mid then mid else m
      let start := binGo (fun c => !lt d[n - 1 - c]! d[c]!) (r0 - s0) s0 r0
      let e := n - start
      let d1 := if start < m ∧ m < e then rotate d start m e else d
      let d2 := if a < start ∧ start < mid then symGo lt N d1 a start mid else d1
      if mid < e ∧ e < b then symGo lt N d2 mid e b else d2
theorem symGo_one (lt : α → α → Bool) (N : Nat) (d : Array α) (a m b : Nat) (h : m - a = 1) : symGo lt (N + 1) d a m b = upGo (binGo (fun h => lt d[h]! d[a]!) (b - m) m b - 1 - a) a d := by
  rw [symGo, if_pos h]
theorem symGo_last (lt : α → α → Bool) (N : Nat) (d : Array α) (a m b : Nat) (h : ¬ m - a = 1) (h2 : b - m = 1) : symGo lt (N + 1) d a m b = downGo (m - binGo (fun h => !lt d[m]! d[h]!) (m - a) a m) m d := by
  rw [symGo, if_neg h, if_pos h2]
def symTail (lt : α → α → Bool) (N : Nat) (d : Array α) (a m b mid i : Nat) : Array α :=
  let e := mid + m - i
  let d1 := if i < m ∧ m < e then rotate d i m e else d
  let d2 := if a < i ∧ i < mid then symGo lt N d1 a i mid else d1
  if mid < e ∧ e < b then symGo lt N d2 mid e b else d2
theorem symGo_rec (lt : α → α → Bool) (N : Nat) (d : Array α) (a m b : Nat) (h : ¬ m - a = 1) (h2 : ¬ b - m = 1) (mid : Nat) (hm : mid = (a + b) / 2) (s0 r0 : Nat) (hs : s0 = if mid < m then mid + m - b else a) (hr : r0 = if mid < m then mid else m) (i : Nat)
    (hi : i = binGo (fun c => !lt d[mid + m - 1 - c]! d[c]!) (r0 - s0) s0 r0) : symGo lt (N + 1) d a m b = symTail lt N d a m b mid i := by
  rw [symGo, if_neg h, if_neg h2]
  subst hm hs hr
  simp only [gt_iff_lt, ← hi]
  rfl
theorem rotGo_size (m : Nat) : ∀ (f i j : Nat) (d : Array α), (rotGo m f i j d).size = d.size
  | 0, _, _, _ => swapRange_size _ _ _ _
  | f + 1, i, j, d => by
    rw [rotGo]
    split
    · exact swapRange_size _ _ _ _
    · split
      · rw [rotGo_size m f, swapRange_size]
      · rw [rotGo_size m f, swapRange_size]
theorem rotate_size (d : Array α) (a m b : Nat) : (rotate d a m b).size = d.size := rotGo_size _ _ _ _ _
theorem upGo_size : ∀ (n k : Nat) (d : Array α), (upGo n k d).size = d.size
  | 0, _, _ => rfl
  | n + 1, k, d => by rw [upGo, upGo_size n, size_swp]
theorem downGo_size : ∀ (n k : Nat) (d : Array α), (downGo n k d).size = d.size
  | 0, _, _ => rfl
  | n + 1, k, d => by rw [downGo, downGo_size n, size_swp]
theorem symGo_size (lt : α → α → Bool) : ∀ (N : Nat) (d : Array α) (a m b : Nat), (symGo lt N d a m b).size = d.size
  | 0, _, _, _, _ => rfl
  | N + 1, d, a, m, b => by
    rw [symGo]
    simp only []
    repeat' split
    all_goals simp only [upGo_size, downGo_size, rotate_size, symGo_size lt N]
theorem symTail_XYZV (lt : α → α → Bool) (N : Nat) (d : Array α) (a m b mid i : Nat) (cX : i < m) (cY : i < mid) (cZ : a < i) (cV : mid + m - i < b) : symTail lt N d a m b mid i = (symGo lt N (symGo lt N (rotate d i m (mid + m - i)) a i mid) mid (mid + m - i) b) := by
  unfold symTail
  simp only []
  rw [if_pos (show i < m ∧ m < mid + m - i by omega), if_pos (show a < i ∧ i < mid by omega), if_pos (show mid < mid + m - i ∧ mid + m - i < b by omega)]
theorem symTail_XYZv (lt : α → α → Bool) (N : Nat) (d : Array α) (a m b mid i : Nat) (cX : i < m) (cY : i < mid) (cZ : a < i) (cV : ¬ (mid + m - i < b)) : symTail lt N d a m b mid i = (symGo lt N (rotate d i m (mid + m - i)) a i mid) := by
  unfold symTail
  simp only []
  rw [if_pos (show i < m ∧ m < mid + m - i by omega), if_pos (show a < i ∧ i < mid by omega), if_neg (show ¬ (mid < mid + m - i ∧ mid + m - i < b) by omega)]
theorem symTail_XYzV (lt : α → α → Bool) (N : Nat) (d : Array α) (a m b mid i : Nat) (cX : i < m) (cY : i < mid) (cZ : ¬ (a < i)) (cV : mid + m - i < b) : symTail lt N d a m b mid i = (symGo lt N (rotate d i m (mid + m - i)) mid (mid + m - i) b) := by
  unfold symTail
  simp only []
  rw [if_pos (show i < m ∧ m < mid + m - i by omega), if_neg (show ¬ (a < i ∧ i < mid) by omega), if_pos (show mid < mid + m - i ∧ mid + m - i < b by omega)]
theorem symTail_XYzv (lt : α → α → Bool) (N : Nat) (d : Array α) (a m b mid i : Nat) (cX : i < m) (cY : i < mid) (cZ : ¬ (a < i)) (cV : ¬ (mid + m - i < b)) : symTail lt N d a m b mid i = (rotate d i m (mid + m - i)) := by
  unfold symTail
  simp only []
  rw [if_pos (show i < m ∧ m < mid + m - i by omega), if_neg (show ¬ (a < i ∧ i < mid) by omega), if_neg (show ¬ (mid < mid + m - i ∧ mid + m - i < b) by omega)]
theorem symTail_XyZV (lt : α → α → Bool) (N : Nat) (d : Array α) (a m b mid i : Nat) (cX : i < m) (cY : ¬ (i < mid)) (cZ : a < i) (cV : mid + m - i < b) : symTail lt N d a m b mid i = (symGo lt N d mid (mid + m - i) b) := by
  unfold symTail
  simp only []
  rw [if_neg (show ¬ (i < m ∧ m < mid + m - i) by omega), if_neg (show ¬ (a < i ∧ i < mid) by omega), if_pos (show mid < mid + m - i ∧ mid + m - i < b by omega)]
theorem symTail_xYZV (lt : α → α → Bool) (N : Nat) (d : Array α) (a m b mid i : Nat) (cX : ¬ (i < m)) (cY : i < mid) (cZ : a < i) (cV : mid + m - i < b) : symTail lt N d a m b mid i = (symGo lt N d a i mid) := by
  unfold symTail
  simp only []
  rw [if_neg (show ¬ (i < m ∧ m < mid + m - i) by omega), if_pos (show a < i ∧ i < mid by omega), if_neg (show ¬ (mid < mid + m - i ∧ mid + m - i < b) by omega)]
theorem symTail_xyZV (lt : α → α → Bool) (N : Nat) (d : Array α) (a m b mid i : Nat) (cX : ¬ (i < m)) (cY : ¬ (i < mid)) (cZ : a < i) (cV : mid + m - i < b) : symTail lt N d a m b mid i = d := by
  unfold symTail
  simp only []
  rw [if_neg (show ¬ (i < m ∧ m < mid + m - i) by omega), if_neg (show ¬ (a < i ∧ i < mid) by omega), if_neg (show ¬ (mid < mid + m - i ∧ mid + m - i < b) by omega)]
end
section
variable {α : Type} [Inhabited α] (lt : α → α → Bool) (n : Nat)
def blocksGo : Nat → Nat → Array α → Array α
  | 0, a, d => Sort.insertionSort lt d a n
  | f + 1, a, d => if a + 20 ≤ n then blocksGo f (a + 20) (Sort.insertionSort lt d a (a + 20)) else Sort.insertionSort lt d a n
def mergePass (bs : Nat) : Nat → Nat → Array α → Array α
  | 0, _, d => d
  | f + 1, a, d => if a + 2 * bs ≤ n then mergePass bs f (a + 2 * bs) (symGo lt n d a (a + bs) (a + 2 * bs)) else if a + bs < n then symGo lt n d a (a + bs) n else d
def passes : Nat → Nat → Array α → Array α
  | 0, _, d => d
  | f + 1, bs, d => if bs < n then passes f (2 * bs) (mergePass lt n bs n 0 d) else d
end
def stable {α : Type} [Inhabited α] (lt : α → α → Bool) (d : Array α) (n : Nat) : Array α := passes lt n n 20 (blocksGo lt n (n + 1) 0 d)
theorem insInner_size {α : Type} [Inhabited α] (lt : α → α → Bool) (a : Nat) : ∀ (j : Nat) (d : Array α), (insInner lt a j d).size = d.size
  | 0, _ => rfl
  | j + 1, d => by
    rw [insInner]
    split
    · rw [insInner_size lt a j, size_swp]
    · rfl
theorem insOuter_size {α : Type} [Inhabited α] (lt : α → α → Bool) (a b : Nat) : ∀ (n i : Nat) (d : Array α), b - i ≤ n → (insOuter lt a b i d).size = d.size := by
  intro n
  induction n with
  | zero => intro i d h; rw [insOuter, if_neg (by omega)]
  | succ n ih =>
    intro i d h
    rw [insOuter]
    split
    · rw [ih _ _ (by omega), insInner_size]
    · rfl
theorem insertionSort_size {α : Type} [Inhabited α] (lt : α → α → Bool) (d : Array α) (a b : Nat) : (Sort.insertionSort lt d a b).size = d.size := insOuter_size lt a b _ _ _ (Nat.le_refl _)
theorem blocksGo_stop {α : Type} [Inhabited α] (lt : α → α → Bool) (n f a : Nat) (d : Array α) (h : ¬ a + 20 ≤ n) : blocksGo lt n f a d = Sort.insertionSort lt d a n := by
  cases f with
  | zero => rfl
  | succ f => rw [blocksGo, if_neg h]
theorem passes_stop {α : Type} [Inhabited α] (lt : α → α → Bool) (n f bs : Nat) (d : Array α) (h : ¬ bs < n) : passes lt n f bs d = d := by
  cases f with
  | zero => rfl
  | succ f => rw [passes, if_neg h]
theorem mergePass_size {α : Type} [Inhabited α] (lt : α → α → Bool) (n bs : Nat) : ∀ (f a : Nat) (d : Array α), (mergePass lt n bs f a d).size = d.size
  | 0, _, _ => rfl
  | f + 1, a, d => by
    rw [mergePass]
    split
    · rw [mergePass_size lt n bs f, symGo_size]
    · split
      · rw [symGo_size]
      · rfl
theorem blocksGo_size {α : Type} [Inhabited α] (lt : α → α → Bool) (n : Nat) : ∀ (f a : Nat) (d : Array α), (blocksGo lt n f a d).size = d.size
  | 0, _, _ => insertionSort_size _ _ _ _
  | f + 1, a, d => by
    rw [blocksGo]
    split
    · rw [blocksGo_size lt n f, insertionSort_size]
    · exact insertionSort_size _ _ _ _
theorem passes_size {α : Type} [Inhabited α] (lt : α → α → Bool) (n : Nat) : ∀ (f bs : Nat) (d : Array α), (passes lt n f bs d).size = d.size
  | 0, _, _ => rfl
  | f + 1, bs, d => by
    rw [passes]
    split
    · rw [passes_size lt n f, mergePass_size]
    · rfl
theorem stable_size {α : Type} [Inhabited α] (lt : α → α → Bool) (d : Array α) (n : Nat) : (stable lt d n).size = d.size := by
  unfold stable
  rw [passes_size, blocksGo_size]
end Go.Proofs.YtepeeahckgpapaaDoor.Q
end
section
set_option linter.unusedVariables false
set_option linter.unusedSimpArgs false
namespace Go.Proofs.YtepeeahckgpapaaDoor.Q
open Go.Sort
section
variable {α : Type} [Inhabited α]
theorem get_swp (d : Array α) (i j k : Nat) (hi : i < d.size) (hj : j < d.size) : (swp d i j)[k]! = if k = j then d[i]! else if k = i then d[j]! else d[k]! := by
  unfold swp
  by_cases h1 : k = j
  · subst h1
    rw [if_pos rfl, getElem!_set_same _ _ _ (by simpa using hj)]
  · rw [if_neg h1, getElem!_set_other _ _ _ _ h1]
    by_cases h2 : k = i
    · subst h2
      rw [if_pos rfl, getElem!_set_same _ _ _ hi]
    · rw [if_neg h2, getElem!_set_other _ _ _ _ h2]
structure IsRot (a m b : Nat) (d d' : Array α) : Prop where
  size : d'.size = d.size
  get : ∀ k, d'[k]! = if a ≤ k ∧ k < a + (b - m) then d[k + (m - a)]! else if a + (b - m) ≤ k ∧ k < b then d[k - (b - m)]! else d[k]!
theorem swapGo_get (p q : Nat) : ∀ (n i : Nat) (d : Array α), p + i + n ≤ q + i → q + i + n ≤ d.size → ∀ k,
    (swapGo p q i n d)[k]! = if p + i ≤ k ∧ k < p + i + n then d[k + (q - p)]! else if q + i ≤ k ∧ k < q + i + n then d[k - (q - p)]! else d[k]! := by
  intro n
  induction n with
  | zero =>
    intro i d h1 h2 k
    rw [swapGo, if_neg (by omega), if_neg (by omega)]
  | succ n ih =>
    intro i d h1 h2 k
    rw [swapGo, ih (i + 1) _ (by omega) (by rw [size_swp]; omega) k]
    simp only [get_swp d (p + i) (q + i) _ (by omega) (by omega)]
    repeat' split
    all_goals first
      | rfl
      | (exfalso; omega)
      | (congr 1; omega)
theorem swapRange_get (d : Array α) (p q n : Nat) (h1 : p + n ≤ q) (h2 : q + n ≤ d.size) (k : Nat) :
    (swapRange d p q n)[k]! = if p ≤ k ∧ k < p + n then d[k + (q - p)]! else if q ≤ k ∧ k < q + n then d[k - (q - p)]! else d[k]! := by
  unfold swapRange
  have := swapGo_get p q n 0 d (by omega) (by omega) k
  simpa using this
theorem rotGo_get (m : Nat) : ∀ (f i j : Nat) (d : Array α), 0 < i → 0 < j → i ≤ m → m + j ≤ d.size → i + j ≤ f → ∀ k,
    (rotGo m f i j d)[k]! = if m - i ≤ k ∧ k < m - i + j then d[k + i]! else if m - i + j ≤ k ∧ k < m + j then d[k - j]! else d[k]! := by
  intro f
  induction f with
  | zero => intro i j d hi hj _ _ h; omega
  | succ f ih =>
    intro i j d hi hj him hmj h k
    rw [rotGo]
    by_cases e : i = j
    · subst e
      rw [if_pos rfl, swapRange_get _ _ _ _ (by omega) (by omega)]
      have e1 : m - (m - i) = i := by omega
      rw [e1]
      repeat' split
      all_goals first
        | rfl
        | (exfalso; omega)
    · rw [if_neg e]
      by_cases e2 : j < i
      · rw [if_pos e2, ih (i - j) j _ (by omega) hj (by omega) (by rw [swapRange_size]; omega) (by omega)]
        simp only [swapRange_get d (m - i) m j (by omega) (by omega)]
        repeat' split
        all_goals first
          | rfl
          | (exfalso; omega)
          | (congr 1; omega)
      · rw [if_neg e2, ih i (j - i) _ hi (by omega) him (by rw [swapRange_size]; omega) (by omega)]
        simp only [swapRange_get d (m - i) (m + j - i) i (by omega) (by omega)]
        repeat' split
        all_goals first
          | rfl
          | (exfalso; omega)
          | (congr 1; omega)
theorem rotate_rot (d : Array α) (a m b : Nat) (h1 : a < m) (h2 : m < b) (h3 : b ≤ d.size) : IsRot a m b d (rotate d a m b) := by
  refine ⟨rotate_size _ _ _ _, fun k => ?_⟩
  unfold rotate
  rw [rotGo_get m (b - a) (m - a) (b - m) d (by omega) (by omega) (by omega) (by omega) (by omega)]
  repeat' split
  all_goals first
    | rfl
    | (exfalso; omega)
    | (congr 1; omega)
theorem upGo_rot : ∀ (n k : Nat) (d : Array α), k + n < d.size → IsRot k (k + 1) (k + n + 1) d (upGo n k d) := by
  intro n
  induction n with
  | zero =>
    intro k d h
    refine ⟨rfl, fun j => ?_⟩
    rw [upGo]
    repeat' split
    all_goals first
      | rfl
      | (exfalso; omega)
      | (congr 1; omega)
  | succ n ih =>
    intro k d h
    obtain ⟨hs, hg⟩ := ih (k + 1) (swp d k (k + 1)) (by rw [size_swp]; omega)
    refine ⟨upGo_size _ _ _, fun j => ?_⟩
    rw [upGo, hg]
    simp only [get_swp d k (k + 1) _ (by omega) (by omega)]
    repeat' split
    all_goals first
      | rfl
      | (exfalso; omega)
      | (congr 1; omega)
theorem downGo_rot : ∀ (n k : Nat) (d : Array α), n ≤ k → k < d.size → IsRot (k - n) k (k + 1) d (downGo n k d) := by
  intro n
  induction n with
  | zero =>
    intro k d h1 h
    refine ⟨rfl, fun j => ?_⟩
    rw [downGo]
    repeat' split
    all_goals first
      | rfl
      | (exfalso; omega)
      | (congr 1; omega)
  | succ n ih =>
    intro k d h1 h
    obtain ⟨hs, hg⟩ := ih (k - 1) (swp d k (k - 1)) (by omega) (by rw [size_swp]; omega)
    refine ⟨downGo_size _ _ _, fun j => ?_⟩
    rw [downGo, hg]
    simp only [get_swp d k (k - 1) _ (by omega) (by omega)]
    repeat' split
    all_goals first
      | rfl
      | (exfalso; omega)
      | (congr 1; omega)
variable (lt : α → α → Bool)
def eqv (z x : α) : Bool := !lt z x && !lt x z
structure Res (a b : Nat) (d d' : Array α) : Prop where
  size : d'.size = d.size
  out : ∀ k, k < a ∨ b ≤ k → d'[k]! = d[k]!
  all : ∀ p : α → Prop, (∀ k, a ≤ k → k < b → p d[k]!) → ∀ k, a ≤ k → k < b → p d'[k]!
  filt : ∀ z, d'.toList.filter (eqv lt z) = d.toList.filter (eqv lt z)
variable {lt}
theorem Res.refl (a b : Nat) (d : Array α) : Res lt a b d d := ⟨rfl, fun _ _ => rfl, fun _ h => h, fun _ => rfl⟩
theorem Res.trans {a b : Nat} {d d' d'' : Array α} (h : Res lt a b d d') (h' : Res lt a b d' d'') : Res lt a b d d'' :=
  ⟨h'.size.trans h.size, fun k hk => (h'.out k hk).trans (h.out k hk), fun p hp => h'.all p (h.all p hp), fun z => (h'.filt z).trans (h.filt z)⟩
theorem Res.mono {a b a' b' : Nat} {d d' : Array α} (h : Res lt a b d d') (ha : a' ≤ a) (hb : b ≤ b') : Res lt a' b' d d' := by
  refine ⟨h.size, fun k hk => h.out k (by omega), fun p hp k h1 h2 => ?_, h.filt⟩
  by_cases c : a ≤ k ∧ k < b
  · exact h.all p (fun q hq1 hq2 => hp q (by omega) (by omega)) k c.1 c.2
  · rw [h.out k (by omega)]; exact hp k h1 h2
theorem getE (d : Array α) (k : Nat) (h : k < d.size) : d.toList[k]? = some d[k]! := by
  rw [Array.getElem?_toList, getElem!_pos d k h, Array.getElem?_eq_getElem h]
theorem IsRot.list {a m b : Nat} {d d' : Array α} (h : IsRot a m b d d') (h1 : a ≤ m) (h2 : m ≤ b) (h3 : b ≤ d.size) :
    d'.toList = d.toList.take a ++ ((d.toList.drop m).take (b - m) ++ ((d.toList.drop a).take (m - a) ++ d.toList.drop b)) := by
  have hl : d.toList.length = d.size := Array.length_toList
  apply List.ext_getElem?
  intro k
  by_cases hk : k < d.size
  · rw [getE d' k (by rw [h.size]; exact hk), h.get k]
    by_cases c1 : k < a
    · rw [if_neg (by omega), if_neg (by omega), List.getElem?_append_left (by simp; omega), List.getElem?_take_of_lt c1, getE d k hk]
    · rw [List.getElem?_append_right (by simp; omega)]
      have e1 : (d.toList.take a).length = a := by simp; omega
      rw [e1]
      by_cases c2 : k < a + (b - m)
      · rw [if_pos ⟨by omega, c2⟩, List.getElem?_append_left (by simp; omega), List.getElem?_take_of_lt (by omega), List.getElem?_drop, getE d _ (by omega)]
        congr 2; omega
      · rw [if_neg (by omega), List.getElem?_append_right (by simp; omega)]
        have e2 : ((d.toList.drop m).take (b - m)).length = b - m := by simp; omega
        rw [e2]
        by_cases c3 : k < b
        · rw [if_pos ⟨by omega, c3⟩, List.getElem?_append_left (by simp; omega), List.getElem?_take_of_lt (by omega), List.getElem?_drop, getE d _ (by omega)]
          congr 2; omega
        · rw [if_neg (by omega), List.getElem?_append_right (by simp; omega)]
          have e3 : ((d.toList.drop a).take (m - a)).length = m - a := by simp; omega
          rw [e3, List.getElem?_drop, getE d _ (by omega)]
          congr 2; omega
  · rw [List.getElem?_eq_none (by rw [Array.length_toList, h.size]; omega), List.getElem?_eq_none (by simp; omega)]
omit [Inhabited α] in
theorem list_parts (l : List α) (a m b : Nat) (h1 : a ≤ m) (h2 : m ≤ b) : l = l.take a ++ ((l.drop a).take (m - a) ++ ((l.drop m).take (b - m) ++ l.drop b)) := by
  have e1 : (l.drop m).take (b - m) ++ l.drop b = l.drop m := by
    have := List.take_append_drop (b - m) (l.drop m)
    rw [List.drop_drop, show m + (b - m) = b from by omega] at this
    exact this
  have e2 : (l.drop a).take (m - a) ++ l.drop m = l.drop a := by
    have := List.take_append_drop (m - a) (l.drop a)
    rw [List.drop_drop, show a + (m - a) = m from by omega] at this
    exact this
  rw [e1, e2, List.take_append_drop]
theorem mem_seg {d : Array α} {a n : Nat} {x : α} (h : x ∈ (d.toList.drop a).take n) : ∃ k, a ≤ k ∧ k < a + n ∧ k < d.size ∧ x = d[k]! := by
  obtain ⟨i, hi, rfl⟩ := List.mem_iff_getElem.1 h
  have hl : i < n ∧ a + i < d.size := by simp at hi; omega
  refine ⟨a + i, by omega, by omega, hl.2, ?_⟩
  rw [List.getElem_take, List.getElem_drop, getElem!_pos d _ hl.2]
  rfl
theorem IsRot.res (O : SWO lt) {a m b : Nat} {d d' : Array α} (h : IsRot a m b d d') (h1 : a ≤ m) (h2 : m ≤ b) (h3 : b ≤ d.size)
    (hs : ∀ x y, a ≤ x → x < m → m ≤ y → y < b → lt d[y]! d[x]! = true) : Res lt a b d d' := by
  refine ⟨h.size, fun k hk => ?_, fun p hp k hk1 hk2 => ?_, fun z => ?_⟩
  · rw [h.get, if_neg (by omega), if_neg (by omega)]
  · rw [h.get]
    split
    · exact hp _ (by omega) (by omega)
    · rw [if_pos (by omega)]; exact hp _ (by omega) (by omega)
  · rw [h.list h1 h2 h3]
    conv => rhs; rw [list_parts d.toList a m b h1 h2]
    simp only [List.filter_append]
    congr 1
    rw [← List.append_assoc, ← List.append_assoc]
    congr 1
    by_cases c : ∃ x ∈ (d.toList.drop a).take (m - a), eqv lt z x = true
    · obtain ⟨x, hx, hz⟩ := c
      have e : ((d.toList.drop m).take (b - m)).filter (eqv lt z) = [] := by
        rw [List.filter_eq_nil_iff]
        intro y hy hzy
        obtain ⟨k, k1, k2, _, rfl⟩ := mem_seg hx
        obtain ⟨q, q1, q2, _, rfl⟩ := mem_seg hy
        have := hs k q k1 (by omega) q1 (by omega)
        simp only [eqv, Bool.and_eq_true, Bool.not_eq_true'] at hz hzy
        have n1 := O.ntrans _ _ _ hzy.2 hz.1
        rw [n1] at this
        cases this
      rw [e]; simp
    · have e : ((d.toList.drop a).take (m - a)).filter (eqv lt z) = [] := by
        rw [List.filter_eq_nil_iff]
        intro x hx hz
        exact c ⟨x, hx, hz⟩
      rw [e]; simp
omit [Inhabited α] in
theorem lt_asym (O : SWO lt) {x y : α} (h : lt x y = true) : lt y x = false := by
  cases c : lt y x
  · rfl
  · have := O.trans _ _ _ h c
    rw [O.irrefl] at this
    cases this
omit [Inhabited α] in
theorem lt_of_nlt (O : SWO lt) {x y z : α} (h : lt x y = false) (h2 : lt x z = true) : lt y z = true := by
  cases c : lt y z
  · rw [O.ntrans _ _ _ h c] at h2; cases h2
  · rfl
omit [Inhabited α] in
theorem lt_of_nlt' (O : SWO lt) {x y z : α} (h : lt y z = false) (h2 : lt x z = true) : lt x y = true := by
  cases c : lt x y
  · rw [O.ntrans _ _ _ c h] at h2; cases h2
  · rfl
theorem swp_rot (d : Array α) (j : Nat) (h : j + 1 < d.size) : IsRot j (j + 1) (j + 2) d (swp d (j + 1) j) := by
  refine ⟨size_swp _ _ _, fun k => ?_⟩
  rw [get_swp d (j + 1) j k (by omega) (by omega)]
  repeat' split
  all_goals first
    | rfl
    | (exfalso; omega)
    | (congr 1; omega)
theorem insInner_res (O : SWO lt) (a : Nat) : ∀ (j : Nat) (d : Array α), j < d.size → Res lt a (j + 1) d (insInner lt a j d) := by
  intro j
  induction j with
  | zero => intro d h; exact Res.refl _ _ _
  | succ j ih =>
    intro d h
    rw [insInner]
    split
    · rename_i c
      simp only [Bool.and_eq_true, decide_eq_true_eq] at c
      have r1 : Res lt j (j + 2) d (swp d (j + 1) j) := (swp_rot d j h).res O (by omega) (by omega) (by omega) (fun x y h1 h2 h3 h4 => by
        have e1 : x = j := by omega
        have e2 : y = j + 1 := by omega
        subst e1 e2; exact c.2)
      exact (r1.mono (by omega) (Nat.le_refl _)).trans ((ih _ (by rw [size_swp]; omega)).mono (Nat.le_refl _) (by omega))
    · exact Res.refl _ _ _
theorem insOuter_res (O : SWO lt) (a b : Nat) : ∀ (n i : Nat) (d : Array α), b - i ≤ n → b ≤ d.size → Res lt a b d (insOuter lt a b i d) := by
  intro n
  induction n with
  | zero => intro i d h _; rw [insOuter, if_neg (by omega)]; exact Res.refl _ _ _
  | succ n ih =>
    intro i d h hb
    rw [insOuter]
    split
    · exact ((insInner_res O a i d (by omega)).mono (Nat.le_refl _) (by omega)).trans (ih _ _ (by omega) (by rw [insInner_size]; exact hb))
    · exact Res.refl _ _ _
theorem insertionSort_res (O : SWO lt) (d : Array α) (a b : Nat) (hb : b ≤ d.size) : Res lt a b d (Sort.insertionSort lt d a b) := insOuter_res O a b _ _ _ (Nat.le_refl _) hb
theorem binGo_spec (p : Nat → Bool) : ∀ (f i j : Nat), i ≤ j → j - i ≤ f → (∀ x y, i ≤ x → x < y → y < j → p y = true → p x = true) →
    (∀ x, i ≤ x → x < binGo p f i j → p x = true) ∧ (∀ x, binGo p f i j ≤ x → x < j → p x = false) := by
  intro f
  induction f with
  | zero => intro i j h1 h2 _; rw [binGo]; exact ⟨fun x a b => by omega, fun x a b => by omega⟩
  | succ f ih =>
    intro i j h1 h2 hm
    rw [binGo]
    split
    · rename_i hij
      by_cases c : p ((i + j) / 2) = true
      · rw [if_pos c]
        obtain ⟨g1, g2⟩ := ih ((i + j) / 2 + 1) j (by omega) (by omega) (fun x y a b e => hm x y (by omega) b e)
        refine ⟨fun x a b => ?_, g2⟩
        by_cases e : x ≤ (i + j) / 2
        · by_cases e2 : x = (i + j) / 2
          · rw [e2]; exact c
          · exact hm x ((i + j) / 2) a (by omega) (by omega) c
        · exact g1 x (by omega) b
      · rw [if_neg c]
        obtain ⟨g1, g2⟩ := ih i ((i + j) / 2) (by omega) (by omega) (fun x y a b e => hm x y a b (by omega))
        refine ⟨g1, fun x a b => ?_⟩
        by_cases e : x < (i + j) / 2
        · exact g2 x a e
        · have c' : p ((i + j) / 2) = false := by simpa using c
          by_cases e2 : x = (i + j) / 2
          · rw [e2]; exact c'
          · cases c3 : p x
            · rfl
            · rw [hm ((i + j) / 2) x (by omega) (by omega) b c3] at c'; cases c'
    · exact ⟨fun x a b => by omega, fun x a b => by omega⟩
theorem sorted_join {a m b : Nat} {d : Array α} (h1 : SortedIn lt a m d) (h2 : SortedIn lt m b d) (h : ∀ x y, a ≤ x → x < m → m ≤ y → y < b → lt d[y]! d[x]! = false) : SortedIn lt a b d := by
  intro i j hi hij hj
  by_cases c : j < m
  · exact h1 i j hi hij c
  · by_cases c2 : i < m
    · exact h i j hi c2 (by omega) hj
    · exact h2 i j (by omega) hij hj
theorem sorted_out {a b a' b' : Nat} {d d' : Array α} (h : SortedIn lt a b d) (r : Res lt a' b' d d') (hd : b ≤ a' ∨ b' ≤ a) : SortedIn lt a b d' := by
  intro i j hi hij hj
  rw [r.out i (by omega), r.out j (by omega)]
  exact h i j hi hij hj
theorem symGo_one_ok (O : SWO lt) (N : Nat) (d : Array α) (a m b : Nat) (h1 : m = a + 1) (h2 : m < b) (h3 : b ≤ d.size) (hs : SortedIn lt m b d) :
    Res lt a b d (symGo lt (N + 1) d a m b) ∧ SortedIn lt a b (symGo lt (N + 1) d a m b) := by
  rw [symGo_one lt N d a m b (by omega)]
  obtain ⟨r1, r2⟩ := binGo_range (fun h => lt d[h]! d[a]!) (b - m) m b (by omega)
  obtain ⟨g1, g2⟩ := binGo_spec (fun h => lt d[h]! d[a]!) (b - m) m b (by omega) (Nat.le_refl _) (fun x y e1 e2 e3 e4 => lt_of_nlt O (hs x y e1 e2 e3) e4)
  generalize binGo (fun h => lt d[h]! d[a]!) (b - m) m b = r at *
  have R := upGo_rot (r - 1 - a) a d (by omega)
  rw [show a + (r - 1 - a) + 1 = r from by omega] at R
  generalize upGo (r - 1 - a) a d = d' at *
  have R' : Res lt a r d d' := R.res O (by omega) (by omega) (by omega) (fun x y e1 e2 e3 e4 => by
    have : x = a := by omega
    subst this; exact g1 y (by omega) e4)
  refine ⟨R'.mono (Nat.le_refl _) r2, ?_⟩
  have gA : ∀ y z, m ≤ y → y < r → z = a → lt d[z]! d[y]! = false := fun y z e1 e2 e3 => by subst e3; exact lt_asym O (g1 y e1 e2)
  have gB : ∀ z y, r ≤ y → y < b → z = a → lt d[y]! d[z]! = false := fun z y e1 e2 e3 => by subst e3; exact g2 y e1 e2
  intro i j hi hij hj
  rw [R.get i, R.get j]
  repeat' split
  all_goals first
    | (exfalso; omega)
    | exact hs _ _ (by omega) (by omega) (by omega)
    | exact gA _ _ (by omega) (by omega) (by omega)
    | exact gB _ _ (by omega) (by omega) (by omega)
theorem symGo_last_ok (O : SWO lt) (N : Nat) (d : Array α) (a m b : Nat) (h0 : ¬ m - a = 1) (h1 : a < m) (h2 : b = m + 1) (h3 : b ≤ d.size) (hs : SortedIn lt a m d) :
    Res lt a b d (symGo lt (N + 1) d a m b) ∧ SortedIn lt a b (symGo lt (N + 1) d a m b) := by
  rw [symGo_last lt N d a m b h0 (by omega)]
  obtain ⟨r1, r2⟩ := binGo_range (fun h => !lt d[m]! d[h]!) (m - a) a m (by omega)
  obtain ⟨g1, g2⟩ := binGo_spec (fun h => !lt d[m]! d[h]!) (m - a) a m (by omega) (Nat.le_refl _) (fun x y e1 e2 e3 e4 => by
    simp only [Bool.not_eq_true'] at e4 ⊢
    exact O.ntrans _ _ _ e4 (hs x y e1 e2 e3))
  generalize binGo (fun h => !lt d[m]! d[h]!) (m - a) a m = r at *
  simp only [Bool.not_eq_true', Bool.not_eq_false'] at g1 g2
  have R := downGo_rot (m - r) m d (by omega) (by omega)
  rw [show m - (m - r) = r from by omega, ← h2] at R
  generalize downGo (m - r) m d = d' at *
  have R' : Res lt r b d d' := R.res O (by omega) (by omega) (by omega) (fun x y e1 e2 e3 e4 => by
    have : y = m := by omega
    subst this; exact g2 x e1 e2)
  refine ⟨R'.mono r1 (Nat.le_refl _), ?_⟩
  have gA : ∀ y z, a ≤ y → y < r → z = m → lt d[z]! d[y]! = false := fun y z e1 e2 e3 => by subst e3; exact g1 y e1 e2
  have gB : ∀ z y, r ≤ y → y < m → z = m → lt d[y]! d[z]! = false := fun z y e1 e2 e3 => by subst e3; exact lt_asym O (g2 y e1 e2)
  intro i j hi hij hj
  rw [R.get i, R.get j]
  repeat' split
  all_goals first
    | (exfalso; omega)
    | exact hs _ _ (by omega) (by omega) (by omega)
    | exact gA _ _ (by omega) (by omega) (by omega)
    | exact gB _ _ (by omega) (by omega) (by omega)
end
end Go.Proofs.YtepeeahckgpapaaDoor.Q
end
section
set_option linter.unusedVariables false
set_option linter.unusedSimpArgs false
namespace Go.Proofs.YtepeeahckgpapaaDoor.Q
open Go.Sort
section
variable {α : Type} [Inhabited α] {lt : α → α → Bool}
theorem IsRot.none {a m b : Nat} (d : Array α) (h : a = m ∨ m = b) (h1 : a ≤ m) (h2 : m ≤ b) : IsRot a m b d d := by
  refine ⟨rfl, fun k => ?_⟩
  repeat' split
  all_goals first
    | rfl
    | (exfalso; omega)
    | (congr 1; omega)
theorem two_merges (O : SWO lt) {a mid b : Nat} {d1 d2 d3 : Array α} (h1 : a ≤ mid) (h2 : mid ≤ b)
    (hc : ∀ u v, a ≤ u → u < mid → mid ≤ v → v < b → lt d1[v]! d1[u]! = false)
    (r1 : Res lt a mid d1 d2) (s1 : SortedIn lt a mid d2) (r2 : Res lt mid b d2 d3) (s2 : SortedIn lt mid b d3) :
    Res lt a b d1 d3 ∧ SortedIn lt a b d3 := by
  refine ⟨(r1.mono (Nat.le_refl _) h2).trans (r2.mono h1 (Nat.le_refl _)), ?_⟩
  refine sorted_join (sorted_out s1 r2 (Or.inl (Nat.le_refl _))) s2 (fun x y e1 e2 e3 e4 => ?_)
  rw [r2.out x (Or.inl e2)]
  have p1 : ∀ k, a ≤ k → k < mid → ∀ v, mid ≤ v → v < b → lt d1[v]! d2[k]! = false :=
    r1.all (fun x => ∀ v, mid ≤ v → v < b → lt d1[v]! x = false) (fun k k1 k2 v v1 v2 => hc k v k1 k2 v1 v2)
  have p2 : ∀ k, mid ≤ k → k < b → ∀ u, a ≤ u → u < mid → lt d3[k]! d2[u]! = false :=
    r2.all (fun y => ∀ u, a ≤ u → u < mid → lt y d2[u]! = false) (fun k k1 k2 u u1 u2 => by rw [r1.out k (Or.inr k1)]; exact p1 u u1 u2 k k1 k2)
  exact p2 y e3 e4 x e1 e2
theorem symGo_ok (O : SWO lt) : ∀ (N : Nat) (d : Array α) (a m b : Nat), a < m → m < b → b ≤ d.size → b - a ≤ N → SortedIn lt a m d → SortedIn lt m b d →
    Res lt a b d (symGo lt N d a m b) ∧ SortedIn lt a b (symGo lt N d a m b) := by
  intro N
  induction N with
  | zero => intro d a m b h1 h2 _ h4; omega
  | succ N ih =>
    intro d a m b h1 h2 h3 h4 hs1 hs2
    by_cases c1 : m - a = 1
    · exact symGo_one_ok O N d a m b (by omega) h2 h3 hs2
    by_cases c2 : b - m = 1
    · exact symGo_last_ok O N d a m b c1 h1 (by omega) h3 hs1
    obtain ⟨mid, hmid⟩ : ∃ mid, mid = (a + b) / 2 := ⟨_, rfl⟩
    obtain ⟨s0, hs0⟩ : ∃ s0, s0 = if mid < m then mid + m - b else a := ⟨_, rfl⟩
    obtain ⟨r0, hr0⟩ : ∃ r0, r0 = if mid < m then mid else m := ⟨_, rfl⟩
    rw [symGo_rec lt N d a m b c1 c2 mid hmid s0 r0 hs0 hr0 _ rfl]
    have k1 : a ≤ s0 := by rw [hs0]; split <;> omega
    have k2 : s0 ≤ r0 := by rw [hs0, hr0]; split <;> omega
    have k3 : r0 ≤ m := by rw [hr0]; split <;> omega
    have k4 : ∀ c, s0 ≤ c → c < r0 → m ≤ mid + m - 1 - c ∧ mid + m - 1 - c < b ∧ c < m := by
      intro c; rw [hs0, hr0]; split <;> omega
    obtain ⟨q1, q2⟩ := binGo_range (fun c => !lt d[mid + m - 1 - c]! d[c]!) (r0 - s0) s0 r0 k2
    obtain ⟨g1, g2⟩ := binGo_spec (fun c => !lt d[mid + m - 1 - c]! d[c]!) (r0 - s0) s0 r0 k2 (Nat.le_refl _) (fun x y e1 e2 e3 e4 => by
      simp only [Bool.not_eq_true'] at e4 ⊢
      have y1 := k4 y (by omega) e3
      have x1 := k4 x e1 (by omega)
      exact O.ntrans _ _ _ (O.ntrans _ _ _ (hs2 (mid + m - 1 - y) (mid + m - 1 - x) (by omega) (by omega) (by omega)) e4) (hs1 x y (by omega) e2 (by omega)))
    generalize binGo (fun c => !lt d[mid + m - 1 - c]! d[c]!) (r0 - s0) s0 r0 = i at *
    simp only [Bool.not_eq_true', Bool.not_eq_false'] at g1 g2
    obtain ⟨e, he⟩ : ∃ e, e = mid + m - i := ⟨_, rfl⟩
    have k5 : m ≤ e ∧ e ≤ b ∧ i ≤ m ∧ a ≤ i ∧ i ≤ mid ∧ mid ≤ e := by
      revert q1 q2 he; rw [hs0, hr0]; split <;> omega
    obtain ⟨k5a, k5b, k5c, k5d, k5e, k5f⟩ := k5
    have inv : ∀ x y, i ≤ x → x < m → m ≤ y → y < e → lt d[y]! d[x]! = true := by
      intro x y e1 e2 e3 e4
      have hi : i < r0 := by
        revert q2; rw [hr0] at *; split <;> omega
      have := k4 i q1 hi
      have z := g2 i (Nat.le_refl _) hi
      have za : lt d[mid + m - 1 - i]! d[y]! = false := by
        by_cases c : y = mid + m - 1 - i
        · rw [c]; exact O.irrefl _
        · exact hs2 _ _ e3 (by omega) (by omega)
      have zb : lt d[x]! d[i]! = false := by
        by_cases c : x = i
        · rw [c]; exact O.irrefl _
        · exact hs1 _ _ (by omega) (by omega) e2
      exact lt_of_nlt' O zb (lt_of_nlt O za z)
    have low : ∀ u v, a ≤ u → u < i → e ≤ v → v < b → lt d[v]! d[u]! = false := by
      intro u v e1 e2 e3 e4
      have hi : s0 < i := by
        revert q1; rw [hs0] at *; split <;> omega
      have x1 := k4 (i - 1) (by omega) (by omega)
      have z := g1 (i - 1) (by omega) (by omega)
      rw [show mid + m - 1 - (i - 1) = e from by omega] at z x1
      have za : lt d[v]! d[e]! = false := by
        by_cases c : v = e
        · rw [c]; exact O.irrefl _
        · exact hs2 _ _ x1.1 (by omega) e4
      have zb : lt d[i - 1]! d[u]! = false := by
        by_cases c : u = i - 1
        · rw [c]; exact O.irrefl _
        · exact hs1 _ _ e1 (by omega) (by omega)
      exact O.ntrans _ _ _ (O.ntrans _ _ _ za z) zb
    unfold symTail
    simp only [← he]
    obtain ⟨d1, hd1⟩ : ∃ d1, d1 = if i < m ∧ m < e then rotate d i m e else d := ⟨_, rfl⟩
    rw [← hd1]
    have R : IsRot i m e d d1 := by
      rw [hd1]
      split
      · exact rotate_rot d i m e (by omega) (by omega) (by omega)
      · exact IsRot.none d (by omega) k5c k5a
    have R1 : Res lt i e d d1 := R.res O k5c k5a (by omega) inv
    have sz1 : d1.size = d.size := R.size
    have p1 : SortedIn lt a i d1 := fun x y e1 e2 e3 => by
      rw [R.get x, R.get y, if_neg (by omega), if_neg (by omega), if_neg (by omega), if_neg (by omega)]; exact hs1 _ _ e1 e2 (by omega)
    have gL : ∀ k, i ≤ k → k < mid → d1[k]! = d[k + (m - i)]! := fun k e1 e2 => by rw [R.get, if_pos ⟨e1, by omega⟩]
    have gR : ∀ k, mid ≤ k → k < e → d1[k]! = d[k - (e - m)]! := fun k e1 e2 => by rw [R.get, if_neg (by omega), if_pos ⟨by omega, e2⟩]
    have gO : ∀ k, k < i ∨ e ≤ k → d1[k]! = d[k]! := fun k e1 => R1.out k e1
    have p2 : SortedIn lt i mid d1 := fun x y e1 e2 e3 => by
      rw [gL x e1 (by omega), gL y (by omega) e3]; exact hs2 _ _ (by omega) (by omega) (by omega)
    have p3 : SortedIn lt mid e d1 := fun x y e1 e2 e3 => by
      rw [gR x e1 (by omega), gR y (by omega) e3]; exact hs1 _ _ (by omega) (by omega) (by omega)
    have p4 : SortedIn lt e b d1 := fun x y e1 e2 e3 => by
      rw [gO x (by omega), gO y (by omega)]; exact hs2 _ _ (by omega) (by omega) (by omega)
    have hc : ∀ u v, a ≤ u → u < mid → mid ≤ v → v < b → lt d1[v]! d1[u]! = false := by
      intro u v e1 e2 e3 e4
      by_cases cu : u < i
      · rw [gO u (by omega)]
        by_cases cv : v < e
        · rw [gR v e3 cv]; exact hs1 _ _ e1 (by omega) (by omega)
        · rw [gO v (by omega)]; exact low u v e1 cu (by omega) e4
      · rw [gL u (by omega) e2]
        by_cases cv : v < e
        · rw [gR v e3 cv]; exact lt_asym O (inv _ _ (by omega) (by omega) (by omega) (by omega))
        · rw [gO v (by omega)]; exact hs2 _ _ (by omega) (by omega) e4
    obtain ⟨d2, hd2⟩ : ∃ d2, d2 = if a < i ∧ i < mid then symGo lt N d1 a i mid else d1 := ⟨_, rfl⟩
    rw [← hd2]
    have M1 : Res lt a mid d1 d2 ∧ SortedIn lt a mid d2 := by
      rw [hd2]
      split
      · exact ih d1 a i mid (by omega) (by omega) (by omega) (by omega) p1 p2
      · refine ⟨Res.refl _ _ _, ?_⟩
        by_cases c : a < i
        · have : i = mid := by omega
          rw [← this]; exact p1
        · have : a = i := by omega
          rw [this]; exact p2
    have sz2 : d2.size = d1.size := M1.1.size
    have M2 : Res lt mid b d2 (if mid < e ∧ e < b then symGo lt N d2 mid e b else d2) ∧ SortedIn lt mid b (if mid < e ∧ e < b then symGo lt N d2 mid e b else d2) := by
      have p3' := sorted_out p3 M1.1 (Or.inr (Nat.le_refl _))
      have p4' := sorted_out p4 M1.1 (Or.inr (by omega))
      split
      · exact ih d2 mid e b (by omega) (by omega) (by omega) (by omega) p3' p4'
      · refine ⟨Res.refl _ _ _, ?_⟩
        by_cases c : mid < e
        · have : e = b := by omega
          rw [← this]; exact p3'
        · have : mid = e := by omega
          rw [this]; exact p4'
    obtain ⟨T1, T2⟩ := two_merges O (by omega) (by omega) hc M1.1 M1.2 M2.1 M2.2
    exact ⟨(R1.mono k5d k5b).trans T1, T2⟩
inductive Blk (lt : α → α → Bool) (bs n : Nat) (d : Array α) : Nat → Prop
  | last (a : Nat) : n ≤ a + bs → SortedIn lt a n d → Blk lt bs n d a
  | step (a : Nat) : a + bs < n → SortedIn lt a (a + bs) d → Blk lt bs n d (a + bs) → Blk lt bs n d a
theorem Blk.out {bs n : Nat} {d d' : Array α} {a : Nat} (h : Blk lt bs n d a) : ∀ {a' b' : Nat}, Res lt a' b' d d' → b' ≤ a → Blk lt bs n d' a := by
  induction h with
  | last a h1 h2 => intro a' b' r hb; exact Blk.last a h1 (sorted_out h2 r (Or.inr hb))
  | step a h1 h2 h3 ih => intro a' b' r hb; exact Blk.step a h1 (sorted_out h2 r (Or.inr hb)) (ih r (by omega))
theorem mergePass_ok (O : SWO lt) (n bs : Nat) (hbs : 0 < bs) : ∀ (f a : Nat) (d : Array α), n - a ≤ f → a ≤ n → n ≤ d.size → Blk lt bs n d a →
    Res lt a n d (mergePass lt n bs f a d) ∧ Blk lt (2 * bs) n (mergePass lt n bs f a d) a := by
  intro f
  induction f with
  | zero =>
    intro a d h1 h2 h3 h4
    rw [mergePass]
    exact ⟨Res.refl _ _ _, Blk.last a (by omega) (fun i j e1 e2 e3 => by omega)⟩
  | succ f ih =>
    intro a d h1 h2 h3 h4
    rw [mergePass]
    split
    · rename_i c
      cases h4 with
      | last _ l1 l2 => omega
      | step _ l1 l2 l3 =>
        have s2 : SortedIn lt (a + bs) (a + 2 * bs) d := by
          cases l3 with
          | last _ m1 m2 => rw [show a + 2 * bs = n from by omega]; exact m2
          | step _ m1 m2 m3 => rw [show a + 2 * bs = a + bs + bs from by omega]; exact m2
        obtain ⟨R, S⟩ := symGo_ok O n d a (a + bs) (a + 2 * bs) (by omega) (by omega) (by omega) (by omega) l2 s2
        have hb : Blk lt bs n (symGo lt n d a (a + bs) (a + 2 * bs)) (a + 2 * bs) := by
          cases l3 with
          | last _ m1 m2 => exact Blk.last _ (by omega) (fun i j e1 e2 e3 => by omega)
          | step _ m1 m2 m3 =>
            rw [show a + bs + bs = a + 2 * bs from by omega] at m3
            exact m3.out R (Nat.le_refl _)
        obtain ⟨R2, B2⟩ := ih (a + 2 * bs) _ (by omega) c (by rw [R.size]; exact h3) hb
        refine ⟨(R.mono (Nat.le_refl _) c).trans (R2.mono (by omega) (Nat.le_refl _)), ?_⟩
        have S' := sorted_out S R2 (Or.inl (Nat.le_refl _))
        by_cases e : a + 2 * bs < n
        · exact Blk.step a e S' B2
        · refine Blk.last a (by omega) ?_
          exact fun i j e1 e2 e3 => S' i j e1 e2 (by omega)
    · split
      · rename_i c c2
        cases h4 with
        | last _ l1 l2 => omega
        | step _ l1 l2 l3 =>
          have s2 : SortedIn lt (a + bs) n d := by
            cases l3 with
            | last _ m1 m2 => exact m2
            | step _ m1 m2 m3 => omega
          obtain ⟨R, S⟩ := symGo_ok O n d a (a + bs) n (by omega) c2 h3 (by omega) l2 s2
          exact ⟨R, Blk.last a (by omega) S⟩
      · refine ⟨Res.refl _ _ _, ?_⟩
        cases h4 with
        | last _ l1 l2 => exact Blk.last a (by omega) l2
        | step _ l1 l2 l3 => omega
theorem passes_ok (O : SWO lt) (n : Nat) : ∀ (f bs : Nat) (d : Array α), 0 < bs → n ≤ bs + f → n ≤ d.size → Blk lt bs n d 0 →
    Res lt 0 n d (passes lt n f bs d) ∧ SortedIn lt 0 n (passes lt n f bs d) := by
  intro f
  induction f with
  | zero =>
    intro bs d h0 h1 h2 h3
    rw [passes]
    refine ⟨Res.refl _ _ _, ?_⟩
    cases h3 with
    | last _ l1 l2 => exact l2
    | step _ l1 l2 l3 => omega
  | succ f ih =>
    intro bs d h0 h1 h2 h3
    rw [passes]
    split
    · obtain ⟨R, B⟩ := mergePass_ok O n bs h0 n 0 d (by omega) (by omega) h2 h3
      obtain ⟨R2, S2⟩ := ih (2 * bs) _ (by omega) (by omega) (by rw [R.size]; exact h2) B
      exact ⟨R.trans R2, S2⟩
    · refine ⟨Res.refl _ _ _, ?_⟩
      cases h3 with
      | last _ l1 l2 => exact l2
      | step _ l1 l2 l3 => omega
end
end Go.Proofs.YtepeeahckgpapaaDoor.Q
end
section
set_option linter.unusedVariables false
set_option linter.unusedSimpArgs false
namespace Go.Proofs.YtepeeahckgpapaaDoor.Q
open Go.Sort
section
variable {α : Type} [Inhabited α] {lt : α → α → Bool}
theorem blocksGo_ok (O : SWO lt) (n : Nat) : ∀ (f a : Nat) (d : Array α), n - a < f → a ≤ n → n ≤ d.size →
    Res lt a n d (blocksGo lt n f a d) ∧ Blk lt 20 n (blocksGo lt n f a d) a := by
  intro f
  induction f with
  | zero => intro a d h1; omega
  | succ f ih =>
    intro a d h1 h2 h3
    rw [blocksGo]
    split
    · rename_i c
      have R := insertionSort_res O d a (a + 20) (by omega)
      have S := (insertionSort_holds O d a (a + 20) (by omega) (by omega)).2
      obtain ⟨R2, B2⟩ := ih (a + 20) _ (by omega) c (by rw [R.size]; exact h3)
      refine ⟨(R.mono (Nat.le_refl _) c).trans (R2.mono (by omega) (Nat.le_refl _)), ?_⟩
      have S' := sorted_out S R2 (Or.inl (Nat.le_refl _))
      by_cases e : a + 20 < n
      · exact Blk.step a e S' B2
      · exact Blk.last a (by omega) (fun i j e1 e2 e3 => S' i j e1 e2 (by omega))
    · exact ⟨insertionSort_res O d a n h3, Blk.last a (by omega) (insertionSort_holds O d a n h2 h3).2⟩
theorem stable_ok (O : SWO lt) (d : Array α) : Res lt 0 d.size d (stable lt d d.size) ∧ SortedIn lt 0 d.size (stable lt d d.size) := by
  unfold stable
  obtain ⟨R, B⟩ := blocksGo_ok O d.size (d.size + 1) 0 d (by omega) (by omega) (Nat.le_refl _)
  obtain ⟨R2, S2⟩ := passes_ok O d.size d.size 20 _ (by omega) (by omega) (by rw [R.size]; exact Nat.le_refl _) B
  exact ⟨R.trans R2, S2⟩
def SortedL (lt : α → α → Bool) (l : List α) : Prop := l.Pairwise (fun x y => lt y x = false)
theorem sortedL_of {d : Array α} (h : SortedIn lt 0 d.size d) : SortedL lt d.toList := by
  unfold SortedL
  rw [List.pairwise_iff_getElem]
  intro i j hi hj hij
  have := h i j (by omega) hij (by simpa using hj)
  rw [getElem!_pos d i (by simpa using hi), getElem!_pos d j (by simpa using hj)] at this
  simpa using this
omit [Inhabited α] in
theorem sorted_unique (O : SWO lt) : ∀ (l l' : List α), SortedL lt l → SortedL lt l' → (∀ z, l.filter (eqv lt z) = l'.filter (eqv lt z)) → l = l' := by
  intro l
  induction l with
  | nil =>
    intro l' _ _ h
    cases l' with
    | nil => rfl
    | cons y ys =>
      have := h y
      rw [List.filter_cons_of_pos (by simp [eqv, O.irrefl])] at this
      simp at this
  | cons x xs ih =>
    intro l' s1 s2 h
    cases l' with
    | nil =>
      have := h x
      rw [List.filter_cons_of_pos (by simp [eqv, O.irrefl])] at this
      simp at this
    | cons y ys =>
      have sx := List.pairwise_cons.1 s1
      have sy := List.pairwise_cons.1 s2
      have hyx : lt y x = false := by
        have hy : y ∈ (y :: ys).filter (eqv lt y) := by rw [List.filter_cons_of_pos (by simp [eqv, O.irrefl])]; simp
        rw [← h y] at hy
        have := (List.mem_filter.1 hy).1
        rcases List.mem_cons.1 this with e | e
        · rw [e]; exact O.irrefl _
        · exact sx.1 y e
      have hxy : lt x y = false := by
        have hx : x ∈ (x :: xs).filter (eqv lt x) := by rw [List.filter_cons_of_pos (by simp [eqv, O.irrefl])]; simp
        rw [h x] at hx
        have := (List.mem_filter.1 hx).1
        rcases List.mem_cons.1 this with e | e
        · rw [e]; exact O.irrefl _
        · exact sy.1 x e
      have e0 := h x
      rw [List.filter_cons_of_pos (by simp [eqv, O.irrefl]), List.filter_cons_of_pos (by simp [eqv, hxy, hyx])] at e0
      have exy : x = y := (List.cons.inj e0).1
      subst exy
      congr 1
      refine ih ys sx.2 sy.2 (fun z => ?_)
      have := h z
      by_cases c : eqv lt z x = true
      · rw [List.filter_cons_of_pos c, List.filter_cons_of_pos c] at this
        exact (List.cons.inj this).2
      · rw [List.filter_cons_of_neg c, List.filter_cons_of_neg c] at this
        exact this
def insR (lt : α → α → Bool) (x : α) : List α → List α
  | [] => [x]
  | y :: ys => if lt x y = true then y :: insR lt x ys else x :: y :: ys
def insAll (lt : α → α → Bool) (acc : List α) (l : List α) : List α := l.foldl (fun r x => insR lt x r) acc
omit [Inhabited α] in
theorem insR_filter (O : SWO lt) (x : α) (z : α) : ∀ r : List α, (insR lt x r).filter (eqv lt z) = (x :: r).filter (eqv lt z) := by
  intro r
  induction r with
  | nil => rfl
  | cons y ys ih =>
    rw [insR]
    split
    · rename_i c
      by_cases cy : eqv lt z y = true
      · have cx : ¬ eqv lt z x = true := by
          intro cx
          simp only [eqv, Bool.and_eq_true, Bool.not_eq_true'] at cx cy
          rw [O.ntrans _ _ _ cx.2 cy.1] at c
          cases c
        rw [List.filter_cons_of_pos cy, ih, List.filter_cons_of_neg cx, List.filter_cons_of_neg cx, List.filter_cons_of_pos cy]
      · rw [List.filter_cons_of_neg cy, ih]
        by_cases cx : eqv lt z x = true
        · rw [List.filter_cons_of_pos cx, List.filter_cons_of_pos cx, List.filter_cons_of_neg cy]
        · rw [List.filter_cons_of_neg cx, List.filter_cons_of_neg cx, List.filter_cons_of_neg cy]
    · rfl
omit [Inhabited α] in
theorem insR_mem (x : α) : ∀ (r : List α) (z : α), z ∈ insR lt x r → z = x ∨ z ∈ r := by
  intro r
  induction r with
  | nil => intro z h; simpa [insR] using h
  | cons y ys ih =>
    intro z h
    rw [insR] at h
    split at h
    · rcases List.mem_cons.1 h with e | e
      · exact Or.inr (by simp [e])
      · rcases ih z e with e2 | e2
        · exact Or.inl e2
        · exact Or.inr (by simp [e2])
    · simpa using h
omit [Inhabited α] in
theorem insR_sorted (O : SWO lt) (x : α) : ∀ r : List α, r.Pairwise (fun x y => lt x y = false) → (insR lt x r).Pairwise (fun x y => lt x y = false) := by
  intro r
  induction r with
  | nil => intro _; simp [insR]
  | cons y ys ih =>
    intro h
    have h' := List.pairwise_cons.1 h
    rw [insR]
    split
    · rename_i c
      refine List.pairwise_cons.2 ⟨fun z hz => ?_, ih h'.2⟩
      rcases insR_mem x ys z hz with e | e
      · rw [e]; exact lt_asym O c
      · exact h'.1 z e
    · rename_i c
      have c' : lt x y = false := by simpa using c
      refine List.pairwise_cons.2 ⟨fun z hz => ?_, h⟩
      rcases List.mem_cons.1 hz with e | e
      · rw [e]; exact c'
      · exact O.ntrans _ _ _ c' (h'.1 z e)
omit [Inhabited α] in
theorem insAll_ok (O : SWO lt) : ∀ (l acc : List α), acc.Pairwise (fun x y => lt x y = false) →
    (insAll lt acc l).Pairwise (fun x y => lt x y = false) ∧ ∀ z, (insAll lt acc l).reverse.filter (eqv lt z) = (acc.reverse ++ l).filter (eqv lt z) := by
  intro l
  induction l with
  | nil => intro acc h; exact ⟨h, fun z => by simp [insAll]⟩
  | cons x xs ih =>
    intro acc h
    obtain ⟨h1, h2⟩ := ih (insR lt x acc) (insR_sorted O x acc h)
    refine ⟨h1, fun z => ?_⟩
    have e := h2 z
    unfold insAll at e ⊢
    rw [List.foldl_cons, e, List.filter_append, List.filter_append, List.filter_reverse, insR_filter O, ← List.filter_reverse, List.reverse_cons, List.filter_append]
    rw [show x :: xs = [x] ++ xs from rfl, List.filter_append (l₁ := [x]), List.append_assoc]
theorem stable_eq_ins (O : SWO lt) (l : List α) : (stable lt l.toArray l.length).toList = (insAll lt [] l).reverse := by
  obtain ⟨R, S⟩ := stable_ok O l.toArray
  have hs : l.toArray.size = l.length := by simp
  rw [hs] at R S
  obtain ⟨i1, i2⟩ := insAll_ok O l [] List.Pairwise.nil
  refine sorted_unique O _ _ (sortedL_of (by rw [R.size, hs]; exact S)) ?_ (fun z => ?_)
  · unfold SortedL; rw [List.pairwise_reverse]; exact i1
  · rw [R.filt z, i2 z]; simp
end
end Go.Proofs.YtepeeahckgpapaaDoor.Q
end
section
namespace Go.Proofs.YtepeeahckgpapaaDoor.Q
open Go.RowKit Go.Proofs.YtepeeahckgpapaaDoorW.PrintWords Go.Proofs.YtepeeahckgpapaaDoorW.PrintLast Go.Proofs.YtepeeahckgpapaaDoorW.PrintMore
attribute [local go_sem] max2_int max_two
set_option linter.unusedVariables false
set_option linter.unusedSimpArgs false
def impl_isSyllable.f (a0 : Int) : Option (Bool) := (impl_in.f a0 12288 23459).bind fun t101 => (some t101)
set_option maxHeartbeats 8000000 in
set_option maxRecDepth 100000 in
theorem impl_isSyllable.calls (a0 : Int) (r : Bool) (w : World) (h : impl_isSyllable.f a0 = some r) :
  Calls Tryd.prog 123 #[.int .i64 a0] w fun e w' => e = .returned (.bool r) ∧ Drawn0 w w' := by
 have H : ((impl_in.f a0 12288 23459).bind fun t101 => (some t101)) = some r := h
 clear h
 replace H := Option.bind_eq_some_iff.mp H
 obtain ⟨t101, A20, H⟩ := H
 replace H : (some t101) = some r := H
 have A2 := Aside0.mk A20
 clear A20
 obtain rfl := Option.some.inj H
 go_enter Tryd.func123, Tryd.ntmps123
 go_wp2_with (first | ((with_reducible refine gate_callee (f := 97) rfl ?_); refine goesL_ (some 4) rfl rfl Tryd.func97 (by kernel_rfl) rfl #[.int .i64 a0, .int .i64 12288, .int .i64 23459] rfl (by (try simp only [List.map_toArray, List.map_cons, List.map_nil]); first | done | rfl | (simp only [List.length_drop, List.length_take]; rfl)) ?_; (with_reducible refine (impl_in.calls a0 12288 23459 t101 _ A2.out).mono ?_); rintro e w' ⟨rfl, ⟨nd, rfl⟩⟩; refine ⟨_, rfl, ?_⟩))
 go_ret
 exact ⟨by first | rfl | (simp; done) | (simp [*]; done), by repeat (first | exact Drawn0.refl _ | apply Drawn0.step)⟩
end Go.Proofs.YtepeeahckgpapaaDoor.Q
end
section
namespace Go.Proofs.YtepeeahckgpapaaDoor.Q
open Go.RowKit Go.Proofs.YtepeeahckgpapaaDoorW.PrintWords Go.Proofs.YtepeeahckgpapaaDoorW.PrintLast Go.Proofs.YtepeeahckgpapaaDoorW.PrintMore
attribute [local go_sem] max2_int max_two
set_option linter.unusedVariables false
set_option linter.unusedSimpArgs false
def impl_isOpen.f (a0 : Int) : Option (Bool) := (impl_isSyllable.f a0).bind fun t101 => (if t101 = true then (some ((Int.tmod (wrap64 (a0 - 12288)) 28) == 0)) else (some false))
set_option maxHeartbeats 8000000 in
set_option maxRecDepth 100000 in
theorem impl_isOpen.calls (a0 : Int) (r : Bool) (w : World) (h : impl_isOpen.f a0 = some r) :
  Calls Tryd.prog 218 #[.int .i64 a0] w fun e w' => e = .returned (.bool r) ∧ Drawn0 w w' := by
 have H : ((impl_isSyllable.f a0).bind fun t101 => (if t101 = true then (some ((Int.tmod (wrap64 (a0 - 12288)) 28) == 0)) else (some false))) = some r := h
 clear h
 replace H := Option.bind_eq_some_iff.mp H
 obtain ⟨t101, A20, H⟩ := H
 replace H : (if t101 = true then (some ((Int.tmod (wrap64 (a0 - 12288)) 28) == 0)) else (some false)) = some r := H
 have A2 := Aside0.mk A20
 clear A20
 by_cases c3 : t101 = true
 ·subst c3
  have H1 : (some ((Int.tmod (wrap64 (a0 - 12288)) 28) == 0)) = some r := by rw [if_pos rfl] at H; exact H
  clear H
  have H := H1
  clear H1
  obtain rfl := Option.some.inj H
  go_enter Tryd.func218, Tryd.ntmps218
  go_wp2_with (first | ((with_reducible refine gate_callee (f := 123) rfl ?_); refine goesL_ (some 4) rfl rfl Tryd.func123 (by kernel_rfl) rfl #[.int .i64 a0] rfl (by (try simp only [List.map_toArray, List.map_cons, List.map_nil]); first | done | rfl | (simp only [List.length_drop, List.length_take]; rfl)) ?_; (with_reducible refine (impl_isSyllable.calls a0 true _ A2.out).mono ?_); rintro e w' ⟨rfl, ⟨nd, rfl⟩⟩; refine ⟨_, rfl, ?_⟩))
  go_ret
  exact ⟨by first | rfl | (simp; done) | (simp [*]; done), by repeat (first | exact Drawn0.refl _ | apply Drawn0.step)⟩
 ·replace c3 := Bool.eq_false_iff.mpr c3
  subst c3
  have H1 : (some false) = some r := by rw [if_neg (show ¬ (false = true) by decide)] at H; exact H
  clear H
  have H := H1
  clear H1
  obtain rfl := Option.some.inj H
  go_enter Tryd.func218, Tryd.ntmps218
  go_wp2_with (first | ((with_reducible refine gate_callee (f := 123) rfl ?_); refine goesL_ (some 4) rfl rfl Tryd.func123 (by kernel_rfl) rfl #[.int .i64 a0] rfl (by (try simp only [List.map_toArray, List.map_cons, List.map_nil]); first | done | rfl | (simp only [List.length_drop, List.length_take]; rfl)) ?_; (with_reducible refine (impl_isSyllable.calls a0 false _ A2.out).mono ?_); rintro e w' ⟨rfl, ⟨nd, rfl⟩⟩; refine ⟨_, rfl, ?_⟩))
  go_ret
  exact ⟨by first | rfl | (simp; done) | (simp [*]; done), by repeat (first | exact Drawn0.refl _ | apply Drawn0.step)⟩
end Go.Proofs.YtepeeahckgpapaaDoor.Q
end
section
namespace Go.Proofs.YtepeeahckgpapaaDoor.Q
open Go.RowKit Go.Proofs.YtepeeahckgpapaaDoorW.PrintWords Go.Proofs.YtepeeahckgpapaaDoorW.PrintLast Go.Proofs.YtepeeahckgpapaaDoorW.PrintMore
attribute [local go_sem] max2_int max_two
set_option linter.unusedVariables false
set_option linter.unusedSimpArgs false
mutual
def impl_Compose.j0 : Nat → Int → Int → Int → Option (Int)
 | 0, _, _, _ => none
 | k + 1, x0, x1, x5 => (impl_in.f x0 97 122).bind fun t102 => (if t102 = true then (impl_Compose.j1 k x0 x1 (wrap64 ((wrap64 (x0 - 97)) + 26))) else (impl_Compose.j1 k x0 x1 x5))
def impl_Compose.j1 : Nat → Int → Int → Int → Option (Int)
 | 0, _, _, _ => none
 | k + 1, x0, x1, x5 => if x5 ≥ 0 then ((impl_in.f x1 4096 4103).bind fun t103 => (impl_Compose.j2 k x0 x1 x5 t103)) else (impl_Compose.j2 k x0 x1 x5 false)
def impl_Compose.j2 : Nat → Int → Int → Int → Bool → Option (Int)
 | 0, _, _, _, _ => none
 | k + 1, x0, x1, x5, x15 => if x15 = true then (some (wrap64 ((wrap64 ((wrap64 (8192 + (wrap64 (8 * x5)))) + x1)) - 4096))) else (if x5 ≥ 0 then ((impl_in.f x1 4112 4119).bind fun t104 => (impl_Compose.j3 k x0 x1 x5 t104)) else (impl_Compose.j3 k x0 x1 x5 false))
def impl_Compose.j3 : Nat → Int → Int → Int → Bool → Option (Int)
 | 0, _, _, _, _ => none
 | k + 1, x0, x1, x5, x28 => if x28 = true then (some (wrap64 ((wrap64 ((wrap64 (8704 + (wrap64 (8 * x5)))) + x1)) - 4112))) else ((impl_in.f x0 8704 9119).bind fun t105 => (if t105 = true then (impl_Compose.j4 k x0 x1 (x1 == 4096)) else (impl_Compose.j4 k x0 x1 false)))
def impl_Compose.j4 : Nat → Int → Int → Bool → Option (Int)
 | 0, _, _, _ => none
 | k + 1, x0, x1, x41 => if x41 = true then (some (wrap64 (x0 + 512))) else ((impl_in.f x0 1792 1810).bind fun t106 => (if t106 = true then ((impl_in.f x1 1824 1844).bind fun t107 => (impl_Compose.j5 k x0 x1 t107)) else (impl_Compose.j5 k x0 x1 false)))
def impl_Compose.j5 : Nat → Int → Int → Bool → Option (Int)
 | 0, _, _, _ => none
 | k + 1, x0, x1, x50 => if x50 = true then (some (wrap64 (12288 + (wrap64 ((wrap64 ((wrap64 ((wrap64 (21 * (wrap64 (x0 - 1792)))) + x1)) - 1824)) * 28))))) else ((impl_isOpen.f x0).bind fun t108 => (if t108 = true then ((impl_in.f x1 1857 1883).bind fun t109 => (if t109 = true then (some (wrap64 ((wrap64 (x0 + x1)) - 1856))) else (some (-1)))) else (some (-1))))
end
def impl_Compose.f (k : Nat) (a0 : Int) (a1 : Int) : Option (Int) := (impl_in.f a0 65 90).bind fun t101 => (if t101 = true then (impl_Compose.j0 k a0 a1 (wrap64 (a0 - 65))) else (impl_Compose.j0 k a0 a1 (-1)))
set_option maxHeartbeats 8000000 in
set_option maxRecDepth 100000 in
theorem impl_Compose.calls (k : Nat) (a0 : Int) (a1 : Int) (r : Int) (w : World) (h : impl_Compose.f k a0 a1 = some r) :
  Calls Tryd.prog 170 #[.int .i64 a0, .int .i64 a1] w fun e w' => e = .returned (.int .i64 r) ∧ Drawn0 w w' := by
 have H : ((impl_in.f a0 65 90).bind fun t101 => (if t101 = true then (impl_Compose.j0 k a0 a1 (wrap64 (a0 - 65))) else (impl_Compose.j0 k a0 a1 (-1)))) = some r := h
 clear h
 replace H := Option.bind_eq_some_iff.mp H
 obtain ⟨t101, A30, H⟩ := H
 replace H : (if t101 = true then (impl_Compose.j0 k a0 a1 (wrap64 (a0 - 65))) else (impl_Compose.j0 k a0 a1 (-1))) = some r := H
 have A3 := Aside0.mk A30
 clear A30
 have HC4 := Aside0.mk H
 clear H
 go_enter Tryd.func170, Tryd.ntmps170
 go_upto_if 7 with (first | ((with_reducible refine gate_callee (f := 97) rfl ?_); refine goesL_ (some 7) rfl rfl Tryd.func97 (by kernel_rfl) rfl #[.int .i64 a0, .int .i64 65, .int .i64 90] rfl (by (try simp only [List.map_toArray, List.map_cons, List.map_nil]); first | done | rfl | (simp only [List.length_drop, List.length_take]; rfl)) ?_; (with_reducible refine (impl_in.calls a0 65 90 t101 _ A3.out).mono ?_); rintro e w' ⟨rfl, ⟨nd, rfl⟩⟩; refine ⟨_, rfl, ?_⟩))
 (try simp only [Act.put, List.setIfInBounds_toArray, List.set_cons_zero, List.set_cons_succ])
 go_cut [5] (fun v5 wc => ∃ (kq : Nat) (x5_3 : Int), v5 = .int .i64 x5_3 ∧ Aside0 (impl_Compose.j0 kq a0 a1 x5_3 = some r) ∧ Aside0 (kq ≤ k) ∧ Drawn0 w wc)
 case first =>
  have H := HC4.out
  clear HC4
  by_cases c5 : t101 = true
  ·subst c5
   have H1 : (impl_Compose.j0 k a0 a1 (wrap64 (a0 - 65))) = some r := by rw [if_pos rfl] at H; exact H
   clear H
   have H := H1
   clear H1
   have H' := Aside0.mk H
   clear H
   go_wp2
   go_meet
   case rel => exact ⟨_, (wrap64 (a0 - 65)), (by first | rfl | (simp; done) | (simp [*]; done)), H', ⟨by first | omega | exact Nat.le_refl _⟩, by repeat (first | exact Drawn0.refl _ | apply Drawn0.step)⟩
  ·replace c5 := Bool.eq_false_iff.mpr c5
   subst c5
   have H1 : (impl_Compose.j0 k a0 a1 (-1)) = some r := by rw [if_neg (show ¬ (false = true) by decide)] at H; exact H
   clear H
   have H := H1
   clear H1
   have H' := Aside0.mk H
   clear H
   go_wp2
   go_meet
   case rel => exact ⟨_, ((-1)), (by first | rfl | (simp; done) | (simp [*]; done)), H', ⟨by first | omega | exact Nat.le_refl _⟩, by repeat (first | exact Drawn0.refl _ | apply Drawn0.step)⟩
 case rest =>
  clear HC4
  try clear c1
  try clear p2
  try clear c5
  obtain ⟨kq, x5_3, rfl, HA, HJ3, ⟨mc3, rfl⟩⟩ := hcut
  cases kq with
  | zero => exact absurd HA.out (by simp [impl_Compose.j0])
  | succ kj3 =>
   have H := HA.out
   clear HA
   simp only [impl_Compose.j0] at H
   replace H := Option.bind_eq_some_iff.mp H
   obtain ⟨t102, A60, H⟩ := H
   replace H : (if t102 = true then (impl_Compose.j1 kj3 a0 a1 (wrap64 ((wrap64 (a0 - 97)) + 26))) else (impl_Compose.j1 kj3 a0 a1 x5_3)) = some r := H
   have A6 := Aside0.mk A60
   clear A60
   have HC7 := Aside0.mk H
   clear H
   go_upto_if 11 with (first | ((with_reducible refine gate_callee (f := 97) rfl ?_); refine goesL_ (some 11) rfl rfl Tryd.func97 (by kernel_rfl) rfl #[.int .i64 a0, .int .i64 97, .int .i64 122] rfl (by (try simp only [List.map_toArray, List.map_cons, List.map_nil]); first | done | rfl | (simp only [List.length_drop, List.length_take]; rfl)) ?_; (with_reducible refine (impl_in.calls a0 97 122 t102 _ A6.out).mono ?_); rintro e w' ⟨rfl, ⟨nd, rfl⟩⟩; refine ⟨_, rfl, ?_⟩))
   (try simp only [Act.put, List.setIfInBounds_toArray, List.set_cons_zero, List.set_cons_succ])
   go_cut [5] (fun v5 wc => ∃ (kq : Nat) (x5_6 : Int), v5 = .int .i64 x5_6 ∧ Aside0 (impl_Compose.j1 kq a0 a1 x5_6 = some r) ∧ Aside0 (kq ≤ kj3) ∧ Drawn0 w wc)
   case first =>
    have H := HC7.out
    clear HC7
    by_cases c8 : t102 = true
    ·subst c8
     have H1 : (impl_Compose.j1 kj3 a0 a1 (wrap64 ((wrap64 (a0 - 97)) + 26))) = some r := by rw [if_pos rfl] at H; exact H
     clear H
     have H := H1
     clear H1
     have H' := Aside0.mk H
     clear H
     go_wp2
     go_meet
     case rel => exact ⟨_, (wrap64 ((wrap64 (a0 - 97)) + 26)), (by first | rfl | (simp; done) | (simp [*]; done)), H', ⟨by have := HJ3.out; first | omega | exact Nat.le_refl _⟩, by repeat (first | exact Drawn0.refl _ | apply Drawn0.step)⟩
    ·replace c8 := Bool.eq_false_iff.mpr c8
     subst c8
     have H1 : (impl_Compose.j1 kj3 a0 a1 x5_3) = some r := by rw [if_neg (show ¬ (false = true) by decide)] at H; exact H
     clear H
     have H := H1
     clear H1
     have H' := Aside0.mk H
     clear H
     go_wp2
     go_meet
     case rel => exact ⟨_, (x5_3), (by first | rfl | (simp; done) | (simp [*]; done)), H', ⟨by have := HJ3.out; first | omega | exact Nat.le_refl _⟩, by repeat (first | exact Drawn0.refl _ | apply Drawn0.step)⟩
   case rest =>
    clear HC7
    try clear c1
    try clear p2
    try clear c3
    try clear c5
    try clear p6
    try clear c8
    try clear p2
    obtain ⟨kq, x5_6, rfl, HA, HJ6, ⟨mc6, rfl⟩⟩ := hcut
    cases kq with
    | zero => exact absurd HA.out (by simp [impl_Compose.j1])
    | succ kj6 =>
     have H := HA.out
     clear HA
     simp only [impl_Compose.j1] at H
     have HC9 := Aside0.mk H
     clear H
     go_upto_region 6 with (fail)
     go_cut [15] (fun v15 wc => ∃ (kq : Nat) (x15_8 : Bool), v15 = .bool x15_8 ∧ Aside0 (impl_Compose.j2 kq a0 a1 x5_6 x15_8 = some r) ∧ Aside0 (kq ≤ kj6) ∧ Drawn0 w wc)
     case first =>
      have H := HC9.out
      clear HC9
      by_cases c10 : x5_6 ≥ 0
      ·rw [if_pos c10] at H
       have c10b0 : decide (0 ≤ x5_6) = true := decide_eq_true c10
       clear c10
       (first | rw [c10b0] | (simp only [i64_w, i32_w]; rw [c10b0]) | skip)
       replace H := Option.bind_eq_some_iff.mp H
       obtain ⟨t103, A110, H⟩ := H
       replace H : (impl_Compose.j2 kj6 a0 a1 x5_6 t103) = some r := H
       have A11 := Aside0.mk A110
       clear A110
       have H' := Aside0.mk H
       clear H
       go_wp2_with (first | (go_at_call 97; (with_reducible refine (impl_in.calls a1 4096 4103 t103 _ A11.out).mono ?_); rintro e w' ⟨rfl, ⟨nd, rfl⟩⟩))
       go_meet
       case rel => exact ⟨_, (t103), (by first | rfl | (simp; done) | (simp [*]; done)), H', ⟨by have := HJ3.out; have := HJ6.out; first | omega | exact Nat.le_refl _⟩, by repeat (first | exact Drawn0.refl _ | apply Drawn0.step)⟩
      ·rw [if_neg c10] at H
       have c10b0 : decide (0 ≤ x5_6) = false := decide_eq_false c10
       clear c10
       (first | rw [c10b0] | (simp only [i64_w, i32_w]; rw [c10b0]) | skip)
       have H' := Aside0.mk H
       clear H
       go_wp2
       go_meet
       case rel => exact ⟨_, (false), (by first | rfl | (simp; done) | (simp [*]; done)), H', ⟨by have := HJ3.out; have := HJ6.out; first | omega | exact Nat.le_refl _⟩, by repeat (first | exact Drawn0.refl _ | apply Drawn0.step)⟩
     case rest =>
      clear HC9
      try clear c1
      try clear p2
      try clear c3
      try clear c5
      try clear c6
      try clear p6
      try clear c8
      try clear c9
      try clear c10
      try clear c10b0
      try clear p2
      try clear p6
      obtain ⟨kq, x15_8, rfl, HA, HJ8, ⟨mc8, rfl⟩⟩ := hcut
      cases kq with
      | zero => exact absurd HA.out (by simp [impl_Compose.j2])
      | succ kj8 =>
       have H := HA.out
       clear HA
       simp only [impl_Compose.j2] at H
       by_cases c12 : x15_8 = true
       ·subst c12
        have H1 : (some (wrap64 ((wrap64 ((wrap64 (8192 + (wrap64 (8 * x5_6)))) + a1)) - 4096))) = some r := by rw [if_pos rfl] at H; exact H
        clear H
        have H := H1
        clear H1
        obtain rfl := Option.some.inj H
        go_wp2
        go_ret
        exact ⟨by first | rfl | (simp; done) | (simp [*]; done), by repeat (first | exact Drawn0.refl _ | apply Drawn0.step)⟩
       ·replace c12 := Bool.eq_false_iff.mpr c12
        subst c12
        have H1 : (if x5_6 ≥ 0 then ((impl_in.f a1 4112 4119).bind fun t104 => (impl_Compose.j3 kj8 a0 a1 x5_6 t104)) else (impl_Compose.j3 kj8 a0 a1 x5_6 false)) = some r := by rw [if_neg (show ¬ (false = true) by decide)] at H; exact H
        clear H
        have H := H1
        clear H1
        have HC13 := Aside0.mk H
        clear H
        go_upto_region 8 with (fail)
        go_cut [28] (fun v28 wc => ∃ (kq : Nat) (x28_12 : Bool), v28 = .bool x28_12 ∧ Aside0 (impl_Compose.j3 kq a0 a1 x5_6 x28_12 = some r) ∧ Aside0 (kq ≤ kj8) ∧ Drawn0 w wc)
        case first =>
         have H := HC13.out
         clear HC13
         by_cases c14 : x5_6 ≥ 0
         ·rw [if_pos c14] at H
          have c14b0 : decide (0 ≤ x5_6) = true := decide_eq_true c14
          clear c14
          (first | rw [c14b0] | (simp only [i64_w, i32_w]; rw [c14b0]) | skip)
          replace H := Option.bind_eq_some_iff.mp H
          obtain ⟨t104, A150, H⟩ := H
          replace H : (impl_Compose.j3 kj8 a0 a1 x5_6 t104) = some r := H
          have A15 := Aside0.mk A150
          clear A150
          have H' := Aside0.mk H
          clear H
          go_wp2_with (first | (go_at_call 97; (with_reducible refine (impl_in.calls a1 4112 4119 t104 _ A15.out).mono ?_); rintro e w' ⟨rfl, ⟨nd, rfl⟩⟩))
          go_meet
          case rel => exact ⟨_, (t104), (by first | rfl | (simp; done) | (simp [*]; done)), H', ⟨by have := HJ3.out; have := HJ6.out; have := HJ8.out; first | omega | exact Nat.le_refl _⟩, by repeat (first | exact Drawn0.refl _ | apply Drawn0.step)⟩
         ·rw [if_neg c14] at H
          have c14b0 : decide (0 ≤ x5_6) = false := decide_eq_false c14
          clear c14
          (first | rw [c14b0] | (simp only [i64_w, i32_w]; rw [c14b0]) | skip)
          have H' := Aside0.mk H
          clear H
          go_wp2
          go_meet
          case rel => exact ⟨_, (false), (by first | rfl | (simp; done) | (simp [*]; done)), H', ⟨by have := HJ3.out; have := HJ6.out; have := HJ8.out; first | omega | exact Nat.le_refl _⟩, by repeat (first | exact Drawn0.refl _ | apply Drawn0.step)⟩
        case rest =>
         clear HC13
         try clear c1
         try clear p2
         try clear c3
         try clear c5
         try clear c6
         try clear p6
         try clear c8
         try clear c9
         try clear c10
         try clear c10b0
         try clear c12
         try clear c14
         try clear c14b0
         try clear p2
         try clear p6
         obtain ⟨kq, x28_12, rfl, HA, HJ12, ⟨mc12, rfl⟩⟩ := hcut
         cases kq with
         | zero => exact absurd HA.out (by simp [impl_Compose.j3])
         | succ kj12 =>
          have H := HA.out
          clear HA
          simp only [impl_Compose.j3] at H
          by_cases c16 : x28_12 = true
          ·subst c16
           have H1 : (some (wrap64 ((wrap64 ((wrap64 (8704 + (wrap64 (8 * x5_6)))) + a1)) - 4112))) = some r := by rw [if_pos rfl] at H; exact H
           clear H
           have H := H1
           clear H1
           obtain rfl := Option.some.inj H
           go_wp2
           go_ret
           exact ⟨by first | rfl | (simp; done) | (simp [*]; done), by repeat (first | exact Drawn0.refl _ | apply Drawn0.step)⟩
          ·replace c16 := Bool.eq_false_iff.mpr c16
           subst c16
           have H1 : ((impl_in.f a0 8704 9119).bind fun t105 => (if t105 = true then (impl_Compose.j4 kj12 a0 a1 (a1 == 4096)) else (impl_Compose.j4 kj12 a0 a1 false))) = some r := by rw [if_neg (show ¬ (false = true) by decide)] at H; exact H
           clear H
           have H := H1
           clear H1
           have HC17 := Aside0.mk H
           clear H
           go_upto_region 10 with (fail)
           go_cut [41] (fun v41 wc => ∃ (kq : Nat) (x41_16 : Bool), v41 = .bool x41_16 ∧ Aside0 (impl_Compose.j4 kq a0 a1 x41_16 = some r) ∧ Aside0 (kq ≤ kj12) ∧ Drawn0 w wc)
           case first =>
            have H := HC17.out
            clear HC17
            replace H := Option.bind_eq_some_iff.mp H
            obtain ⟨t105, A180, H⟩ := H
            replace H : (if t105 = true then (impl_Compose.j4 kj12 a0 a1 (a1 == 4096)) else (impl_Compose.j4 kj12 a0 a1 false)) = some r := H
            have A18 := Aside0.mk A180
            clear A180
            by_cases c19 : t105 = true
            ·subst c19
             have H1 : (impl_Compose.j4 kj12 a0 a1 (a1 == 4096)) = some r := by rw [if_pos rfl] at H; exact H
             clear H
             have H := H1
             clear H1
             have H' := Aside0.mk H
             clear H
             go_wp2_with (first | ((with_reducible refine gate_callee (f := 97) rfl ?_); refine goesL_ (some 43) rfl rfl Tryd.func97 (by kernel_rfl) rfl #[.int .i64 a0, .int .i64 8704, .int .i64 9119] rfl (by (try simp only [List.map_toArray, List.map_cons, List.map_nil]); first | done | rfl | (simp only [List.length_drop, List.length_take]; rfl)) ?_; (with_reducible refine (impl_in.calls a0 8704 9119 true _ A18.out).mono ?_); rintro e w' ⟨rfl, ⟨nd, rfl⟩⟩; refine ⟨_, rfl, ?_⟩))
             go_meet
             case rel => exact ⟨_, ((a1 == 4096)), (by first | rfl | (simp; done) | (simp [*]; done)), H', ⟨by have := HJ3.out; have := HJ6.out; have := HJ8.out; have := HJ12.out; first | omega | exact Nat.le_refl _⟩, by repeat (first | exact Drawn0.refl _ | apply Drawn0.step)⟩
            ·replace c19 := Bool.eq_false_iff.mpr c19
             subst c19
             have H1 : (impl_Compose.j4 kj12 a0 a1 false) = some r := by rw [if_neg (show ¬ (false = true) by decide)] at H; exact H
             clear H
             have H := H1
             clear H1
             have H' := Aside0.mk H
             clear H
             go_wp2_with (first | ((with_reducible refine gate_callee (f := 97) rfl ?_); refine goesL_ (some 43) rfl rfl Tryd.func97 (by kernel_rfl) rfl #[.int .i64 a0, .int .i64 8704, .int .i64 9119] rfl (by (try simp only [List.map_toArray, List.map_cons, List.map_nil]); first | done | rfl | (simp only [List.length_drop, List.length_take]; rfl)) ?_; (with_reducible refine (impl_in.calls a0 8704 9119 false _ A18.out).mono ?_); rintro e w' ⟨rfl, ⟨nd, rfl⟩⟩; refine ⟨_, rfl, ?_⟩))
             go_meet
             case rel => exact ⟨_, (false), (by first | rfl | (simp; done) | (simp [*]; done)), H', ⟨by have := HJ3.out; have := HJ6.out; have := HJ8.out; have := HJ12.out; first | omega | exact Nat.le_refl _⟩, by repeat (first | exact Drawn0.refl _ | apply Drawn0.step)⟩
           case rest =>
            clear HC17
            try clear c1
            try clear p2
            try clear c3
            try clear c5
            try clear c6
            try clear p6
            try clear c8
            try clear c9
            try clear c10
            try clear c10b0
            try clear c12
            try clear c14
            try clear c14b0
            try clear c16
            try clear c17
            try clear c19
            try clear p2
            try clear p6
            obtain ⟨kq, x41_16, rfl, HA, HJ16, ⟨mc16, rfl⟩⟩ := hcut
            cases kq with
            | zero => exact absurd HA.out (by simp [impl_Compose.j4])
            | succ kj16 =>
             have H := HA.out
             clear HA
             simp only [impl_Compose.j4] at H
             by_cases c20 : x41_16 = true
             ·subst c20
              have H1 : (some (wrap64 (a0 + 512))) = some r := by rw [if_pos rfl] at H; exact H
              clear H
              have H := H1
              clear H1
              obtain rfl := Option.some.inj H
              go_wp2
              go_ret
              exact ⟨by first | rfl | (simp; done) | (simp [*]; done), by repeat (first | exact Drawn0.refl _ | apply Drawn0.step)⟩
             ·replace c20 := Bool.eq_false_iff.mpr c20
              subst c20
              have H1 : ((impl_in.f a0 1792 1810).bind fun t106 => (if t106 = true then ((impl_in.f a1 1824 1844).bind fun t107 => (impl_Compose.j5 kj16 a0 a1 t107)) else (impl_Compose.j5 kj16 a0 a1 false))) = some r := by rw [if_neg (show ¬ (false = true) by decide)] at H; exact H
              clear H
              have H := H1
              clear H1
              have HC21 := Aside0.mk H
              clear H
              go_upto_region 12 with (fail)
              go_cut [50] (fun v50 wc => ∃ (kq : Nat) (x50_20 : Bool), v50 = .bool x50_20 ∧ Aside0 (impl_Compose.j5 kq a0 a1 x50_20 = some r) ∧ Aside0 (kq ≤ kj16) ∧ Drawn0 w wc)
              case first =>
               have H := HC21.out
               clear HC21
               replace H := Option.bind_eq_some_iff.mp H
               obtain ⟨t106, A220, H⟩ := H
               replace H : (if t106 = true then ((impl_in.f a1 1824 1844).bind fun t107 => (impl_Compose.j5 kj16 a0 a1 t107)) else (impl_Compose.j5 kj16 a0 a1 false)) = some r := H
               have A22 := Aside0.mk A220
               clear A220
               by_cases c23 : t106 = true
               ·subst c23
                have H1 : ((impl_in.f a1 1824 1844).bind fun t107 => (impl_Compose.j5 kj16 a0 a1 t107)) = some r := by rw [if_pos rfl] at H; exact H
                clear H
                have H := H1
                clear H1
                replace H := Option.bind_eq_some_iff.mp H
                obtain ⟨t107, A240, H⟩ := H
                replace H : (impl_Compose.j5 kj16 a0 a1 t107) = some r := H
                have A24 := Aside0.mk A240
                clear A240
                have H' := Aside0.mk H
                clear H
                go_wp2_with (first | ((with_reducible refine gate_callee (f := 97) rfl ?_); refine goesL_ (some 52) rfl rfl Tryd.func97 (by kernel_rfl) rfl #[.int .i64 a0, .int .i64 1792, .int .i64 1810] rfl (by (try simp only [List.map_toArray, List.map_cons, List.map_nil]); first | done | rfl | (simp only [List.length_drop, List.length_take]; rfl)) ?_; (with_reducible refine (impl_in.calls a0 1792 1810 true _ A22.out).mono ?_); rintro e w' ⟨rfl, ⟨nd, rfl⟩⟩; refine ⟨_, rfl, ?_⟩) | (go_at_call 97; (with_reducible refine (impl_in.calls a1 1824 1844 t107 _ A24.out).mono ?_); rintro e w' ⟨rfl, ⟨nd, rfl⟩⟩))
                go_meet
                case rel => exact ⟨_, (t107), (by first | rfl | (simp; done) | (simp [*]; done)), H', ⟨by have := HJ3.out; have := HJ6.out; have := HJ8.out; have := HJ12.out; have := HJ16.out; first | omega | exact Nat.le_refl _⟩, by repeat (first | exact Drawn0.refl _ | apply Drawn0.step)⟩
               ·replace c23 := Bool.eq_false_iff.mpr c23
                subst c23
                have H1 : (impl_Compose.j5 kj16 a0 a1 false) = some r := by rw [if_neg (show ¬ (false = true) by decide)] at H; exact H
                clear H
                have H := H1
                clear H1
                have H' := Aside0.mk H
                clear H
                go_wp2_with (first | ((with_reducible refine gate_callee (f := 97) rfl ?_); refine goesL_ (some 52) rfl rfl Tryd.func97 (by kernel_rfl) rfl #[.int .i64 a0, .int .i64 1792, .int .i64 1810] rfl (by (try simp only [List.map_toArray, List.map_cons, List.map_nil]); first | done | rfl | (simp only [List.length_drop, List.length_take]; rfl)) ?_; (with_reducible refine (impl_in.calls a0 1792 1810 false _ A22.out).mono ?_); rintro e w' ⟨rfl, ⟨nd, rfl⟩⟩; refine ⟨_, rfl, ?_⟩))
                go_meet
                case rel => exact ⟨_, (false), (by first | rfl | (simp; done) | (simp [*]; done)), H', ⟨by have := HJ3.out; have := HJ6.out; have := HJ8.out; have := HJ12.out; have := HJ16.out; first | omega | exact Nat.le_refl _⟩, by repeat (first | exact Drawn0.refl _ | apply Drawn0.step)⟩
              case rest =>
               clear HC21
               try clear c1
               try clear c2
               try clear p2
               try clear c3
               try clear c5
               try clear c6
               try clear p6
               try clear c8
               try clear c9
               try clear c10
               try clear c10b0
               try clear c12
               try clear c14
               try clear c14b0
               try clear c16
               try clear c17
               try clear c19
               try clear c20
               try clear c23
               try clear p2
               try clear p6
               obtain ⟨kq, x50_20, rfl, HA, HJ20, ⟨mc20, rfl⟩⟩ := hcut
               cases kq with
               | zero => exact absurd HA.out (by simp [impl_Compose.j5])
               | succ kj20 =>
                have H := HA.out
                clear HA
                simp only [impl_Compose.j5] at H
                by_cases c25 : x50_20 = true
                ·subst c25
                 have H1 : (some (wrap64 (12288 + (wrap64 ((wrap64 ((wrap64 ((wrap64 (21 * (wrap64 (a0 - 1792)))) + a1)) - 1824)) * 28))))) = some r := by rw [if_pos rfl] at H; exact H
                 clear H
                 have H := H1
                 clear H1
                 obtain rfl := Option.some.inj H
                 go_wp2
                 go_ret
                 exact ⟨by first | rfl | (simp; done) | (simp [*]; done), by repeat (first | exact Drawn0.refl _ | apply Drawn0.step)⟩
                ·replace c25 := Bool.eq_false_iff.mpr c25
                 subst c25
                 have H1 : ((impl_isOpen.f a0).bind fun t108 => (if t108 = true then ((impl_in.f a1 1857 1883).bind fun t109 => (if t109 = true then (some (wrap64 ((wrap64 (a0 + a1)) - 1856))) else (some (-1)))) else (some (-1)))) = some r := by rw [if_neg (show ¬ (false = true) by decide)] at H; exact H
                 clear H
                 have H := H1
                 clear H1
                 replace H := Option.bind_eq_some_iff.mp H
                 obtain ⟨t108, A260, H⟩ := H
                 replace H : (if t108 = true then ((impl_in.f a1 1857 1883).bind fun t109 => (if t109 = true then (some (wrap64 ((wrap64 (a0 + a1)) - 1856))) else (some (-1)))) else (some (-1))) = some r := H
                 have A26 := Aside0.mk A260
                 clear A260
                 by_cases c27 : t108 = true
                 ·subst c27
                  have H1 : ((impl_in.f a1 1857 1883).bind fun t109 => (if t109 = true then (some (wrap64 ((wrap64 (a0 + a1)) - 1856))) else (some (-1)))) = some r := by rw [if_pos rfl] at H; exact H
                  clear H
                  have H := H1
                  clear H1
                  replace H := Option.bind_eq_some_iff.mp H
                  obtain ⟨t109, A280, H⟩ := H
                  replace H : (if t109 = true then (some (wrap64 ((wrap64 (a0 + a1)) - 1856))) else (some (-1))) = some r := H
                  have A28 := Aside0.mk A280
                  clear A280
                  by_cases c29 : t109 = true
                  ·subst c29
                   have H1 : (some (wrap64 ((wrap64 (a0 + a1)) - 1856))) = some r := by rw [if_pos rfl] at H; exact H
                   clear H
                   have H := H1
                   clear H1
                   obtain rfl := Option.some.inj H
                   go_wp2_with (first | ((with_reducible refine gate_callee (f := 218) rfl ?_); refine goesL_ (some 67) rfl rfl Tryd.func218 (by kernel_rfl) rfl #[.int .i64 a0] rfl (by (try simp only [List.map_toArray, List.map_cons, List.map_nil]); first | done | rfl | (simp only [List.length_drop, List.length_take]; rfl)) ?_; (with_reducible refine (impl_isOpen.calls a0 true _ A26.out).mono ?_); rintro e w' ⟨rfl, ⟨nd, rfl⟩⟩; refine ⟨_, rfl, ?_⟩) | (go_at_call 97; (with_reducible refine (impl_in.calls a1 1857 1883 true _ A28.out).mono ?_); rintro e w' ⟨rfl, ⟨nd, rfl⟩⟩))
                   go_ret
                   exact ⟨by first | rfl | (simp; done) | (simp [*]; done), by repeat (first | exact Drawn0.refl _ | apply Drawn0.step)⟩
                  ·replace c29 := Bool.eq_false_iff.mpr c29
                   subst c29
                   have H1 : (some (-1)) = some r := by rw [if_neg (show ¬ (false = true) by decide)] at H; exact H
                   clear H
                   have H := H1
                   clear H1
                   obtain rfl := Option.some.inj H
                   go_wp2_with (first | ((with_reducible refine gate_callee (f := 218) rfl ?_); refine goesL_ (some 67) rfl rfl Tryd.func218 (by kernel_rfl) rfl #[.int .i64 a0] rfl (by (try simp only [List.map_toArray, List.map_cons, List.map_nil]); first | done | rfl | (simp only [List.length_drop, List.length_take]; rfl)) ?_; (with_reducible refine (impl_isOpen.calls a0 true _ A26.out).mono ?_); rintro e w' ⟨rfl, ⟨nd, rfl⟩⟩; refine ⟨_, rfl, ?_⟩) | (go_at_call 97; (with_reducible refine (impl_in.calls a1 1857 1883 false _ A28.out).mono ?_); rintro e w' ⟨rfl, ⟨nd, rfl⟩⟩))
                   go_ret
                   exact ⟨by first | rfl | (simp; done) | (simp [*]; done), by repeat (first | exact Drawn0.refl _ | apply Drawn0.step)⟩
                 ·replace c27 := Bool.eq_false_iff.mpr c27
                  subst c27
                  have H1 : (some (-1)) = some r := by rw [if_neg (show ¬ (false = true) by decide)] at H; exact H
                  clear H
                  have H := H1
                  clear H1
                  obtain rfl := Option.some.inj H
                  go_wp2_with (first | ((with_reducible refine gate_callee (f := 218) rfl ?_); refine goesL_ (some 67) rfl rfl Tryd.func218 (by kernel_rfl) rfl #[.int .i64 a0] rfl (by (try simp only [List.map_toArray, List.map_cons, List.map_nil]); first | done | rfl | (simp only [List.length_drop, List.length_take]; rfl)) ?_; (with_reducible refine (impl_isOpen.calls a0 false _ A26.out).mono ?_); rintro e w' ⟨rfl, ⟨nd, rfl⟩⟩; refine ⟨_, rfl, ?_⟩))
                  go_ret
                  exact ⟨by first | rfl | (simp; done) | (simp [*]; done), by repeat (first | exact Drawn0.refl _ | apply Drawn0.step)⟩
end Go.Proofs.YtepeeahckgpapaaDoor.Q
end
section
namespace Go.Proofs.YtepeeahckgpapaaDoor.Q
open Go.Shelf Go.RowKit Go.Lib Go.Sort
set_option maxHeartbeats 4000000 in
set_option maxRecDepth 1000000 in
theorem swapRange_int64 (enc : Int → Value) (g : Nat) (cb : Array Value) (blk off cap a b n : Nat) (A B M : Int) (hA : A = a) (hB : B = b) (hM : M = n) (d0 d : Array Int) (w0 w : World) (sz : Nat) (hz : sz = d.size)
    (R : Row1 enc w0 blk off d0) (hs : d0.size = d.size) (S : SW enc w0 blk off d w) (ha : a + n ≤ d.size) (hb : b + n ≤ d.size) (hsz : d.size < 4611686018427387904) :
    Calls Tryd.prog 266 #[.slice (some ⟨blk, off, none⟩) sz cap, .int .i64 A, .int .i64 B, .int .i64 M, .func (.func g) #[] cb] w fun e w' => e = .returned (.tuple #[]) ∧ SW enc w0 blk off (swapRange d a b n) w' := by
  subst hA hB hM hz
  have hcl0 := R.hO.cells
  simp only [Value.cells] at hcl0
  have hst := R.hO.store Tryd.prog
  have S0 : Aside (SW enc w0 blk off d w) := S
  clear S
  go_enter Tryd.func266, Tryd.ntmps266
  go_wp2
  go_loopg [10] n (fun kx s10 wr => ∃ (i : Nat) (dk : Array Int), s10 = .int .i64 i ∧ i ≤ n ∧ n - i ≤ kx ∧ dk.size = d.size ∧ Aside (SW enc w0 blk off dk wr) ∧ Hid (swapGo a b i (n - i) dk = swapRange d a b n))
  case atStart => exact ⟨0, d, rfl, by omega, by omega, rfl, S0, rfl⟩
  case round =>
    clear S0
    obtain ⟨i, dk, rfl, hi, hkx, hds, S1, HQ⟩ := hrel
    by_cases hlt : i < n
    · have hltz : (i : Int) < (n : Int) := by omega
      go_wp2_with fail
      obtain ⟨iN, hiN⟩ : ∃ q, q = a + i := ⟨_, rfl⟩
      obtain ⟨jN, hjN⟩ : ∃ q, q = b + i := ⟨_, rfl⟩
      have ea : ((a : Int) + (i : Int)).toNat = iN := by omega
      have pa : (0 : Int) ≤ (a : Int) + (i : Int) := by omega
      have ba : (a : Int) + (i : Int) < (d.size : Int) := by omega
      have ra : IntKind.i64.wrap ((a : Int) + (i : Int)) = (a : Int) + (i : Int) := by rw [IntKind.wrap_i64]; omega
      have ec : ((b : Int) + (i : Int)).toNat = jN := by omega
      have pc : (0 : Int) ≤ (b : Int) + (i : Int) := by omega
      have bc : (b : Int) + (i : Int) < (d.size : Int) := by omega
      have rc : IntKind.i64.wrap ((b : Int) + (i : Int)) = (b : Int) + (i : Int) := by rw [IntKind.wrap_i64]; omega
      obtain ⟨x, hx⟩ : ∃ x, x = dk[a + i]! := ⟨_, rfl⟩
      obtain ⟨y, hy⟩ : ∃ x, x = dk[b + i]! := ⟨_, rfl⟩
      have S2 : Aside (SW enc w0 blk off (swp dk (a + i) (b + i)) ((wr.setCell ⟨blk, off + iN, none⟩ (enc y)).setCell ⟨blk, off + jN, none⟩ (enc x)).drew) := by rw [hiN, hjN, hx, hy]; exact S1.out.swapped R (a + i) (b + i) (by omega) (by omega)
      have ca := S1.out.c1 R (by omega) (a + i) (by omega)
      have cb' := S1.out.c1 R (by omega) (b + i) (by omega)
      have fa := S1.out.f1 R (by omega) (a + i) (by omega)
      have fb := S1.out.f1 R (by omega) (b + i) (by omega)
      obtain ⟨u, cc⟩ := S1.out.c2 R (by omega) (a + i) (b + i) (by omega) (by omega) (enc y)
      rw [← hjN, ← hiN] at cc
      rw [← hx, ← hiN] at ca
      rw [← hy, ← hjN] at cb'
      rw [← hiN] at fa
      rw [← hjN] at fb
      clear S1 hx hy hiN hjN
      go_wp2_with fail
      go_region
      clear ca cb' cc fa fb
      generalize ((wr.setCell ⟨blk, off + iN, none⟩ (enc y)).setCell ⟨blk, off + jN, none⟩ (enc x)).drew = w2 at S2 ⊢
      clear ea ec
      go_wp2
      go_roundg (n - (i + 1))
      case measure => omega
      case rel => exact ⟨i + 1, swp dk (a + i) (b + i), by first | rfl | go_num, by omega, Nat.le_refl _, by rw [size_swp]; exact hds, S2, (show Hid _ from by have h_ := HQ.out; rw [show n - i = (n - (i + 1)) + 1 from by omega, swapGo] at h_; exact h_)⟩
    · have hltz : ¬ (i : Int) < (n : Int) := by omega
      go_wp2
      go_end0
      refine ⟨rfl, ?_⟩
      have h_ := HQ.out
      rw [show n - i = 0 from by omega, swapGo] at h_
      rw [← h_]
      exact S1.out
end Go.Proofs.YtepeeahckgpapaaDoor.Q
end
section
namespace Go.Proofs.YtepeeahckgpapaaDoor.Q
open Go.Shelf Go.RowKit Go.Lib Go.Sort
set_option maxHeartbeats 16000000 in
set_option maxRecDepth 1000000 in
theorem insertion_int64 (enc : Int → Value) (cf : Int → Int → Int) (g : Nat) (cb : Array Value) (blk off cap a b : Nat) (A B : Int) (hA : A = a) (hB : B = b) (d0 d : Array Int) (w0 w : World) (sz : Nat) (hz : sz = d.size)
    (eg : ∀ args w, (callFunc g args).run Tryd.prog w = .ok (.enter g args) w) (hcmp : CmpLays1 Tryd.prog g cb enc cf blk off d0.size w0) (R : Row1 enc w0 blk off d0) (hs : d0.size = d.size) (S : SW enc w0 blk off d w) (hab : a ≤ b) (hb : b ≤ d.size) (hsz : d.size < 4611686018427387904) :
    Calls Tryd.prog 249 #[.slice (some ⟨blk, off, none⟩) sz cap, .int .i64 A, .int .i64 B, .func (.func g) #[] cb] w fun e w' => e = .returned (.tuple #[]) ∧ SW enc w0 blk off (Sort.insertionSort (ltOf cf) d a b) w' := by
  subst hA hB hz
  have mixed : Tryd.prog.follows .mixedOrders = true := by kernel_rfl
  have hcl0 := R.hO.cells
  simp only [Value.cells] at hcl0
  have hst := R.hO.store Tryd.prog
  have HC : Aside _ := hcmp
  have S0 : Aside (SW enc w0 blk off d w) := S
  clear S
  clear hcmp
  go_enter Tryd.func249, Tryd.ntmps249
  go_wp2
  go_loopg [8] (b - a) (fun g1 vi wr => ∃ (i : Nat) (dk : Array Int), vi = .int .i64 i ∧ a < i ∧ i ≤ b + 1 ∧ b + 1 - i ≤ g1 + 1 ∧ dk.size = d.size ∧ Aside (SW enc w0 blk off dk wr) ∧ Hid (insOuter (ltOf cf) a b i dk = insOuter (ltOf cf) a b (a + 1) d))
  case atStart => exact ⟨a + 1, d, by go_num, by omega, by omega, by omega, rfl, S0, rfl⟩
  case round =>
    clear S0
    obtain ⟨i, dk, rfl, hai, hib, hg1, hsk, S1, HO⟩ := hrel
    by_cases hlt : i < b
    · have hltz : (i : Int) < (b : Int) := by omega
      go_wp2
      go_loopg [9] i (fun g2 vj wr2 => ∃ (j : Nat) (dj : Array Int), vj = .int .i64 j ∧ a ≤ j ∧ j ≤ i ∧ j ≤ g2 ∧ dj.size = d.size ∧ Aside (SW enc w0 blk off dj wr2) ∧ Hid (insInner (ltOf cf) a j dj = insInner (ltOf cf) a i dk))
      case atStart => exact ⟨i, dk, rfl, by omega, Nat.le_refl _, Nat.le_refl _, hsk, S1, rfl⟩
      case round =>
        clear S1
        obtain ⟨j, dj, rfl, haj, hji, hg2, hsj, SJ, HI⟩ := hrel
        have out : (j ≤ a ∨ (ltOf cf) dj[j]! dj[j - 1]! = false) → Hid (insOuter (ltOf cf) a b (i + 1) dj = insOuter (ltOf cf) a b (a + 1) d) := fun hs => by
          show _ = _
          rw [← HO.out, insOuter_go _ _ _ _ _ hlt, ← HI.out, insInner_stop _ _ _ _ hs]
        have OUT : Aside _ := out
        clear out
        by_cases hja : a < j
        · have hjaz : (a : Int) < (j : Int) := by omega
          obtain ⟨jp, hjp⟩ : ∃ q, q + 1 = j := ⟨j - 1, by omega⟩
          have zjp : (j : Int) = (jp : Int) + 1 := by omega
          have hjad : decide ((jp : Int) + 1 > (a : Int)) = true := decide_eq_true (by omega)
          have hjaz' : (a : Int) < (jp : Int) + 1 := by omega
          cases hlv : (ltOf cf) dj[j]! dj[j - 1]! with
          | true =>
            obtain ⟨iN1193, hiN1193⟩ : ∃ q, q = j := ⟨_, rfl⟩
            obtain ⟨jN1193, hjN1193⟩ : ∃ q, q = j - 1 := ⟨_, rfl⟩
            have ea1193 : ((jp : Int) + 1).toNat = iN1193 := by omega
            have pa1193 : (0 : Int) ≤ (jp : Int) + 1 := by omega
            have ba1193 : (jp : Int) + 1 < (d.size : Int) := by omega
            have ra1193 : IntKind.i64.wrap ((jp : Int) + 1) = (jp : Int) + 1 := by rw [IntKind.wrap_i64]; omega
            have ec1193 : ((jp : Int)).toNat = jN1193 := by omega
            have pc1193 : (0 : Int) ≤ (jp : Int) := by omega
            have bc1193 : (jp : Int) < (d.size : Int) := by omega
            have rc1193 : IntKind.i64.wrap ((jp : Int)) = (jp : Int) := by rw [IntKind.wrap_i64]; omega
            obtain ⟨x1193, hx1193⟩ : ∃ x, x = dj[j]! := ⟨_, rfl⟩
            obtain ⟨y1193, hy1193⟩ : ∃ x, x = dj[j - 1]! := ⟨_, rfl⟩
            have l1193a := SJ.out.cl R (by omega) (j) (by omega)
            have l1193b := SJ.out.cl R (by omega) (j - 1) (by omega)
            rw [← hx1193, ← hiN1193] at l1193a
            rw [← hy1193, ← hjN1193] at l1193b
            have hc1193 := SJ.out.cmp HC.out (by omega) x1193 y1193
            have hv1193 : cf x1193 y1193 < 0 := by rw [hx1193, hy1193]; exact of_decide_eq_true hlv
            have hd1193 : decide (cf x1193 y1193 < 0) = true := decide_eq_true hv1193
            clear hx1193 hy1193 hiN1193 hjN1193
            go_wp2_with fail
            go_quiet_grown (first | (go_at_fn g; refine Calls.grown_of (hc1193 _ _)))
            have S2 : Aside (SW enc w0 blk off dj (grow (wr.drewN nq) osq)) := SJ.out.grown nq osq
            clear l1193a l1193b hc1193 SJ
            generalize grow (wr.drewN nq) osq = w2 at S2 ⊢
            clear nq osq
            clear ea1193 ec1193
            go_wp2_with fail
            obtain ⟨iN1194, hiN1194⟩ : ∃ q, q = j := ⟨_, rfl⟩
            obtain ⟨jN1194, hjN1194⟩ : ∃ q, q = j - 1 := ⟨_, rfl⟩
            have ea1194 : ((jp : Int) + 1).toNat = iN1194 := by omega
            have pa1194 : (0 : Int) ≤ (jp : Int) + 1 := by omega
            have ba1194 : (jp : Int) + 1 < (d.size : Int) := by omega
            have ra1194 : IntKind.i64.wrap ((jp : Int) + 1) = (jp : Int) + 1 := by rw [IntKind.wrap_i64]; omega
            have ec1194 : ((jp : Int)).toNat = jN1194 := by omega
            have pc1194 : (0 : Int) ≤ (jp : Int) := by omega
            have bc1194 : (jp : Int) < (d.size : Int) := by omega
            have rc1194 : IntKind.i64.wrap ((jp : Int)) = (jp : Int) := by rw [IntKind.wrap_i64]; omega
            obtain ⟨x1194, hx1194⟩ : ∃ x, x = dj[j]! := ⟨_, rfl⟩
            obtain ⟨y1194, hy1194⟩ : ∃ x, x = dj[j - 1]! := ⟨_, rfl⟩
            have S3 : Aside (SW enc w0 blk off (swp dj (j) (j - 1)) ((w2.setCell ⟨blk, off + iN1194, none⟩ (enc y1194)).setCell ⟨blk, off + jN1194, none⟩ (enc x1194)).drew) := by rw [hiN1194, hjN1194, hx1194, hy1194]; exact S2.out.swapped R (j) (j - 1) (by omega) (by omega)
            have c1194a := S2.out.c1 R (by omega) (j) (by omega)
            have c1194b := S2.out.c1 R (by omega) (j - 1) (by omega)
            have f1194a := S2.out.f1 R (by omega) (j) (by omega)
            have f1194b := S2.out.f1 R (by omega) (j - 1) (by omega)
            obtain ⟨u1194, c1194c⟩ := S2.out.c2 R (by omega) (j) (j - 1) (by omega) (by omega) (enc y1194)
            rw [← hjN1194, ← hiN1194] at c1194c
            rw [← hx1194, ← hiN1194] at c1194a
            rw [← hy1194, ← hjN1194] at c1194b
            rw [← hiN1194] at f1194a
            rw [← hjN1194] at f1194b
            clear S2 hx1194 hy1194 hiN1194 hjN1194
            go_wp2_with fail
            go_region
            clear c1194a c1194b c1194c f1194a f1194b
            generalize ((w2.setCell ⟨blk, off + iN1194, none⟩ (enc y1194)).setCell ⟨blk, off + jN1194, none⟩ (enc x1194)).drew = w3 at S3 ⊢
            clear ea1194 ec1194
            go_wp2
            go_roundg (j - 1)
            case measure => omega
            case rel => exact ⟨j - 1, swp dj j (j - 1), by first | rfl | go_num | (congr 1; omega), by omega, by omega, Nat.le_refl _, by rw [size_swp]; exact hsj, S3, (show Hid _ from by rw [← HI.out, insInner_go (ltOf cf) a j dj hja hlv]; exact rfl)⟩
          | false =>
            obtain ⟨iN1195, hiN1195⟩ : ∃ q, q = j := ⟨_, rfl⟩
            obtain ⟨jN1195, hjN1195⟩ : ∃ q, q = j - 1 := ⟨_, rfl⟩
            have ea1195 : ((jp : Int) + 1).toNat = iN1195 := by omega
            have pa1195 : (0 : Int) ≤ (jp : Int) + 1 := by omega
            have ba1195 : (jp : Int) + 1 < (d.size : Int) := by omega
            have ra1195 : IntKind.i64.wrap ((jp : Int) + 1) = (jp : Int) + 1 := by rw [IntKind.wrap_i64]; omega
            have ec1195 : ((jp : Int)).toNat = jN1195 := by omega
            have pc1195 : (0 : Int) ≤ (jp : Int) := by omega
            have bc1195 : (jp : Int) < (d.size : Int) := by omega
            have rc1195 : IntKind.i64.wrap ((jp : Int)) = (jp : Int) := by rw [IntKind.wrap_i64]; omega
            obtain ⟨x1195, hx1195⟩ : ∃ x, x = dj[j]! := ⟨_, rfl⟩
            obtain ⟨y1195, hy1195⟩ : ∃ x, x = dj[j - 1]! := ⟨_, rfl⟩
            have l1195a := SJ.out.cl R (by omega) (j) (by omega)
            have l1195b := SJ.out.cl R (by omega) (j - 1) (by omega)
            rw [← hx1195, ← hiN1195] at l1195a
            rw [← hy1195, ← hjN1195] at l1195b
            have hc1195 := SJ.out.cmp HC.out (by omega) x1195 y1195
            have hv1195 : ¬ cf x1195 y1195 < 0 := by rw [hx1195, hy1195]; exact of_decide_eq_false hlv
            have hd1195 : decide (cf x1195 y1195 < 0) = false := decide_eq_false hv1195
            clear hx1195 hy1195 hiN1195 hjN1195
            go_wp2_with fail
            go_quiet_grown (first | (go_at_fn g; refine Calls.grown_of (hc1195 _ _)))
            have S2 : Aside (SW enc w0 blk off dj (grow (wr.drewN nq) osq)) := SJ.out.grown nq osq
            clear l1195a l1195b hc1195 SJ
            generalize grow (wr.drewN nq) osq = w2 at S2 ⊢
            clear nq osq
            clear ea1195 ec1195
            go_wp2
            go_roundg (b - (i + 1))
            case measure => omega
            case rel => exact ⟨i + 1, dj, by go_num, by omega, by omega, by omega, hsj, S2, OUT.out (Or.inr hlv)⟩
        ·
          have hjaz : decide ((j : Int) > (a : Int)) = false := decide_eq_false (by omega)
          have hjaz' : ¬ (a : Int) < (j : Int) := by omega
          go_wp2_with fail
          go_region
          have S2 : Aside (SW enc w0 blk off dj wr.drew) := SJ.out.drew
          clear SJ
          generalize wr.drew = w2 at S2 ⊢
          go_wp2
          go_roundg (b - (i + 1))
          case measure => omega
          case rel => exact ⟨i + 1, dj, by go_num, by omega, by omega, by omega, hsj, S2, OUT.out (Or.inl (by omega))⟩
    ·
      have hltz : ¬ (i : Int) < (b : Int) := by omega
      go_wp2
      go_end0
      exact ⟨rfl, by unfold Sort.insertionSort; rw [← HO.out, insOuter_stop _ _ _ _ _ hlt]; exact S1.out⟩
end Go.Proofs.YtepeeahckgpapaaDoor.Q
end
section
set_option linter.unusedVariables false
set_option linter.unusedSimpArgs false
namespace Go.Proofs.YtepeeahckgpapaaDoor.Q
open Go.Shelf Go.RowKit Go.Lib Go.Sort
set_option maxHeartbeats 16000000 in
set_option maxRecDepth 1000000 in
theorem rotate_int64 (enc : Int → Value) (cf : Int → Int → Int) (g : Nat) (cb : Array Value) (blk off cap a m b : Nat) (A M B : Int) (hA : A = a) (hM : M = m) (hB : B = b) (d0 d : Array Int) (w0 w : World) (sz : Nat) (hz : sz = d.size)
    (eg : ∀ args w, (callFunc g args).run Tryd.prog w = .ok (.enter g args) w) (hcmp : CmpLays1 Tryd.prog g cb enc cf blk off d0.size w0) (R : Row1 enc w0 blk off d0) (hs : d0.size = d.size) (S : SW enc w0 blk off d w) (ham : a < m) (hmb : m < b) (hb : b ≤ d.size) (hsz : d.size < 4611686018427387904) :
    Calls Tryd.prog 262 #[.slice (some ⟨blk, off, none⟩) sz cap, .int .i64 A, .int .i64 M, .int .i64 B, .func (.func g) #[] cb] w fun e w' => e = .returned (.tuple #[]) ∧ SW enc w0 blk off (rotate d a m b) w' := by
  subst hA hM hB hz
  have mixed : Tryd.prog.follows .mixedOrders = true := by kernel_rfl
  have hcl0 := R.hO.cells
  simp only [Value.cells] at hcl0
  have hst := R.hO.store Tryd.prog
  have HC : Aside (CmpLays1 Tryd.prog g cb enc cf blk off d0.size w0) := hcmp
  clear hcmp
  have S0 : Aside (SW enc w0 blk off d w) := S
  clear S
  go_enter Tryd.func262, Tryd.ntmps262
  go_wp2
  go_loopg [10, 11] (b - a) (fun kx s10 s11 wr => ∃ (i j : Nat) (dk : Array Int), s10 = .int .i64 i ∧ s11 = .int .i64 j ∧ 0 < i ∧ 0 < j ∧ i ≤ m - a ∧ j ≤ b - m ∧ i + j ≤ kx ∧ dk.size = d.size ∧ Aside (SW enc w0 blk off dk wr) ∧ Hid (rotGo m (i + j) i j dk = rotate d a m b))
  case atStart => exact ⟨m - a, b - m, d, by first | rfl | (congr 1; omega), by first | rfl | (congr 1; omega), by omega, by omega, by omega, by omega, by omega, rfl, S0, Lib.hid (by unfold rotate; rw [show m - a + (b - m) = b - a from by omega])⟩
  case round =>
    clear S0
    obtain ⟨i, j, dk, rfl, rfl, hi0, hj0, hi, hj, hkx, hds, S1, HQ⟩ := hrel
    by_cases hij : i = j
    · have e1 : ((i : Int) != (j : Int)) = false := by simp [hij]
      have hq := HQ.out
      rw [rotGo_eq _ _ _ _ _ (by omega) hij] at hq
      have HQ2 := Lib.hid hq
      clear hq HQ
      go_wp2_with (go_at_call 266; (with_reducible refine (swapRange_int64 enc g cb blk off cap (m - i) m i _ _ _ (by omega) (by omega) (by omega) d0 dk w0 _ _ (by omega) R (by omega) S1.out (by omega) (by omega) (by omega)).mono ?_); rintro e w2 ⟨rfl, S2⟩)
      go_end0
      exact ⟨rfl, by rw [← HQ2.out]; exact S2⟩
    · have e1 : ((i : Int) != (j : Int)) = true := by simpa using (show ¬ (i : Int) = (j : Int) by omega)
      have hq := HQ.out
      by_cases h2 : j < i
      · have h2z : (j : Int) < (i : Int) := by omega
        rw [rotGo_gt _ _ _ _ hij h2 hj0] at hq
        have HQ2 := Lib.hid hq
        clear hq HQ
        go_wp2_with (go_at_call 266; (with_reducible refine (swapRange_int64 enc g cb blk off cap (m - i) m j _ _ _ (by omega) (by omega) (by omega) d0 dk w0 _ _ (by omega) R (by omega) S1.out (by omega) (by omega) (by omega)).mono ?_); rintro e w2 ⟨rfl, S2⟩)
        have S3 : Aside (SW enc w0 blk off _ w2) := S2
        clear S2
        go_roundg (i - j + j)
        case measure => omega
        case rel => exact ⟨i - j, j, swapRange dk (m - i) m j, by first | rfl | (congr 1; omega), rfl, by omega, hj0, by omega, hj, Nat.le_refl _, by rw [swapRange_size]; exact hds, S3, HQ2⟩
      · have h2z : ¬ (j : Int) < (i : Int) := by omega
        rw [rotGo_lt _ _ _ _ (by omega) hi0] at hq
        have HQ2 := Lib.hid hq
        clear hq HQ
        go_wp2_with (go_at_call 266; (with_reducible refine (swapRange_int64 enc g cb blk off cap (m - i) (m + j - i) i _ _ _ (by omega) (by omega) (by omega) d0 dk w0 _ _ (by omega) R (by omega) S1.out (by omega) (by omega) (by omega)).mono ?_); rintro e w2 ⟨rfl, S2⟩)
        have S3 : Aside (SW enc w0 blk off _ w2) := S2
        clear S2
        go_roundg (i + (j - i))
        case measure => omega
        case rel => exact ⟨i, j - i, swapRange dk (m - i) (m + j - i) i, rfl, by first | rfl | (congr 1; omega), hi0, by omega, hi, by omega, Nat.le_refl _, by rw [swapRange_size]; exact hds, S3, HQ2⟩
set_option maxHeartbeats 16000000 in
set_option maxRecDepth 1000000 in
theorem symMerge_int64 (enc : Int → Value) (cf : Int → Int → Int) (g : Nat) (cb : Array Value) (blk off cap : Nat) (N : Nat) : ∀ (a m b : Nat) (A M B : Int) (hA : A = a) (hM : M = m) (hB : B = b) (d0 d : Array Int) (w0 w : World) (sz : Nat) (hz : sz = d.size)
    (eg : ∀ args w, (callFunc g args).run Tryd.prog w = .ok (.enter g args) w) (hcmp : CmpLays1 Tryd.prog g cb enc cf blk off d0.size w0) (R : Row1 enc w0 blk off d0) (hs : d0.size = d.size) (S : SW enc w0 blk off d w) (ham : a < m) (hmb : m < b) (hb : b ≤ d.size) (hsz : d.size < 4611686018427387904) (hN : b - a ≤ N),
    Calls Tryd.prog 250 #[.slice (some ⟨blk, off, none⟩) sz cap, .int .i64 A, .int .i64 M, .int .i64 B, .func (.func g) #[] cb] w fun e w' => e = .returned (.tuple #[]) ∧ SW enc w0 blk off (symGo (ltOf cf) N d a m b) w' := by
  induction N with
  | zero => intro a m b A M B hA hM hB d0 d w0 w sz hz eg hcmp R hs S ham hmb hb hsz hN; omega
  | succ N ih =>
  intro a m b A M B hA hM hB d0 d w0 w sz hz eg hcmp R hs S ham hmb hb hsz hN
  subst hA hM hB hz
  have mixed : Tryd.prog.follows .mixedOrders = true := by kernel_rfl
  have hcl0 := R.hO.cells
  simp only [Value.cells] at hcl0
  have hst := R.hO.store Tryd.prog
  have HC : Aside (CmpLays1 Tryd.prog g cb enc cf blk off d0.size w0) := hcmp
  clear hcmp
  have S0 : Aside (SW enc w0 blk off d w) := S
  clear S
  have IH : Aside _ := ih
  by_cases c1 : m - a = 1
  · have e1 : ((m : Int) - (a : Int) == 1) = true := beq_iff_eq.2 (by omega)
    have hfin := symGo_one (ltOf cf) N d a m b c1
    have HF := Lib.hid hfin
    clear hfin
    go_enter Tryd.func250, Tryd.ntmps250
    go_wp2
    go_loopg [10, 11] (b - m) (fun kx si sj wr => ∃ (i j : Nat), si = .int .i64 i ∧ sj = .int .i64 j ∧ m ≤ i ∧ i ≤ j ∧ j ≤ b ∧ j - i ≤ kx ∧ Aside (SW enc w0 blk off d wr) ∧ Hid (binGo (fun h => ltOf cf d[h]! d[a]!) (j - i) i j = binGo (fun h => ltOf cf d[h]! d[a]!) (b - m) m b))
    case atStart => exact ⟨m, b, by first | rfl | (congr 1; omega), by first | rfl | (congr 1; omega), Nat.le_refl _, by omega, Nat.le_refl _, Nat.le_refl _, S0, Lib.hid rfl⟩
    case round =>
      clear S0
      obtain ⟨i, j, rfl, rfl, hi1, hi2, hi3, hkx, S1, HQ⟩ := hrel
      by_cases hlt : i < j
      · have hltz : (i : Int) < (j : Int) := by omega
        obtain ⟨h, hh⟩ : ∃ q, q = (i + j) / 2 := ⟨_, rfl⟩
        have hh1 : 2 * h ≤ i + j := by omega
        have hh2 : i + j ≤ 2 * h + 1 := by omega
        have hq := HQ.out
        rw [binGo_go _ _ _ hlt, ← hh] at hq
        have hcz : ((i : Int) + (j : Int)) / 2 = (h : Int) := by omega
        have hij0 : (0 : Int) ≤ (i : Int) + (j : Int) := by omega
        have hij1 : (i : Int) + (j : Int) ≤ 9223372036854775806 := by omega
        clear hh
        cases hlv : ltOf cf d[h]! d[a]! with
        | true =>
          have hq2 := hq
          rw [if_pos (by simp [hlv])] at hq2
          have HQ2 := Lib.hid hq2
          clear hq2 hq HQ
          go_wp2_with fail
          obtain ⟨aN1t, haN1t⟩ : ∃ z_, z_ = h := ⟨_, rfl⟩
          have ea1t : ((h : Int)).toNat = aN1t := by omega
          have pa1t : (0 : Int) ≤ (h : Int) := by omega
          have ba1t : (h : Int) < (d.size : Int) := by omega
          have ra1t : IntKind.i64.wrap ((h : Int)) = (h : Int) := by rw [IntKind.wrap_i64]; omega
          obtain ⟨cN1t, hcN1t⟩ : ∃ z_, z_ = a := ⟨_, rfl⟩
          have ec1t : ((a : Int)).toNat = cN1t := by omega
          have pc1t : (0 : Int) ≤ (a : Int) := by omega
          have bc1t : (a : Int) < (d.size : Int) := by omega
          have rc1t : IntKind.i64.wrap ((a : Int)) = (a : Int) := by rw [IntKind.wrap_i64]; omega
          obtain ⟨x1t, hx1t⟩ : ∃ x, x = d[h]! := ⟨_, rfl⟩
          obtain ⟨y1t, hy1t⟩ : ∃ x, x = d[a]! := ⟨_, rfl⟩
          have l1ta := S1.out.cl R (by omega) (h) (by omega)
          have l1tb := S1.out.cl R (by omega) (a) (by omega)
          rw [← hx1t, ← haN1t] at l1ta
          rw [← hy1t, ← hcN1t] at l1tb
          have hc1t := S1.out.cmp HC.out (by omega) x1t y1t
          have hv1t : cf x1t y1t < 0 := by rw [hx1t, hy1t]; exact of_decide_eq_true hlv
          have hd1t : decide (cf x1t y1t < 0) = true := decide_eq_true hv1t
          clear hx1t hy1t haN1t hcN1t
          go_wp2_with fail
          go_quiet_grown (first | (go_at_fn g; refine Calls.grown_of (hc1t _ _)))
          have S2 : Aside (SW enc w0 blk off d (grow (wr.drewN nq) osq)) := S1.out.grown nq osq
          clear l1ta l1tb hc1t S1
          generalize grow (wr.drewN nq) osq = w2 at S2 ⊢
          clear nq osq
          clear ea1t ec1t
          go_wp2
          go_roundg (j - (h + 1))
          case measure => omega
          case rel => exact ⟨h + 1, j, by first | rfl | (congr 1; omega), rfl, by omega, by omega, hi3, Nat.le_refl _, S2, HQ2⟩
        | false =>
          have hq2 := hq
          rw [if_neg (by simp [hlv])] at hq2
          have HQ2 := Lib.hid hq2
          clear hq2 hq HQ
          go_wp2_with fail
          obtain ⟨aN1f, haN1f⟩ : ∃ z_, z_ = h := ⟨_, rfl⟩
          have ea1f : ((h : Int)).toNat = aN1f := by omega
          have pa1f : (0 : Int) ≤ (h : Int) := by omega
          have ba1f : (h : Int) < (d.size : Int) := by omega
          have ra1f : IntKind.i64.wrap ((h : Int)) = (h : Int) := by rw [IntKind.wrap_i64]; omega
          obtain ⟨cN1f, hcN1f⟩ : ∃ z_, z_ = a := ⟨_, rfl⟩
          have ec1f : ((a : Int)).toNat = cN1f := by omega
          have pc1f : (0 : Int) ≤ (a : Int) := by omega
          have bc1f : (a : Int) < (d.size : Int) := by omega
          have rc1f : IntKind.i64.wrap ((a : Int)) = (a : Int) := by rw [IntKind.wrap_i64]; omega
          obtain ⟨x1f, hx1f⟩ : ∃ x, x = d[h]! := ⟨_, rfl⟩
          obtain ⟨y1f, hy1f⟩ : ∃ x, x = d[a]! := ⟨_, rfl⟩
          have l1fa := S1.out.cl R (by omega) (h) (by omega)
          have l1fb := S1.out.cl R (by omega) (a) (by omega)
          rw [← hx1f, ← haN1f] at l1fa
          rw [← hy1f, ← hcN1f] at l1fb
          have hc1f := S1.out.cmp HC.out (by omega) x1f y1f
          have hv1f : ¬ cf x1f y1f < 0 := by rw [hx1f, hy1f]; exact of_decide_eq_false hlv
          have hd1f : decide (cf x1f y1f < 0) = false := decide_eq_false hv1f
          clear hx1f hy1f haN1f hcN1f
          go_wp2_with fail
          go_quiet_grown (first | (go_at_fn g; refine Calls.grown_of (hc1f _ _)))
          have S2 : Aside (SW enc w0 blk off d (grow (wr.drewN nq) osq)) := S1.out.grown nq osq
          clear l1fa l1fb hc1f S1
          generalize grow (wr.drewN nq) osq = w2 at S2 ⊢
          clear nq osq
          clear ea1f ec1f
          go_wp2
          go_roundg (h - i)
          case measure => omega
          case rel => exact ⟨i, h, rfl, by first | rfl | (congr 1; omega), hi1, by omega, by omega, Nat.le_refl _, S2, HQ2⟩
      · have hltz : ¬ (i : Int) < (j : Int) := by omega
        have hq := HQ.out
        rw [binGo_done _ _ _ _ hlt] at hq
        have HQ2 := Lib.hid hq
        clear hq HQ
        go_wp2
        go_loopg [13] (i - 1 - a) (fun kx sk wr2 => ∃ (k : Nat) (dk : Array Int), sk = .int .i64 k ∧ a ≤ k ∧ k ≤ i - 1 ∧ i - 1 - k ≤ kx ∧ dk.size = d.size ∧ Aside (SW enc w0 blk off dk wr2) ∧ Hid (upGo (i - 1 - k) k dk = upGo (i - 1 - a) a d))
        case atStart => exact ⟨a, d, rfl, by omega, by omega, Nat.le_refl _, rfl, S1, Lib.hid rfl⟩
        case round =>
          clear S1
          obtain ⟨k, dk, rfl, hk1, hk2, hkk, hds, S3, HK⟩ := hrel
          by_cases hkt : k < i - 1
          · have hktz : (k : Int) < (i : Int) - 1 := by omega
            have hktd : decide ((k : Int) < (i : Int) - 1) = true := decide_eq_true hktz
            go_wp2_with fail
            obtain ⟨aNu, haNu⟩ : ∃ z_, z_ = k := ⟨_, rfl⟩
            have eau : ((k : Int)).toNat = aNu := by omega
            have pau : (0 : Int) ≤ (k : Int) := by omega
            have bau : (k : Int) < (d.size : Int) := by omega
            have rau : IntKind.i64.wrap ((k : Int)) = (k : Int) := by rw [IntKind.wrap_i64]; omega
            obtain ⟨cNu, hcNu⟩ : ∃ z_, z_ = k + 1 := ⟨_, rfl⟩
            have ecu : ((k : Int) + 1).toNat = cNu := by omega
            have pcu : (0 : Int) ≤ (k : Int) + 1 := by omega
            have bcu : (k : Int) + 1 < (d.size : Int) := by omega
            have rcu : IntKind.i64.wrap ((k : Int) + 1) = (k : Int) + 1 := by rw [IntKind.wrap_i64]; omega
            obtain ⟨xu, hxu⟩ : ∃ x, x = dk[k]! := ⟨_, rfl⟩
            obtain ⟨yu, hyu⟩ : ∃ x, x = dk[k + 1]! := ⟨_, rfl⟩
            have S4 : Aside (SW enc w0 blk off (swp dk (k) (k + 1)) ((wr.setCell ⟨blk, off + aNu, none⟩ (enc yu)).setCell ⟨blk, off + cNu, none⟩ (enc xu)).drew) := by rw [haNu, hcNu, hxu, hyu]; exact S3.out.swapped R (k) (k + 1) (by omega) (by omega)
            have cua := S3.out.c1 R (by omega) (k) (by omega)
            have cub := S3.out.c1 R (by omega) (k + 1) (by omega)
            have fua := S3.out.f1 R (by omega) (k) (by omega)
            have fub := S3.out.f1 R (by omega) (k + 1) (by omega)
            obtain ⟨uu, cuc⟩ := S3.out.c2 R (by omega) (k) (k + 1) (by omega) (by omega) (enc yu)
            rw [← hcNu, ← haNu] at cuc
            rw [← hxu, ← haNu] at cua
            rw [← hyu, ← hcNu] at cub
            rw [← haNu] at fua
            rw [← hcNu] at fub
            clear S3 hxu hyu haNu hcNu
            go_wp2_with fail
            go_region
            clear cua cub cuc fua fub
            generalize ((wr.setCell ⟨blk, off + aNu, none⟩ (enc yu)).setCell ⟨blk, off + cNu, none⟩ (enc xu)).drew = w4 at S4 ⊢
            clear eau ecu
            go_wp2
            go_roundg (i - 1 - (k + 1))
            case measure => omega
            case rel => exact ⟨k + 1, swp dk (k) (k + 1), by first | rfl | go_num | (congr 1; omega), by omega, by omega, Nat.le_refl _, by rw [size_swp]; exact hds, S4, (show Hid _ from by have h_ := HK.out; rw [show i - 1 - k = (i - 1 - (k + 1)) + 1 from by omega, upGo] at h_; exact h_)⟩
          · have hktz : ¬ (k : Int) < (i : Int) - 1 := by omega
            have hktd : decide ((k : Int) < (i : Int) - 1) = false := decide_eq_false hktz
            go_wp2
            (try simp only [Exit.inBlock, Exit.then])
            refine bodyPost_ret (results_none rfl _ _ _) rfl ?_
            refine ⟨rfl, ?_⟩
            have h_ := HK.out
            rw [show i - 1 - k = 0 from by omega, upGo] at h_
            rw [HF.out, ← HQ2.out, ← h_]
            exact S3.out
  · have e1 : ((m : Int) - (a : Int) == 1) = false := beq_eq_false_iff_ne.2 (by omega)
    by_cases c2 : b - m = 1
    · have e2 : ((b : Int) - (m : Int) == 1) = true := beq_iff_eq.2 (by omega)
      have hfin := symGo_last (ltOf cf) N d a m b c1 c2
      have HF := Lib.hid hfin
      clear hfin
      go_enter Tryd.func250, Tryd.ntmps250
      go_wp2
      go_loopg [14, 15] (m - a) (fun kx si sj wr => ∃ (i j : Nat), si = .int .i64 i ∧ sj = .int .i64 j ∧ a ≤ i ∧ i ≤ j ∧ j ≤ m ∧ j - i ≤ kx ∧ Aside (SW enc w0 blk off d wr) ∧ Hid (binGo (fun h => !ltOf cf d[m]! d[h]!) (j - i) i j = binGo (fun h => !ltOf cf d[m]! d[h]!) (m - a) a m))
      case atStart => exact ⟨a, m, by first | rfl | (congr 1; omega), by first | rfl | (congr 1; omega), Nat.le_refl _, by omega, Nat.le_refl _, Nat.le_refl _, S0, Lib.hid rfl⟩
      case round =>
        clear S0
        obtain ⟨i, j, rfl, rfl, hi1, hi2, hi3, hkx, S1, HQ⟩ := hrel
        by_cases hlt : i < j
        · have hltz : (i : Int) < (j : Int) := by omega
          obtain ⟨h, hh⟩ : ∃ q, q = (i + j) / 2 := ⟨_, rfl⟩
          have hh1 : 2 * h ≤ i + j := by omega
          have hh2 : i + j ≤ 2 * h + 1 := by omega
          have hq := HQ.out
          rw [binGo_go _ _ _ hlt, ← hh] at hq
          have hcz : ((i : Int) + (j : Int)) / 2 = (h : Int) := by omega
          have hij0 : (0 : Int) ≤ (i : Int) + (j : Int) := by omega
          have hij1 : (i : Int) + (j : Int) ≤ 9223372036854775806 := by omega
          clear hh
          cases hlv : ltOf cf d[m]! d[h]! with
          | true =>
            have hq2 := hq
            rw [if_neg (by simp [hlv])] at hq2
            have HQ2 := Lib.hid hq2
            clear hq2 hq HQ
            go_wp2_with fail
            obtain ⟨aN2t, haN2t⟩ : ∃ z_, z_ = m := ⟨_, rfl⟩
            have ea2t : ((m : Int)).toNat = aN2t := by omega
            have pa2t : (0 : Int) ≤ (m : Int) := by omega
            have ba2t : (m : Int) < (d.size : Int) := by omega
            have ra2t : IntKind.i64.wrap ((m : Int)) = (m : Int) := by rw [IntKind.wrap_i64]; omega
            obtain ⟨cN2t, hcN2t⟩ : ∃ z_, z_ = h := ⟨_, rfl⟩
            have ec2t : ((h : Int)).toNat = cN2t := by omega
            have pc2t : (0 : Int) ≤ (h : Int) := by omega
            have bc2t : (h : Int) < (d.size : Int) := by omega
            have rc2t : IntKind.i64.wrap ((h : Int)) = (h : Int) := by rw [IntKind.wrap_i64]; omega
            obtain ⟨x2t, hx2t⟩ : ∃ x, x = d[m]! := ⟨_, rfl⟩
            obtain ⟨y2t, hy2t⟩ : ∃ x, x = d[h]! := ⟨_, rfl⟩
            have l2ta := S1.out.cl R (by omega) (m) (by omega)
            have l2tb := S1.out.cl R (by omega) (h) (by omega)
            rw [← hx2t, ← haN2t] at l2ta
            rw [← hy2t, ← hcN2t] at l2tb
            have hc2t := S1.out.cmp HC.out (by omega) x2t y2t
            have hv2t : cf x2t y2t < 0 := by rw [hx2t, hy2t]; exact of_decide_eq_true hlv
            have hd2t : decide (cf x2t y2t < 0) = true := decide_eq_true hv2t
            clear hx2t hy2t haN2t hcN2t
            go_wp2_with fail
            go_quiet_grown (first | (go_at_fn g; refine Calls.grown_of (hc2t _ _)))
            have S2 : Aside (SW enc w0 blk off d (grow (wr.drewN nq) osq)) := S1.out.grown nq osq
            clear l2ta l2tb hc2t S1
            generalize grow (wr.drewN nq) osq = w2 at S2 ⊢
            clear nq osq
            clear ea2t ec2t
            go_wp2
            go_roundg (h - i)
            case measure => omega
            case rel => exact ⟨i, h, rfl, by first | rfl | (congr 1; omega), hi1, by omega, by omega, Nat.le_refl _, S2, HQ2⟩
          | false =>
            have hq2 := hq
            rw [if_pos (by simp [hlv])] at hq2
            have HQ2 := Lib.hid hq2
            clear hq2 hq HQ
            go_wp2_with fail
            obtain ⟨aN2f, haN2f⟩ : ∃ z_, z_ = m := ⟨_, rfl⟩
            have ea2f : ((m : Int)).toNat = aN2f := by omega
            have pa2f : (0 : Int) ≤ (m : Int) := by omega
            have ba2f : (m : Int) < (d.size : Int) := by omega
            have ra2f : IntKind.i64.wrap ((m : Int)) = (m : Int) := by rw [IntKind.wrap_i64]; omega
            obtain ⟨cN2f, hcN2f⟩ : ∃ z_, z_ = h := ⟨_, rfl⟩
            have ec2f : ((h : Int)).toNat = cN2f := by omega
            have pc2f : (0 : Int) ≤ (h : Int) := by omega
            have bc2f : (h : Int) < (d.size : Int) := by omega
            have rc2f : IntKind.i64.wrap ((h : Int)) = (h : Int) := by rw [IntKind.wrap_i64]; omega
            obtain ⟨x2f, hx2f⟩ : ∃ x, x = d[m]! := ⟨_, rfl⟩
            obtain ⟨y2f, hy2f⟩ : ∃ x, x = d[h]! := ⟨_, rfl⟩
            have l2fa := S1.out.cl R (by omega) (m) (by omega)
            have l2fb := S1.out.cl R (by omega) (h) (by omega)
            rw [← hx2f, ← haN2f] at l2fa
            rw [← hy2f, ← hcN2f] at l2fb
            have hc2f := S1.out.cmp HC.out (by omega) x2f y2f
            have hv2f : ¬ cf x2f y2f < 0 := by rw [hx2f, hy2f]; exact of_decide_eq_false hlv
            have hd2f : decide (cf x2f y2f < 0) = false := decide_eq_false hv2f
            clear hx2f hy2f haN2f hcN2f
            go_wp2_with fail
            go_quiet_grown (first | (go_at_fn g; refine Calls.grown_of (hc2f _ _)))
            have S2 : Aside (SW enc w0 blk off d (grow (wr.drewN nq) osq)) := S1.out.grown nq osq
            clear l2fa l2fb hc2f S1
            generalize grow (wr.drewN nq) osq = w2 at S2 ⊢
            clear nq osq
            clear ea2f ec2f
            go_wp2
            go_roundg (j - (h + 1))
            case measure => omega
            case rel => exact ⟨h + 1, j, by first | rfl | (congr 1; omega), rfl, by omega, by omega, hi3, Nat.le_refl _, S2, HQ2⟩
        · have hltz : ¬ (i : Int) < (j : Int) := by omega
          have hq := HQ.out
          rw [binGo_done _ _ _ _ hlt] at hq
          have HQ2 := Lib.hid hq
          clear hq HQ
          go_wp2
          go_loopg [17] (m - i) (fun kx sk wr2 => ∃ (k : Nat) (dk : Array Int), sk = .int .i64 k ∧ i ≤ k ∧ k ≤ m ∧ k - i ≤ kx ∧ dk.size = d.size ∧ Aside (SW enc w0 blk off dk wr2) ∧ Hid (downGo (k - i) k dk = downGo (m - i) m d))
          case atStart => exact ⟨m, d, rfl, by omega, by omega, Nat.le_refl _, rfl, S1, Lib.hid rfl⟩
          case round =>
            clear S1
            obtain ⟨k, dk, rfl, hk1, hk2, hkk, hds, S3, HK⟩ := hrel
            by_cases hkt : i < k
            · have hktz : (i : Int) < (k : Int) := by omega
              have hktd : decide ((i : Int) < (k : Int)) = true := decide_eq_true hktz
              go_wp2_with fail
              obtain ⟨aNd, haNd⟩ : ∃ z_, z_ = k := ⟨_, rfl⟩
              have ead : ((k : Int)).toNat = aNd := by omega
              have pad : (0 : Int) ≤ (k : Int) := by omega
              have bad : (k : Int) < (d.size : Int) := by omega
              have rad : IntKind.i64.wrap ((k : Int)) = (k : Int) := by rw [IntKind.wrap_i64]; omega
              obtain ⟨cNd, hcNd⟩ : ∃ z_, z_ = k - 1 := ⟨_, rfl⟩
              have ecd : ((k : Int) - 1).toNat = cNd := by omega
              have pcd : (0 : Int) ≤ (k : Int) - 1 := by omega
              have bcd : (k : Int) - 1 < (d.size : Int) := by omega
              have rcd : IntKind.i64.wrap ((k : Int) - 1) = (k : Int) - 1 := by rw [IntKind.wrap_i64]; omega
              obtain ⟨xd, hxd⟩ : ∃ x, x = dk[k]! := ⟨_, rfl⟩
              obtain ⟨yd, hyd⟩ : ∃ x, x = dk[k - 1]! := ⟨_, rfl⟩
              have S4 : Aside (SW enc w0 blk off (swp dk (k) (k - 1)) ((wr.setCell ⟨blk, off + aNd, none⟩ (enc yd)).setCell ⟨blk, off + cNd, none⟩ (enc xd)).drew) := by rw [haNd, hcNd, hxd, hyd]; exact S3.out.swapped R (k) (k - 1) (by omega) (by omega)
              have cda := S3.out.c1 R (by omega) (k) (by omega)
              have cdb := S3.out.c1 R (by omega) (k - 1) (by omega)
              have fda := S3.out.f1 R (by omega) (k) (by omega)
              have fdb := S3.out.f1 R (by omega) (k - 1) (by omega)
              obtain ⟨ud, cdc⟩ := S3.out.c2 R (by omega) (k) (k - 1) (by omega) (by omega) (enc yd)
              rw [← hcNd, ← haNd] at cdc
              rw [← hxd, ← haNd] at cda
              rw [← hyd, ← hcNd] at cdb
              rw [← haNd] at fda
              rw [← hcNd] at fdb
              clear S3 hxd hyd haNd hcNd
              go_wp2_with fail
              go_region
              clear cda cdb cdc fda fdb
              generalize ((wr.setCell ⟨blk, off + aNd, none⟩ (enc yd)).setCell ⟨blk, off + cNd, none⟩ (enc xd)).drew = w4 at S4 ⊢
              clear ead ecd
              go_wp2
              go_roundg ((k - 1) - i)
              case measure => omega
              case rel => exact ⟨k - 1, swp dk (k) (k - 1), by first | rfl | go_num | (congr 1; omega), by omega, by omega, Nat.le_refl _, by rw [size_swp]; exact hds, S4, (show Hid _ from by have h_ := HK.out; rw [show k - i = ((k - 1) - i) + 1 from by omega, downGo] at h_; exact h_)⟩
            · have hktz : ¬ (i : Int) < (k : Int) := by omega
              have hktd : decide ((i : Int) < (k : Int)) = false := decide_eq_false hktz
              go_wp2
              (try simp only [Exit.inBlock, Exit.then])
              refine bodyPost_ret (results_none rfl _ _ _) rfl ?_
              refine ⟨rfl, ?_⟩
              have h_ := HK.out
              rw [show k - i = 0 from by omega, downGo] at h_
              rw [HF.out, ← HQ2.out, ← h_]
              exact S3.out
    · have e2 : ((b : Int) - (m : Int) == 1) = false := beq_eq_false_iff_ne.2 (by omega)
      obtain ⟨mid, hmid⟩ : ∃ q, q = (a + b) / 2 := ⟨_, rfl⟩
      have hmd1 : 2 * mid ≤ a + b := by omega
      have hmd2 : a + b ≤ 2 * mid + 1 := by omega
      have HM := Lib.hid hmid
      clear hmid
      by_cases c3 : mid < m
      · have hmz : ((a : Int) + (b : Int)) / 2 = (mid : Int) := by omega
        have c3z : (mid : Int) < (m : Int) := by omega
        go_enter Tryd.func250, Tryd.ntmps250
        go_wp2
        go_loopg [20, 21] (mid - (mid + m - b)) (fun kx si sj wr => ∃ (i j : Nat), si = .int .i64 i ∧ sj = .int .i64 j ∧ (mid + m - b) ≤ i ∧ i ≤ j ∧ j ≤ mid ∧ j - i ≤ kx ∧ Aside (SW enc w0 blk off d wr) ∧ Hid (binGo (fun c => !ltOf cf d[mid + m - 1 - c]! d[c]!) (j - i) i j = binGo (fun c => !ltOf cf d[mid + m - 1 - c]! d[c]!) (mid - (mid + m - b)) (mid + m - b) mid))
        case atStart => exact ⟨(mid + m - b), mid, by first | rfl | (congr 1; omega), by first | rfl | (congr 1; omega), Nat.le_refl _, by omega, Nat.le_refl _, Nat.le_refl _, S0, Lib.hid rfl⟩
        case round =>
          clear S0
          obtain ⟨i, j, rfl, rfl, hi1, hi2, hi3, hkx, S1, HQ⟩ := hrel
          by_cases hlt : i < j
          · have hltz : (i : Int) < (j : Int) := by omega
            obtain ⟨h, hh⟩ : ∃ q, q = (i + j) / 2 := ⟨_, rfl⟩
            have hh1 : 2 * h ≤ i + j := by omega
            have hh2 : i + j ≤ 2 * h + 1 := by omega
            have hq := HQ.out
            rw [binGo_go _ _ _ hlt, ← hh] at hq
            have hcz : ((i : Int) + (j : Int)) / 2 = (h : Int) := by omega
            have hij0 : (0 : Int) ≤ (i : Int) + (j : Int) := by omega
            have hij1 : (i : Int) + (j : Int) ≤ 9223372036854775806 := by omega
            clear hh
            obtain ⟨q, hq0⟩ : ∃ q, q = mid + m - 1 - h := ⟨_, rfl⟩
            have hq1 : q + h + 1 = mid + m := by omega
            have HQ0 := Lib.hid hq0
            have hqw : IntKind.i64.wrap ((mid : Int) + (m : Int) - 1 - (h : Int)) = (q : Int) := by rw [IntKind.wrap_i64]; omega
            have hq2 : q + h + 1 ≤ mid + m := by omega
            have hq3 : mid + m ≤ q + h + 1 := by omega
            clear hq0 hq1
            cases hlv : ltOf cf d[mid + m - 1 - h]! d[h]! with
            | true =>
              have hlv2 : ltOf cf d[q]! d[h]! = true := by rw [HQ0.out]; exact hlv
              have hq2 := hq
              rw [if_neg (by simp [hlv])] at hq2
              have HQ2 := Lib.hid hq2
              clear hq2 hq HQ
              go_wp2_with fail
              obtain ⟨aN3t, haN3t⟩ : ∃ z_, z_ = q := ⟨_, rfl⟩
              have ea3t : ((q : Int)).toNat = aN3t := by omega
              have pa3t : (0 : Int) ≤ (q : Int) := by omega
              have ba3t : (q : Int) < (d.size : Int) := by omega
              have ra3t : IntKind.i64.wrap ((q : Int)) = (q : Int) := by rw [IntKind.wrap_i64]; omega
              obtain ⟨cN3t, hcN3t⟩ : ∃ z_, z_ = h := ⟨_, rfl⟩
              have ec3t : ((h : Int)).toNat = cN3t := by omega
              have pc3t : (0 : Int) ≤ (h : Int) := by omega
              have bc3t : (h : Int) < (d.size : Int) := by omega
              have rc3t : IntKind.i64.wrap ((h : Int)) = (h : Int) := by rw [IntKind.wrap_i64]; omega
              obtain ⟨x3t, hx3t⟩ : ∃ x, x = d[q]! := ⟨_, rfl⟩
              obtain ⟨y3t, hy3t⟩ : ∃ x, x = d[h]! := ⟨_, rfl⟩
              have l3ta := S1.out.cl R (by omega) (q) (by omega)
              have l3tb := S1.out.cl R (by omega) (h) (by omega)
              rw [← hx3t, ← haN3t] at l3ta
              rw [← hy3t, ← hcN3t] at l3tb
              have hc3t := S1.out.cmp HC.out (by omega) x3t y3t
              have hv3t : cf x3t y3t < 0 := by rw [hx3t, hy3t]; exact of_decide_eq_true hlv2
              have hd3t : decide (cf x3t y3t < 0) = true := decide_eq_true hv3t
              clear hx3t hy3t haN3t hcN3t
              go_wp2_with fail
              go_quiet_grown (first | (go_at_fn g; refine Calls.grown_of (hc3t _ _)))
              have S2 : Aside (SW enc w0 blk off d (grow (wr.drewN nq) osq)) := S1.out.grown nq osq
              clear l3ta l3tb hc3t S1
              generalize grow (wr.drewN nq) osq = w2 at S2 ⊢
              clear nq osq
              clear ea3t ec3t
              go_wp2
              go_roundg (h - i)
              case measure => omega
              case rel => exact ⟨i, h, rfl, by first | rfl | (congr 1; omega), hi1, by omega, by omega, Nat.le_refl _, S2, HQ2⟩
            | false =>
              have hlv2 : ltOf cf d[q]! d[h]! = false := by rw [HQ0.out]; exact hlv
              have hq2 := hq
              rw [if_pos (by simp [hlv])] at hq2
              have HQ2 := Lib.hid hq2
              clear hq2 hq HQ
              go_wp2_with fail
              obtain ⟨aN3f, haN3f⟩ : ∃ z_, z_ = q := ⟨_, rfl⟩
              have ea3f : ((q : Int)).toNat = aN3f := by omega
              have pa3f : (0 : Int) ≤ (q : Int) := by omega
              have ba3f : (q : Int) < (d.size : Int) := by omega
              have ra3f : IntKind.i64.wrap ((q : Int)) = (q : Int) := by rw [IntKind.wrap_i64]; omega
              obtain ⟨cN3f, hcN3f⟩ : ∃ z_, z_ = h := ⟨_, rfl⟩
              have ec3f : ((h : Int)).toNat = cN3f := by omega
              have pc3f : (0 : Int) ≤ (h : Int) := by omega
              have bc3f : (h : Int) < (d.size : Int) := by omega
              have rc3f : IntKind.i64.wrap ((h : Int)) = (h : Int) := by rw [IntKind.wrap_i64]; omega
              obtain ⟨x3f, hx3f⟩ : ∃ x, x = d[q]! := ⟨_, rfl⟩
              obtain ⟨y3f, hy3f⟩ : ∃ x, x = d[h]! := ⟨_, rfl⟩
              have l3fa := S1.out.cl R (by omega) (q) (by omega)
              have l3fb := S1.out.cl R (by omega) (h) (by omega)
              rw [← hx3f, ← haN3f] at l3fa
              rw [← hy3f, ← hcN3f] at l3fb
              have hc3f := S1.out.cmp HC.out (by omega) x3f y3f
              have hv3f : ¬ cf x3f y3f < 0 := by rw [hx3f, hy3f]; exact of_decide_eq_false hlv2
              have hd3f : decide (cf x3f y3f < 0) = false := decide_eq_false hv3f
              clear hx3f hy3f haN3f hcN3f
              go_wp2_with fail
              go_quiet_grown (first | (go_at_fn g; refine Calls.grown_of (hc3f _ _)))
              have S2 : Aside (SW enc w0 blk off d (grow (wr.drewN nq) osq)) := S1.out.grown nq osq
              clear l3fa l3fb hc3f S1
              generalize grow (wr.drewN nq) osq = w2 at S2 ⊢
              clear nq osq
              clear ea3f ec3f
              go_wp2
              go_roundg (j - (h + 1))
              case measure => omega
              case rel => exact ⟨h + 1, j, by first | rfl | (congr 1; omega), rfl, by omega, by omega, hi3, Nat.le_refl _, S2, HQ2⟩
          · have hltz : ¬ (i : Int) < (j : Int) := by omega
            have hq := HQ.out
            rw [binGo_done _ _ _ _ hlt] at hq
            have HQ2 := Lib.hid hq
            clear hq HQ
            have hfin := symGo_rec (ltOf cf) N d a m b c1 c2 mid HM.out _ _ rfl rfl i (by rw [if_pos c3, if_pos c3]; exact HQ2.out)
            have HF := Lib.hid hfin
            clear hfin
            by_cases cX : i < m
            · have zX : (i : Int) < (m : Int) := by omega
              by_cases cY : i < mid
              · have zY : (i : Int) < (mid : Int) := by omega
                by_cases cZ : a < i
                · have zZ : (a : Int) < (i : Int) := by omega
                  by_cases cV : mid + m - i < b
                  · have zV : (mid : Int) + (m : Int) - (i : Int) < (b : Int) := by omega
                    go_wp2_with fail
                    ((with_reducible refine (rotate_int64 enc cf g cb blk off cap i m (mid + m - i) _ _ _ rfl rfl (by omega) d0 d w0 _ _ (by first | omega | (simp only [rotate_size, symGo_size]; done) | (simp only [rotate_size, symGo_size]; omega)) eg HC.out R (by first | omega | (simp only [rotate_size, symGo_size]; done) | (simp only [rotate_size, symGo_size]; omega)) S1.out (by omega) (by omega) (by first | omega | (simp only [rotate_size, symGo_size]; done) | (simp only [rotate_size, symGo_size]; omega)) (by first | omega | (simp only [rotate_size, symGo_size]; done) | (simp only [rotate_size, symGo_size]; omega))).mono ?_); rintro e w_1 ⟨rfl, T10⟩)
                    have T1 : Aside (SW enc w0 blk off (rotate d i m (mid + m - i)) w_1) := T10
                    clear T10
                    go_wp2_with fail
                    ((with_reducible refine (IH.out a i mid _ _ _ rfl rfl (by omega) d0 (rotate d i m (mid + m - i)) w0 _ _ (by first | omega | (simp only [rotate_size, symGo_size]; done) | (simp only [rotate_size, symGo_size]; omega)) eg HC.out R (by first | omega | (simp only [rotate_size, symGo_size]; done) | (simp only [rotate_size, symGo_size]; omega)) T1.out (by omega) (by omega) (by first | omega | (simp only [rotate_size, symGo_size]; done) | (simp only [rotate_size, symGo_size]; omega)) (by first | omega | (simp only [rotate_size, symGo_size]; done) | (simp only [rotate_size, symGo_size]; omega)) (by omega)).mono ?_); rintro e w_2 ⟨rfl, T20⟩)
                    have T2 : Aside (SW enc w0 blk off (symGo (ltOf cf) N (rotate d i m (mid + m - i)) a i mid) w_2) := T20
                    clear T20
                    go_wp2_with fail
                    ((with_reducible refine (IH.out mid (mid + m - i) b _ _ _ (by omega) (by omega) rfl d0 (symGo (ltOf cf) N (rotate d i m (mid + m - i)) a i mid) w0 _ _ (by first | omega | (simp only [rotate_size, symGo_size]; done) | (simp only [rotate_size, symGo_size]; omega)) eg HC.out R (by first | omega | (simp only [rotate_size, symGo_size]; done) | (simp only [rotate_size, symGo_size]; omega)) T2.out (by omega) (by omega) (by first | omega | (simp only [rotate_size, symGo_size]; done) | (simp only [rotate_size, symGo_size]; omega)) (by first | omega | (simp only [rotate_size, symGo_size]; done) | (simp only [rotate_size, symGo_size]; omega)) (by omega)).mono ?_); rintro e w_3 ⟨rfl, T30⟩)
                    have T3 : Aside (SW enc w0 blk off (symGo (ltOf cf) N (symGo (ltOf cf) N (rotate d i m (mid + m - i)) a i mid) mid (mid + m - i) b) w_3) := T30
                    clear T30
                    go_wp2
                    go_end0
                    exact ⟨rfl, by rw [HF.out, symTail_XYZV _ _ _ _ _ _ _ _ cX cY cZ cV]; exact T3.out⟩
                  · have zV : ¬ ((mid : Int) + (m : Int) - (i : Int) < (b : Int)) := by omega
                    go_wp2_with fail
                    ((with_reducible refine (rotate_int64 enc cf g cb blk off cap i m (mid + m - i) _ _ _ rfl rfl (by omega) d0 d w0 _ _ (by first | omega | (simp only [rotate_size, symGo_size]; done) | (simp only [rotate_size, symGo_size]; omega)) eg HC.out R (by first | omega | (simp only [rotate_size, symGo_size]; done) | (simp only [rotate_size, symGo_size]; omega)) S1.out (by omega) (by omega) (by first | omega | (simp only [rotate_size, symGo_size]; done) | (simp only [rotate_size, symGo_size]; omega)) (by first | omega | (simp only [rotate_size, symGo_size]; done) | (simp only [rotate_size, symGo_size]; omega))).mono ?_); rintro e w_1 ⟨rfl, T10⟩)
                    have T1 : Aside (SW enc w0 blk off (rotate d i m (mid + m - i)) w_1) := T10
                    clear T10
                    go_wp2_with fail
                    ((with_reducible refine (IH.out a i mid _ _ _ rfl rfl (by omega) d0 (rotate d i m (mid + m - i)) w0 _ _ (by first | omega | (simp only [rotate_size, symGo_size]; done) | (simp only [rotate_size, symGo_size]; omega)) eg HC.out R (by first | omega | (simp only [rotate_size, symGo_size]; done) | (simp only [rotate_size, symGo_size]; omega)) T1.out (by omega) (by omega) (by first | omega | (simp only [rotate_size, symGo_size]; done) | (simp only [rotate_size, symGo_size]; omega)) (by first | omega | (simp only [rotate_size, symGo_size]; done) | (simp only [rotate_size, symGo_size]; omega)) (by omega)).mono ?_); rintro e w_2 ⟨rfl, T20⟩)
                    have T2 : Aside (SW enc w0 blk off (symGo (ltOf cf) N (rotate d i m (mid + m - i)) a i mid) w_2) := T20
                    clear T20
                    go_wp2
                    go_end0
                    exact ⟨rfl, by rw [HF.out, symTail_XYZv _ _ _ _ _ _ _ _ cX cY cZ cV]; exact T2.out⟩
                · have zZ : ¬ ((a : Int) < (i : Int)) := by omega
                  by_cases cV : mid + m - i < b
                  · exfalso; omega
                  · have zV : ¬ ((mid : Int) + (m : Int) - (i : Int) < (b : Int)) := by omega
                    go_wp2_with fail
                    ((with_reducible refine (rotate_int64 enc cf g cb blk off cap i m (mid + m - i) _ _ _ rfl rfl (by omega) d0 d w0 _ _ (by first | omega | (simp only [rotate_size, symGo_size]; done) | (simp only [rotate_size, symGo_size]; omega)) eg HC.out R (by first | omega | (simp only [rotate_size, symGo_size]; done) | (simp only [rotate_size, symGo_size]; omega)) S1.out (by omega) (by omega) (by first | omega | (simp only [rotate_size, symGo_size]; done) | (simp only [rotate_size, symGo_size]; omega)) (by first | omega | (simp only [rotate_size, symGo_size]; done) | (simp only [rotate_size, symGo_size]; omega))).mono ?_); rintro e w_1 ⟨rfl, T10⟩)
                    have T1 : Aside (SW enc w0 blk off (rotate d i m (mid + m - i)) w_1) := T10
                    clear T10
                    go_wp2
                    go_end0
                    exact ⟨rfl, by rw [HF.out, symTail_XYzv _ _ _ _ _ _ _ _ cX cY cZ cV]; exact T1.out⟩
              · have zY : ¬ ((i : Int) < (mid : Int)) := by omega
                by_cases cZ : a < i
                · have zZ : (a : Int) < (i : Int) := by omega
                  by_cases cV : mid + m - i < b
                  · have zV : (mid : Int) + (m : Int) - (i : Int) < (b : Int) := by omega
                    go_wp2_with fail
                    ((with_reducible refine (IH.out mid (mid + m - i) b _ _ _ (by omega) (by omega) rfl d0 d w0 _ _ (by first | omega | (simp only [rotate_size, symGo_size]; done) | (simp only [rotate_size, symGo_size]; omega)) eg HC.out R (by first | omega | (simp only [rotate_size, symGo_size]; done) | (simp only [rotate_size, symGo_size]; omega)) S1.out (by omega) (by omega) (by first | omega | (simp only [rotate_size, symGo_size]; done) | (simp only [rotate_size, symGo_size]; omega)) (by first | omega | (simp only [rotate_size, symGo_size]; done) | (simp only [rotate_size, symGo_size]; omega)) (by omega)).mono ?_); rintro e w_1 ⟨rfl, T10⟩)
                    have T1 : Aside (SW enc w0 blk off (symGo (ltOf cf) N d mid (mid + m - i) b) w_1) := T10
                    clear T10
                    go_wp2
                    go_end0
                    exact ⟨rfl, by rw [HF.out, symTail_XyZV _ _ _ _ _ _ _ _ cX cY cZ cV]; exact T1.out⟩
                  · exfalso; omega
                · exfalso; omega
            · exfalso; omega
      · have hmz : ((a : Int) + (b : Int)) / 2 = (mid : Int) := by omega
        have c3z : ¬ (mid : Int) < (m : Int) := by omega
        go_enter Tryd.func250, Tryd.ntmps250
        go_wp2
        go_loopg [20, 21] (m - a) (fun kx si sj wr => ∃ (i j : Nat), si = .int .i64 i ∧ sj = .int .i64 j ∧ a ≤ i ∧ i ≤ j ∧ j ≤ m ∧ j - i ≤ kx ∧ Aside (SW enc w0 blk off d wr) ∧ Hid (binGo (fun c => !ltOf cf d[mid + m - 1 - c]! d[c]!) (j - i) i j = binGo (fun c => !ltOf cf d[mid + m - 1 - c]! d[c]!) (m - a) a m))
        case atStart => exact ⟨a, m, by first | rfl | (congr 1; omega), by first | rfl | (congr 1; omega), Nat.le_refl _, by omega, Nat.le_refl _, Nat.le_refl _, S0, Lib.hid rfl⟩
        case round =>
          clear S0
          obtain ⟨i, j, rfl, rfl, hi1, hi2, hi3, hkx, S1, HQ⟩ := hrel
          by_cases hlt : i < j
          · have hltz : (i : Int) < (j : Int) := by omega
            obtain ⟨h, hh⟩ : ∃ q, q = (i + j) / 2 := ⟨_, rfl⟩
            have hh1 : 2 * h ≤ i + j := by omega
            have hh2 : i + j ≤ 2 * h + 1 := by omega
            have hq := HQ.out
            rw [binGo_go _ _ _ hlt, ← hh] at hq
            have hcz : ((i : Int) + (j : Int)) / 2 = (h : Int) := by omega
            have hij0 : (0 : Int) ≤ (i : Int) + (j : Int) := by omega
            have hij1 : (i : Int) + (j : Int) ≤ 9223372036854775806 := by omega
            clear hh
            obtain ⟨q, hq0⟩ : ∃ q, q = mid + m - 1 - h := ⟨_, rfl⟩
            have hq1 : q + h + 1 = mid + m := by omega
            have HQ0 := Lib.hid hq0
            have hqw : IntKind.i64.wrap ((mid : Int) + (m : Int) - 1 - (h : Int)) = (q : Int) := by rw [IntKind.wrap_i64]; omega
            have hq2 : q + h + 1 ≤ mid + m := by omega
            have hq3 : mid + m ≤ q + h + 1 := by omega
            clear hq0 hq1
            cases hlv : ltOf cf d[mid + m - 1 - h]! d[h]! with
            | true =>
              have hlv2 : ltOf cf d[q]! d[h]! = true := by rw [HQ0.out]; exact hlv
              have hq2 := hq
              rw [if_neg (by simp [hlv])] at hq2
              have HQ2 := Lib.hid hq2
              clear hq2 hq HQ
              go_wp2_with fail
              obtain ⟨aN3t, haN3t⟩ : ∃ z_, z_ = q := ⟨_, rfl⟩
              have ea3t : ((q : Int)).toNat = aN3t := by omega
              have pa3t : (0 : Int) ≤ (q : Int) := by omega
              have ba3t : (q : Int) < (d.size : Int) := by omega
              have ra3t : IntKind.i64.wrap ((q : Int)) = (q : Int) := by rw [IntKind.wrap_i64]; omega
              obtain ⟨cN3t, hcN3t⟩ : ∃ z_, z_ = h := ⟨_, rfl⟩
              have ec3t : ((h : Int)).toNat = cN3t := by omega
              have pc3t : (0 : Int) ≤ (h : Int) := by omega
              have bc3t : (h : Int) < (d.size : Int) := by omega
              have rc3t : IntKind.i64.wrap ((h : Int)) = (h : Int) := by rw [IntKind.wrap_i64]; omega
              obtain ⟨x3t, hx3t⟩ : ∃ x, x = d[q]! := ⟨_, rfl⟩
              obtain ⟨y3t, hy3t⟩ : ∃ x, x = d[h]! := ⟨_, rfl⟩
              have l3ta := S1.out.cl R (by omega) (q) (by omega)
              have l3tb := S1.out.cl R (by omega) (h) (by omega)
              rw [← hx3t, ← haN3t] at l3ta
              rw [← hy3t, ← hcN3t] at l3tb
              have hc3t := S1.out.cmp HC.out (by omega) x3t y3t
              have hv3t : cf x3t y3t < 0 := by rw [hx3t, hy3t]; exact of_decide_eq_true hlv2
              have hd3t : decide (cf x3t y3t < 0) = true := decide_eq_true hv3t
              clear hx3t hy3t haN3t hcN3t
              go_wp2_with fail
              go_quiet_grown (first | (go_at_fn g; refine Calls.grown_of (hc3t _ _)))
              have S2 : Aside (SW enc w0 blk off d (grow (wr.drewN nq) osq)) := S1.out.grown nq osq
              clear l3ta l3tb hc3t S1
              generalize grow (wr.drewN nq) osq = w2 at S2 ⊢
              clear nq osq
              clear ea3t ec3t
              go_wp2
              go_roundg (h - i)
              case measure => omega
              case rel => exact ⟨i, h, rfl, by first | rfl | (congr 1; omega), hi1, by omega, by omega, Nat.le_refl _, S2, HQ2⟩
            | false =>
              have hlv2 : ltOf cf d[q]! d[h]! = false := by rw [HQ0.out]; exact hlv
              have hq2 := hq
              rw [if_pos (by simp [hlv])] at hq2
              have HQ2 := Lib.hid hq2
              clear hq2 hq HQ
              go_wp2_with fail
              obtain ⟨aN3f, haN3f⟩ : ∃ z_, z_ = q := ⟨_, rfl⟩
              have ea3f : ((q : Int)).toNat = aN3f := by omega
              have pa3f : (0 : Int) ≤ (q : Int) := by omega
              have ba3f : (q : Int) < (d.size : Int) := by omega
              have ra3f : IntKind.i64.wrap ((q : Int)) = (q : Int) := by rw [IntKind.wrap_i64]; omega
              obtain ⟨cN3f, hcN3f⟩ : ∃ z_, z_ = h := ⟨_, rfl⟩
              have ec3f : ((h : Int)).toNat = cN3f := by omega
              have pc3f : (0 : Int) ≤ (h : Int) := by omega
              have bc3f : (h : Int) < (d.size : Int) := by omega
              have rc3f : IntKind.i64.wrap ((h : Int)) = (h : Int) := by rw [IntKind.wrap_i64]; omega
              obtain ⟨x3f, hx3f⟩ : ∃ x, x = d[q]! := ⟨_, rfl⟩
              obtain ⟨y3f, hy3f⟩ : ∃ x, x = d[h]! := ⟨_, rfl⟩
              have l3fa := S1.out.cl R (by omega) (q) (by omega)
              have l3fb := S1.out.cl R (by omega) (h) (by omega)
              rw [← hx3f, ← haN3f] at l3fa
              rw [← hy3f, ← hcN3f] at l3fb
              have hc3f := S1.out.cmp HC.out (by omega) x3f y3f
              have hv3f : ¬ cf x3f y3f < 0 := by rw [hx3f, hy3f]; exact of_decide_eq_false hlv2
              have hd3f : decide (cf x3f y3f < 0) = false := decide_eq_false hv3f
              clear hx3f hy3f haN3f hcN3f
              go_wp2_with fail
              go_quiet_grown (first | (go_at_fn g; refine Calls.grown_of (hc3f _ _)))
              have S2 : Aside (SW enc w0 blk off d (grow (wr.drewN nq) osq)) := S1.out.grown nq osq
              clear l3fa l3fb hc3f S1
              generalize grow (wr.drewN nq) osq = w2 at S2 ⊢
              clear nq osq
              clear ea3f ec3f
              go_wp2
              go_roundg (j - (h + 1))
              case measure => omega
              case rel => exact ⟨h + 1, j, by first | rfl | (congr 1; omega), rfl, by omega, by omega, hi3, Nat.le_refl _, S2, HQ2⟩
          · have hltz : ¬ (i : Int) < (j : Int) := by omega
            have hq := HQ.out
            rw [binGo_done _ _ _ _ hlt] at hq
            have HQ2 := Lib.hid hq
            clear hq HQ
            have hfin := symGo_rec (ltOf cf) N d a m b c1 c2 mid HM.out _ _ rfl rfl i (by rw [if_neg c3, if_neg c3]; exact HQ2.out)
            have HF := Lib.hid hfin
            clear hfin
            by_cases cX : i < m
            · have zX : (i : Int) < (m : Int) := by omega
              by_cases cY : i < mid
              · have zY : (i : Int) < (mid : Int) := by omega
                by_cases cZ : a < i
                · have zZ : (a : Int) < (i : Int) := by omega
                  by_cases cV : mid + m - i < b
                  · have zV : (mid : Int) + (m : Int) - (i : Int) < (b : Int) := by omega
                    go_wp2_with fail
                    ((with_reducible refine (rotate_int64 enc cf g cb blk off cap i m (mid + m - i) _ _ _ rfl rfl (by omega) d0 d w0 _ _ (by first | omega | (simp only [rotate_size, symGo_size]; done) | (simp only [rotate_size, symGo_size]; omega)) eg HC.out R (by first | omega | (simp only [rotate_size, symGo_size]; done) | (simp only [rotate_size, symGo_size]; omega)) S1.out (by omega) (by omega) (by first | omega | (simp only [rotate_size, symGo_size]; done) | (simp only [rotate_size, symGo_size]; omega)) (by first | omega | (simp only [rotate_size, symGo_size]; done) | (simp only [rotate_size, symGo_size]; omega))).mono ?_); rintro e w_1 ⟨rfl, T10⟩)
                    have T1 : Aside (SW enc w0 blk off (rotate d i m (mid + m - i)) w_1) := T10
                    clear T10
                    go_wp2_with fail
                    ((with_reducible refine (IH.out a i mid _ _ _ rfl rfl (by omega) d0 (rotate d i m (mid + m - i)) w0 _ _ (by first | omega | (simp only [rotate_size, symGo_size]; done) | (simp only [rotate_size, symGo_size]; omega)) eg HC.out R (by first | omega | (simp only [rotate_size, symGo_size]; done) | (simp only [rotate_size, symGo_size]; omega)) T1.out (by omega) (by omega) (by first | omega | (simp only [rotate_size, symGo_size]; done) | (simp only [rotate_size, symGo_size]; omega)) (by first | omega | (simp only [rotate_size, symGo_size]; done) | (simp only [rotate_size, symGo_size]; omega)) (by omega)).mono ?_); rintro e w_2 ⟨rfl, T20⟩)
                    have T2 : Aside (SW enc w0 blk off (symGo (ltOf cf) N (rotate d i m (mid + m - i)) a i mid) w_2) := T20
                    clear T20
                    go_wp2_with fail
                    ((with_reducible refine (IH.out mid (mid + m - i) b _ _ _ (by omega) (by omega) rfl d0 (symGo (ltOf cf) N (rotate d i m (mid + m - i)) a i mid) w0 _ _ (by first | omega | (simp only [rotate_size, symGo_size]; done) | (simp only [rotate_size, symGo_size]; omega)) eg HC.out R (by first | omega | (simp only [rotate_size, symGo_size]; done) | (simp only [rotate_size, symGo_size]; omega)) T2.out (by omega) (by omega) (by first | omega | (simp only [rotate_size, symGo_size]; done) | (simp only [rotate_size, symGo_size]; omega)) (by first | omega | (simp only [rotate_size, symGo_size]; done) | (simp only [rotate_size, symGo_size]; omega)) (by omega)).mono ?_); rintro e w_3 ⟨rfl, T30⟩)
                    have T3 : Aside (SW enc w0 blk off (symGo (ltOf cf) N (symGo (ltOf cf) N (rotate d i m (mid + m - i)) a i mid) mid (mid + m - i) b) w_3) := T30
                    clear T30
                    go_wp2
                    go_end0
                    exact ⟨rfl, by rw [HF.out, symTail_XYZV _ _ _ _ _ _ _ _ cX cY cZ cV]; exact T3.out⟩
                  · exfalso; omega
                · have zZ : ¬ ((a : Int) < (i : Int)) := by omega
                  by_cases cV : mid + m - i < b
                  · have zV : (mid : Int) + (m : Int) - (i : Int) < (b : Int) := by omega
                    go_wp2_with fail
                    ((with_reducible refine (rotate_int64 enc cf g cb blk off cap i m (mid + m - i) _ _ _ rfl rfl (by omega) d0 d w0 _ _ (by first | omega | (simp only [rotate_size, symGo_size]; done) | (simp only [rotate_size, symGo_size]; omega)) eg HC.out R (by first | omega | (simp only [rotate_size, symGo_size]; done) | (simp only [rotate_size, symGo_size]; omega)) S1.out (by omega) (by omega) (by first | omega | (simp only [rotate_size, symGo_size]; done) | (simp only [rotate_size, symGo_size]; omega)) (by first | omega | (simp only [rotate_size, symGo_size]; done) | (simp only [rotate_size, symGo_size]; omega))).mono ?_); rintro e w_1 ⟨rfl, T10⟩)
                    have T1 : Aside (SW enc w0 blk off (rotate d i m (mid + m - i)) w_1) := T10
                    clear T10
                    go_wp2_with fail
                    ((with_reducible refine (IH.out mid (mid + m - i) b _ _ _ (by omega) (by omega) rfl d0 (rotate d i m (mid + m - i)) w0 _ _ (by first | omega | (simp only [rotate_size, symGo_size]; done) | (simp only [rotate_size, symGo_size]; omega)) eg HC.out R (by first | omega | (simp only [rotate_size, symGo_size]; done) | (simp only [rotate_size, symGo_size]; omega)) T1.out (by omega) (by omega) (by first | omega | (simp only [rotate_size, symGo_size]; done) | (simp only [rotate_size, symGo_size]; omega)) (by first | omega | (simp only [rotate_size, symGo_size]; done) | (simp only [rotate_size, symGo_size]; omega)) (by omega)).mono ?_); rintro e w_2 ⟨rfl, T20⟩)
                    have T2 : Aside (SW enc w0 blk off (symGo (ltOf cf) N (rotate d i m (mid + m - i)) mid (mid + m - i) b) w_2) := T20
                    clear T20
                    go_wp2
                    go_end0
                    exact ⟨rfl, by rw [HF.out, symTail_XYzV _ _ _ _ _ _ _ _ cX cY cZ cV]; exact T2.out⟩
                  · have zV : ¬ ((mid : Int) + (m : Int) - (i : Int) < (b : Int)) := by omega
                    go_wp2_with fail
                    ((with_reducible refine (rotate_int64 enc cf g cb blk off cap i m (mid + m - i) _ _ _ rfl rfl (by omega) d0 d w0 _ _ (by first | omega | (simp only [rotate_size, symGo_size]; done) | (simp only [rotate_size, symGo_size]; omega)) eg HC.out R (by first | omega | (simp only [rotate_size, symGo_size]; done) | (simp only [rotate_size, symGo_size]; omega)) S1.out (by omega) (by omega) (by first | omega | (simp only [rotate_size, symGo_size]; done) | (simp only [rotate_size, symGo_size]; omega)) (by first | omega | (simp only [rotate_size, symGo_size]; done) | (simp only [rotate_size, symGo_size]; omega))).mono ?_); rintro e w_1 ⟨rfl, T10⟩)
                    have T1 : Aside (SW enc w0 blk off (rotate d i m (mid + m - i)) w_1) := T10
                    clear T10
                    go_wp2
                    go_end0
                    exact ⟨rfl, by rw [HF.out, symTail_XYzv _ _ _ _ _ _ _ _ cX cY cZ cV]; exact T1.out⟩
              · exfalso; omega
            · have zX : ¬ ((i : Int) < (m : Int)) := by omega
              by_cases cY : i < mid
              · have zY : (i : Int) < (mid : Int) := by omega
                by_cases cZ : a < i
                · have zZ : (a : Int) < (i : Int) := by omega
                  by_cases cV : mid + m - i < b
                  · have zV : (mid : Int) + (m : Int) - (i : Int) < (b : Int) := by omega
                    go_wp2_with fail
                    ((with_reducible refine (IH.out a i mid _ _ _ rfl rfl (by omega) d0 d w0 _ _ (by first | omega | (simp only [rotate_size, symGo_size]; done) | (simp only [rotate_size, symGo_size]; omega)) eg HC.out R (by first | omega | (simp only [rotate_size, symGo_size]; done) | (simp only [rotate_size, symGo_size]; omega)) S1.out (by omega) (by omega) (by first | omega | (simp only [rotate_size, symGo_size]; done) | (simp only [rotate_size, symGo_size]; omega)) (by first | omega | (simp only [rotate_size, symGo_size]; done) | (simp only [rotate_size, symGo_size]; omega)) (by omega)).mono ?_); rintro e w_1 ⟨rfl, T10⟩)
                    have T1 : Aside (SW enc w0 blk off (symGo (ltOf cf) N d a i mid) w_1) := T10
                    clear T10
                    go_wp2
                    go_end0
                    exact ⟨rfl, by rw [HF.out, symTail_xYZV _ _ _ _ _ _ _ _ cX cY cZ cV]; exact T1.out⟩
                  · exfalso; omega
                · exfalso; omega
              · have zY : ¬ ((i : Int) < (mid : Int)) := by omega
                by_cases cZ : a < i
                · have zZ : (a : Int) < (i : Int) := by omega
                  by_cases cV : mid + m - i < b
                  · have zV : (mid : Int) + (m : Int) - (i : Int) < (b : Int) := by omega
                    go_wp2
                    go_end0
                    exact ⟨rfl, by rw [HF.out, symTail_xyZV _ _ _ _ _ _ _ _ cX cY cZ cV]; exact S1.out⟩
                  · exfalso; omega
                · exfalso; omega
end Go.Proofs.YtepeeahckgpapaaDoor.Q
end
section
set_option linter.unusedVariables false
set_option linter.unusedSimpArgs false
namespace Go.Proofs.YtepeeahckgpapaaDoor.Q
open Go.Shelf Go.RowKit Go.Lib Go.Sort
set_option maxHeartbeats 16000000 in
set_option maxRecDepth 1000000 in
theorem stable_int64 (enc : Int → Value) (cf : Int → Int → Int) (g : Nat) (cb : Array Value) (blk off cap n : Nat) (M : Int) (hM : M = n) (d0 d : Array Int) (w0 w : World) (sz : Nat) (hz : sz = d.size)
    (eg : ∀ args w, (callFunc g args).run Tryd.prog w = .ok (.enter g args) w) (hcmp : CmpLays1 Tryd.prog g cb enc cf blk off d0.size w0) (R : Row1 enc w0 blk off d0) (hs : d0.size = d.size) (S : SW enc w0 blk off d w) (hn : n ≤ d.size) (hsz : d.size < 1152921504606846976) :
    Calls Tryd.prog 217 #[.slice (some ⟨blk, off, none⟩) sz cap, .int .i64 M, .func (.func g) #[] cb] w fun e w' => e = .returned (.tuple #[]) ∧ SW enc w0 blk off (stable (ltOf cf) d n) w' := by
  subst hM hz
  have HC : Aside (CmpLays1 Tryd.prog g cb enc cf blk off d0.size w0) := hcmp
  clear hcmp
  have S0 : Aside (SW enc w0 blk off d w) := S
  clear S
  go_enter Tryd.func217, Tryd.ntmps217
  go_wp2
  go_loopg [7, 8] (n + 1) (fun kx sa sb wr => ∃ (f a : Nat) (dk : Array Int), sa = .int .i64 a ∧ sb = .int .i64 ((a : Int) + 20) ∧ a ≤ n ∧ n < a + 20 * f ∧ f ≤ kx ∧ dk.size = d.size ∧ Aside (SW enc w0 blk off dk wr) ∧ Hid (blocksGo (ltOf cf) n f a dk = blocksGo (ltOf cf) n (n + 1) 0 d))
  case atStart => exact ⟨n + 1, 0, d, rfl, rfl, by omega, by omega, Nat.le_refl _, rfl, S0, Lib.hid rfl⟩
  case round =>
    clear S0
    obtain ⟨f, a, dk, rfl, rfl, ha, hf, hkx, hds, S1, HQ⟩ := hrel
    by_cases hlt : a + 20 ≤ n
    · have hltz : (a : Int) + 20 ≤ (n : Int) := by omega
      obtain ⟨f, rfl⟩ : ∃ q, f = q + 1 := ⟨f - 1, by omega⟩
      have hq := HQ.out
      rw [blocksGo, if_pos hlt] at hq
      have HQ2 := Lib.hid hq
      clear hq HQ
      go_wp2_with (go_at_call 249; (with_reducible refine (insertion_int64 enc cf g cb blk off cap a (a + 20) _ _ rfl (by omega) d0 dk w0 _ _ (by omega) eg HC.out R (by omega) S1.out (by omega) (by omega) (by omega)).mono ?_); rintro e w2 ⟨rfl, T0⟩)
      have T1 : Aside (SW enc w0 blk off (Sort.insertionSort (ltOf cf) dk a (a + 20)) w2) := T0
      clear T0
      go_roundg f
      case measure => omega
      case rel => exact ⟨f, a + 20, Sort.insertionSort (ltOf cf) dk a (a + 20), by first | rfl | go_num | (congr 1; omega), by first | rfl | (congr 1; omega), by omega, by omega, Nat.le_refl _, by rw [insertionSort_size]; exact hds, T1, HQ2⟩
    · have hltz : ¬ (a : Int) + 20 ≤ (n : Int) := by omega
      have hq := HQ.out
      rw [blocksGo_stop _ _ _ _ _ hlt] at hq
      have HQ2 := Lib.hid hq
      clear hq HQ
      go_wp2_with (go_at_call 249; (with_reducible refine (insertion_int64 enc cf g cb blk off cap a n _ _ rfl rfl d0 dk w0 _ _ (by omega) eg HC.out R (by omega) S1.out (by omega) (by omega) (by omega)).mono ?_); rintro e w2 ⟨rfl, T0⟩)
      have T1 : Aside (SW enc w0 blk off (blocksGo (ltOf cf) n (n + 1) 0 d) w2) := by rw [← HQ2.out]; exact T0
      clear T0
      have hd2 : (blocksGo (ltOf cf) n (n + 1) 0 d).size = d.size := by rw [← HQ2.out, insertionSort_size]; exact hds
      obtain ⟨d2, hdd⟩ : ∃ q, q = blocksGo (ltOf cf) n (n + 1) 0 d := ⟨_, rfl⟩
      rw [← hdd] at T1 hd2
      have HD := Lib.hid hdd
      clear hdd S1 HQ2
      go_loopg [6] n (fun kx s6 wr => ∃ (f bs : Nat) (dk : Array Int), s6 = .int .i64 bs ∧ 20 ≤ bs ∧ bs ≤ 2 * n + 20 ∧ n ≤ bs + f ∧ f ≤ kx ∧ dk.size = d.size ∧ Aside (SW enc w0 blk off dk wr) ∧ Hid (passes (ltOf cf) n f bs dk = passes (ltOf cf) n n 20 d2))
      case atStart => exact ⟨n, 20, d2, rfl, by omega, by omega, by omega, Nat.le_refl _, hd2, T1, Lib.hid rfl⟩
      case round =>
        clear T1 hlt hltz
        obtain ⟨f, bs, dk, rfl, hb1, hb2, hf, hkx, hds, S1, HQ⟩ := hrel
        by_cases hlt : bs < n
        · have hltz : (bs : Int) < (n : Int) := by omega
          obtain ⟨f, rfl⟩ : ∃ q, f = q + 1 := ⟨f - 1, by omega⟩
          have hq := HQ.out
          rw [passes, if_pos hlt] at hq
          have HQ2 := Lib.hid hq
          clear hq HQ
          go_wp2
          go_loopg [7, 8] n (fun kx sa sb wr => ∃ (fi a : Nat) (di : Array Int), sa = .int .i64 a ∧ sb = .int .i64 ((a : Int) + 2 * (bs : Int)) ∧ a ≤ n ∧ n ≤ a + fi ∧ fi ≤ kx ∧ di.size = d.size ∧ Aside (SW enc w0 blk off di wr) ∧ Hid (mergePass (ltOf cf) n bs fi a di = mergePass (ltOf cf) n bs n 0 dk))
          case atStart => exact ⟨n, 0, dk, rfl, by first | rfl | (congr 1; omega), by omega, by omega, Nat.le_refl _, hds, S1, Lib.hid rfl⟩
          case round =>
            clear S1
            obtain ⟨fi, a, di, rfl, rfl, ha, hfi, hki, hdi, S3, HI⟩ := hrel
            by_cases hlt2 : a + 2 * bs ≤ n
            · have hltz2 : (a : Int) + 2 * (bs : Int) ≤ (n : Int) := by omega
              obtain ⟨fi, rfl⟩ : ∃ q, fi = q + 1 := ⟨fi - 1, by omega⟩
              have hq := HI.out
              rw [mergePass, if_pos hlt2] at hq
              have HI2 := Lib.hid hq
              clear hq HI
              go_wp2_with (go_at_call 250; (with_reducible refine (symMerge_int64 enc cf g cb blk off cap n a (a + bs) (a + 2 * bs) _ _ _ rfl (by omega) (by omega) d0 di w0 _ _ (by omega) eg HC.out R (by omega) S3.out (by omega) (by omega) (by omega) (by omega) (by omega)).mono ?_); rintro e w2 ⟨rfl, T0⟩)
              have T1 : Aside (SW enc w0 blk off (symGo (ltOf cf) n di a (a + bs) (a + 2 * bs)) w2) := T0
              clear T0
              go_roundg fi
              case measure => omega
              case rel => exact ⟨fi, a + 2 * bs, symGo (ltOf cf) n di a (a + bs) (a + 2 * bs), by first | rfl | (congr 1; omega), by first | rfl | (congr 1; omega), by omega, by omega, Nat.le_refl _, by rw [symGo_size]; exact hdi, T1, HI2⟩
            · have hltz2 : ¬ (a : Int) + 2 * (bs : Int) ≤ (n : Int) := by omega
              by_cases hm : a + bs < n
              · have hmz : (a : Int) + (bs : Int) < (n : Int) := by omega
                obtain ⟨fi, rfl⟩ : ∃ q, fi = q + 1 := ⟨fi - 1, by omega⟩
                have hq := HI.out
                rw [mergePass, if_neg hlt2, if_pos hm] at hq
                have HI2 := Lib.hid hq
                clear hq HI
                go_wp2_with (go_at_call 250; (with_reducible refine (symMerge_int64 enc cf g cb blk off cap n a (a + bs) n _ _ _ rfl (by omega) rfl d0 di w0 _ _ (by omega) eg HC.out R (by omega) S3.out (by omega) (by omega) (by omega) (by omega) (by omega)).mono ?_); rintro e w2 ⟨rfl, T0⟩)
                have T1 : Aside (SW enc w0 blk off (mergePass (ltOf cf) n bs n 0 dk) w2) := by rw [← HI2.out]; exact T0
                clear T0
                go_roundg f
                case measure => omega
                case rel => exact ⟨f, 2 * bs, mergePass (ltOf cf) n bs n 0 dk, by first | rfl | (congr 1; omega), by omega, by omega, by omega, Nat.le_refl _, by rw [mergePass_size]; exact hds, T1, HQ2⟩
              · have hmz : ¬ (a : Int) + (bs : Int) < (n : Int) := by omega
                have hq := HI.out
                have hz : mergePass (ltOf cf) n bs fi a di = di := by
                  cases fi with
                  | zero => rfl
                  | succ fi => rw [mergePass, if_neg hlt2, if_neg hm]
                rw [hz] at hq
                have HI2 := Lib.hid hq
                clear hq HI hz
                go_wp2
                have T1 : Aside (SW enc w0 blk off (mergePass (ltOf cf) n bs n 0 dk) wr) := by rw [← HI2.out]; exact S3.out
                go_roundg f
                case measure => omega
                case rel => exact ⟨f, 2 * bs, mergePass (ltOf cf) n bs n 0 dk, by first | rfl | (congr 1; omega), by omega, by omega, by omega, Nat.le_refl _, by rw [mergePass_size]; exact hds, T1, HQ2⟩
        · have hltz : ¬ (bs : Int) < (n : Int) := by omega
          have hq := HQ.out
          rw [passes_stop _ _ _ _ _ hlt] at hq
          go_wp2
          go_end0
          exact ⟨rfl, by unfold stable; rw [← HD.out, ← hq]; exact S1.out⟩
end Go.Proofs.YtepeeahckgpapaaDoor.Q
end
section
namespace Go.Proofs.YtepeeahckgpapaaDoor.Q
open Go.RowKit Go.Proofs.YtepeeahckgpapaaDoorW.PrintWords Go.Proofs.YtepeeahckgpapaaDoorW.PrintLast Go.Proofs.YtepeeahckgpapaaDoorW.PrintMore
attribute [local go_sem] max2_int max_two
set_option linter.unusedVariables false
set_option linter.unusedSimpArgs false
def impl_normal_1.f (a0 : Int) (a1 : Int) : Option (Int) := (impl_MarkClass.f a0).bind fun t101 => ((impl_MarkClass.f a1).bind fun t102 => (some (wrap64 (t101 - t102))))
set_option maxHeartbeats 8000000 in
set_option maxRecDepth 100000 in
theorem impl_normal_1.calls (a0 : Int) (a1 : Int) (r : Int) (w : World) (h : impl_normal_1.f a0 a1 = some r) :
  Calls Tryd.prog 169 #[.int .i64 a0, .int .i64 a1] w fun e w' => e = .returned (.int .i64 r) ∧ Drawn0 w w' := by
 have H : ((impl_MarkClass.f a0).bind fun t101 => ((impl_MarkClass.f a1).bind fun t102 => (some (wrap64 (t101 - t102))))) = some r := h
 clear h
 replace H := Option.bind_eq_some_iff.mp H
 obtain ⟨t101, A30, H⟩ := H
 replace H : ((impl_MarkClass.f a1).bind fun t102 => (some (wrap64 (t101 - t102)))) = some r := H
 have A3 := Aside0.mk A30
 clear A30
 replace H := Option.bind_eq_some_iff.mp H
 obtain ⟨t102, A40, H⟩ := H
 replace H : (some (wrap64 (t101 - t102))) = some r := H
 have A4 := Aside0.mk A40
 clear A40
 obtain rfl := Option.some.inj H
 go_enter Tryd.func169, Tryd.ntmps169
 go_wp2_with (first | ((with_reducible refine gate_callee (f := 167) rfl ?_); refine goesL_ (some 6) rfl rfl Tryd.func167 (by kernel_rfl) rfl #[.int .i64 a0] rfl (by (try simp only [List.map_toArray, List.map_cons, List.map_nil]); first | done | rfl | (simp only [List.length_drop, List.length_take]; rfl)) ?_; (with_reducible refine (impl_MarkClass.calls a0 t101 _ A3.out).mono ?_); rintro e w' ⟨rfl, ⟨nd, rfl⟩⟩; refine ⟨_, rfl, ?_⟩) | ((with_reducible refine gate_callee (f := 167) rfl ?_); refine goesL_ (some 8) rfl rfl Tryd.func167 (by kernel_rfl) rfl #[.int .i64 a1] rfl (by (try simp only [List.map_toArray, List.map_cons, List.map_nil]); first | done | rfl | (simp only [List.length_drop, List.length_take]; rfl)) ?_; (with_reducible refine (impl_MarkClass.calls a1 t102 _ A4.out).mono ?_); rintro e w' ⟨rfl, ⟨nd, rfl⟩⟩; refine ⟨_, rfl, ?_⟩))
 go_ret
 exact ⟨by first | rfl | (simp; done) | (simp [*]; done), by repeat (first | exact Drawn0.refl _ | apply Drawn0.step)⟩
end Go.Proofs.YtepeeahckgpapaaDoor.Q
end
section
set_option linter.unusedVariables false
set_option linter.unusedSimpArgs false
namespace Go.Proofs.YtepeeahckgpapaaDoor.Q
open Go.Shelf Go.RowKit Go.Lib Go.Sort
open Go.Proofs.YtepeeahckgpapaaDoorW.PrintWords Go.Proofs.YtepeeahckgpapaaDoorW.PrintLast Go.Proofs.YtepeeahckgpapaaDoorW.PrintMore
theorem impl_in.total (a b c : Int) : ∃ r, impl_in.f a b c = some r := by
  unfold impl_in.f
  split <;> exact ⟨_, rfl⟩
theorem impl_MarkClass.total (a : Int) : ∃ r, impl_MarkClass.f a = some r := by
  unfold impl_MarkClass.f
  obtain ⟨r, hr⟩ := impl_in.total a 4096 4159
  rw [hr]
  simp only [Option.bind_some]
  repeat' split
  all_goals exact ⟨_, rfl⟩
def clsCmp (x y : Int) : Int := (impl_normal_1.f x y).getD 0
theorem clsCmp_eq (x y : Int) : impl_normal_1.f x y = some (clsCmp x y) := by
  obtain ⟨a, ha⟩ := impl_MarkClass.total x
  obtain ⟨b, hb⟩ := impl_MarkClass.total y
  have : impl_normal_1.f x y = some (wrap64 (a - b)) := by
    unfold impl_normal_1.f
    rw [ha, hb]
    rfl
  unfold clsCmp
  rw [this]
  rfl
theorem clsCmp_lays (blk off size : Nat) (w : World) : CmpLays1 Tryd.prog 169 #[] (Value.int .i64) clsCmp blk off size w := by
  intro m os dk hs x y
  refine (impl_normal_1.calls x y (clsCmp x y) _ (clsCmp_eq x y)).mono ?_
  rintro e w' ⟨rfl, ⟨n, rfl⟩⟩
  exact ⟨rfl, n, #[], by rw [grow_empty]⟩
theorem enters169 : ∀ args w, (callFunc 169 args).run Tryd.prog w = .ok (.enter 169 args) w := enters_of Tryd.func169 (by kernel_rfl) rfl
set_option maxHeartbeats 4000000 in
set_option maxRecDepth 1000000 in
theorem sortStable_int64 (blk off cap : Nat) (d : Array Int) (w : World) (R : Row1 (Value.int .i64) w blk off d) (S : SW (Value.int .i64) w blk off d w) (hsz : d.size < 1152921504606846976) (sz : Nat) (hz : sz = d.size) :
    Calls Tryd.prog 168 #[.slice (some ⟨blk, off, none⟩) sz cap, .func (.func 169) #[] #[]] w fun e w' => e = .returned (.tuple #[]) ∧ SW (Value.int .i64) w blk off (stable (ltOf clsCmp) d d.size) w' := by
  subst hz
  go_enter Tryd.func168, Tryd.ntmps168
  go_wp2_with (go_at_call 217; (with_reducible refine (stable_int64 (Value.int .i64) clsCmp 169 #[] blk off cap d.size _ rfl d d w w _ rfl enters169 (clsCmp_lays _ _ _ _) R rfl S (Nat.le_refl _) hsz).mono ?_); rintro e w2 ⟨rfl, T0⟩)
  go_end0
  exact ⟨rfl, T0⟩
theorem putCells_parts (cur : Array Value) (xs ds : List Int) (lo : Nat) (h : lo + ds.length ≤ xs.length) (hx : xs.length ≤ cur.size) (hc : cur.toList.take xs.length = xs.map (Value.int .i64)) :
    (putCells (Value.int .i64) lo ds.toArray cur).toList.take xs.length = (xs.take lo ++ ds ++ xs.drop (lo + ds.length)).map (Value.int .i64) := by
  apply List.ext_getElem?
  intro j
  by_cases hj : j < xs.length
  · have h1 : (cur.toList.take xs.length)[j]? = (xs.map (Value.int .i64))[j]? := by rw [hc]
    rw [List.getElem?_take_of_lt hj] at h1 ⊢
    rw [Array.getElem?_toList] at h1 ⊢
    rw [putCells, Array.getElem?_mapIdx, h1]
    simp only [List.getElem?_map, List.getElem?_eq_getElem hj, Option.map_some]
    by_cases h2 : j < lo
    · rw [if_neg (by omega), List.append_assoc, List.getElem?_append_left (by simp; omega), List.getElem?_take_of_lt h2, List.getElem?_eq_getElem hj]
      rfl
    · by_cases h3 : j < lo + ds.length
      · rw [if_pos (by simp; omega), List.append_assoc, List.getElem?_append_right (by simp; omega), List.getElem?_append_left (by simp; omega)]
        have e : (xs.take lo).length = lo := by simp; omega
        rw [e, List.getElem?_eq_getElem (show j - lo < ds.length by omega)]
        simp only [Option.map_some]
        congr 2
        simp [show j - lo < ds.length by omega]
      · rw [if_neg (by simp; omega), List.getElem?_append_right (by simp; omega), List.getElem?_drop]
        have e : (xs.take lo ++ ds).length = lo + ds.length := by simp; omega
        rw [e, show lo + ds.length + (j - (lo + ds.length)) = j from by omega, List.getElem?_eq_getElem hj]
        rfl
  · rw [List.getElem?_take_eq_none (by omega), List.getElem?_eq_none (by simp; omega)]
def sortSub (xs : List Int) (lo hi : Nat) : List Int := xs.take lo ++ (stable (ltOf clsCmp) ((xs.drop lo).take (hi - lo)).toArray (hi - lo)).toList ++ xs.drop hi
theorem sortSub_length (xs : List Int) (lo hi : Nat) (h1 : lo ≤ hi) (h2 : hi ≤ xs.length) : (sortSub xs lo hi).length = xs.length := by
  simp [sortSub, stable_size]
  omega
theorem sortSub_same (xs : List Int) (lo : Nat) : sortSub xs lo lo = xs := by
  unfold sortSub
  have h := stable_size (ltOf clsCmp) ((xs.drop lo).take (lo - lo)).toArray (lo - lo)
  have e : (stable (ltOf clsCmp) ((xs.drop lo).take (lo - lo)).toArray (lo - lo)).toList = [] := by
    apply List.eq_nil_of_length_eq_zero
    rw [Array.length_toList, h]
    simp
  rw [e]
  simp
set_option maxHeartbeats 4000000 in
theorem sortSub_row (g n cap cs lo hi : Nat) (xs : List Int) (W : World) (base : Nat) (h1 : lo ≤ hi) (h2 : hi ≤ xs.length) (hn : n = xs.length) (hl : xs.length < 17592186044416)
    (ho : W.ownsRow base 2 1 (.slice (some ⟨g, 0, none⟩) n cap) n (nums .i64 xs)) :
    Calls Tryd.prog 168 #[.slice (some ⟨g, lo, none⟩) (hi - lo) cs, .func (.func 169) #[] #[]] W fun e W2 => e = .returned (.tuple #[]) ∧ W2.ownsRow base 2 1 (.slice (some ⟨g, 0, none⟩) n cap) n (nums .i64 (sortSub xs lo hi)) ∧ W.grownBy W2 (some g) := by
  subst hn
  obtain ⟨_, ho2⟩ := ho
  rcases ho2 with ⟨h0, _⟩ | ⟨g', cap', cur, he, hb, hh, h3, h4, h5, h6⟩
  · cases h0
  cases he
  rw [Nat.mul_one] at h5 h6
  have hg : g < W.heap.size := (Array.getElem?_eq_some_iff.1 hh).1
  have hlen : ((xs.drop lo).take (hi - lo)).length = hi - lo := by simp; omega
  have H : Holds (Value.int .i64) W g lo ((xs.drop lo).take (hi - lo)).toArray := by
    intro j hj
    have hj' : j < hi - lo := by simpa [hlen] using hj
    refine ⟨?_, by simp [World.frozen?, hh]⟩
    have q1 : (cur.toList.take xs.length)[lo + j]? = (xs.map (Value.int .i64))[lo + j]? := by rw [h6]; rfl
    rw [List.getElem?_take_of_lt (by omega)] at q1
    simp only [World.cell?, hh]
    simp only [Option.isSome_none, Bool.false_eq_true, if_false]
    rw [← Array.getElem?_toList, q1]
    simp only [List.getElem?_map, List.getElem?_eq_getElem (show lo + j < xs.length by omega), Option.map_some]
    congr 2
    rw [getElem!_pos _ j (by simp; omega)]
    simp
  have hd : ((xs.drop lo).take (hi - lo)).toArray.size = hi - lo := by simp; omega
  refine (sortStable_int64 g lo cs ((xs.drop lo).take (hi - lo)).toArray W ⟨?_, H, hg⟩ (SW.start H) (by rw [hd]; omega) _ hd.symm).mono ?_
  · exact fun _ => rfl
  rintro e W2 ⟨rfl, ⟨m, os, rfl⟩⟩
  refine ⟨rfl, ?_, ⟨rfl, rfl, rfl, by simp [sortWorld, putRow, mapBlock, Sort.ahead], fun k hk hne => ?_⟩⟩
  have hs := stable_size (ltOf clsCmp) ((xs.drop lo).take (hi - lo)).toArray (hi - lo)
  rw [hd] at hs
  obtain ⟨ds, hds⟩ : ∃ ds, ds = (stable (ltOf clsCmp) ((xs.drop lo).take (hi - lo)).toArray (hi - lo)).toList := ⟨_, rfl⟩
  have hdl : ds.length = hi - lo := by rw [hds, Array.length_toList, hs]
  have hda : stable (ltOf clsCmp) ((xs.drop lo).take (hi - lo)).toArray ((xs.drop lo).take (hi - lo)).toArray.size = ds.toArray := by rw [hd, hds]
  rw [hda]
  have hp := putCells_parts cur xs ds lo (by omega) (by omega) h6
  rw [hdl, show lo + (hi - lo) = hi from by omega] at hp
  refine ⟨by rw [nums_length, Nat.mul_one]; exact sortSub_length xs lo hi h1 h2, .inr ⟨g, cap, putCells (Value.int .i64) lo ds.toArray cur, rfl, hb, ?_, h3, h4, by simp [putCells]; omega, ?_⟩⟩
  · unfold sortWorld
    rw [heap_grow_old _ _ (by simpa [putRow, mapBlock] using hg)]
    simp [putRow, mapBlock, Sort.ahead, Array.getElem?_modify, hh, onCells]
  · rw [Nat.mul_one, hp]
    unfold sortSub nums
    rw [← hds]
  · unfold sortWorld
    rw [heap_grow_old _ _ (by simpa [putRow, mapBlock] using hk)]
    have hgk : g ≠ k := fun e => hne (by rw [e])
    simp [putRow, mapBlock, Sort.ahead, Array.getElem?_modify, hgk]
end Go.Proofs.YtepeeahckgpapaaDoor.Q
end
section
namespace Go.Proofs.YtepeeahckgpapaaDoor.Q
open Go.RowKit Go.Proofs.YtepeeahckgpapaaDoorW.PrintWords Go.Proofs.YtepeeahckgpapaaDoorW.PrintLast Go.Proofs.YtepeeahckgpapaaDoorW.PrintMore
attribute [local go_sem] max2_int max_two
set_option linter.unusedVariables false
set_option linter.unusedSimpArgs false
def virt_sortSub.f (l0 : List Int) (a1 : Int) (a2 : Int) : Option (List Int) := if 0 ≤ a1 ∧ a1 ≤ a2 ∧ a2 ≤ (l0.length : Int) ∧ l0.length < 17592186044416 ∧ 0 < l0.length then some (sortSub l0 a1.toNat a2.toNat) else none
theorem virt_sortSub.bounds {l0 : List Int} {a1 a2 : Int} {r : List Int} (h : virt_sortSub.f l0 a1 a2 = some r) : 0 ≤ a1 ∧ a1 ≤ a2 ∧ a2 ≤ (l0.length : Int) := by
 unfold virt_sortSub.f at h
 by_cases c : 0 ≤ a1 ∧ a1 ≤ a2 ∧ a2 ≤ (l0.length : Int) ∧ l0.length < 17592186044416 ∧ 0 < l0.length
 ·exact ⟨c.1, c.2.1, c.2.2.1⟩
 ·rw [if_neg c] at h
  cases h
theorem virt_sortSub.calls (P0_ : Nat → Prop) (u9000_ : Value) (l0 : List Int) (a1 : Int) (a2 : Int) (r : List Int) (w0 w : World) (A : Option Addr) (c : Nat) (hu : u9000_ = .slice A l0.length c) {As : Option Addr} {ns cs : Nat} (hAs : As = if c = a1.toNat then A else Option.map (fun x => x.add (a1.toNat * 1)) A) (hns : ns = a2.toNat - a1.toNat) (hcs : cs = c - a1.toNat)
  (hB : Below w0.heap.size w0 w) (ho0 : Kd.R (Kd.int .i64) 2 w w0.heap.size P0_ u9000_ l0) (h : virt_sortSub.f l0 a1 a2 = some r) :
  Calls Tryd.prog 168 #[.slice As ns cs, .func (.func 169) #[] #[]] w fun e w' => e = .returned (.tuple #[]) ∧ Kd.R (Kd.int .i64) 2 w' w0.heap.size (fun k_ => (P0_ k_ ∨ w.heap.size ≤ k_)) u9000_ r ∧ Below w0.heap.size w0 w' ∧ Kept w w' (fun k_ => P0_ k_) := by
 unfold virt_sortSub.f at h
 by_cases cc : 0 ≤ a1 ∧ a1 ≤ a2 ∧ a2 ≤ (l0.length : Int) ∧ l0.length < 17592186044416 ∧ 0 < l0.length
 ·rw [if_pos cc] at h
  obtain rfl := Option.some.inj h
  obtain ⟨h0, h1, h2, h3, h4⟩ := cc
  subst hu
  have hown := Kd.own_of_R ho0
  obtain ⟨g, cap, hv, hg1, hg2, _⟩ := Kd.R_form ho0 h4
  injection hv with hA _ hc
  subst hA hc
  have post : ∀ (e : Ending) (w' : World), (e = .returned (.tuple #[]) ∧ w'.ownsRow w0.heap.size 2 1 (.slice (some ⟨g, 0, none⟩) l0.length c) l0.length (nums .i64 (sortSub l0 a1.toNat a2.toNat)) ∧ w.grownBy w' (some g)) →
    (e = .returned (.tuple #[]) ∧ Kd.R (Kd.int .i64) 2 w' w0.heap.size (fun k_ => (P0_ k_ ∨ w.heap.size ≤ k_)) (.slice (some ⟨g, 0, none⟩) l0.length c) (sortSub l0 a1.toNat a2.toNat) ∧ Below w0.heap.size w0 w' ∧ Kept w w' (fun k_ => P0_ k_)) := by
   rintro e w' ⟨rfl, ho, hgr⟩
   have hok : P0_ g := ho0.1 g rfl
   have hl := sortSub_length l0 a1.toNat a2.toNat (by omega) (by omega)
   refine ⟨rfl, ?_, hB.grown hgr (Nat.le_trans hg1 (Nat.le_of_lt hg2)) (fun k hk => by cases hk; exact hg1), ?_⟩
   ·refine Kd.R_of_own (enc := Value.int .i64) (h1 := fun _ => rfl) ?_ (fun k hk => .inl ?_)
    ·rw [hl]; exact ho
    ·have : g = k := by simpa [Value.ownBlock] using hk
     rw [← this]; exact hok
   ·refine Kept.of_grown hgr (Kept.refl _ _) (fun k hk => .inl ?_)
    cases hk; exact hok
  by_cases e1 : c = a1.toNat
  ·have e2 : a1.toNat = l0.length := by
    have := (Kd.R_reads' ho0).2.1
    omega
   have e3 : a2.toNat = a1.toNat := by omega
   rw [if_pos e1] at hAs
   subst hAs hns hcs
   rw [e3, show a1.toNat - a1.toNat = 0 - 0 from by omega]
   refine (sortSub_row g l0.length c (c - a1.toNat) 0 0 l0 w w0.heap.size (Nat.le_refl _) (Nat.zero_le _) rfl h3 hown).mono fun e w' hh => ?_
   rw [sortSub_same] at hh
   have := post e w' (by rw [e3, sortSub_same]; exact hh)
   rw [e3] at this
   exact this
  ·rw [if_neg e1] at hAs
   have e2 : As = some ⟨g, a1.toNat, none⟩ := by rw [hAs, Option.map_some, Nat.mul_one, add_plain]
   subst e2 hns hcs
   exact (sortSub_row g l0.length c (c - a1.toNat) a1.toNat a2.toNat l0 w w0.heap.size (by omega) (by omega) rfl h3 hown).mono fun e w' hh => post e w' hh
 ·rw [if_neg cc] at h
  cases h
end Go.Proofs.YtepeeahckgpapaaDoor.Q
end
