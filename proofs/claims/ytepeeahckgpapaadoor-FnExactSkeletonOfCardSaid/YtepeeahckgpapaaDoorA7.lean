/- FnExactSkeletonOf answers true whatever text it is given: the theorem K.card at the end of this text is the card's statement FnExactSkeletonOfCardSaid.
   CONDITIONS: none beside the card's own: the package variables that the row lists read as it lists them, and the card ties them to the program's text. -/
import Derived.Lib.RuneCountTail
import Derived.Shelf.Unicode.DecodeAny
import Derived.Carry
import Derived.WalkSmall
import Derived.Test.YtepeeahckgpapaaDoorA6
section
namespace Go.Proofs.YtepeeahckgpapaaDoor.Q
open Go.RowKit Go.Proofs.YtepeeahckgpapaaDoorW.PrintWords Go.Proofs.YtepeeahckgpapaaDoorW.PrintLast Go.Proofs.YtepeeahckgpapaaDoorW.PrintMore
attribute [local go_sem] max2_int max_two
set_option linter.unusedVariables false
set_option linter.unusedSimpArgs false
def spec_l19Skeleton.l0 : Nat → List Int → List Int → Int → Option (List Int)
 | 0, _, _, _ => none
 | k + 1, x3, x4, x5 => if x5 < (x3.length : Int) then (if 0 ≤ x5 then ((spec_l19Seen.f k (rd x3 x5)).bind fun t111 => (if x4.length + t111.length < 17592186044416 then (spec_l19Skeleton.l0 k x3 (x4 ++ t111) (wrap64 (x5 + 1))) else (none))) else (none)) else ((spec_l05Norm.f k 1 x4).bind fun t117 => (some t117))
def spec_l19Skeleton.f (k : Nat) (a0 : ByteArray) : Option (List Int) := (spec_l01Points.f k a0).bind fun t101 => ((spec_l05Norm.f k 1 t101).bind fun t104 => (spec_l19Skeleton.l0 k t104 (([] : List Int)) 0))
set_option maxHeartbeats 8000000 in
set_option maxRecDepth 100000 in
theorem spec_l19Skeleton.calls (k : Nat) (a0 : ByteArray) (r : List Int) (w : World) (h : spec_l19Skeleton.f k a0 = some r) :
  Calls Tryd.prog 48 #[.string a0] w fun e w' => ∃ v0_ : Value, e = .returned (v0_) ∧ Kd.R (Kd.int .i64) 2 w' w.heap.size (fun _ => True) v0_ r ∧ Below w.heap.size w w' := by
 have HB := Aside0.mk (Below.refl w.heap.size w)
 have H : ((spec_l01Points.f k a0).bind fun t101 => ((spec_l05Norm.f k 1 t101).bind fun t104 => (spec_l19Skeleton.l0 k t104 (([] : List Int)) 0))) = some r := h
 clear h
 replace H := Option.bind_eq_some_iff.mp H
 obtain ⟨t101, A20, H⟩ := H
 replace H : ((spec_l05Norm.f k 1 t101).bind fun t104 => (spec_l19Skeleton.l0 k t104 (([] : List Int)) 0)) = some r := H
 have A2 := Aside0.mk A20
 clear A20
 replace H := Option.bind_eq_some_iff.mp H
 obtain ⟨t104, A30, H⟩ := H
 replace H : (spec_l19Skeleton.l0 k t104 (([] : List Int)) 0) = some r := H
 have A3 := Aside0.mk A30
 clear A30
 obtain ⟨y107, hy107⟩ : ∃ y_ : List Int, y_ = (([] : List Int)) := ⟨_, rfl⟩
 replace H : (spec_l19Skeleton.l0 k t104 y107 0) = some r := by first | (rw [hy107]; with_reducible exact H) | (have H2_ := (Option.bind_some _ _).symm.trans H; rw [hy107]; with_reducible exact H2_) | (have H2_ := (Option.bind_some _ _).symm.trans H; with_reducible exact H2_) | with_reducible exact H | (rw [hy107]; exact H) | exact H
 have Ny107 := Aside0.mk hy107
 clear hy107
 have H' := Aside0.mk H
 clear H
 go_enter Tryd.func48, Tryd.ntmps48
 go_wp2_with (first | ((with_reducible refine gate_callee (f := 69) rfl ?_); refine goesL_ (some 7) rfl rfl Tryd.func69 (by kernel_rfl) rfl #[.string a0] rfl (by (try simp only [List.map_toArray, List.map_cons, List.map_nil]); first | done | rfl | (simp only [List.length_drop, List.length_take]; rfl)) ?_; (with_reducible refine (spec_l01Points.calls k a0 t101 _ A2.out).mono ?_); rintro e w4 ⟨v102, rfl, ho0, hb⟩; refine ⟨_, rfl, ?_⟩; have n0_ := Aside0.mk (Kd.R_lower ho0 (below_size (by repeat (first | exact HB.out | apply below_alloc | apply pw_below_drewN | apply below_drew1)))); have n1_ := Aside0.mk (below_step (by repeat (first | exact HB.out | apply below_alloc | apply pw_below_drewN | apply below_drew1)) hb); clear HB; have HO103 := n0_; have HB := n1_; clear n0_ n1_; (try clear hb); (try clear ho0); obtain ⟨Ao5, co5, eo5⟩ := Kd.R_slice HO103.out; subst eo5) | ((with_reducible refine gate_callee (f := 111) rfl ?_); refine goesL_ (some 8) rfl rfl Tryd.func111 (by kernel_rfl) rfl #[.int .i64 1, .slice Ao5 t101.length co5] rfl (by (try simp only [List.map_toArray, List.map_cons, List.map_nil]); first | done | rfl | (simp only [List.length_drop, List.length_take]; rfl)) ?_; (with_reducible refine (spec_l05Norm.calls k 1 _ _ t101 t104 _ ?side1 ?side2 A3.out).mono ?_); (case side1 => repeat (first | exact (Kd.R_reads' HO103.out).2.2 | (with_reducible refine Kd.C_alloc ?_ _) | (with_reducible refine Kd.C_drewN ?_ _) | (with_reducible refine Kd.C_drew ?_))); (case side2 => exact (Kd.R_reads' HO103.out).2.1); rintro e w6 ⟨v105, rfl, ho0, hb⟩; refine ⟨_, rfl, ?_⟩; have n0_ := Aside0.mk (Kd.R_elder' (by (with_reducible repeat (first | apply Kd.R_alloc | apply Kd.R_drewN | apply Kd.R_drew)); exact HO103.out) (Kd.R_base ho0) hb); have n1_ := Aside0.mk (Kd.R_lower (Kd.R_new' ho0 (Kd.R_lt (by (with_reducible repeat (first | apply Kd.R_alloc | apply Kd.R_drewN | apply Kd.R_drew)); exact HO103.out))) (below_size (by repeat (first | exact HB.out | apply below_alloc | apply pw_below_drewN | apply below_drew1)))); have n2_ := Aside0.mk (below_step (by repeat (first | exact HB.out | apply below_alloc | apply pw_below_drewN | apply below_drew1)) hb); clear HO103; clear HB; have HO103 := n0_; have HO106 := n1_; have HB := n2_; clear n0_ n1_ n2_; (try clear hb); (try clear ho0)) | ((with_reducible refine gate_dst (N := 9) rfl ?_); refine Kd.R_lit (Kd.int .i64) _ 2 ?hg (N := 9) ?hd (xs := ([] : List Int)) (inner := []) (ok := fun _ => True) (okp := fun _ => True) ?hr ?hp (fun _ hk => hk) trivial (Below.refl _ _) (Nat.le_refl _) (by simp) ?_; (case hd => rfl); (case hg => rfl); (case hr => first | (go_simp; done) | (go_simp; rfl)); (case hp => exact (Reps.none _ _)); intro v108 w7 ho8 hb hg_ hnew_; clear hg_ hnew_; (first | rw [← Ny107.out] at ho8 | (simp only [Int.reduceToNat] at ho8; rw [← Ny107.out] at ho8)); have n0_ := Aside0.mk (Kd.R_elder' (by (with_reducible repeat (first | apply Kd.R_alloc | apply Kd.R_drewN | apply Kd.R_drew)); exact HO103.out) (Kd.R_base ho8) hb); have n1_ := Aside0.mk (Kd.R_elder' (by (with_reducible repeat (first | apply Kd.R_alloc | apply Kd.R_drewN | apply Kd.R_drew)); exact HO106.out) (Kd.R_base ho8) hb); have n2_ := Aside0.mk (Kd.R_lower (Kd.R_new' (Kd.R_new' ho8 (Kd.R_lt (by (with_reducible repeat (first | apply Kd.R_alloc | apply Kd.R_drewN | apply Kd.R_drew)); exact HO103.out))) (Kd.R_lt (by (with_reducible repeat (first | apply Kd.R_alloc | apply Kd.R_drewN | apply Kd.R_drew)); exact HO106.out))) (below_size (by repeat (first | exact HB.out | apply below_alloc | apply pw_below_drewN | apply below_drew1)))); have n3_ := Aside0.mk (below_step (by repeat (first | exact HB.out | apply below_alloc | apply pw_below_drewN | apply below_drew1)) hb); clear HO103; clear HO106; clear HB; have HO103 := n0_; have HO106 := n1_; have HO109 := n2_; have HB := n3_; clear n0_ n1_ n2_ n3_; clear hb ho8))
 go_loopg [4, 5] k (fun kq v4 v5 w' => ∃ (x4_1 : List Int) (x5_1 : Int), v5 = .int .i64 x5_1 ∧ Aside0 (spec_l19Skeleton.l0 kq t104 x4_1 x5_1 = some r) ∧ Aside0 (kq ≤ k) ∧ Aside0 (Kd.R (Kd.int .i64) 2 w' w.heap.size (fun k_ => some k_ ≠ (v4 : Value).ownBlock) v105 t104) ∧ Aside0 (Kd.R (Kd.int .i64) 2 w' w.heap.size (fun k_ => some k_ ≠ (v105 : Value).ownBlock) v4 x4_1) ∧ Aside0 (Below w.heap.size w w'))
 case atStart => exact ⟨(y107), (0), (by first | rfl | (simp; done) | (simp [*]; done)), H', ⟨Nat.le_refl _⟩, ⟨by (with_reducible repeat (first | apply Kd.R_alloc | apply Kd.R_drewN | apply Kd.R_drew)); exact Kd.R_mono HO106.out (fun _ hk => hk.2)⟩, ⟨by (with_reducible repeat (first | apply Kd.R_alloc | apply Kd.R_drewN | apply Kd.R_drew)); exact Kd.R_mono HO109.out (fun _ hk => hk.2)⟩, ⟨by repeat (first | exact HB.out | apply below_alloc | apply pw_below_drewN | apply below_drew1)⟩⟩
 case round =>
  clear H'
  try clear c1
  try clear p2
  try clear c4
  try clear c6
  obtain ⟨x4_1, x5_1, rfl, HA, HK1, HO_3, HO_4, HB⟩ := hrel
  cases gk with
  | zero => exact absurd HA.out (by simp [spec_l19Skeleton.l0])
  | succ k1 =>
   have H := HA.out
   clear HA
   simp only [spec_l19Skeleton.l0] at H
   by_cases c9 : x5_1 < (t104.length : Int)
   ·rw [if_pos c9] at H
    have c9b0 : decide (x5_1 < (t104.length : Int)) = true := decide_eq_true c9
    clear c9
    by_cases c10 : 0 ≤ x5_1
    ·rw [if_pos c10] at H
     have c10b0 : decide (0 ≤ x5_1) = true := decide_eq_true c10
     clear c10
     replace H := Option.bind_eq_some_iff.mp H
     obtain ⟨t111, A110, H⟩ := H
     replace H : (if x4_1.length + t111.length < 17592186044416 then (spec_l19Skeleton.l0 k1 t104 (x4_1 ++ t111) (wrap64 (x5_1 + 1))) else (none)) = some r := H
     have A11 := Aside0.mk A110
     clear A110
     by_cases c12 : x4_1.length + t111.length < 17592186044416
     ·rw [if_pos c12] at H
      have LMc12 := Aside0.mk c12
      clear c12
      obtain ⟨y114, hy114⟩ : ∃ y_ : List Int, y_ = (x4_1 ++ t111) := ⟨_, rfl⟩
      replace H : (spec_l19Skeleton.l0 k1 t104 y114 (wrap64 (x5_1 + 1))) = some r := by first | (rw [hy114]; with_reducible exact H) | (have H2_ := (Option.bind_some _ _).symm.trans H; rw [hy114]; with_reducible exact H2_) | (have H2_ := (Option.bind_some _ _).symm.trans H; with_reducible exact H2_) | with_reducible exact H | (rw [hy114]; exact H) | exact H
      have Ny114 := Aside0.mk hy114
      clear hy114
      have H' := Aside0.mk H
      clear H
      obtain ⟨Ao13, co13, eo13⟩ := Kd.R_slice HO_3.out
      subst eo13
      have p110 : 0 ≤ (x5_1 : Int) := of_decide_eq_true (by first | (with_reducible assumption) | assumption)
      have q110 : x5_1 < (t104.length : Int) := of_decide_eq_true (by first | (with_reducible assumption) | assumption)
      obtain ⟨ad110, e110, hx110_0⟩ := Kd.at_int (Kd.R_reads' HO_3.out).2.2 x5_1 p110 q110
      cases e110
      replace p110 := eq_true p110
      replace q110 := eq_true q110
      go_wp2_with (first | ((with_reducible refine gate_callee (f := 112) rfl ?_); refine goesL_ (some 21) rfl rfl Tryd.func112 (by kernel_rfl) rfl #[.int .i64 (rd t104 x5_1)] rfl (by (try simp only [List.map_toArray, List.map_cons, List.map_nil]); first | done | rfl | (simp only [List.length_drop, List.length_take]; rfl)) ?_; (with_reducible refine (spec_l19Seen.calls k1 (rd t104 x5_1) t111 _ A11.out).mono ?_); rintro e w14 ⟨v112, rfl, ho0, hb⟩; refine ⟨_, rfl, ?_⟩; have n0_ := Aside0.mk (Kd.R_elder' (by (with_reducible repeat (first | apply Kd.R_alloc | apply Kd.R_drewN | apply Kd.R_drew)); exact HO_3.out) (Kd.R_base ho0) hb); have n1_ := Aside0.mk (Kd.R_elder' (by (with_reducible repeat (first | apply Kd.R_alloc | apply Kd.R_drewN | apply Kd.R_drew)); exact HO_4.out) (Kd.R_base ho0) hb); have n2_ := Aside0.mk (Kd.R_lower (Kd.R_new' (Kd.R_new' ho0 (Kd.R_lt (by (with_reducible repeat (first | apply Kd.R_alloc | apply Kd.R_drewN | apply Kd.R_drew)); exact HO_3.out))) (Kd.R_lt (by (with_reducible repeat (first | apply Kd.R_alloc | apply Kd.R_drewN | apply Kd.R_drew)); exact HO_4.out))) (below_size (by repeat (first | exact HB.out | apply below_alloc | apply pw_below_drewN | apply below_drew1)))); have n3_ := Aside0.mk (below_step (by repeat (first | exact HB.out | apply below_alloc | apply pw_below_drewN | apply below_drew1)) hb); clear HO_3; clear HO_4; clear HB; have HO_3 := n0_; have HO_4 := n1_; have HO113 := n2_; have HB := n3_; clear n0_ n1_ n2_ n3_; (try clear hb); (try clear ho0); obtain ⟨Ao16, co16, eo16⟩ := Kd.R_slice HO113.out; subst eo16) | ((with_reducible refine gate_builtin (b := .append) (xs := #[.tmp 16, .tmp 21]) rfl ?_); at_builtin; refine Kd.R_append_rows (Kd.int .i64) (w0 := w) w.heap.size rfl (.tmp 16) (.tmp 21) 35 2 (.int .i64 0) 8 rfl Tryd.underlying35 info2 rfl (by decide) (by omega) u4 x4_1 t111 _ _ _ (fun k_ => some k_ ≠ (.slice (some ad110) t104.length co13 : Value).ownBlock ∧ some k_ ≠ (.slice Ao16 t111.length co16 : Value).ownBlock) (fun _ => False) rfl rfl ?aO ?aR (fun _ _ h => h) (fun _ h => h.elim) ?aF ?aB ?aS ?aL ?_; (case aR => repeat (first | exact (Kd.R_reads' HO113.out).2.2 | (with_reducible refine Kd.C_alloc ?_ _) | (with_reducible refine Kd.C_drewN ?_ _) | (with_reducible refine Kd.C_drew ?_))); (case aB => exact (by repeat (first | exact HB.out | apply below_alloc | apply pw_below_drewN | apply below_drew1))); (case aF => exact (fun k_ hk => ⟨Kd.fresh' (Kd.R_lt (by (with_reducible repeat (first | apply Kd.R_alloc | apply Kd.R_drewN | apply Kd.R_drew)); exact HO_3.out)) k_ hk, Kd.fresh' (Kd.R_lt (by (with_reducible repeat (first | apply Kd.R_alloc | apply Kd.R_drewN | apply Kd.R_drew)); exact HO113.out)) k_ hk⟩)); (case aO => exact (by (with_reducible repeat (first | apply Kd.R_alloc | apply Kd.R_drewN | apply Kd.R_drew)); exact HO_4.out)); (case aS => exact (below_size (by repeat (first | exact HB.out | apply below_alloc | apply pw_below_drewN | apply below_drew1)))); (case aL => have := LMc12.out; omega); intro v115 w15 ho hb hg hat; rw [← Ny114.out] at ho; have n0_ := Aside0.mk (Kd.R_after (ok := (fun k_ => some k_ ≠ (.slice Ao16 t111.length co16 : Value).ownBlock)) (by (with_reducible repeat (first | apply Kd.R_alloc | apply Kd.R_drewN | apply Kd.R_drew)); exact Kd.R_mono HO_3.out (fun _ hk => ⟨hk.2, hk.1⟩)) hg hat); have n1_ := Aside0.mk (Kd.R_after (ok := (fun k_ => some k_ ≠ (.slice (some ad110) t104.length co13 : Value).ownBlock)) (by (with_reducible repeat (first | apply Kd.R_alloc | apply Kd.R_drewN | apply Kd.R_drew)); exact Kd.R_mono HO113.out (fun _ hk => ⟨hk.1.2, hk.2⟩)) hg hat); have n2_ := Aside0.mk (hb); have n3_ := Aside0.mk (ho); clear HO_3; clear HO113; clear HB; clear HO_4; have HO_3 := n0_; have HO113 := n1_; have HB := n2_; have HO116 := n3_; clear n0_ n1_ n2_ n3_; clear ho hb hg hat))
      go_roundg k1
      case measure => have := HK1.out; omega
      case rel => exact ⟨(y114), (wrap64 (x5_1 + 1)), (by first | rfl | (simp; done) | (simp [*]; done)), H', ⟨by have := HK1.out; omega⟩, ⟨by (with_reducible repeat (first | apply Kd.R_alloc | apply Kd.R_drewN | apply Kd.R_drew)); exact Kd.R_mono HO_3.out (fun _ hk => hk.2)⟩, ⟨by (with_reducible repeat (first | apply Kd.R_alloc | apply Kd.R_drewN | apply Kd.R_drew)); exact Kd.R_mono HO116.out (fun _ hk => hk.1)⟩, ⟨by repeat (first | exact HB.out | apply below_alloc | apply pw_below_drewN | apply below_drew1)⟩⟩
     ·rw [if_neg c12] at H
      exact absurd H (by simp)
    ·rw [if_neg c10] at H
     exact absurd H (by simp)
   ·rw [if_neg c9] at H
    have c9b0 : decide (x5_1 < (t104.length : Int)) = false := decide_eq_false c9
    clear c9
    replace H := Option.bind_eq_some_iff.mp H
    obtain ⟨t117, A170, H⟩ := H
    replace H : (some t117) = some r := H
    have A17 := Aside0.mk A170
    clear A170
    obtain rfl := Option.some.inj H
    obtain ⟨Ao18, co18, eo18⟩ := Kd.R_slice HO_3.out
    subst eo18
    obtain ⟨Ao19, co19, eo19⟩ := Kd.R_slice HO_4.out
    subst eo19
    go_wp2_with (first | ((with_reducible refine gate_callee (f := 111) rfl ?_); refine goesL_ (some 24) rfl rfl Tryd.func111 (by kernel_rfl) rfl #[.int .i64 1, .slice Ao19 x4_1.length co19] rfl (by (try simp only [List.map_toArray, List.map_cons, List.map_nil]); first | done | rfl | (simp only [List.length_drop, List.length_take]; rfl)) ?_; (with_reducible refine (spec_l05Norm.calls k1 1 _ _ x4_1 t117 _ ?side1 ?side2 A17.out).mono ?_); (case side1 => repeat (first | exact (Kd.R_reads' HO_4.out).2.2 | (with_reducible refine Kd.C_alloc ?_ _) | (with_reducible refine Kd.C_drewN ?_ _) | (with_reducible refine Kd.C_drew ?_))); (case side2 => exact (Kd.R_reads' HO_4.out).2.1); rintro e w20 ⟨v118, rfl, ho0, hb⟩; refine ⟨_, rfl, ?_⟩; have n0_ := Aside0.mk (Kd.R_elder' (by (with_reducible repeat (first | apply Kd.R_alloc | apply Kd.R_drewN | apply Kd.R_drew)); exact HO_3.out) (Kd.R_base ho0) hb); have n1_ := Aside0.mk (Kd.R_elder' (by (with_reducible repeat (first | apply Kd.R_alloc | apply Kd.R_drewN | apply Kd.R_drew)); exact HO_4.out) (Kd.R_base ho0) hb); have n2_ := Aside0.mk (Kd.R_lower (Kd.R_new' (Kd.R_new' ho0 (Kd.R_lt (by (with_reducible repeat (first | apply Kd.R_alloc | apply Kd.R_drewN | apply Kd.R_drew)); exact HO_3.out))) (Kd.R_lt (by (with_reducible repeat (first | apply Kd.R_alloc | apply Kd.R_drewN | apply Kd.R_drew)); exact HO_4.out))) (below_size (by repeat (first | exact HB.out | apply below_alloc | apply pw_below_drewN | apply below_drew1)))); have n3_ := Aside0.mk (below_step (by repeat (first | exact HB.out | apply below_alloc | apply pw_below_drewN | apply below_drew1)) hb); clear HO_3; clear HO_4; clear HB; have HO_3 := n0_; have HO_4 := n1_; have HO119 := n2_; have HB := n3_; clear n0_ n1_ n2_ n3_; (try clear hb); (try clear ho0)))
    go_ret
    exact ⟨_, by first | rfl | (simp [errW_none, errW_some] <;> rfl) | (simp [*, errW_none, errW_some] <;> rfl), by (with_reducible repeat (first | apply Kd.R_alloc | apply Kd.R_drewN | apply Kd.R_drew)); exact Kd.R_mono HO119.out (fun _ hk => trivial), by repeat (first | exact HB.out | apply below_alloc | apply pw_below_drewN | apply below_drew1)⟩
def impl_skeleton.l0 : Nat → List Int → List Int → Int → Int → Option (ByteArray)
 | 0, _, _, _, _ => none
 | k + 1, x3, x8, x9, x10 => if x10 < x9 then (if 0 ≤ x10 then (if x10 < (x8.length : Int) then ((impl_looks.f k (rd x8 x10)).bind fun t108 => (if x3.length + t108.length < 17592186044416 then (impl_skeleton.l0 k (x3 ++ t108) x8 x9 (wrap64 (x10 + 1))) else (none))) else (none)) else (none)) else ((impl_normal.f k 1 x3).bind fun t114 => ((impl_write.f k t114).bind fun t117 => (some t117)))
def impl_skeleton.f (k : Nat) (a0 : ByteArray) : Option (ByteArray) := (impl_points.f k a0).bind fun t101 => ((impl_normal.f k 1 t101).bind fun t104 => (impl_skeleton.l0 k ([] : List Int) t104 (t104.length : Int) 0))
set_option maxHeartbeats 8000000 in
set_option maxRecDepth 100000 in
theorem impl_skeleton.calls (k : Nat) (a0 : ByteArray) (r : ByteArray) (w : World) (hGD : GdD w) (hGU : GdU w) (h : impl_skeleton.f k a0 = some r) :
  Calls Tryd.prog 51 #[.string a0] w fun e w' => e = .returned (.string r) ∧ Below w.heap.size w w' := by
 have HB := Aside0.mk (Below.refl w.heap.size w)
 have H : ((impl_points.f k a0).bind fun t101 => ((impl_normal.f k 1 t101).bind fun t104 => (impl_skeleton.l0 k ([] : List Int) t104 (t104.length : Int) 0))) = some r := h
 clear h
 replace H := Option.bind_eq_some_iff.mp H
 obtain ⟨t101, A20, H⟩ := H
 replace H : ((impl_normal.f k 1 t101).bind fun t104 => (impl_skeleton.l0 k ([] : List Int) t104 (t104.length : Int) 0)) = some r := H
 have A2 := Aside0.mk A20
 clear A20
 replace H := Option.bind_eq_some_iff.mp H
 obtain ⟨t104, A30, H⟩ := H
 replace H : (impl_skeleton.l0 k ([] : List Int) t104 (t104.length : Int) 0) = some r := H
 have A3 := Aside0.mk A30
 clear A30
 have H' := Aside0.mk H
 clear H
 go_enter Tryd.func51, Tryd.ntmps51
 go_wp2_with (first | ((with_reducible refine gate_callee (f := 114) rfl ?_); refine goesL_ (some 7) rfl rfl Tryd.func114 (by kernel_rfl) rfl #[.string a0] rfl (by (try simp only [List.map_toArray, List.map_cons, List.map_nil]); first | done | rfl | (simp only [List.length_drop, List.length_take]; rfl)) ?_; (with_reducible refine (impl_points.calls (hGU := ?side90) k a0 t101 _ A2.out).mono ?_); (case side90 => exact GdU.below hGU (by repeat (first | exact HB.out | apply below_alloc | apply pw_below_drewN | apply below_drew1))); rintro e w4 ⟨v102, rfl, ho0, hb⟩; refine ⟨_, rfl, ?_⟩; have n0_ := Aside0.mk (Kd.R_lower ho0 (below_size (by repeat (first | exact HB.out | apply below_alloc | apply pw_below_drewN | apply below_drew1)))); have n1_ := Aside0.mk (below_step (by repeat (first | exact HB.out | apply below_alloc | apply pw_below_drewN | apply below_drew1)) hb); clear HB; have HO103 := n0_; have HB := n1_; clear n0_ n1_; (try clear hb); (try clear ho0); obtain ⟨Ao5, co5, eo5⟩ := Kd.R_slice HO103.out; subst eo5) | ((with_reducible refine gate_callee (f := 113) rfl ?_); refine goesL_ (some 8) rfl rfl Tryd.func113 (by kernel_rfl) rfl #[.int .i64 1, .slice Ao5 t101.length co5] rfl (by (try simp only [List.map_toArray, List.map_cons, List.map_nil]); first | done | rfl | (simp only [List.length_drop, List.length_take]; rfl)) ?_; (with_reducible refine (impl_normal.calls k 1 _ _ t101 t104 _ ?side1 ?side2 A3.out).mono ?_); (case side1 => repeat (first | exact (Kd.R_reads' HO103.out).2.2 | (with_reducible refine Kd.C_alloc ?_ _) | (with_reducible refine Kd.C_drewN ?_ _) | (with_reducible refine Kd.C_drew ?_))); (case side2 => exact (Kd.R_reads' HO103.out).2.1); rintro e w6 ⟨v105, rfl, ho0, hb⟩; refine ⟨_, rfl, ?_⟩; have n0_ := Aside0.mk (Kd.R_elder' (by (with_reducible repeat (first | apply Kd.R_alloc | apply Kd.R_drewN | apply Kd.R_drew)); exact HO103.out) (Kd.R_base ho0) hb); have n1_ := Aside0.mk (Kd.R_lower (Kd.R_new' ho0 (Kd.R_lt (by (with_reducible repeat (first | apply Kd.R_alloc | apply Kd.R_drewN | apply Kd.R_drew)); exact HO103.out))) (below_size (by repeat (first | exact HB.out | apply below_alloc | apply pw_below_drewN | apply below_drew1)))); have n2_ := Aside0.mk (below_step (by repeat (first | exact HB.out | apply below_alloc | apply pw_below_drewN | apply below_drew1)) hb); clear HO103; clear HB; have HO103 := n0_; have HO106 := n1_; have HB := n2_; clear n0_ n1_ n2_; (try clear hb); (try clear ho0); obtain ⟨Ao7, co7, eo7⟩ := Kd.R_slice HO106.out; subst eo7))
 go_loopg [3, 10] k (fun kq v3 v10 w' => ∃ (x3_1 : List Int) (x10_1 : Int), v10 = .int .i64 x10_1 ∧ Aside0 (impl_skeleton.l0 kq x3_1 t104 (t104.length : Int) x10_1 = some r) ∧ Aside0 (kq ≤ k) ∧ Aside0 (Kd.R (Kd.int .i64) 2 w' w.heap.size (fun k_ => some k_ ≠ ((.slice Ao7 t104.length co7) : Value).ownBlock) v3 x3_1) ∧ Aside0 (Kd.R (Kd.int .i64) 2 w' w.heap.size (fun k_ => some k_ ≠ (v3 : Value).ownBlock) (.slice Ao7 t104.length co7) t104) ∧ Aside0 (Below w.heap.size w w'))
 case atStart => exact ⟨(([] : List Int)), (0), (by first | rfl | (simp; done) | (simp [*]; done)), H', ⟨Nat.le_refl _⟩, ⟨by first | exact Kd.R_nil _ _ _ _ _ | exact Kd.N_nil _ _ _ _ _ | exact Kd.V_nil _ _ _ _ _ | exact Kd.Q_nil _ _ _ _ _ | exact Kd.S_nil _ _ _ _ _⟩, ⟨by (with_reducible repeat (first | apply Kd.R_alloc | apply Kd.R_drewN | apply Kd.R_drew)); exact Kd.R_mono HO106.out (fun _ hk => (by simp [Value.ownBlock]))⟩, ⟨by repeat (first | exact HB.out | apply below_alloc | apply pw_below_drewN | apply below_drew1)⟩⟩
 case round =>
  clear H'
  try clear c1
  try clear p2
  try clear c5
  obtain ⟨x3_1, x10_1, rfl, HA, HK1, HO_3, HO_8, HB⟩ := hrel
  cases gk with
  | zero => exact absurd HA.out (by simp [impl_skeleton.l0])
  | succ k1 =>
   have H := HA.out
   clear HA
   simp only [impl_skeleton.l0] at H
   by_cases c8 : x10_1 < (t104.length : Int)
   ·rw [if_pos c8] at H
    have c8b0 : decide (x10_1 < (t104.length : Int)) = true := decide_eq_true c8
    clear c8
    by_cases c9 : 0 ≤ x10_1
    ·rw [if_pos c9] at H
     have c9b0 : decide (0 ≤ x10_1) = true := decide_eq_true c9
     clear c9
     by_cases c10 : x10_1 < (t104.length : Int)
     ·rw [if_pos c10] at H
      have c10b0 : decide (x10_1 < (t104.length : Int)) = true := decide_eq_true c10
      clear c10
      replace H := Option.bind_eq_some_iff.mp H
      obtain ⟨t108, A110, H⟩ := H
      replace H : (if x3_1.length + t108.length < 17592186044416 then (impl_skeleton.l0 k1 (x3_1 ++ t108) t104 (t104.length : Int) (wrap64 (x10_1 + 1))) else (none)) = some r := H
      have A11 := Aside0.mk A110
      clear A110
      by_cases c12 : x3_1.length + t108.length < 17592186044416
      ·rw [if_pos c12] at H
       have LMc12 := Aside0.mk c12
       clear c12
       obtain ⟨y111, hy111⟩ : ∃ y_ : List Int, y_ = (x3_1 ++ t108) := ⟨_, rfl⟩
       replace H : (impl_skeleton.l0 k1 y111 t104 (t104.length : Int) (wrap64 (x10_1 + 1))) = some r := by first | (rw [hy111]; with_reducible exact H) | (have H2_ := (Option.bind_some _ _).symm.trans H; rw [hy111]; with_reducible exact H2_) | (have H2_ := (Option.bind_some _ _).symm.trans H; with_reducible exact H2_) | with_reducible exact H | (rw [hy111]; exact H) | exact H
       have Ny111 := Aside0.mk hy111
       clear hy111
       have H' := Aside0.mk H
       clear H
       have p107 : 0 ≤ (x10_1 : Int) := of_decide_eq_true (by first | (with_reducible assumption) | assumption)
       have q107 : x10_1 < (t104.length : Int) := of_decide_eq_true (by first | (with_reducible assumption) | assumption)
       obtain ⟨ad107, e107, hx107_0⟩ := Kd.at_int (Kd.R_reads' HO_8.out).2.2 x10_1 p107 q107
       cases e107
       replace p107 := eq_true p107
       replace q107 := eq_true q107
       go_wp2_with (first | ((with_reducible refine gate_callee (f := 115) rfl ?_); refine goesL_ (some 16) rfl rfl Tryd.func115 (by kernel_rfl) rfl #[.int .i64 (rd t104 x10_1)] rfl (by (try simp only [List.map_toArray, List.map_cons, List.map_nil]); first | done | rfl | (simp only [List.length_drop, List.length_take]; rfl)) ?_; (with_reducible refine (impl_looks.calls (hGD := ?side90) k1 (rd t104 x10_1) t108 _ A11.out).mono ?_); (case side90 => exact GdD.below hGD (by repeat (first | exact HB.out | apply below_alloc | apply pw_below_drewN | apply below_drew1))); rintro e w13 ⟨v109, rfl, ho0, hb⟩; refine ⟨_, rfl, ?_⟩; have n0_ := Aside0.mk (Kd.R_elder' (by (with_reducible repeat (first | apply Kd.R_alloc | apply Kd.R_drewN | apply Kd.R_drew)); exact HO_3.out) (Kd.R_base ho0) hb); have n1_ := Aside0.mk (Kd.R_elder' (by (with_reducible repeat (first | apply Kd.R_alloc | apply Kd.R_drewN | apply Kd.R_drew)); exact HO_8.out) (Kd.R_base ho0) hb); have n2_ := Aside0.mk (Kd.R_lower (Kd.R_new' (Kd.R_new' ho0 (Kd.R_lt (by (with_reducible repeat (first | apply Kd.R_alloc | apply Kd.R_drewN | apply Kd.R_drew)); exact HO_3.out))) (Kd.R_lt (by (with_reducible repeat (first | apply Kd.R_alloc | apply Kd.R_drewN | apply Kd.R_drew)); exact HO_8.out))) (below_size (by repeat (first | exact HB.out | apply below_alloc | apply pw_below_drewN | apply below_drew1)))); have n3_ := Aside0.mk (below_step (by repeat (first | exact HB.out | apply below_alloc | apply pw_below_drewN | apply below_drew1)) hb); clear HO_3; clear HO_8; clear HB; have HO_3 := n0_; have HO_8 := n1_; have HO110 := n2_; have HB := n3_; clear n0_ n1_ n2_ n3_; (try clear hb); (try clear ho0); obtain ⟨Ao15, co15, eo15⟩ := Kd.R_slice HO110.out; subst eo15) | ((with_reducible refine gate_builtin (b := .append) (xs := #[.tmp 14, .tmp 16]) rfl ?_); at_builtin; refine Kd.R_append_rows (Kd.int .i64) (w0 := w) w.heap.size rfl (.tmp 14) (.tmp 16) 35 2 (.int .i64 0) 8 rfl Tryd.underlying35 info2 rfl (by decide) (by omega) u3 x3_1 t108 _ _ _ (fun k_ => some k_ ≠ (.slice (some ad107) t104.length co7 : Value).ownBlock ∧ some k_ ≠ (.slice Ao15 t108.length co15 : Value).ownBlock) (fun _ => False) rfl rfl ?aO ?aR (fun _ _ h => h) (fun _ h => h.elim) ?aF ?aB ?aS ?aL ?_; (case aR => repeat (first | exact (Kd.R_reads' HO110.out).2.2 | (with_reducible refine Kd.C_alloc ?_ _) | (with_reducible refine Kd.C_drewN ?_ _) | (with_reducible refine Kd.C_drew ?_))); (case aB => exact (by repeat (first | exact HB.out | apply below_alloc | apply pw_below_drewN | apply below_drew1))); (case aF => exact (fun k_ hk => ⟨Kd.fresh' (Kd.R_lt (by (with_reducible repeat (first | apply Kd.R_alloc | apply Kd.R_drewN | apply Kd.R_drew)); exact HO_8.out)) k_ hk, Kd.fresh' (Kd.R_lt (by (with_reducible repeat (first | apply Kd.R_alloc | apply Kd.R_drewN | apply Kd.R_drew)); exact HO110.out)) k_ hk⟩)); (case aO => exact (by (with_reducible repeat (first | apply Kd.R_alloc | apply Kd.R_drewN | apply Kd.R_drew)); exact HO_3.out)); (case aS => exact (below_size (by repeat (first | exact HB.out | apply below_alloc | apply pw_below_drewN | apply below_drew1)))); (case aL => have := LMc12.out; omega); intro v112 w14 ho hb hg hat; rw [← Ny111.out] at ho; have n0_ := Aside0.mk (Kd.R_after (ok := (fun k_ => some k_ ≠ (.slice Ao15 t108.length co15 : Value).ownBlock)) (by (with_reducible repeat (first | apply Kd.R_alloc | apply Kd.R_drewN | apply Kd.R_drew)); exact Kd.R_mono HO_8.out (fun _ hk => ⟨hk.2, hk.1⟩)) hg hat); have n1_ := Aside0.mk (Kd.R_after (ok := (fun k_ => some k_ ≠ (.slice (some ad107) t104.length co7 : Value).ownBlock)) (by (with_reducible repeat (first | apply Kd.R_alloc | apply Kd.R_drewN | apply Kd.R_drew)); exact Kd.R_mono HO110.out (fun _ hk => ⟨hk.2, hk.1.2⟩)) hg hat); have n2_ := Aside0.mk (hb); have n3_ := Aside0.mk (ho); clear HO_8; clear HO110; clear HB; clear HO_3; have HO_8 := n0_; have HO110 := n1_; have HB := n2_; have HO113 := n3_; clear n0_ n1_ n2_ n3_; clear ho hb hg hat))
       go_roundg k1
       case measure => have := HK1.out; omega
       case rel => exact ⟨(y111), (wrap64 (x10_1 + 1)), (by first | rfl | (simp; done) | (simp [*]; done)), H', ⟨by have := HK1.out; omega⟩, ⟨by (with_reducible repeat (first | apply Kd.R_alloc | apply Kd.R_drewN | apply Kd.R_drew)); exact Kd.R_mono HO113.out (fun _ hk => hk.1)⟩, ⟨by (with_reducible repeat (first | apply Kd.R_alloc | apply Kd.R_drewN | apply Kd.R_drew)); exact Kd.R_mono HO_8.out (fun _ hk => hk.2)⟩, ⟨by repeat (first | exact HB.out | apply below_alloc | apply pw_below_drewN | apply below_drew1)⟩⟩
      ·rw [if_neg c12] at H
       exact absurd H (by simp)
     ·rw [if_neg c10] at H
      exact absurd H (by simp)
    ·rw [if_neg c9] at H
     exact absurd H (by simp)
   ·rw [if_neg c8] at H
    have c8b0 : decide (x10_1 < (t104.length : Int)) = false := decide_eq_false c8
    clear c8
    replace H := Option.bind_eq_some_iff.mp H
    obtain ⟨t114, A160, H⟩ := H
    replace H : ((impl_write.f k1 t114).bind fun t117 => (some t117)) = some r := H
    have A16 := Aside0.mk A160
    clear A160
    replace H := Option.bind_eq_some_iff.mp H
    obtain ⟨t117, A170, H⟩ := H
    replace H : (some t117) = some r := H
    have A17 := Aside0.mk A170
    clear A170
    obtain rfl := Option.some.inj H
    obtain ⟨Ao18, co18, eo18⟩ := Kd.R_slice HO_3.out
    subst eo18
    go_wp2_with (first | ((with_reducible refine gate_callee (f := 113) rfl ?_); refine goesL_ (some 20) rfl rfl Tryd.func113 (by kernel_rfl) rfl #[.int .i64 1, .slice Ao18 x3_1.length co18] rfl (by (try simp only [List.map_toArray, List.map_cons, List.map_nil]); first | done | rfl | (simp only [List.length_drop, List.length_take]; rfl)) ?_; (with_reducible refine (impl_normal.calls k1 1 _ _ x3_1 t114 _ ?side1 ?side2 A16.out).mono ?_); (case side1 => repeat (first | exact (Kd.R_reads' HO_3.out).2.2 | (with_reducible refine Kd.C_alloc ?_ _) | (with_reducible refine Kd.C_drewN ?_ _) | (with_reducible refine Kd.C_drew ?_))); (case side2 => exact (Kd.R_reads' HO_3.out).2.1); rintro e w19 ⟨v115, rfl, ho0, hb⟩; refine ⟨_, rfl, ?_⟩; have n0_ := Aside0.mk (Kd.R_elder' (by (with_reducible repeat (first | apply Kd.R_alloc | apply Kd.R_drewN | apply Kd.R_drew)); exact HO_3.out) (Kd.R_base ho0) hb); have n1_ := Aside0.mk (Kd.R_elder' (by (with_reducible repeat (first | apply Kd.R_alloc | apply Kd.R_drewN | apply Kd.R_drew)); exact HO_8.out) (Kd.R_base ho0) hb); have n2_ := Aside0.mk (Kd.R_lower (Kd.R_new' (Kd.R_new' ho0 (Kd.R_lt (by (with_reducible repeat (first | apply Kd.R_alloc | apply Kd.R_drewN | apply Kd.R_drew)); exact HO_3.out))) (Kd.R_lt (by (with_reducible repeat (first | apply Kd.R_alloc | apply Kd.R_drewN | apply Kd.R_drew)); exact HO_8.out))) (below_size (by repeat (first | exact HB.out | apply below_alloc | apply pw_below_drewN | apply below_drew1)))); have n3_ := Aside0.mk (below_step (by repeat (first | exact HB.out | apply below_alloc | apply pw_below_drewN | apply below_drew1)) hb); clear HO_3; clear HO_8; clear HB; have HO_3 := n0_; have HO_8 := n1_; have HO116 := n2_; have HB := n3_; clear n0_ n1_ n2_ n3_; (try clear hb); (try clear ho0); obtain ⟨Ao20, co20, eo20⟩ := Kd.R_slice HO116.out; subst eo20) | ((with_reducible refine gate_callee (f := 116) rfl ?_); refine goesL_ (some 21) rfl rfl Tryd.func116 (by kernel_rfl) rfl #[.slice Ao20 t114.length co20] rfl (by (try simp only [List.map_toArray, List.map_cons, List.map_nil]); first | done | rfl | (simp only [List.length_drop, List.length_take]; rfl)) ?_; (with_reducible refine (impl_write.calls k1 _ _ t114 t117 _ ?side1 ?side2 A17.out).mono ?_); (case side1 => repeat (first | exact (Kd.R_reads' HO116.out).2.2 | (with_reducible refine Kd.C_alloc ?_ _) | (with_reducible refine Kd.C_drewN ?_ _) | (with_reducible refine Kd.C_drew ?_))); (case side2 => exact (Kd.R_reads' HO116.out).2.1); rintro e w21 ⟨rfl, hb⟩; refine ⟨_, rfl, ?_⟩; have n0_ := Aside0.mk (Kd.R_below (by (with_reducible repeat (first | apply Kd.R_alloc | apply Kd.R_drewN | apply Kd.R_drew)); exact HO_3.out) hb); have n1_ := Aside0.mk (Kd.R_below (by (with_reducible repeat (first | apply Kd.R_alloc | apply Kd.R_drewN | apply Kd.R_drew)); exact HO_8.out) hb); have n2_ := Aside0.mk (Kd.R_below (by (with_reducible repeat (first | apply Kd.R_alloc | apply Kd.R_drewN | apply Kd.R_drew)); exact HO116.out) hb); have n3_ := Aside0.mk (below_step (by repeat (first | exact HB.out | apply below_alloc | apply pw_below_drewN | apply below_drew1)) hb); clear HO_3; clear HO_8; clear HO116; clear HB; have HO_3 := n0_; have HO_8 := n1_; have HO116 := n2_; have HB := n3_; clear n0_ n1_ n2_ n3_; (try clear hb)))
    go_ret
    exact ⟨by first | rfl | (simp [errW_none, errW_some] <;> rfl) | (simp [*, errW_none, errW_some] <;> rfl), by repeat (first | exact HB.out | apply below_alloc | apply pw_below_drewN | apply below_drew1)⟩
end Go.Proofs.YtepeeahckgpapaaDoor.Q
end
section
set_option linter.unusedVariables false
set_option linter.unusedSimpArgs false
namespace Go.Proofs.YtepeeahckgpapaaDoor.Q
open Go.RowKit Go.Sort Go.Proofs.YtepeeahckgpapaaDoorW.PrintWords Go.Proofs.YtepeeahckgpapaaDoorW.PrintLast Go.Proofs.YtepeeahckgpapaaDoorW.PrintMore
def decL (p : Int) : List Int := (impl_decompose.f 20 p false).getD []
theorem decL_eq {p : Int} (h : PtI p) : Ev (fun k => impl_decompose.f k p false) (decL p) ∧ Ev (fun k => spec_l05All.f k p false) (decL p) ∧ (decL p).length ≤ 3 ∧ ∀ q ∈ decL p, PtI q := by
  obtain ⟨l, h1, h2, h3, h4⟩ := dec_eq h
  have : decL p = l := by unfold decL; rw [h1 20 (Nat.le_refl _)]; rfl
  rw [this]
  exact ⟨⟨20, h1⟩, ⟨20, h2⟩, h3, h4⟩
def lookL (p : Int) : List Int := (impl_looks.f 40 p).getD []
theorem lookL_eq {p : Int} (h : PtI p) : Ev (fun k => impl_looks.f k p) (lookL p) ∧ Ev (fun k => spec_l19Seen.f k p) (lookL p) ∧ (lookL p).length ≤ 2 ∧ ∀ q ∈ lookL p, PtI q := by
  obtain ⟨l, h1, h2, h3, h4⟩ := look_eq h
  have : lookL p = l := by unfold lookL; rw [h1 40 (Nat.le_refl _)]; rfl
  rw [this]
  exact ⟨⟨40, h1⟩, ⟨80, h2⟩, h3, h4⟩
theorem flat_len (f : Int → List Int) (n : Nat) : ∀ l : List Int, (∀ p ∈ l, (f p).length ≤ n) → (l.flatMap f).length ≤ n * l.length := by
  intro l
  induction l with
  | nil => intro _; simp
  | cons x xs ih =>
    intro h
    have h1 := h x (by simp)
    have h2 := ih (fun p hp => h p (by simp [hp]))
    rw [List.flatMap_cons, List.length_append, List.length_cons, Nat.mul_add, Nat.mul_one]
    omega
theorem flat_mem (f : Int → List Int) (P : Int → Prop) (l : List Int) (h : ∀ p ∈ l, ∀ q ∈ f p, P q) : ∀ q ∈ l.flatMap f, P q := by
  intro q hq
  obtain ⟨p, hp, hq⟩ := List.mem_flatMap.1 hq
  exact h p hp q hq
theorem impl_dec_loop (r : List Int) : ∀ (rest pre acc : List Int), (∀ p ∈ rest, PtI p) → acc.length + 3 * rest.length < 17592186044416 → pre.length + rest.length < 17592186044416 →
    Ev (fun k => impl_normal.l1 k 1 (acc ++ rest.flatMap decL) 0) r →
    Ev (fun k => impl_normal.l0 k 1 acc (pre ++ rest) (((pre ++ rest).length : Nat) : Int) (pre.length : Int)) r := by
  intro rest
  induction rest with
  | nil =>
    intro pre acc _ _ _ h
    refine Ev.succ (h.congr fun k => ?_)
    simp only [impl_normal.l0, List.append_nil, List.flatMap_nil]
    rw [if_neg (by omega)]
  | cons x xs ih =>
    intro pre acc h1 h2 h3 h
    obtain ⟨d1, _, d3, _⟩ := decL_eq (h1 x (by simp))
    have h2' : acc.length + 3 * (xs.length + 1) < 17592186044416 := by simpa using h2
    have h3' : pre.length + (xs.length + 1) < 17592186044416 := by simpa using h3
    have W := ih (pre ++ [x]) (acc ++ decL x) (fun p hp => h1 p (by simp [hp])) (by simp; omega) (by simp; omega) (by simpa [List.append_assoc] using h)
    rw [List.append_assoc, List.singleton_append] at W
    refine Ev.succ ?_
    refine (d1.bind (f := fun k t102 => if acc.length + t102.length < 17592186044416 then (impl_normal.l0 k 1 (acc ++ t102) (pre ++ x :: xs) (((pre ++ x :: xs).length : Nat) : Int) (wrap64 ((pre.length : Int) + 1))) else none) ?_).congr fun k => ?_
    · have hc : acc.length + (decL x).length < 17592186044416 := by omega
      simp only [if_pos hc]
      rw [wrap64_id (by omega) (by omega)]
      have : ((pre.length : Int) + 1) = ((pre ++ [x]).length : Int) := by simp
      rw [this]
      exact W
    · simp only [impl_normal.l0, rd_at]
      rw [if_pos (by simp; omega), if_pos (by omega), if_pos (by simp; omega)]
      rfl
def normV (l : List Int) : List Int := (ordR [] (l.flatMap decL)).reverse
theorem ordR_mem (P : Int → Prop) : ∀ (l acc : List Int), (∀ p ∈ l, P p) → (∀ p ∈ acc, P p) → ∀ p ∈ ordR acc l, P p := by
  intro l
  induction l with
  | nil => intro acc _ h; exact h
  | cons x xs ih =>
    intro acc h1 h2
    rw [ordR_cons]
    refine ih _ (fun p hp => h1 p (by simp [hp])) (fun p hp => ?_)
    unfold ordStep at hp
    split at hp
    · rcases List.mem_cons.1 hp with e | e
      · rw [e]; exact h1 x (by simp)
      · exact h2 p e
    · rcases insR_mem x acc p hp with e | e
      · rw [e]; exact h1 x (by simp)
      · exact h2 p e
theorem ordR_len : ∀ (l acc : List Int), (ordR acc l).length = acc.length + l.length := by
  intro l
  induction l with
  | nil => intro acc; rfl
  | cons x xs ih =>
    intro acc
    rw [ordR_cons, ih]
    unfold ordStep
    split
    · simp; omega
    · rw [insR_len]; simp; omega
theorem normV_ok (l : List Int) (h : ∀ p ∈ l, PtI p) : (normV l).length ≤ 3 * l.length ∧ ∀ p ∈ normV l, PtI p := by
  unfold normV
  refine ⟨?_, fun p hp => ?_⟩
  · rw [List.length_reverse, ordR_len, List.length_nil, Nat.zero_add]
    exact flat_len decL 3 l (fun p hp => (decL_eq (h p hp)).2.2.1)
  · rw [List.mem_reverse] at hp
    exact ordR_mem PtI _ [] (flat_mem decL PtI l (fun p hp => (decL_eq (h p hp)).2.2.2)) (by simp) p hp
theorem impl_norm (l : List Int) (h : ∀ p ∈ l, PtI p) (hl : 3 * l.length < 17592186044416) : Ev (fun k => impl_normal.f k 1 l) (normV l) := by
  have hfl := flat_len decL 3 l (fun p hp => (decL_eq (h p hp)).2.2.1)
  have W := impl_order _ (l.flatMap decL) [] (Nat.le_refl _) (by simp only [List.nil_append]; omega)
  simp only [List.nil_append, List.length_nil] at W
  have W2 := impl_dec_loop (normV l) l [] [] h (by simp; omega) (by simp; omega) (by rw [List.nil_append]; exact W)
  simpa [impl_normal.f] using W2
theorem spec_dec_loop (r : List Int) : ∀ (rest pre acc : List Int), (∀ p ∈ rest, PtI p) → acc.length + 3 * rest.length < 17592186044416 → pre.length + rest.length < 17592186044416 →
    Ev (fun k => (spec_l05Ordered.f k (acc ++ rest.flatMap decL))) r →
    Ev (fun k => spec_l05Norm.l0 k 1 (pre ++ rest) acc (pre.length : Int)) r := by
  intro rest
  induction rest with
  | nil =>
    intro pre acc _ _ _ h
    refine Ev.succ ((h.bind (f := fun k t112 => (spec_l05C.f 1).bind fun t115 => if t115 = true then ((spec_l05Composed.f k t112).bind fun t116 => some t116) else some t112) (r := r) ?_).congr fun k => ?_)
    · refine ⟨0, fun k _ => ?_⟩
      have : spec_l05C.f 1 = some false := by decide
      rw [this]; rfl
    · simp only [spec_l05Norm.l0, List.append_nil, List.flatMap_nil]
      rw [if_neg (by omega)]
  | cons x xs ih =>
    intro pre acc h1 h2 h3 h
    obtain ⟨_, d1, d3, _⟩ := decL_eq (h1 x (by simp))
    have h2' : acc.length + 3 * (xs.length + 1) < 17592186044416 := by simpa using h2
    have h3' : pre.length + (xs.length + 1) < 17592186044416 := by simpa using h3
    have W := ih (pre ++ [x]) (acc ++ decL x) (fun p hp => h1 p (by simp [hp])) (by simp; omega) (by simp; omega) (by simpa [List.append_assoc] using h)
    rw [List.append_assoc, List.singleton_append] at W
    refine Ev.succ ?_
    refine (d1.bind (f := fun k t106 => if acc.length + t106.length < 17592186044416 then (spec_l05Norm.l0 k 1 (pre ++ x :: xs) (acc ++ t106) (wrap64 ((pre.length : Int) + 1))) else none) ?_).congr fun k => ?_
    · have hc : acc.length + (decL x).length < 17592186044416 := by omega
      simp only [if_pos hc]
      rw [wrap64_id (by omega) (by omega)]
      have : ((pre.length : Int) + 1) = ((pre ++ [x]).length : Int) := by simp
      rw [this]
      exact W
    · have e5 : spec_l05K.f 1 = some false := by decide
      simp only [spec_l05Norm.l0, rd_at, e5, Option.bind_some]
      rw [if_pos (by simp; omega), if_pos (by omega)]
theorem spec_norm (l : List Int) (h : ∀ p ∈ l, PtI p) (hl : 3 * l.length < 17592186044416) : Ev (fun k => spec_l05Norm.f k 1 l) (normV l) := by
  have hfl := flat_len decL 3 l (fun p hp => (decL_eq (h p hp)).2.2.1)
  have W := spec_order (l.flatMap decL) [] (flat_mem decL PtI l (fun p hp => (decL_eq (h p hp)).2.2.2)) (by simp) (by simp only [List.length_nil]; omega)
  simp only [List.reverse_nil, List.nil_append, List.length_nil] at W
  have W1 : Ev (fun k => spec_l05Ordered.f k (l.flatMap decL)) (normV l) := by
    refine W.congr fun k => ?_
    simp only [spec_l05Ordered.f, Option.bind_some, List.length_nil, List.nil_append]
    rw [if_pos (by omega)]
    rfl
  exact spec_dec_loop (normV l) l [] [] h (by simp; omega) (by simp; omega) (by simpa using W1)
theorem spec_look_loop (r : List Int) : ∀ (rest pre acc : List Int), (∀ p ∈ rest, PtI p) → acc.length + 2 * rest.length < 17592186044416 → pre.length + rest.length < 17592186044416 →
    Ev (fun k => (spec_l05Norm.f k 1 (acc ++ rest.flatMap lookL))) r →
    Ev (fun k => spec_l19Skeleton.l0 k (pre ++ rest) acc (pre.length : Int)) r := by
  intro rest
  induction rest with
  | nil =>
    intro pre acc _ _ _ h
    refine Ev.succ ((h.bind (f := fun k t117 => some t117) (r := r) Ev.const).congr fun k => ?_)
    simp only [spec_l19Skeleton.l0, List.append_nil, List.flatMap_nil]
    rw [if_neg (by omega)]
  | cons x xs ih =>
    intro pre acc h1 h2 h3 h
    obtain ⟨_, d1, d3, _⟩ := lookL_eq (h1 x (by simp))
    have h2' : acc.length + 2 * (xs.length + 1) < 17592186044416 := by simpa using h2
    have h3' : pre.length + (xs.length + 1) < 17592186044416 := by simpa using h3
    have W := ih (pre ++ [x]) (acc ++ lookL x) (fun p hp => h1 p (by simp [hp])) (by simp; omega) (by simp; omega) (by simpa [List.append_assoc] using h)
    rw [List.append_assoc, List.singleton_append] at W
    refine Ev.succ ?_
    refine (d1.bind (f := fun k t111 => if acc.length + t111.length < 17592186044416 then (spec_l19Skeleton.l0 k (pre ++ x :: xs) (acc ++ t111) (wrap64 ((pre.length : Int) + 1))) else none) ?_).congr fun k => ?_
    · have hc : acc.length + (lookL x).length < 17592186044416 := by omega
      simp only [if_pos hc]
      rw [wrap64_id (by omega) (by omega)]
      have : ((pre.length : Int) + 1) = ((pre ++ [x]).length : Int) := by simp
      rw [this]
      exact W
    · simp only [spec_l19Skeleton.l0, rd_at, Option.bind_some]
      rw [if_pos (by simp; omega), if_pos (by omega)]
theorem impl_look_loop (r : ByteArray) : ∀ (rest pre acc : List Int), (∀ p ∈ rest, PtI p) → acc.length + 2 * rest.length < 17592186044416 → pre.length + rest.length < 17592186044416 →
    Ev (fun k => ((impl_normal.f k 1 (acc ++ rest.flatMap lookL)).bind fun t114 => (impl_write.f k t114))) r →
    Ev (fun k => impl_skeleton.l0 k acc (pre ++ rest) (((pre ++ rest).length : Nat) : Int) (pre.length : Int)) r := by
  intro rest
  induction rest with
  | nil =>
    intro pre acc _ _ _ h
    refine Ev.succ (h.congr fun k => ?_)
    simp only [impl_skeleton.l0, List.append_nil, List.flatMap_nil]
    rw [if_neg (by omega)]
    congr 1
    funext t
    cases impl_write.f k t <;> rfl
  | cons x xs ih =>
    intro pre acc h1 h2 h3 h
    obtain ⟨d1, _, d3, _⟩ := lookL_eq (h1 x (by simp))
    have h2' : acc.length + 2 * (xs.length + 1) < 17592186044416 := by simpa using h2
    have h3' : pre.length + (xs.length + 1) < 17592186044416 := by simpa using h3
    have W := ih (pre ++ [x]) (acc ++ lookL x) (fun p hp => h1 p (by simp [hp])) (by simp; omega) (by simp; omega) (by simpa [List.append_assoc] using h)
    rw [List.append_assoc, List.singleton_append] at W
    refine Ev.succ ?_
    refine (d1.bind (f := fun k t108 => if acc.length + t108.length < 17592186044416 then (impl_skeleton.l0 k (acc ++ t108) (pre ++ x :: xs) (((pre ++ x :: xs).length : Nat) : Int) (wrap64 ((pre.length : Int) + 1))) else none) ?_).congr fun k => ?_
    · have hc : acc.length + (lookL x).length < 17592186044416 := by omega
      simp only [if_pos hc]
      rw [wrap64_id (by omega) (by omega)]
      have : ((pre.length : Int) + 1) = ((pre ++ [x]).length : Int) := by simp
      rw [this]
      exact W
    · simp only [impl_skeleton.l0, rd_at]
      rw [if_pos (by simp; omega), if_pos (by omega), if_pos (by simp; omega)]
end Go.Proofs.YtepeeahckgpapaaDoor.Q
end
section
namespace Go.Proofs.YtepeeahckgpapaaDoor.Q
open Go.RowKit Go.Proofs.YtepeeahckgpapaaDoorW.PrintWords Go.Proofs.YtepeeahckgpapaaDoorW.PrintLast Go.Proofs.YtepeeahckgpapaaDoorW.PrintMore
attribute [local go_sem] max2_int max_two
set_option linter.unusedVariables false
set_option linter.unusedSimpArgs false
def spec_l01Small.f (a0 : ByteArray) : Option (ByteArray) := if (a0.size : Int) > 65536 then (some (⟨#[]⟩ : ByteArray)) else (some a0)
set_option maxHeartbeats 8000000 in
set_option maxRecDepth 100000 in
theorem spec_l01Small.calls (a0 : ByteArray) (r : ByteArray) (w : World) (h : spec_l01Small.f a0 = some r) :
  Calls Tryd.prog 46 #[.string a0] w fun e w' => e = .returned (.string r) ∧ Drawn0 w w' := by
 have H : (if (a0.size : Int) > 65536 then (some (⟨#[]⟩ : ByteArray)) else (some a0)) = some r := h
 clear h
 by_cases c2 : (a0.size : Int) > 65536
 ·rw [if_pos c2] at H
  have c2b0 : decide (65536 < (a0.size : Int)) = true := decide_eq_true c2
  have c2b1 : decide (65536 < a0.size) = true := decide_eq_true (by omega)
  clear c2
  obtain rfl := Option.some.inj H
  go_enter Tryd.func46, Tryd.ntmps46
  go_wp2
  go_ret
  exact ⟨by first | rfl | (simp; done) | (simp [*]; done), by repeat (first | exact Drawn0.refl _ | apply Drawn0.step)⟩
 ·rw [if_neg c2] at H
  have c2b0 : decide (65536 < (a0.size : Int)) = false := decide_eq_false c2
  have c2b1 : decide (65536 < a0.size) = false := decide_eq_false (by omega)
  clear c2
  obtain rfl := Option.some.inj H
  go_enter Tryd.func46, Tryd.ntmps46
  go_wp2
  go_ret
  exact ⟨by first | rfl | (simp; done) | (simp [*]; done), by repeat (first | exact Drawn0.refl _ | apply Drawn0.step)⟩
def spec_SkeletonOf.f (k : Nat) (a0 : ByteArray) : Option (ByteArray) := if (a0.size : Int) > 65536 then (some (⟨#[]⟩ : ByteArray)) else ((spec_l19Skeleton.f k a0).bind fun t101 => ((spec_l01Text.f k t101).bind fun t104 => ((spec_l01Small.f t104).bind fun t105 => (some t105))))
set_option maxHeartbeats 8000000 in
set_option maxRecDepth 100000 in
theorem spec_SkeletonOf.calls (k : Nat) (a0 : ByteArray) (r : ByteArray) (w : World) (h : spec_SkeletonOf.f k a0 = some r) :
  Calls Tryd.prog 10 #[.string a0] w fun e w' => e = .returned (.string r) ∧ Below w.heap.size w w' := by
 have HB := Aside0.mk (Below.refl w.heap.size w)
 have H : (if (a0.size : Int) > 65536 then (some (⟨#[]⟩ : ByteArray)) else ((spec_l19Skeleton.f k a0).bind fun t101 => ((spec_l01Text.f k t101).bind fun t104 => ((spec_l01Small.f t104).bind fun t105 => (some t105))))) = some r := h
 clear h
 by_cases c2 : (a0.size : Int) > 65536
 ·rw [if_pos c2] at H
  have c2b0 : decide (65536 < (a0.size : Int)) = true := decide_eq_true c2
  have c2b1 : decide (65536 < a0.size) = true := decide_eq_true (by omega)
  clear c2
  obtain rfl := Option.some.inj H
  go_enter Tryd.func10, Tryd.ntmps10
  go_wp2
  go_ret
  exact ⟨by first | rfl | (simp [errW_none, errW_some] <;> rfl) | (simp [*, errW_none, errW_some] <;> rfl), by repeat (first | exact HB.out | apply below_alloc | apply pw_below_drewN | apply below_drew1)⟩
 ·rw [if_neg c2] at H
  have c2b0 : decide (65536 < (a0.size : Int)) = false := decide_eq_false c2
  have c2b1 : decide (65536 < a0.size) = false := decide_eq_false (by omega)
  clear c2
  replace H := Option.bind_eq_some_iff.mp H
  obtain ⟨t101, A30, H⟩ := H
  replace H : ((spec_l01Text.f k t101).bind fun t104 => ((spec_l01Small.f t104).bind fun t105 => (some t105))) = some r := H
  have A3 := Aside0.mk A30
  clear A30
  replace H := Option.bind_eq_some_iff.mp H
  obtain ⟨t104, A40, H⟩ := H
  replace H : ((spec_l01Small.f t104).bind fun t105 => (some t105)) = some r := H
  have A4 := Aside0.mk A40
  clear A40
  replace H := Option.bind_eq_some_iff.mp H
  obtain ⟨t105, A50, H⟩ := H
  replace H : (some t105) = some r := H
  have A5 := Aside0.mk A50
  clear A50
  obtain rfl := Option.some.inj H
  go_enter Tryd.func10, Tryd.ntmps10
  go_wp2_with (first | ((with_reducible refine gate_callee (f := 48) rfl ?_); refine goesL_ (some 7) rfl rfl Tryd.func48 (by kernel_rfl) rfl #[.string a0] rfl (by (try simp only [List.map_toArray, List.map_cons, List.map_nil]); first | done | rfl | (simp only [List.length_drop, List.length_take]; rfl)) ?_; (with_reducible refine (spec_l19Skeleton.calls k a0 t101 _ A3.out).mono ?_); rintro e w6 ⟨v102, rfl, ho0, hb⟩; refine ⟨_, rfl, ?_⟩; have n0_ := Aside0.mk (Kd.R_lower ho0 (below_size (by repeat (first | exact HB.out | apply below_alloc | apply pw_below_drewN | apply below_drew1)))); have n1_ := Aside0.mk (below_step (by repeat (first | exact HB.out | apply below_alloc | apply pw_below_drewN | apply below_drew1)) hb); clear HB; have HO103 := n0_; have HB := n1_; clear n0_ n1_; (try clear hb); (try clear ho0); obtain ⟨Ao7, co7, eo7⟩ := Kd.R_slice HO103.out; subst eo7) | ((with_reducible refine gate_callee (f := 47) rfl ?_); refine goesL_ (some 8) rfl rfl Tryd.func47 (by kernel_rfl) rfl #[.slice Ao7 t101.length co7] rfl (by (try simp only [List.map_toArray, List.map_cons, List.map_nil]); first | done | rfl | (simp only [List.length_drop, List.length_take]; rfl)) ?_; (with_reducible refine (spec_l01Text.calls k _ _ t101 t104 _ ?side1 ?side2 A4.out).mono ?_); (case side1 => repeat (first | exact (Kd.R_reads' HO103.out).2.2 | (with_reducible refine Kd.C_alloc ?_ _) | (with_reducible refine Kd.C_drewN ?_ _) | (with_reducible refine Kd.C_drew ?_))); (case side2 => exact (Kd.R_reads' HO103.out).2.1); rintro e w8 ⟨rfl, hb⟩; refine ⟨_, rfl, ?_⟩; have n0_ := Aside0.mk (Kd.R_below (by (with_reducible repeat (first | apply Kd.R_alloc | apply Kd.R_drewN | apply Kd.R_drew)); exact HO103.out) hb); have n1_ := Aside0.mk (below_step (by repeat (first | exact HB.out | apply below_alloc | apply pw_below_drewN | apply below_drew1)) hb); clear HO103; clear HB; have HO103 := n0_; have HB := n1_; clear n0_ n1_; (try clear hb)) | ((with_reducible refine gate_callee (f := 46) rfl ?_); refine goesL_ (some 9) rfl rfl Tryd.func46 (by kernel_rfl) rfl #[.string t104] rfl (by (try simp only [List.map_toArray, List.map_cons, List.map_nil]); first | done | rfl | (simp only [List.length_drop, List.length_take]; rfl)) ?_; (with_reducible refine (spec_l01Small.calls t104 t105 _ A5.out).mono ?_); rintro e w' ⟨rfl, ⟨nd, rfl⟩⟩; refine ⟨_, rfl, ?_⟩))
  go_ret
  exact ⟨by first | rfl | (simp [errW_none, errW_some] <;> rfl) | (simp [*, errW_none, errW_some] <;> rfl), by repeat (first | exact HB.out | apply below_alloc | apply pw_below_drewN | apply below_drew1)⟩
def impl_long.f (a0 : ByteArray) : Option (Bool) := some (decide ((a0.size : Int) > 65536))
set_option maxHeartbeats 8000000 in
set_option maxRecDepth 100000 in
theorem impl_long.calls (a0 : ByteArray) (r : Bool) (w : World) (h : impl_long.f a0 = some r) :
  Calls Tryd.prog 49 #[.string a0] w fun e w' => e = .returned (.bool r) ∧ Drawn0 w w' := by
 have H : (some (decide ((a0.size : Int) > 65536))) = some r := h
 clear h
 obtain rfl := Option.some.inj H
 go_enter Tryd.func49, Tryd.ntmps49
 go_wp2
 go_ret
 exact ⟨by first | rfl | (simp; done) | (simp [*]; done), by repeat (first | exact Drawn0.refl _ | apply Drawn0.step)⟩
def impl_short.f (a0 : ByteArray) : Option (ByteArray) := (impl_long.f a0).bind fun t101 => (if t101 = true then (some (⟨#[]⟩ : ByteArray)) else (some a0))
set_option maxHeartbeats 8000000 in
set_option maxRecDepth 100000 in
theorem impl_short.calls (a0 : ByteArray) (r : ByteArray) (w : World) (h : impl_short.f a0 = some r) :
  Calls Tryd.prog 50 #[.string a0] w fun e w' => e = .returned (.string r) ∧ Drawn0 w w' := by
 have H : ((impl_long.f a0).bind fun t101 => (if t101 = true then (some (⟨#[]⟩ : ByteArray)) else (some a0))) = some r := h
 clear h
 replace H := Option.bind_eq_some_iff.mp H
 obtain ⟨t101, A20, H⟩ := H
 replace H : (if t101 = true then (some (⟨#[]⟩ : ByteArray)) else (some a0)) = some r := H
 have A2 := Aside0.mk A20
 clear A20
 by_cases c3 : t101 = true
 ·subst c3
  have H1 : (some (⟨#[]⟩ : ByteArray)) = some r := by rw [if_pos rfl] at H; exact H
  clear H
  have H := H1
  clear H1
  obtain rfl := Option.some.inj H
  go_enter Tryd.func50, Tryd.ntmps50
  go_wp2_with (first | ((with_reducible refine gate_callee (f := 49) rfl ?_); refine goesL_ (some 4) rfl rfl Tryd.func49 (by kernel_rfl) rfl #[.string a0] rfl (by (try simp only [List.map_toArray, List.map_cons, List.map_nil]); first | done | rfl | (simp only [List.length_drop, List.length_take]; rfl)) ?_; (with_reducible refine (impl_long.calls a0 true _ A2.out).mono ?_); rintro e w' ⟨rfl, ⟨nd, rfl⟩⟩; refine ⟨_, rfl, ?_⟩))
  go_ret
  exact ⟨by first | rfl | (simp; done) | (simp [*]; done), by repeat (first | exact Drawn0.refl _ | apply Drawn0.step)⟩
 ·replace c3 := Bool.eq_false_iff.mpr c3
  subst c3
  have H1 : (some a0) = some r := by rw [if_neg (show ¬ (false = true) by decide)] at H; exact H
  clear H
  have H := H1
  clear H1
  obtain rfl := Option.some.inj H
  go_enter Tryd.func50, Tryd.ntmps50
  go_wp2_with (first | ((with_reducible refine gate_callee (f := 49) rfl ?_); refine goesL_ (some 4) rfl rfl Tryd.func49 (by kernel_rfl) rfl #[.string a0] rfl (by (try simp only [List.map_toArray, List.map_cons, List.map_nil]); first | done | rfl | (simp only [List.length_drop, List.length_take]; rfl)) ?_; (with_reducible refine (impl_long.calls a0 false _ A2.out).mono ?_); rintro e w' ⟨rfl, ⟨nd, rfl⟩⟩; refine ⟨_, rfl, ?_⟩))
  go_ret
  exact ⟨by first | rfl | (simp; done) | (simp [*]; done), by repeat (first | exact Drawn0.refl _ | apply Drawn0.step)⟩
def impl_SkeletonOf.f (k : Nat) (a0 : ByteArray) : Option (ByteArray) := (impl_long.f a0).bind fun t101 => (if t101 = true then (some (⟨#[]⟩ : ByteArray)) else ((impl_skeleton.f k a0).bind fun t102 => ((impl_short.f t102).bind fun t103 => (some t103))))
set_option maxHeartbeats 8000000 in
set_option maxRecDepth 100000 in
theorem impl_SkeletonOf.calls (k : Nat) (a0 : ByteArray) (r : ByteArray) (w : World) (hGD : GdD w) (hGU : GdU w) (h : impl_SkeletonOf.f k a0 = some r) :
  Calls Tryd.prog 11 #[.string a0] w fun e w' => e = .returned (.string r) ∧ Below w.heap.size w w' := by
 have HB := Aside0.mk (Below.refl w.heap.size w)
 have H : ((impl_long.f a0).bind fun t101 => (if t101 = true then (some (⟨#[]⟩ : ByteArray)) else ((impl_skeleton.f k a0).bind fun t102 => ((impl_short.f t102).bind fun t103 => (some t103))))) = some r := h
 clear h
 replace H := Option.bind_eq_some_iff.mp H
 obtain ⟨t101, A20, H⟩ := H
 replace H : (if t101 = true then (some (⟨#[]⟩ : ByteArray)) else ((impl_skeleton.f k a0).bind fun t102 => ((impl_short.f t102).bind fun t103 => (some t103)))) = some r := H
 have A2 := Aside0.mk A20
 clear A20
 by_cases c3 : t101 = true
 ·subst c3
  have H1 : (some (⟨#[]⟩ : ByteArray)) = some r := by rw [if_pos rfl] at H; exact H
  clear H
  have H := H1
  clear H1
  obtain rfl := Option.some.inj H
  go_enter Tryd.func11, Tryd.ntmps11
  go_wp2_with (first | ((with_reducible refine gate_callee (f := 49) rfl ?_); refine goesL_ (some 4) rfl rfl Tryd.func49 (by kernel_rfl) rfl #[.string a0] rfl (by (try simp only [List.map_toArray, List.map_cons, List.map_nil]); first | done | rfl | (simp only [List.length_drop, List.length_take]; rfl)) ?_; (with_reducible refine (impl_long.calls a0 true _ A2.out).mono ?_); rintro e w' ⟨rfl, ⟨nd, rfl⟩⟩; refine ⟨_, rfl, ?_⟩))
  go_ret
  exact ⟨by first | rfl | (simp [errW_none, errW_some] <;> rfl) | (simp [*, errW_none, errW_some] <;> rfl), by repeat (first | exact HB.out | apply below_alloc | apply pw_below_drewN | apply below_drew1)⟩
 ·replace c3 := Bool.eq_false_iff.mpr c3
  subst c3
  have H1 : ((impl_skeleton.f k a0).bind fun t102 => ((impl_short.f t102).bind fun t103 => (some t103))) = some r := by rw [if_neg (show ¬ (false = true) by decide)] at H; exact H
  clear H
  have H := H1
  clear H1
  replace H := Option.bind_eq_some_iff.mp H
  obtain ⟨t102, A40, H⟩ := H
  replace H : ((impl_short.f t102).bind fun t103 => (some t103)) = some r := H
  have A4 := Aside0.mk A40
  clear A40
  replace H := Option.bind_eq_some_iff.mp H
  obtain ⟨t103, A50, H⟩ := H
  replace H : (some t103) = some r := H
  have A5 := Aside0.mk A50
  clear A50
  obtain rfl := Option.some.inj H
  go_enter Tryd.func11, Tryd.ntmps11
  go_wp2_with (first | ((with_reducible refine gate_callee (f := 49) rfl ?_); refine goesL_ (some 4) rfl rfl Tryd.func49 (by kernel_rfl) rfl #[.string a0] rfl (by (try simp only [List.map_toArray, List.map_cons, List.map_nil]); first | done | rfl | (simp only [List.length_drop, List.length_take]; rfl)) ?_; (with_reducible refine (impl_long.calls a0 false _ A2.out).mono ?_); rintro e w' ⟨rfl, ⟨nd, rfl⟩⟩; refine ⟨_, rfl, ?_⟩) | ((with_reducible refine gate_callee (f := 51) rfl ?_); refine goesL_ (some 6) rfl rfl Tryd.func51 (by kernel_rfl) rfl #[.string a0] rfl (by (try simp only [List.map_toArray, List.map_cons, List.map_nil]); first | done | rfl | (simp only [List.length_drop, List.length_take]; rfl)) ?_; (with_reducible refine (impl_skeleton.calls (hGD := ?side90) (hGU := ?side91) k a0 t102 _ A4.out).mono ?_); (case side90 => exact GdD.below hGD (by repeat (first | exact HB.out | apply below_alloc | apply pw_below_drewN | apply below_drew1))); (case side91 => exact GdU.below hGU (by repeat (first | exact HB.out | apply below_alloc | apply pw_below_drewN | apply below_drew1))); rintro e w6 ⟨rfl, hb⟩; refine ⟨_, rfl, ?_⟩; have n0_ := Aside0.mk (below_step (by repeat (first | exact HB.out | apply below_alloc | apply pw_below_drewN | apply below_drew1)) hb); clear HB; have HB := n0_; clear n0_; (try clear hb)) | ((with_reducible refine gate_callee (f := 50) rfl ?_); refine goesL_ (some 7) rfl rfl Tryd.func50 (by kernel_rfl) rfl #[.string t102] rfl (by (try simp only [List.map_toArray, List.map_cons, List.map_nil]); first | done | rfl | (simp only [List.length_drop, List.length_take]; rfl)) ?_; (with_reducible refine (impl_short.calls t102 t103 _ A5.out).mono ?_); rintro e w' ⟨rfl, ⟨nd, rfl⟩⟩; refine ⟨_, rfl, ?_⟩))
  go_ret
  exact ⟨by first | rfl | (simp [errW_none, errW_some] <;> rfl) | (simp [*, errW_none, errW_some] <;> rfl), by repeat (first | exact HB.out | apply below_alloc | apply pw_below_drewN | apply below_drew1)⟩
def laws_FnExactSkeletonOf.f (k : Nat) (a0 : ByteArray) : Option (Bool) := if (a0.size : Int) > 1048576 then (some true) else ((spec_SkeletonOf.f k a0).bind fun t101 => ((impl_SkeletonOf.f k a0).bind fun t102 => (if t102.toList = t101.toList then (some true) else (some false))))
set_option maxHeartbeats 8000000 in
set_option maxRecDepth 100000 in
theorem laws_FnExactSkeletonOf.calls (k : Nat) (a0 : ByteArray) (r : Bool) (w : World) (hGD : GdD w) (hGU : GdU w) (h : laws_FnExactSkeletonOf.f k a0 = some r) :
  Calls Tryd.prog 3 #[.string a0] w fun e w' => e = .returned (.bool r) ∧ Below w.heap.size w w' := by
 have HB := Aside0.mk (Below.refl w.heap.size w)
 have H : (if (a0.size : Int) > 1048576 then (some true) else ((spec_SkeletonOf.f k a0).bind fun t101 => ((impl_SkeletonOf.f k a0).bind fun t102 => (if t102.toList = t101.toList then (some true) else (some false))))) = some r := h
 clear h
 by_cases c2 : (a0.size : Int) > 1048576
 ·rw [if_pos c2] at H
  have c2b0 : decide (1048576 < (a0.size : Int)) = true := decide_eq_true c2
  have c2b1 : decide (1048576 < a0.size) = true := decide_eq_true (by omega)
  clear c2
  obtain rfl := Option.some.inj H
  go_enter Tryd.func3, Tryd.ntmps3
  go_wp2
  go_ret
  exact ⟨by first | rfl | (simp [errW_none, errW_some] <;> rfl) | (simp [*, errW_none, errW_some] <;> rfl), by repeat (first | exact HB.out | apply below_alloc | apply pw_below_drewN | apply below_drew1)⟩
 ·rw [if_neg c2] at H
  have c2b0 : decide (1048576 < (a0.size : Int)) = false := decide_eq_false c2
  have c2b1 : decide (1048576 < a0.size) = false := decide_eq_false (by omega)
  clear c2
  replace H := Option.bind_eq_some_iff.mp H
  obtain ⟨t101, A30, H⟩ := H
  replace H : ((impl_SkeletonOf.f k a0).bind fun t102 => (if t102.toList = t101.toList then (some true) else (some false))) = some r := H
  have A3 := Aside0.mk A30
  clear A30
  replace H := Option.bind_eq_some_iff.mp H
  obtain ⟨t102, A40, H⟩ := H
  replace H : (if t102.toList = t101.toList then (some true) else (some false)) = some r := H
  have A4 := Aside0.mk A40
  clear A40
  by_cases c5 : t102.toList = t101.toList
  ·rw [if_pos c5] at H
   have c5b0 : (t102.toList == t101.toList) = true := beq_iff_eq.mpr c5
   have c5b1 : (t102.toList != t101.toList) = false := bne_eq_false_iff_eq.mpr c5
   clear c5
   obtain rfl := Option.some.inj H
   go_enter Tryd.func3, Tryd.ntmps3
   go_wp2_with (first | ((with_reducible refine gate_callee (f := 10) rfl ?_); refine goesL_ (some 9) rfl rfl Tryd.func10 (by kernel_rfl) rfl #[.string a0] rfl (by (try simp only [List.map_toArray, List.map_cons, List.map_nil]); first | done | rfl | (simp only [List.length_drop, List.length_take]; rfl)) ?_; (with_reducible refine (spec_SkeletonOf.calls k a0 t101 _ A3.out).mono ?_); rintro e w6 ⟨rfl, hb⟩; refine ⟨_, rfl, ?_⟩; have n0_ := Aside0.mk (below_step (by repeat (first | exact HB.out | apply below_alloc | apply pw_below_drewN | apply below_drew1)) hb); clear HB; have HB := n0_; clear n0_; (try clear hb)) | ((with_reducible refine gate_callee (f := 11) rfl ?_); refine goesL_ (some 11) rfl rfl Tryd.func11 (by kernel_rfl) rfl #[.string a0] rfl (by (try simp only [List.map_toArray, List.map_cons, List.map_nil]); first | done | rfl | (simp only [List.length_drop, List.length_take]; rfl)) ?_; (with_reducible refine (impl_SkeletonOf.calls (hGD := ?side90) (hGU := ?side91) k a0 t102 _ A4.out).mono ?_); (case side90 => exact GdD.below hGD (by repeat (first | exact HB.out | apply below_alloc | apply pw_below_drewN | apply below_drew1))); (case side91 => exact GdU.below hGU (by repeat (first | exact HB.out | apply below_alloc | apply pw_below_drewN | apply below_drew1))); rintro e w7 ⟨rfl, hb⟩; refine ⟨_, rfl, ?_⟩; have n0_ := Aside0.mk (below_step (by repeat (first | exact HB.out | apply below_alloc | apply pw_below_drewN | apply below_drew1)) hb); clear HB; have HB := n0_; clear n0_; (try clear hb)))
   go_ret
   exact ⟨by first | rfl | (simp [errW_none, errW_some] <;> rfl) | (simp [*, errW_none, errW_some] <;> rfl), by repeat (first | exact HB.out | apply below_alloc | apply pw_below_drewN | apply below_drew1)⟩
  ·rw [if_neg c5] at H
   have c5b0 : (t102.toList == t101.toList) = false := beq_eq_false_iff_ne.mpr c5
   have c5b1 : (t102.toList != t101.toList) = true := bne_iff_ne.mpr c5
   obtain rfl := Option.some.inj H
   go_enter Tryd.func3, Tryd.ntmps3
   go_wp2_with (first | ((with_reducible refine gate_callee (f := 10) rfl ?_); refine goesL_ (some 9) rfl rfl Tryd.func10 (by kernel_rfl) rfl #[.string a0] rfl (by (try simp only [List.map_toArray, List.map_cons, List.map_nil]); first | done | rfl | (simp only [List.length_drop, List.length_take]; rfl)) ?_; (with_reducible refine (spec_SkeletonOf.calls k a0 t101 _ A3.out).mono ?_); rintro e w8 ⟨rfl, hb⟩; refine ⟨_, rfl, ?_⟩; have n0_ := Aside0.mk (below_step (by repeat (first | exact HB.out | apply below_alloc | apply pw_below_drewN | apply below_drew1)) hb); clear HB; have HB := n0_; clear n0_; (try clear hb)) | ((with_reducible refine gate_callee (f := 11) rfl ?_); refine goesL_ (some 11) rfl rfl Tryd.func11 (by kernel_rfl) rfl #[.string a0] rfl (by (try simp only [List.map_toArray, List.map_cons, List.map_nil]); first | done | rfl | (simp only [List.length_drop, List.length_take]; rfl)) ?_; (with_reducible refine (impl_SkeletonOf.calls (hGD := ?side90) (hGU := ?side91) k a0 t102 _ A4.out).mono ?_); (case side90 => exact GdD.below hGD (by repeat (first | exact HB.out | apply below_alloc | apply pw_below_drewN | apply below_drew1))); (case side91 => exact GdU.below hGU (by repeat (first | exact HB.out | apply below_alloc | apply pw_below_drewN | apply below_drew1))); rintro e w9 ⟨rfl, hb⟩; refine ⟨_, rfl, ?_⟩; have n0_ := Aside0.mk (below_step (by repeat (first | exact HB.out | apply below_alloc | apply pw_below_drewN | apply below_drew1)) hb); clear HB; have HB := n0_; clear n0_; (try clear hb)))
   go_ret
   exact ⟨by first | rfl | (simp [errW_none, errW_some] <;> rfl) | (simp [*, errW_none, errW_some] <;> rfl), by repeat (first | exact HB.out | apply below_alloc | apply pw_below_drewN | apply below_drew1)⟩
def laws_FnExactSkeletonOf.Pure : Prop := ∀ (a0 : ByteArray), a0.size ≤ 140737488351232 → ∃ k, laws_FnExactSkeletonOf.f k a0 = some true
theorem laws_FnExactSkeletonOf.walk (P : laws_FnExactSkeletonOf.Pure) (a0 : ByteArray) (w : World) (hGD : GdD w) (hGU : GdU w) (w0 : a0.size ≤ 140737488351232) :
  Calls Tryd.prog 3 #[.string a0] w fun e w' => e = .returned (.bool true) ∧ Below w.heap.size w w' := by
 obtain ⟨k, h⟩ := P a0 w0
 refine (laws_FnExactSkeletonOf.calls (hGD := hGD) (hGU := hGU) k a0 true w h).mono ?_
 rintro e w' ⟨rfl, hd⟩
 exact ⟨rfl, hd⟩
end Go.Proofs.YtepeeahckgpapaaDoor.Q
end
section
set_option linter.unusedVariables false
set_option linter.unusedSimpArgs false
namespace Go.Proofs.YtepeeahckgpapaaDoor.Q
open Go.RowKit Go.Sort Go.Proofs.YtepeeahckgpapaaDoorW.PrintWords Go.Proofs.YtepeeahckgpapaaDoorW.PrintLast Go.Proofs.YtepeeahckgpapaaDoorW.PrintMore
theorem decN_ok (n a b c d : Nat) (h : 1 ≤ n) (ha : a < 256) : 1 ≤ (Lib.decodeN n a b c d).2 ∧ (Lib.decodeN n a b c d).2 ≤ n ∧ (Lib.decodeN n a b c d).1 ≤ 1114111 := by
  unfold Lib.decodeN
  repeat' split
  all_goals (refine ⟨?_, ?_, ?_⟩ <;> simp <;> omega)
theorem decV_ok (s : ByteArray) (i : Nat) (h : i < s.size) : 1 ≤ (decV s i).2 ∧ i + (decV s i).2 ≤ s.size ∧ (decV s i).1 ≤ 1114111 := by
  obtain ⟨h1, h2, h3⟩ := decN_ok (s.size - i) (bB s i) (bB s (i + 1)) (bB s (i + 2)) (bB s (i + 3)) (by omega) (bB_lt s i)
  exact ⟨h1, by unfold decV; omega, h3⟩
def ptsFrom (s : ByteArray) : Nat → Nat → List Int
  | 0, _ => []
  | f + 1, i => if i < s.size then ((decV s i).1 : Int) :: ptsFrom s f (i + (decV s i).2) else []
theorem ptsFrom_len (s : ByteArray) : ∀ (f i : Nat), (ptsFrom s f i).length ≤ s.size - i := by
  intro f
  induction f with
  | zero => intro i; simp [ptsFrom]
  | succ f ih =>
    intro i
    rw [ptsFrom]
    split
    · rename_i h
      have := ih (i + (decV s i).2)
      have d := decV_ok s i h
      simp only [List.length_cons]
      omega
    · simp
theorem ptsFrom_mem (s : ByteArray) : ∀ (f i : Nat), ∀ p ∈ ptsFrom s f i, PtI p := by
  intro f
  induction f with
  | zero => intro i p h; simp [ptsFrom] at h
  | succ f ih =>
    intro i p h
    rw [ptsFrom] at h
    split at h
    · rename_i hi
      rcases List.mem_cons.1 h with e | e
      · have d := decV_ok s i hi
        rw [e]; exact ⟨by omega, by omega⟩
      · exact ih _ p e
    · cases h
def pts (s : ByteArray) : List Int := ptsFrom s s.size 0
theorem spec_pts_loop (s : ByteArray) (hs : s.size ≤ 1099511627776) : ∀ (f i : Nat) (acc : List Int), s.size - i ≤ f → i ≤ s.size → acc.length ≤ i →
    Ev (fun k => spec_l01Points.l0 k s acc (i : Int)) (acc ++ ptsFrom s f i) := by
  intro f
  induction f with
  | zero =>
    intro i acc h1 h2 h3
    refine Ev.succ (Ev.const.congr fun k => ?_)
    simp only [spec_l01Points.l0, ptsFrom, List.append_nil]
    rw [if_neg (by omega)]
  | succ f ih =>
    intro i acc h1 h2 h3
    rw [ptsFrom]
    by_cases hi : i < s.size
    · rw [if_pos hi]
      have d := decV_ok s i hi
      obtain ⟨n1, n2⟩ := next_dec s i hi
      have W := ih (i + (decV s i).2) (acc ++ [((decV s i).1 : Int)]) (by omega) d.2.1 (by simp; omega)
      rw [List.append_assoc, List.singleton_append] at W
      refine Ev.succ ?_
      have B : Ev (fun k => spec_l01Next.f k s (i : Int)) (nextV s i) := ⟨8, fun k hk => spec_next s i hi hs k hk⟩
      refine (B.bind (f := fun k bt104 => if acc.length < 17592186044416 then (spec_l01Points.l0 k s (acc ++ [bt104.1]) (wrap64 ((i : Int) + bt104.2.1))) else none) ?_).congr fun k => ?_
      · have hc : acc.length < 17592186044416 := by omega
        simp only [if_pos hc, n1, n2]
        rw [wrap64_id (by omega) (by omega)]
        exact W
      · simp only [spec_l01Points.l0]
        rw [if_pos (by omega)]
    · rw [if_neg hi, List.append_nil]
      refine Ev.succ (Ev.const.congr fun k => ?_)
      simp only [spec_l01Points.l0]
      rw [if_neg (by omega)]
theorem spec_pts (s : ByteArray) (hs : s.size ≤ 1099511627776) : Ev (fun k => spec_l01Points.f k s) (pts s) := by
  have := spec_pts_loop s hs s.size 0 [] (by omega) (by omega) (by simp)
  simpa [spec_l01Points.f, pts] using this
def readFrom (s : ByteArray) : Nat → Nat → List S174
  | 0, _ => []
  | f + 1, i => if i < s.size then (⟨((decV s i).1 : Int), (i : Int), ((i + (decV s i).2 : Nat) : Int), decide ((decV s i).1 = 65533) && ((((decV s i).2 : Int)) == 1)⟩ : S174) :: readFrom s f (i + (decV s i).2) else []
theorem readFrom_f0 (s : ByteArray) : ∀ (f i : Nat), (readFrom s f i).map (fun x => x.f0) = ptsFrom s f i := by
  intro f
  induction f with
  | zero => intro i; rfl
  | succ f ih =>
    intro i
    rw [readFrom, ptsFrom]
    split
    · rw [List.map_cons, ih]
    · rfl
theorem impl_read_loop (s : ByteArray) (hs : s.size ≤ 1099511627776) : ∀ (f i : Nat) (acc : List S174), s.size - i ≤ f → i ≤ s.size → acc.length ≤ i →
    Ev (fun k => impl_read.l0 k s acc (i : Int)) (acc ++ readFrom s f i) := by
  intro f
  induction f with
  | zero =>
    intro i acc h1 h2 h3
    refine Ev.succ (Ev.const.congr fun k => ?_)
    simp only [impl_read.l0, readFrom, List.append_nil]
    rw [if_neg (by omega)]
  | succ f ih =>
    intro i acc h1 h2 h3
    rw [readFrom]
    by_cases hi : i < s.size
    · rw [if_pos hi]
      have d := decV_ok s i hi
      have W := ih (i + (decV s i).2) (acc ++ [(⟨((decV s i).1 : Int), (i : Int), ((i + (decV s i).2 : Nat) : Int), decide ((decV s i).1 = 65533) && ((((decV s i).2 : Int)) == 1)⟩ : S174)]) (by omega) d.2.1 (by simp; omega)
      rw [List.append_assoc, List.singleton_append] at W
      refine Ev.succ (W.congr fun k => ?_)
      have e0 : ((i : Int)).toNat = i := by omega
      have dd := impl_dec s i hi
      simp only [impl_read.l0, e0, dd, Option.bind_some]
      rw [if_pos (by omega), if_pos (by omega), if_pos (by omega)]
      rw [wrap64_id (n := ((decV s i).1 : Int)) (by omega) (by omega), wrap64_id (n := (i : Int) + ((decV s i).2 : Int)) (by omega) (by omega)]
      rw [show (i : Int) + ((decV s i).2 : Int) = ((i + (decV s i).2 : Nat) : Int) from by simp]
      by_cases c : (decV s i).1 = 65533
      · rw [if_pos (by omega), if_pos (by omega), decide_eq_true c, Bool.true_and]
      · rw [if_neg (by omega), if_pos (by omega), decide_eq_false c, Bool.false_and]
    · rw [if_neg hi, List.append_nil]
      refine Ev.succ (Ev.const.congr fun k => ?_)
      simp only [impl_read.l0]
      rw [if_neg (by omega)]
theorem impl_read_eq (s : ByteArray) (hs : s.size ≤ 1099511627776) : Ev (fun k => impl_read.f k s) (readFrom s s.size 0) := by
  have := impl_read_loop s hs s.size 0 [] (by omega) (by omega) (by simp)
  simpa [impl_read.f] using this
theorem rdT_at (pre : List S174) (x : S174) (rest : List S174) : rd_T174 (pre ++ x :: rest) (pre.length : Int) = x := by
  simp [rd_T174]
theorem impl_pts_loop : ∀ (rest pre : List S174) (acc : List Int), acc.length + rest.length < 17592186044416 → pre.length + rest.length < 17592186044416 →
    Ev (fun k => impl_points.l0 k acc (pre ++ rest) (((pre ++ rest).length : Nat) : Int) (pre.length : Int)) (acc ++ rest.map (fun x => x.f0)) := by
  intro rest
  induction rest with
  | nil =>
    intro pre acc _ _
    refine Ev.succ (Ev.const.congr fun k => ?_)
    simp only [impl_points.l0, List.append_nil, List.map_nil]
    rw [if_neg (by omega)]
  | cons x xs ih =>
    intro pre acc h2 h3
    have h2' : acc.length + (xs.length + 1) < 17592186044416 := by simpa using h2
    have h3' : pre.length + (xs.length + 1) < 17592186044416 := by simpa using h3
    have W := ih (pre ++ [x]) (acc ++ [x.f0]) (by simp; omega) (by simp; omega)
    rw [List.append_assoc, List.singleton_append, List.append_assoc, List.singleton_append] at W
    refine Ev.succ (W.congr fun k => ?_)
    simp only [impl_points.l0, rdT_at, List.map_cons]
    rw [if_pos (by simp; omega), if_pos (by omega), if_pos (by simp; omega), if_pos (by omega), wrap64_id (by omega) (by omega)]
    have : ((pre.length : Int) + 1) = ((pre ++ [x]).length : Int) := by simp
    rw [this]
theorem impl_pts (s : ByteArray) (hs : s.size ≤ 1099511627776) : Ev (fun k => impl_points.f k s) (pts s) := by
  have hlen : (readFrom s s.size 0).length ≤ s.size := by
    have := congrArg List.length (readFrom_f0 s s.size 0)
    rw [List.length_map] at this
    have h2 := ptsFrom_len s s.size 0
    omega
  have W := impl_pts_loop (readFrom s s.size 0) [] [] (by simp; omega) (by simp; omega)
  simp only [List.nil_append, List.length_nil] at W
  rw [readFrom_f0] at W
  exact (impl_read_eq s hs).bind (f := fun k t101 => impl_points.l0 k ([] : List Int) t101 (t101.length : Int) 0) W
def skel (s : ByteArray) : List Int := normV ((normV (pts s)).flatMap lookL)
theorem skel_parts (s : ByteArray) (hs : s.size ≤ 65536) : (∀ p ∈ pts s, PtI p) ∧ (pts s).length ≤ 65536 ∧ (∀ p ∈ normV (pts s), PtI p) ∧ (normV (pts s)).length ≤ 196608 ∧
    (∀ p ∈ (normV (pts s)).flatMap lookL, PtI p) ∧ ((normV (pts s)).flatMap lookL).length ≤ 393216 ∧ (skel s).length ≤ 1179648 := by
  have h1 : ∀ p ∈ pts s, PtI p := ptsFrom_mem s _ _
  have h2 : (pts s).length ≤ s.size := by have := ptsFrom_len s s.size 0; unfold pts; omega
  obtain ⟨n1, n2⟩ := normV_ok (pts s) h1
  have l1 := flat_len lookL 2 (normV (pts s)) (fun p hp => (lookL_eq (n2 p hp)).2.2.1)
  have l2 := flat_mem lookL PtI (normV (pts s)) (fun p hp => (lookL_eq (n2 p hp)).2.2.2)
  obtain ⟨m1, m2⟩ := normV_ok _ l2
  exact ⟨h1, by omega, n2, by omega, l2, by omega, by unfold skel; omega⟩
theorem spec_skel (s : ByteArray) (hs : s.size ≤ 65536) : Ev (fun k => spec_l19Skeleton.f k s) (skel s) := by
  obtain ⟨a1, a2, b1, b2, c1, c2, d2⟩ := skel_parts s hs
  have N2 := spec_norm _ c1 (by omega)
  have L := spec_look_loop (skel s) (normV (pts s)) [] [] b1 (by simp; omega) (by simp; omega) (by rw [List.nil_append]; exact N2)
  simp only [List.nil_append, List.length_nil] at L
  exact (spec_pts s (by omega)).bind (f := fun k t101 => (spec_l05Norm.f k 1 t101).bind fun t104 => spec_l19Skeleton.l0 k t104 ([] : List Int) 0)
    ((spec_norm _ a1 (by omega)).bind (f := fun k t104 => spec_l19Skeleton.l0 k t104 ([] : List Int) 0) L)
theorem impl_skel (s : ByteArray) (hs : s.size ≤ 65536) : Ev (fun k => impl_skeleton.f k s) (strOfNums (encL (skel s))) := by
  obtain ⟨a1, a2, b1, b2, c1, c2, d2⟩ := skel_parts s hs
  have N2 := impl_norm _ c1 (by omega)
  have Wr := impl_write_eq (skel s) (by omega)
  have L := impl_look_loop (strOfNums (encL (skel s))) (normV (pts s)) [] [] b1 (by simp; omega) (by simp; omega)
    (by rw [List.nil_append]; exact N2.bind (f := fun k t114 => impl_write.f k t114) Wr)
  simp only [List.nil_append, List.length_nil] at L
  exact (impl_pts s (by omega)).bind (f := fun k t101 => (impl_normal.f k 1 t101).bind fun t104 => impl_skeleton.l0 k ([] : List Int) t104 (t104.length : Int) 0)
    ((impl_norm _ a1 (by omega)).bind (f := fun k t104 => impl_skeleton.l0 k ([] : List Int) t104 (t104.length : Int) 0) L)
def shortV (t : ByteArray) : ByteArray := if (t.size : Int) > 65536 then (⟨#[]⟩ : ByteArray) else t
theorem small_eq (t : ByteArray) : spec_l01Small.f t = some (shortV t) := by
  unfold spec_l01Small.f shortV
  split <;> rfl
theorem short_eq (t : ByteArray) : impl_short.f t = some (shortV t) := by
  unfold impl_short.f impl_long.f shortV
  rw [Option.bind_some]
  by_cases c : (t.size : Int) > 65536
  · rw [decide_eq_true c, if_pos rfl, if_pos c]
  · rw [decide_eq_false c, if_neg (by decide), if_neg c]
def skelV (s : ByteArray) : ByteArray := if (s.size : Int) > 65536 then (⟨#[]⟩ : ByteArray) else shortV (strOfNums (encL (skel s)))
theorem spec_SkeletonOf_eq (s : ByteArray) : Ev (fun k => spec_SkeletonOf.f k s) (skelV s) := by
  unfold skelV
  by_cases c : (s.size : Int) > 65536
  · rw [if_pos c]
    exact Ev.const.congr fun k => by unfold spec_SkeletonOf.f; rw [if_pos c]
  · rw [if_neg c]
    have hs : s.size ≤ 65536 := by omega
    obtain ⟨a1, a2, b1, b2, c1, c2, d2⟩ := skel_parts s hs
    refine ((spec_skel s hs).bind (f := fun k t101 => (spec_l01Text.f k t101).bind fun t104 => (spec_l01Small.f t104).bind fun t105 => some t105)
      ((spec_text (skel s) (by omega)).bind (f := fun k t104 => (spec_l01Small.f t104).bind fun t105 => some t105) ?_)).congr fun k => ?_
    · rw [small_eq]; exact Ev.const
    · unfold spec_SkeletonOf.f; rw [if_neg c]
theorem impl_SkeletonOf_eq (s : ByteArray) : Ev (fun k => impl_SkeletonOf.f k s) (skelV s) := by
  unfold skelV
  by_cases c : (s.size : Int) > 65536
  · rw [if_pos c]
    exact Ev.const.congr fun k => by unfold impl_SkeletonOf.f impl_long.f; rw [Option.bind_some, decide_eq_true c, if_pos rfl]
  · rw [if_neg c]
    have hs : s.size ≤ 65536 := by omega
    refine ((impl_skel s hs).bind (f := fun k t102 => (impl_short.f t102).bind fun t103 => some t103) ?_).congr fun k => ?_
    · rw [short_eq]; exact Ev.const
    · unfold impl_SkeletonOf.f impl_long.f; rw [Option.bind_some, decide_eq_false c, if_neg (by decide)]
theorem skeleton_pure : laws_FnExactSkeletonOf.Pure := by
  intro a _
  refine Ev.ex (g := fun k => laws_FnExactSkeletonOf.f k a) ?_
  unfold laws_FnExactSkeletonOf.f
  by_cases c : (a.size : Int) > 1048576
  · simp only [if_pos c]; exact Ev.const
  · simp only [if_neg c]
    refine (spec_SkeletonOf_eq a).bind (f := fun k t101 => (impl_SkeletonOf.f k a).bind fun t102 => if t102.toList = t101.toList then some true else some false)
      ((impl_SkeletonOf_eq a).bind (f := fun k t102 => if t102.toList = (skelV a).toList then some true else some false) ?_)
    simp only [if_true]
    exact Ev.const
end Go.Proofs.YtepeeahckgpapaaDoor.Q
end
section
set_option linter.unusedVariables false
set_option linter.unusedSimpArgs false
namespace Go.Proofs.YtepeeahckgpapaaDoor.K
open Go.ChangeShapes Go.WideShapes Go.ChangeAt Go.RowKit Go.Lib Go.ChangeMaps Go.Proofs.YtepeeahckgpapaaDoor.Q
theorem laidOut : laidOutB Tryd.prog = true := by kernel_rfl
theorem accept_is : (Rows.laid_unicode_utf8_acceptRanges : DataW Unit) = acceptData := by kernel_rfl
theorem first_is : Rows.laid_unicode_utf8_first = firstData := by kernel_rfl
theorem digit_is : (Rows.laid_loop_example_g00044_impl_digitRows : DataW Unit) = digitData := by kernel_rfl
theorem varTypes1 : DataSpec.varTypes Tryd.prog (OpenSpec.ofChange Rows.fnExactSkeletonOfSpec).bare.plain = [35] := by kernel_rfl
set_option maxRecDepth 100000 in
theorem contract1 (H : Type) (enc : TypeId × Value → H) (W : World) (base : Nat) (args : Array Value) (ds gs : List (DataW H)) (before : List MemPlace)
    (hval : ∀ (j : Nat) t v, Tryd.f3.params[j]? = some t → args[j]? = some v → Value.okWide Tryd.prog W .any base t v)
    (hW : DataW.Whole enc Tryd.prog Tryd.f3.params.toList Rows.fnExactSkeletonOfSpec.vars false W args.toList ds gs before)
    (hsz : (DataW.weightsEach Tryd.prog (Tryd.f3.params.toList ++ (OpenSpec.ofChange Rows.fnExactSkeletonOfSpec).bare.plain.varTypes Tryd.prog) (ds ++ gs)).all (· ≤ reachBytes) = true)
    (hL : laidMetH Tryd.prog Rows.fnExactSkeletonOfRow.laid W) :
    Calls Tryd.prog 3 args W fun e W' => ∃ v, e = .returned v ∧ Rows.fnExactSkeletonOfSpec.post enc Tryd.prog Tryd.f3 false true false false W args v W' := by
  have hW' := hW
  obtain ⟨p, q, hA0, hV0, rfl, hfz, hnd⟩ := hW
  have hA : DataW.TrodAll enc Tryd.prog W 0 (fun _ => true) true Tryd.f3.params.toList args.toList ds p := hA0
  have hV : DataW.TrodVars enc Tryd.prog W (fun _ => true) ["loop.example/g00044/impl.digitRows"] gs q := hV0
  rw [Tryd.params3] at hA hval hsz
  obtain ⟨v0, vs0, d0, ds0, p0, q0, hargs, rfl, rfl, h0, r0⟩ := trodAll_cons hA
  obtain ⟨rfl, rfl, rfl⟩ := trodAll_nil r0
  obtain rfl : args = #[v0] := by cases args; simp_all
  obtain ⟨g, t, cs, fuel, dv, pv, rfl, hg, ht, hvar, hvt, rfl⟩ := trodVars_one hV
  obtain rfl := Option.some.inj (gD.symm.trans hg)
  obtain rfl := Option.some.inj (gDt.symm.trans ht)
  have h0k := h0
  obtain ⟨a0, rfl, rfl, rfl, hs⟩ := open_string Tryd.underlying9 (hval 0 9 v0 rfl rfl) h0
  rw [varTypes1] at hsz
  have w0 : a0.size ≤ 140737488351232 := by
    have := List.all_eq_true.1 hsz _ (DataW.weights_mem_each (ts := [9] ++ [35]) (j := 0) (t := 9) rfl rfl a0.data.toList.length (by simp [DataW.weights]))
    have e1 : a0.data.toList.length = a0.size := by rw [Array.length_toList]; rfl
    rw [e1] at this
    have h : a0.size ≤ reachBytes := of_decide_eq_true this
    exact h
  rw [MakeChecks.laidMetH_plain _ _ _ (by kernel_rfl)] at hL
  have rA := laidMet.reads hL (List.Mem.head _)
  have rD := laidMet.reads hL (List.Mem.tail _ (List.Mem.head _))
  have rF := laidMet.reads hL (List.Mem.tail _ (List.Mem.tail _ (List.Mem.head _)))
  rw [accept_is] at rA
  rw [digit_is] at rD
  rw [first_is] at rF
  have hlt : ∀ x ∈ pv, x.block < W.heap.size := fun x hx => by
    have := hW'.lt x (by simp [hx])
    simpa using this
  have hcs : ∃ c0, cs = #[c0] ∧ Value.cells c0 = #[c0] := by
    cases fuel with
    | zero => simp [DataW.trod] at hvt
    | succ fuel =>
      rcases DataW.trod_slice Tryd.underlying35 hvt with ⟨e, _⟩ | ⟨a, len, cap, el, rs, m, _, e, _⟩
      · exact ⟨_, Array.ext' e, rfl⟩
      · exact ⟨_, Array.ext' e, rfl⟩
  refine (laws_FnExactSkeletonOf.walk skeleton_pure a0 W (gdD rD) (gdU rF rA) w0).mono fun e W' ⟨he, hb⟩ => ?_
  subst he
  obtain ⟨c0, rfl, hc0⟩ := hcs
  have hg1 : 1 < W.heap.size := by
    have h : (MemPlace.cell 1 0).block < W.heap.size := by
      have := hW'.lt (.cell 1 0) (by simp [MemPlace.row])
      simpa using this
    exact h
  have hTv : DataW.Trod enc Tryd.prog W 0 (fun _ => true) true 35 c0 dv pv := ⟨fuel, by rw [hc0]; exact hvt⟩
  obtain ⟨fuel', hTv'⟩ := Below.trod laidOut (by kernel_rfl) (of_decide_eq_true (by kernel_rfl)) hTv hb hlt
  rw [hc0] at hTv'
  have hV' := trodVars_mk1 (H := H) (enc := enc) (P := Tryd.prog) gD gDt (var?_below hb gD hg1 hvar) hTv'
  refine ⟨_, rfl, _, _, _, [], [], _, hW', ?_, ?_, hV', World.keptBut_mono (fun p hp => hp) (hb.frame _), fun h => by cases h⟩
  · exact trodAll_cons_mk (shut_bool Tryd.underlying4 _) trodAll_mk0
  · exact trodAll_cons_mk (shut_string Tryd.underlying9 hs) trodAll_mk0
end Go.Proofs.YtepeeahckgpapaaDoor.K
end
section
set_option linter.unusedVariables false
set_option linter.unusedSimpArgs false
namespace Go.Proofs.YtepeeahckgpapaaDoor.K
open Go.ChangeShapes Go.WideShapes Go.ChangeAt Go.RowKit Go.Lib Go.ChangeMaps Go.Proofs.YtepeeahckgpapaaDoor.Q
noncomputable def laidWorld (os : Os) : World :=
  let N := (World.settled Tryd.prog os).heap.size
  let w0 := World.holding Tryd.prog os ⟨#[.cells (digitRowsL.map fun z => Value.int .i64 z).toArray 2], #[], []⟩
  let put (h : Array Obj) (g : Nat) (cs : Array Value) : Array Obj := h.modify g fun
    | .cells _ t frozen => .cells cs t frozen
    | o => o
  let h1 := put w0.heap 1 #[.slice (some ⟨N, 0, none⟩) 7 7]
  let h2 := put h1 2 (Lib.firstTab.map fun z => Value.int .u8 z).toArray
  let h3 := put h2 3 ((List.range 16).flatMap fun i => [Value.int .u8 (Lib.accLo i), Value.int .u8 (Lib.accHi i)]).toArray
  { w0 with heap := h3 }
def emptyS : ByteArray := ⟨#[]⟩
theorem laid_met (os : Os) (args : Array Value) : laidMet Tryd.prog Rows.fnExactSkeletonOfRow.laid ((laidWorld os).forCall (fun _ _ => 0) ⟨#[], args, []⟩).memory :=
  laidMet_of_run' 10 (by kernel_rfl) (by kernel_rfl)
theorem witness_row (os : Os) {H : Type} (enc : TypeId × Value → H) :
    (OpenSpec.ofChange Rows.fnExactSkeletonOfSpec).preRow enc Tryd.prog Tryd.f3 Rows.fnExactSkeletonOfRow.domain false Rows.fnExactSkeletonOfRow.laid ((laidWorld os).forCall (fun _ _ => 0) ⟨#[], #[.string emptyS], []⟩).memory #[.string emptyS] := by
  have hw : (DataW.whole enc Tryd.prog ((laidWorld os).forCall (fun _ _ => 0) ⟨#[], #[.string emptyS], []⟩).memory Tryd.f3.params.toList Rows.fnExactSkeletonOfSpec.vars false #[Value.string emptyS].toList 8).map (fun x => (x.1, x.2.1)) =
      some ([.lit (.string [])], [.slice (digitRowsL.map fun z => .lit (.int .i64 z)) []]) := by kernel_rfl
  obtain ⟨⟨x1, x2, x3⟩, hx, hx1⟩ := Option.map_eq_some_iff.1 hw
  simp only [Prod.mk.injEq] at hx1
  obtain ⟨rfl, rfl⟩ := hx1
  exact OpenSpec.preRow_of_cond 8 hx (by kernel_rfl) (fun k hk => by cases hk) (by kernel_rfl) (laid_met os _)
set_option maxRecDepth 100000 in
theorem lifted (os : Os) (started : os.Started) (H : Type) (enc : TypeId × Value → H) (F : Stop.Interp) :
    ReturnsInHanded {} Tryd.checked os 3 .any ((OpenSpec.ofChange Rows.fnExactSkeletonOfSpec).preRow enc Tryd.prog Tryd.f3 Rows.fnExactSkeletonOfRow.domain false Rows.fnExactSkeletonOfRow.laid) (((OpenSpec.ofChange Rows.fnExactSkeletonOfSpec).at F).post enc Tryd.prog Tryd.f3 false true false false) := by
  refine returnsInHanded_of_row (C := Tryd.checked) (s := OpenSpec.ofChange Rows.fnExactSkeletonOfSpec) own started (by kernel_rfl) Tryd.func3
    (witness_row_atRef (enc := enc) (C := Tryd.checked) false (laidWorld os) #[.string emptyS] rfl (by kernel_rfl) (by kernel_rfl) (by kernel_rfl) (witness_row os enc)) ?_
  intro W base args ds gs before hval hW _ _ hsz hL _ _
  exact contract1 H enc W base args ds gs before hval hW hsz hL
theorem said : Rows.FnExactSkeletonOfSaid :=
  OpenClaim.holds_of_cond 3 Tryd.f3 rfl rfl rfl rfl rfl rfl rfl ⟨rfl, rfl, rfl, rfl, rfl⟩ rfl rfl rfl rfl rfl (by kernel_rfl) Tryd.func3 (by kernel_rfl)
    (of_decide_eq_true (by kernel_rfl)) (by unfold Func.isWrapper; first | (rw [if_pos (by decide +kernel)]; kernel_rfl) | (rw [if_neg (by decide +kernel)]; exact ⟨rfl, rfl⟩))
    (fun os started H enc _ F => by rw [OpenClaim.pre_eq_preRow]; exact lifted os started H enc F)
theorem plain (f : FuncId) (fn : Func) (hf : Tryd.pinned.checked.prog.funcNamed "loop.example/g00044/laws.FnExactSkeletonOf" = some f) (hfn : Tryd.pinned.checked.prog.funcs[f]? = some fn) :
    false = Tryd.pinned.checked.prog.looks [] ∧ ∀ (j : Nat) t, fn.params[j]? = some t → Tryd.pinned.checked.prog.wantsStandIn t = false := by
  obtain rfl : f = 3 := Option.some.inj ((show Tryd.prog.funcNamed "loop.example/g00044/laws.FnExactSkeletonOf" = some 3 by kernel_rfl).symm.trans hf) |>.symm
  obtain rfl : fn = Tryd.f3 := (Option.some.inj (Tryd.func3.symm.trans hfn)).symm
  refine ⟨by kernel_rfl, fun j t ht => ?_⟩
  rw [Tryd.params3] at ht
  obtain rfl : t = 9 := by simpa using Array.mem_of_getElem? ht
  exact (show Tryd.prog.wantsStandIn 9 = false by kernel_rfl)
theorem card : Rows.FnExactSkeletonOfCardSaid :=
  Claim7.holds_tied_plain_at .later [] _ _ _ _ said (fun _ h => by cases h) (by kernel_rfl) (fun _ h => by cases h) fnExactSkeletonOf_row_tie rfl ⟨rfl, rfl⟩ (by kernel_rfl) rfl plain (by kernel_rfl)
end Go.Proofs.YtepeeahckgpapaaDoor.K
end
