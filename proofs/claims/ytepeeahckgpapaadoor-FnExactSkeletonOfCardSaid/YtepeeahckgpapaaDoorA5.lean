/- part 5 -/
import Derived.Lib.RuneCountTail
import Derived.Shelf.Unicode.DecodeAny
import Derived.Carry
import Derived.WalkSmall
import Derived.Test.YtepeeahckgpapaaDoorA4
section
namespace Go.Proofs.YtepeeahckgpapaaDoor.Q
open Go.RowKit Go.Proofs.YtepeeahckgpapaaDoorW.PrintWords Go.Proofs.YtepeeahckgpapaaDoorW.PrintLast Go.Proofs.YtepeeahckgpapaaDoorW.PrintMore
attribute [local go_sem] max2_int max_two
set_option linter.unusedVariables false
set_option linter.unusedSimpArgs false
def impl_points.l0 : Nat → List Int → List (S174) → Int → Int → Option (List Int)
 | 0, _, _, _, _ => none
 | k + 1, x3, x7, x8, x9 => if x9 < x8 then (if 0 ≤ x9 then (if x9 < (x7.length : Int) then (if x3.length < 17592186044416 then (impl_points.l0 k (x3 ++ [(rd_T174 x7 x9).f0]) x7 x8 (wrap64 (x9 + 1))) else (none)) else (none)) else (none)) else (some x3)
def impl_points.f (k : Nat) (a0 : ByteArray) : Option (List Int) := (impl_read.f k a0).bind fun t101 => (impl_points.l0 k ([] : List Int) t101 (t101.length : Int) 0)
set_option maxHeartbeats 8000000 in
set_option maxRecDepth 100000 in
theorem impl_points.calls (k : Nat) (a0 : ByteArray) (r : List Int) (w : World) (hGU : GdU w) (h : impl_points.f k a0 = some r) :
  Calls Tryd.prog 114 #[.string a0] w fun e w' => ∃ v0_ : Value, e = .returned (v0_) ∧ Kd.R (Kd.int .i64) 2 w' w.heap.size (fun _ => True) v0_ r ∧ Below w.heap.size w w' := by
 have hu174 := Tryd.underlying174
 have HB := Aside0.mk (Below.refl w.heap.size w)
 have H : ((impl_read.f k a0).bind fun t101 => (impl_points.l0 k ([] : List Int) t101 (t101.length : Int) 0)) = some r := h
 clear h
 replace H := Option.bind_eq_some_iff.mp H
 obtain ⟨t101, A20, H⟩ := H
 replace H : (impl_points.l0 k ([] : List Int) t101 (t101.length : Int) 0) = some r := H
 have A2 := Aside0.mk A20
 clear A20
 have H' := Aside0.mk H
 clear H
 go_enter Tryd.func114, Tryd.ntmps114
 go_wp2_with (first | ((with_reducible refine gate_callee (f := 171) rfl ?_); refine goesL_ (some 7) rfl rfl Tryd.func171 (by kernel_rfl) rfl #[.string a0] rfl (by (try simp only [List.map_toArray, List.map_cons, List.map_nil]); first | done | rfl | (simp only [List.length_drop, List.length_take]; rfl)) ?_; (with_reducible refine (impl_read.calls (hGU := ?side90) k a0 t101 _ A2.out).mono ?_); (case side90 => exact GdU.below hGU (by repeat (first | (with_reducible first | exact HB.out | apply below_alloc | apply pw_below_drewN | apply below_drew1) | exact HB.out))); rintro e w3 ⟨v102, rfl, ho0, hb⟩; refine ⟨_, rfl, ?_⟩; have n0_ := Aside0.mk (Kd.R_lower ho0 (below_size (by repeat (first | (with_reducible first | exact HB.out | apply below_alloc | apply pw_below_drewN | apply below_drew1) | exact HB.out)))); have n1_ := Aside0.mk (below_step (by repeat (first | (with_reducible first | exact HB.out | apply below_alloc | apply pw_below_drewN | apply below_drew1) | exact HB.out)) hb); clear HB; have HO103 := n0_; have HB := n1_; clear n0_ n1_; (try clear hb); (try clear hb2); (try clear hk); (try clear hi); (try clear ho0); obtain ⟨Ao4, co4, eo4⟩ := Kd.R_slice HO103.out; subst eo4))
 go_loopg [3, 9] k (fun kq v3 v9 w' => ∃ (x3_1 : List Int) (x9_1 : Int), v9 = .int .i64 x9_1 ∧ Aside0 (impl_points.l0 kq x3_1 t101 (t101.length : Int) x9_1 = some r) ∧ Aside0 (kq ≤ k) ∧ Aside0 (Kd.R (Kd.int .i64) 2 w' w.heap.size (fun _ => True) v3 x3_1) ∧ Aside0 (Kd.R k174 174 w' w.heap.size (fun _ => True) (.slice Ao4 t101.length co4) t101) ∧ Aside0 (Below w.heap.size w w'))
 case atStart => exact ⟨(([] : List Int)), (0), (by first | rfl | (simp; done) | (simp [*]; done)), H', ⟨Nat.le_refl _⟩, ⟨by first | exact Kd.R_nil _ _ _ _ _ | exact Kd.N_nil _ _ _ _ _ | exact Kd.V_nil _ _ _ _ _ | exact Kd.Q_nil _ _ _ _ _ | exact Kd.S_nil _ _ _ _ _⟩, ⟨by (with_reducible repeat (first | apply Kd.R_alloc | apply Kd.R_drewN | apply Kd.R_drew)); exact HO103.out⟩, ⟨by repeat (first | (with_reducible first | exact HB.out | apply below_alloc | apply pw_below_drewN | apply below_drew1) | exact HB.out)⟩⟩
 case round =>
  clear H'
  try clear c1
  try clear p2
  obtain ⟨x3_1, x9_1, rfl, HA, HK1, HO_3, HO_7, HB⟩ := hrel
  cases gk with
  | zero => exact absurd HA.out (by simp [impl_points.l0])
  | succ k1 =>
   have H := HA.out
   clear HA
   simp only [impl_points.l0] at H
   by_cases c5 : x9_1 < (t101.length : Int)
   ·rw [if_pos c5] at H
    have c5b0 : decide (x9_1 < (t101.length : Int)) = true := decide_eq_true c5
    clear c5
    by_cases c6 : 0 ≤ x9_1
    ·rw [if_pos c6] at H
     have c6b0 : decide (0 ≤ x9_1) = true := decide_eq_true c6
     clear c6
     by_cases c7 : x9_1 < (t101.length : Int)
     ·rw [if_pos c7] at H
      have c7b0 : decide (x9_1 < (t101.length : Int)) = true := decide_eq_true c7
      clear c7
      by_cases c8 : x3_1.length < 17592186044416
      ·rw [if_pos c8] at H
       have LMc8 := Aside0.mk c8
       clear c8
       obtain ⟨y106, hy106⟩ : ∃ y_ : List Int, y_ = (x3_1 ++ [(rd_T174 t101 x9_1).f0]) := ⟨_, rfl⟩
       replace H : (impl_points.l0 k1 y106 t101 (t101.length : Int) (wrap64 (x9_1 + 1))) = some r := by first | (rw [hy106]; with_reducible exact H) | (have H2_ := (Option.bind_some _ _).symm.trans H; rw [hy106]; with_reducible exact H2_) | (have H2_ := (Option.bind_some _ _).symm.trans H; with_reducible exact H2_) | with_reducible exact H | (rw [hy106]; exact H) | exact H
       have Ny106 := Aside0.mk hy106
       clear hy106
       have H' := Aside0.mk H
       clear H
       have p104 : 0 ≤ (x9_1 : Int) := of_decide_eq_true (by first | (with_reducible assumption) | assumption)
       have q104 : x9_1 < (t101.length : Int) := of_decide_eq_true (by first | (with_reducible assumption) | assumption)
       obtain ⟨ad104, e104, hx104_0, hx104_1, hx104_2, hx104_3⟩ := at_T174 (Kd.R_reads' HO_7.out).2.2 x9_1 p104 q104
       cases e104
       replace p104 := eq_true p104
       replace q104 := eq_true q104
       go_wp2_with (first | ((with_reducible refine gate_dst (N := 5) rfl ?_); refine box_event ?hg (N := 5) ?hd (cs := #[.int .i64 0, .int .i64 0, .int .i64 0, .bool false]) (t := 174) ?hr ?_; (case hd => rfl); (case hg => rfl); (case hr => first | (go_simp; done) | (go_simp; rfl)); intro gb105 hg w9 hbox hb; have n0_ := Aside0.mk (Kd.R_below (by (with_reducible repeat (first | apply Kd.R_alloc | apply Kd.R_drewN | apply Kd.R_drew)); exact HO_3.out) hb); have n1_ := Aside0.mk (Kd.R_below (Kd.R_elderB (by (with_reducible repeat (first | apply Kd.R_alloc | apply Kd.R_drewN | apply Kd.R_drew)); exact HO_7.out) gb105 (Nat.le_of_eq hg.symm)) hb); have n2_ := Aside0.mk (below_step (by repeat (first | (with_reducible first | exact HB.out | apply below_alloc | apply pw_below_drewN | apply below_drew1) | exact HB.out)) hb); have n3_ := Aside0.mk (hbox); have n4_ := Aside0.mk ((by rw [hg]; exact (below_size (by repeat (first | (with_reducible first | exact HB.out | apply below_alloc | apply pw_below_drewN | apply below_drew1) | exact HB.out))) : w.heap.size ≤ gb105)); have n5_ := Aside0.mk ((by rw [hg]; exact (below_size (by repeat (first | (with_reducible first | exact HB.out | apply below_alloc | apply pw_below_drewN | apply below_drew1) | exact HB.out))) : w.heap.size ≤ gb105)); clear HO_3; clear HO_7; clear HB; have HO_3 := n0_; have HO_7 := n1_; have HB := n2_; have BK105 := n3_; have GW105 := n4_; have GE105 := n5_; clear n0_ n1_ n2_ n3_ n4_ n5_; clear hb hbox hg; have hcz10_0 : w9.cell? ⟨gb105, 0, none⟩ = some (.int .i64 0) := (blk_cell BK105.out 0).trans rfl; have hcz10_1 : w9.cell? ⟨gb105, 1, none⟩ = some (.int .i64 0) := (blk_cell BK105.out 1).trans rfl; have hcz10_2 : w9.cell? ⟨gb105, 2, none⟩ = some (.int .i64 0) := (blk_cell BK105.out 2).trans rfl; have hcz10_3 : w9.cell? ⟨gb105, 3, none⟩ = some (.bool false) := (blk_cell BK105.out 3).trans rfl; have hfz10_0 := blk_frozen BK105.out 0; have hfz10_1 := blk_frozen BK105.out 1; have hfz10_2 := blk_frozen BK105.out 2; have hfz10_3 := blk_frozen BK105.out 3) | ((with_reducible refine gate_builtin (b := .append) (xs := #[.tmp 13, .tmp 16]) rfl ?_); at_builtin; refine Kd.R_append (Kd.int .i64) (w0 := w) w.heap.size rfl (.tmp 13) (.tmp 16) 35 2 (.int .i64 0) 8 rfl Tryd.underlying35 info2 rfl (by decide) (by omega) u3 x3_1 ((rd_T174 t101 x9_1).f0) [.int .i64 ((rd_T174 t101 x9_1).f0)] (fun _ => True) (fun _ => False) rfl (by first | (go_simp; done) | (go_simp; rfl)) ?aP (fun _ hk => hk.elim) ?aF ?aO ?aB ?aS ?aL ?_; (case aP => exact rfl); (case aB => exact (by repeat (first | (with_reducible first | exact HB.out | apply below_alloc | apply pw_below_drewN | apply below_drew1 | refine below_set ?_ GE105.out) | exact HB.out))); (case aF => exact (fun _ _ => trivial)); (case aO => exact (by (with_reducible repeat (first | apply Kd.R_alloc | apply Kd.R_drewN | apply Kd.R_drew)); exact Kd.R_mono (Kd.R_far (p := ⟨gb105, 3, none⟩) (Kd.R_far (p := ⟨gb105, 2, none⟩) (Kd.R_far (p := ⟨gb105, 1, none⟩) (Kd.R_far (p := ⟨gb105, 0, none⟩) (Kd.R_types HO_3.out BK105.out (by decide)) (fun _ hk => hk.2) (.int .i64 ((rd_T174 t101 x9_1).f0))) (fun _ hk => hk.2) (.int .i64 ((rd_T174 t101 x9_1).f1))) (fun _ hk => hk.2) (.int .i64 ((rd_T174 t101 x9_1).f2))) (fun _ hk => hk.2) (.bool ((rd_T174 t101 x9_1).f3))) (fun _ hk => trivial))); (case aS => exact (below_size (by repeat (first | (with_reducible first | exact HB.out | apply below_alloc | apply pw_below_drewN | apply below_drew1 | refine below_set ?_ GE105.out) | exact HB.out)))); (case aL => have := LMc8.out; omega); intro v107 w11 ho hb hg hat; rw [← Ny106.out] at ho; have n0_ := Aside0.mk (Kd.R_over' (by (with_reducible repeat (first | apply Kd.R_alloc | apply Kd.R_drewN | apply Kd.R_drew)); exact (Kd.R_mono (Kd.R_far (p := ⟨gb105, 3, none⟩) (Kd.R_far (p := ⟨gb105, 2, none⟩) (Kd.R_far (p := ⟨gb105, 1, none⟩) (Kd.R_far (p := ⟨gb105, 0, none⟩) (Kd.R_mono HO_7.out (fun k_ hk => (⟨hk, hk.2⟩ : _ ∧ k_ ≠ gb105))) (fun _ hk => hk.2) (.int .i64 ((rd_T174 t101 x9_1).f0))) (fun _ hk => hk.2) (.int .i64 ((rd_T174 t101 x9_1).f1))) (fun _ hk => hk.2) (.int .i64 ((rd_T174 t101 x9_1).f2))) (fun _ hk => hk.2) (.bool ((rd_T174 t101 x9_1).f3))) (fun _ h_ => h_.1))) (Kd.R_typed (by (with_reducible repeat (first | apply Kd.R_alloc | apply Kd.R_drewN | apply Kd.R_drew)); exact (Kd.R_mono (Kd.R_far (p := ⟨gb105, 3, none⟩) (Kd.R_far (p := ⟨gb105, 2, none⟩) (Kd.R_far (p := ⟨gb105, 1, none⟩) (Kd.R_far (p := ⟨gb105, 0, none⟩) (Kd.R_types HO_3.out BK105.out (by decide)) (fun _ hk => hk.2) (.int .i64 ((rd_T174 t101 x9_1).f0))) (fun _ hk => hk.2) (.int .i64 ((rd_T174 t101 x9_1).f1))) (fun _ hk => hk.2) (.int .i64 ((rd_T174 t101 x9_1).f2))) (fun _ hk => hk.2) (.bool ((rd_T174 t101 x9_1).f3))) (fun _ h_ => h_.1)))) (by decide) hg); have n1_ := Aside0.mk (blk_grown (g := gb105) (o := .cells #[.int .i64 ((rd_T174 t101 x9_1).f0), .int .i64 ((rd_T174 t101 x9_1).f1), .int .i64 ((rd_T174 t101 x9_1).f2), .bool ((rd_T174 t101 x9_1).f3)] 174 (0, 0)) (by (with_reducible repeat (first | refine blk_drewN ?_ _ | refine blk_drew ?_ | refine blk_alloc ?_ _)); refine blk_put (cs := #[.int .i64 ((rd_T174 t101 x9_1).f0), .int .i64 ((rd_T174 t101 x9_1).f1), .int .i64 ((rd_T174 t101 x9_1).f2), .bool false]) ?_ 3 _ rfl; (with_reducible repeat (first | refine blk_drewN ?_ _ | refine blk_drew ?_ | refine blk_alloc ?_ _)); refine blk_put (cs := #[.int .i64 ((rd_T174 t101 x9_1).f0), .int .i64 ((rd_T174 t101 x9_1).f1), .int .i64 0, .bool false]) ?_ 2 _ rfl; (with_reducible repeat (first | refine blk_drewN ?_ _ | refine blk_drew ?_ | refine blk_alloc ?_ _)); refine blk_put (cs := #[.int .i64 ((rd_T174 t101 x9_1).f0), .int .i64 0, .int .i64 0, .bool false]) ?_ 1 _ rfl; (with_reducible repeat (first | refine blk_drewN ?_ _ | refine blk_drew ?_ | refine blk_alloc ?_ _)); refine blk_put (cs := #[.int .i64 0, .int .i64 0, .int .i64 0, .bool false]) ?_ 0 _ rfl; (with_reducible repeat (first | refine blk_drewN ?_ _ | refine blk_drew ?_ | refine blk_alloc ?_ _)); exact BK105.out) hg (Kd.R_ne HO_3.out BK105.out (by decide))); have n2_ := Aside0.mk (hb); have n3_ := Aside0.mk (ho); clear HO_7; clear BK105; clear HB; clear HO_3; have HO_7 := n0_; have BK105 := n1_; have HB := n2_; have HO108 := n3_; clear n0_ n1_ n2_ n3_; clear ho hb hg hat))
       go_roundg k1
       case measure => have := HK1.out; omega
       case rel => exact ⟨(y106), (wrap64 (x9_1 + 1)), (by first | rfl | (simp; done) | (simp [*]; done)), H', ⟨by have := HK1.out; omega⟩, ⟨by (with_reducible repeat (first | apply Kd.R_alloc | apply Kd.R_drewN | apply Kd.R_drew)); exact HO108.out⟩, ⟨by (with_reducible repeat (first | apply Kd.R_alloc | apply Kd.R_drewN | apply Kd.R_drew)); exact Kd.R_mono HO_7.out (fun _ hk => trivial)⟩, ⟨by repeat (first | (with_reducible first | exact HB.out | apply below_alloc | apply pw_below_drewN | apply below_drew1 | refine below_set ?_ GE105.out) | exact HB.out)⟩⟩
      ·rw [if_neg c8] at H
       exact absurd H (by simp)
     ·rw [if_neg c7] at H
      exact absurd H (by simp)
    ·rw [if_neg c6] at H
     exact absurd H (by simp)
   ·rw [if_neg c5] at H
    have c5b0 : decide (x9_1 < (t101.length : Int)) = false := decide_eq_false c5
    clear c5
    obtain rfl := Option.some.inj H
    go_wp2
    go_ret
    exact ⟨_, by first | rfl | (simp [errW_none, errW_some] <;> rfl) | (simp [*, errW_none, errW_some] <;> rfl), by (with_reducible repeat (first | apply Kd.R_alloc | apply Kd.R_drewN | apply Kd.R_drew)); exact HO_3.out, by repeat (first | (with_reducible first | exact HB.out | apply below_alloc | apply pw_below_drewN | apply below_drew1) | exact HB.out)⟩
end Go.Proofs.YtepeeahckgpapaaDoor.Q
end
section
namespace Go.Proofs.YtepeeahckgpapaaDoor.Q
open Go.RowKit Go.Proofs.YtepeeahckgpapaaDoorW.PrintWords Go.Proofs.YtepeeahckgpapaaDoorW.PrintLast Go.Proofs.YtepeeahckgpapaaDoorW.PrintMore
attribute [local go_sem] max2_int max_two
set_option linter.unusedVariables false
set_option linter.unusedSimpArgs false
def spec_l01Points.l0 : Nat → ByteArray → List Int → Int → Option (List Int)
 | 0, _, _, _ => none
 | k + 1, x0, x3, x4 => if x4 < (x0.size : Int) then ((spec_l01Next.f k x0 x4).bind fun bt104 => (if x3.length < 17592186044416 then (spec_l01Points.l0 k x0 (x3 ++ [bt104.1]) (wrap64 (x4 + bt104.2.1))) else (none))) else (some x3)
def spec_l01Points.f (k : Nat) (a0 : ByteArray) : Option (List Int) := spec_l01Points.l0 k a0 (([] : List Int)) 0
set_option maxHeartbeats 8000000 in
set_option maxRecDepth 100000 in
theorem spec_l01Points.calls (k : Nat) (a0 : ByteArray) (r : List Int) (w : World) (h : spec_l01Points.f k a0 = some r) :
  Calls Tryd.prog 69 #[.string a0] w fun e w' => ∃ v0_ : Value, e = .returned (v0_) ∧ Kd.R (Kd.int .i64) 2 w' w.heap.size (fun _ => True) v0_ r ∧ Below w.heap.size w w' := by
 have HB := Aside0.mk (Below.refl w.heap.size w)
 have H : (spec_l01Points.l0 k a0 (([] : List Int)) 0) = some r := h
 clear h
 obtain ⟨y101, hy101⟩ : ∃ y_ : List Int, y_ = (([] : List Int)) := ⟨_, rfl⟩
 replace H : (spec_l01Points.l0 k a0 y101 0) = some r := by first | (rw [hy101]; with_reducible exact H) | (have H2_ := (Option.bind_some _ _).symm.trans H; rw [hy101]; with_reducible exact H2_) | (have H2_ := (Option.bind_some _ _).symm.trans H; with_reducible exact H2_) | with_reducible exact H | (rw [hy101]; exact H) | exact H
 have Ny101 := Aside0.mk hy101
 clear hy101
 have H' := Aside0.mk H
 clear H
 go_enter Tryd.func69, Tryd.ntmps69
 go_wp2_with (first | ((with_reducible refine gate_dst (N := 8) rfl ?_); refine Kd.R_lit (Kd.int .i64) _ 2 ?hg (N := 8) ?hd (xs := ([] : List Int)) (inner := []) (ok := fun _ => True) (okp := fun _ => True) ?hr ?hp (fun _ hk => hk) trivial (Below.refl _ _) (Nat.le_refl _) (by simp) ?_; (case hd => rfl); (case hg => rfl); (case hr => first | (go_simp; done) | (go_simp; rfl)); (case hp => exact (Reps.none _ _)); intro v102 w2 ho3 hb hg_ hnew_; clear hg_ hnew_; (first | rw [← Ny101.out] at ho3 | (simp only [Int.reduceToNat] at ho3; rw [← Ny101.out] at ho3)); have n0_ := Aside0.mk (Kd.R_lower ho3 (below_size (by repeat (first | (with_reducible first | exact HB.out | apply below_alloc | apply pw_below_drewN | apply below_drew1) | exact HB.out)))); have n1_ := Aside0.mk (below_step (by repeat (first | (with_reducible first | exact HB.out | apply below_alloc | apply pw_below_drewN | apply below_drew1) | exact HB.out)) hb); clear HB; have HO103 := n0_; have HB := n1_; clear n0_ n1_; clear hb ho3))
 go_loopg [3, 4] k (fun kq v3 v4 w' => ∃ (x3_1 : List Int) (x4_1 : Int), v4 = .int .i64 x4_1 ∧ Aside0 (spec_l01Points.l0 kq a0 x3_1 x4_1 = some r) ∧ Aside0 (kq ≤ k) ∧ Aside0 (Kd.R (Kd.int .i64) 2 w' w.heap.size (fun _ => True) v3 x3_1) ∧ Aside0 (Below w.heap.size w w'))
 case atStart => exact ⟨(y101), (0), (by first | rfl | (simp; done) | (simp [*]; done)), H', ⟨Nat.le_refl _⟩, ⟨by (with_reducible repeat (first | apply Kd.R_alloc | apply Kd.R_drewN | apply Kd.R_drew)); exact HO103.out⟩, ⟨by repeat (first | (with_reducible first | exact HB.out | apply below_alloc | apply pw_below_drewN | apply below_drew1) | exact HB.out)⟩⟩
 case round =>
  clear H'
  try clear p2
  obtain ⟨x3_1, x4_1, rfl, HA, HK1, HO_3, HB⟩ := hrel
  cases gk with
  | zero => exact absurd HA.out (by simp [spec_l01Points.l0])
  | succ k1 =>
   have H := HA.out
   clear HA
   simp only [spec_l01Points.l0] at H
   by_cases c4 : x4_1 < (a0.size : Int)
   ·rw [if_pos c4] at H
    have c4b0 : decide (x4_1 < (a0.size : Int)) = true := decide_eq_true c4
    clear c4
    replace H := Option.bind_eq_some_iff.mp H
    obtain ⟨⟨t104, t105, t106⟩, A50, H⟩ := H
    replace H : (if x3_1.length < 17592186044416 then (spec_l01Points.l0 k1 a0 (x3_1 ++ [t104]) (wrap64 (x4_1 + t105))) else (none)) = some r := H
    have A5 := Aside0.mk A50
    clear A50
    by_cases c6 : x3_1.length < 17592186044416
    ·rw [if_pos c6] at H
     have LMc6 := Aside0.mk c6
     clear c6
     obtain ⟨y107, hy107⟩ : ∃ y_ : List Int, y_ = (x3_1 ++ [t104]) := ⟨_, rfl⟩
     replace H : (spec_l01Points.l0 k1 a0 y107 (wrap64 (x4_1 + t105))) = some r := by first | (rw [hy107]; with_reducible exact H) | (have H2_ := (Option.bind_some _ _).symm.trans H; rw [hy107]; with_reducible exact H2_) | (have H2_ := (Option.bind_some _ _).symm.trans H; with_reducible exact H2_) | with_reducible exact H | (rw [hy107]; exact H) | exact H
     have Ny107 := Aside0.mk hy107
     clear hy107
     have H' := Aside0.mk H
     clear H
     go_wp2_with (first | ((with_reducible refine gate_callee (f := 137) rfl ?_); refine goesL_ (some 16) rfl rfl Tryd.func137 (by kernel_rfl) rfl #[.string a0, .int .i64 x4_1] rfl (by (try simp only [List.map_toArray, List.map_cons, List.map_nil]); first | done | rfl | (simp only [List.length_drop, List.length_take]; rfl)) ?_; (with_reducible refine (spec_l01Next.calls k1 a0 x4_1 t104 t105 t106 _ A5.out).mono ?_); rintro e w7 ⟨rfl, hb⟩; refine ⟨_, rfl, ?_⟩; have n0_ := Aside0.mk (Kd.R_below (by (with_reducible repeat (first | apply Kd.R_alloc | apply Kd.R_drewN | apply Kd.R_drew)); exact HO_3.out) hb); have n1_ := Aside0.mk (below_step (by repeat (first | (with_reducible first | exact HB.out | apply below_alloc | apply pw_below_drewN | apply below_drew1) | exact HB.out)) hb); clear HO_3; clear HB; have HO_3 := n0_; have HB := n1_; clear n0_ n1_; (try clear hb); (try clear hb2); (try clear hk); (try clear hi)) | ((with_reducible refine gate_builtin (b := .append) (xs := #[.tmp 20, .tmp 22]) rfl ?_); at_builtin; refine Kd.R_append (Kd.int .i64) (w0 := w) w.heap.size rfl (.tmp 20) (.tmp 22) 35 2 (.int .i64 0) 8 rfl Tryd.underlying35 info2 rfl (by decide) (by omega) u3 x3_1 t104 [.int .i64 t104] (fun _ => True) (fun _ => False) rfl rfl ?aP (fun _ hk => hk.elim) ?aF ?aO ?aB ?aS ?aL ?_; (case aP => exact rfl); (case aB => exact (by repeat (first | (with_reducible first | exact HB.out | apply below_alloc | apply pw_below_drewN | apply below_drew1) | exact HB.out))); (case aF => exact (fun _ _ => trivial)); (case aO => exact (by (with_reducible repeat (first | apply Kd.R_alloc | apply Kd.R_drewN | apply Kd.R_drew)); exact HO_3.out)); (case aS => exact (below_size (by repeat (first | (with_reducible first | exact HB.out | apply below_alloc | apply pw_below_drewN | apply below_drew1) | exact HB.out)))); (case aL => have := LMc6.out; omega); intro v108 w8 ho hb hg hat; rw [← Ny107.out] at ho; have n0_ := Aside0.mk (hb); have n1_ := Aside0.mk (ho); clear HB; clear HO_3; have HB := n0_; have HO109 := n1_; clear n0_ n1_; clear ho hb hg hat))
     go_roundg k1
     case measure => have := HK1.out; omega
     case rel => exact ⟨(y107), (wrap64 (x4_1 + t105)), (by first | rfl | (simp; done) | (simp [*]; done)), H', ⟨by have := HK1.out; omega⟩, ⟨by (with_reducible repeat (first | apply Kd.R_alloc | apply Kd.R_drewN | apply Kd.R_drew)); exact HO109.out⟩, ⟨by repeat (first | (with_reducible first | exact HB.out | apply below_alloc | apply pw_below_drewN | apply below_drew1) | exact HB.out)⟩⟩
    ·rw [if_neg c6] at H
     exact absurd H (by simp)
   ·rw [if_neg c4] at H
    have c4b0 : decide (x4_1 < (a0.size : Int)) = false := decide_eq_false c4
    clear c4
    obtain rfl := Option.some.inj H
    go_wp2
    go_ret
    exact ⟨_, by first | rfl | (simp [errW_none, errW_some] <;> rfl) | (simp [*, errW_none, errW_some] <;> rfl), by (with_reducible repeat (first | apply Kd.R_alloc | apply Kd.R_drewN | apply Kd.R_drew)); exact HO_3.out, by repeat (first | (with_reducible first | exact HB.out | apply below_alloc | apply pw_below_drewN | apply below_drew1) | exact HB.out)⟩
end Go.Proofs.YtepeeahckgpapaaDoor.Q
end
section
set_option linter.unusedVariables false
set_option linter.unusedSimpArgs false
namespace Go.Proofs.YtepeeahckgpapaaDoor.Q
open Go.RowKit Go.Sort Go.Proofs.YtepeeahckgpapaaDoorW.PrintWords Go.Proofs.YtepeeahckgpapaaDoorW.PrintLast Go.Proofs.YtepeeahckgpapaaDoorW.PrintMore
def bB (s : ByteArray) (i : Nat) : Nat := (s.get! i).toNat
theorem bB_lt (s : ByteArray) (i : Nat) : bB s i < 256 := UInt8.toNat_lt _
theorem bt_bB (s : ByteArray) (i : Nat) (h : i < s.size) : bt s (i : Int) = (bB s i : Int) := by
  unfold bt bB
  have h' : ((i : Int)).toNat < s.size := by omega
  rw [dif_pos h']
  have e : ((i : Int)).toNat = i := by omega
  have : s.get! i = s[i]'h := by
    cases s with
    | mk d => exact getElem!_pos d i h
  rw [this]
  simp only [e]
def decV (s : ByteArray) (i : Nat) : Nat × Nat := Lib.decodeN (s.size - i) (bB s i) (bB s (i + 1)) (bB s (i + 2)) (bB s (i + 3))
theorem impl_dec (s : ByteArray) (i : Nat) (h : i < s.size) : utf8_DecodeRuneInString.f (s.extract i s.size) = some (((decV s i).1 : Int), ((decV s i).2 : Int)) := by
  unfold utf8_DecodeRuneInString.f
  have : Lib.decodeGo (s.extract i s.size) = decV s i := by
    unfold Lib.decodeGo
    rw [Lib.tail_size, if_neg (by omega), Lib.tail_decode, Lib.decode_at]
    rfl
  rw [this]
def encN (v : Int) : Int := if v < 128 then 1 else if v < 2048 then 2 else if v < 65536 then 3 else 4
theorem enc_len_eq (v : Int) : ((enc v).length : Int) = encN v := by
  unfold enc encN
  repeat' split
  all_goals rfl
def finV (n v : Int) : Int × Int × Bool := if (0 ≤ v ∧ v ≤ 1114111 ∧ (v < 55296 ∨ 57343 < v)) ∧ encN v = n + 1 then (v, n + 1, true) else (65533, 1, false)
theorem spec_fin (s : ByteArray) (i n v j : Int) (h : n < j) (hn0 : 0 ≤ n) (hn : n ≤ 3) (k : Nat) : spec_l01Next.l0 (k + 2) s i n v j = some (finV n v) := by
  simp only [spec_l01Next.l0]
  rw [if_neg (by omega), isPoint_eq, Option.bind_some]
  unfold finV
  by_cases c : 0 ≤ v ∧ v ≤ 1114111 ∧ (v < 55296 ∨ 57343 < v)
  · rw [decide_eq_true c, if_pos rfl, spec_write v (k + 1) (by omega), Option.bind_some, strOfNums_size, enc_len_eq]
    have : okP v = v := by unfold okP; rw [if_pos c]
    rw [this, wrap64_id (by omega) (by omega)]
    by_cases c2 : encN v = n + 1
    · rw [if_pos c2, if_pos ⟨c, c2⟩]
    · rw [if_neg c2, if_neg (fun x => c2 x.2)]
  · rw [decide_eq_false c, if_neg (by decide), if_neg (fun x => c x.1)]
theorem spec_step (s : ByteArray) (i : Nat) (n v : Int) (j : Nat) (hj : (j : Int) ≤ n) (hij : i + j < s.size) (hs : s.size ≤ 1099511627776) (hv0 : 0 ≤ v) (hv : v ≤ 1099511627776) (hn : n ≤ 3) (k : Nat) :
    spec_l01Next.l0 (k + 1) s (i : Int) n v (j : Int) = if bB s (i + j) < 128 ∨ 191 < bB s (i + j) then some (65533, 1, false) else spec_l01Next.l0 k s (i : Int) n (v * 64 + ((bB s (i + j) % 64 : Nat) : Int)) ((j + 1 : Nat) : Int) := by
  have hb := bB_lt s (i + j)
  simp only [spec_l01Next.l0]
  have e1 : wrap64 ((i : Int) + (j : Int)) = ((i + j : Nat) : Int) := by rw [wrap64_id (by omega) (by omega)]; simp
  rw [e1, bt_bB s (i + j) hij, wrap64_id (n := (bB s (i + j) : Int)) (by omega) (by omega), tm _ _ (by omega)]
  rw [if_pos hj, if_pos (by omega), if_pos (by omega)]
  rw [wrap64_id (n := v * 64) (by omega) (by omega), wrap64_id (n := v * 64 + (bB s (i + j) : Int) % 64) (by omega) (by omega), wrap64_id (n := (j : Int) + 1) (by omega) (by omega)]
  by_cases c1 : bB s (i + j) < 128
  · rw [if_pos (by omega), if_pos (Or.inl c1)]
  · rw [if_neg (by omega)]
    by_cases c2 : 191 < bB s (i + j)
    · rw [if_pos (by omega), if_pos (Or.inr c2)]
    · rw [if_neg (by omega), if_neg (by omega)]
      rfl
def moreV (s : ByteArray) (i n : Nat) (v : Nat) : Int × Int × Bool :=
  if i + n ≥ s.size then (65533, 1, false) else
  if bB s (i + 1) < 128 ∨ 191 < bB s (i + 1) then (65533, 1, false) else
  if n = 1 then finV 1 (v * 64 + ((bB s (i + 1) % 64 : Nat) : Int)) else
  if bB s (i + 2) < 128 ∨ 191 < bB s (i + 2) then (65533, 1, false) else
  if n = 2 then finV 2 ((v * 64 + ((bB s (i + 1) % 64 : Nat) : Int)) * 64 + ((bB s (i + 2) % 64 : Nat) : Int)) else
  if bB s (i + 3) < 128 ∨ 191 < bB s (i + 3) then (65533, 1, false) else
  finV 3 (((v * 64 + ((bB s (i + 1) % 64 : Nat) : Int)) * 64 + ((bB s (i + 2) % 64 : Nat) : Int)) * 64 + ((bB s (i + 3) % 64 : Nat) : Int))
theorem spec_more (s : ByteArray) (i n v : Nat) (hn1 : 1 ≤ n) (hn : n ≤ 3) (hi : i < s.size) (hs : s.size ≤ 1099511627776) (hv : v ≤ 31) (k : Nat) :
    spec_l01Next.j2 (k + 6) s (i : Int) (n : Int) (v : Int) = some (moreV s i n v) := by
  simp only [spec_l01Next.j2, moreV]
  rw [wrap64_id (by omega) (by omega)]
  by_cases c : i + n ≥ s.size
  · rw [if_pos (by omega), if_pos c]
  · rw [if_neg (by omega), if_neg c]
    have b1 := bB_lt s (i + 1)
    have b2 := bB_lt s (i + 2)
    have b3 := bB_lt s (i + 3)
    have s1 := spec_step s i n v 1 (by omega) (by omega) hs (by omega) (by omega) (by omega) (k + 4)
    rw [show ((1 : Nat) : Int) = 1 from rfl] at s1
    rw [s1]
    by_cases c1 : bB s (i + 1) < 128 ∨ 191 < bB s (i + 1)
    · rw [if_pos c1, if_pos c1]
    · rw [if_neg c1, if_neg c1]
      by_cases n1 : n = 1
      · subst n1
        rw [if_pos rfl, spec_fin _ _ _ _ _ (by decide) (by decide) (by decide)]
        rfl
      · rw [if_neg n1, spec_step s i n _ 2 (by omega) (by omega) hs (by omega) (by omega) (by omega)]
        by_cases c2 : bB s (i + 2) < 128 ∨ 191 < bB s (i + 2)
        · rw [if_pos c2, if_pos c2]
        · rw [if_neg c2, if_neg c2]
          by_cases n2 : n = 2
          · subst n2
            rw [if_pos rfl, spec_fin _ _ _ _ _ (by decide) (by decide) (by decide)]
            rfl
          · rw [if_neg n2, spec_step s i n _ 3 (by omega) (by omega) hs (by omega) (by omega) (by omega)]
            by_cases c3 : bB s (i + 3) < 128 ∨ 191 < bB s (i + 3)
            · rw [if_pos c3, if_pos c3]
            · rw [if_neg c3, if_neg c3]
              have n3 : n = 3 := by omega
              subst n3
              rw [spec_fin _ _ _ _ _ (by decide) (by decide) (by decide)]
              rfl
def nextV (s : ByteArray) (i : Nat) : Int × Int × Bool :=
  if bB s i < 128 then ((bB s i : Int), 1, true) else
  if 194 ≤ bB s i ∧ bB s i < 224 then moreV s i 1 (bB s i % 32) else
  if 224 ≤ bB s i ∧ bB s i < 240 then moreV s i 2 (bB s i % 16) else
  if 240 ≤ bB s i ∧ bB s i < 245 then moreV s i 3 (bB s i % 8) else (65533, 1, false)
theorem spec_next (s : ByteArray) (i : Nat) (hi : i < s.size) (hs : s.size ≤ 1099511627776) (k : Nat) (hk : 8 ≤ k) :
    spec_l01Next.f k s (i : Int) = some (nextV s i) := by
  obtain ⟨k, rfl⟩ : ∃ q, k = q + 8 := ⟨k - 8, by omega⟩
  have hb := bB_lt s i
  simp only [spec_l01Next.f, nextV]
  rw [if_pos (by omega), if_pos (by omega), bt_bB s i hi, wrap64_id (by omega) (by omega)]
  by_cases c1 : bB s i < 128
  · rw [if_pos (by omega), if_pos c1]
  · rw [if_neg (by omega), if_neg c1]
    have t32 : Int.tmod (bB s i : Int) 32 = ((bB s i % 32 : Nat) : Int) := by rw [tm _ _ (by omega)]; rfl
    have t16 : Int.tmod (bB s i : Int) 16 = ((bB s i % 16 : Nat) : Int) := by rw [tm _ _ (by omega)]; rfl
    have t8 : Int.tmod (bB s i : Int) 8 = ((bB s i % 8 : Nat) : Int) := by rw [tm _ _ (by omega)]; rfl
    have m1 := spec_more s i 1 (bB s i % 32) (by omega) (by omega) hi hs (by omega) (k + 1)
    have m2 := spec_more s i 2 (bB s i % 16) (by omega) (by omega) hi hs (by omega) k
    have m3 := spec_more s i 3 (bB s i % 8) (by omega) (by omega) hi hs (by omega) k
    have jF : spec_l01Next.j0 (k + 8) s (i : Int) (bB s i : Int) false = if 224 ≤ bB s i ∧ bB s i < 240 then some (moreV s i 2 (bB s i % 16)) else
        if 240 ≤ bB s i ∧ bB s i < 245 then some (moreV s i 3 (bB s i % 8)) else some (65533, 1, false) := by
      have j1T : spec_l01Next.j1 (k + 7) s (i : Int) (bB s i : Int) true = some (moreV s i 2 (bB s i % 16)) := by
        rw [show k + 7 = (k + 6) + 1 from rfl, spec_l01Next.j1, if_pos rfl, t16]; exact m2
      have j1F : spec_l01Next.j1 (k + 7) s (i : Int) (bB s i : Int) false = if 240 ≤ bB s i ∧ bB s i < 245 then some (moreV s i 3 (bB s i % 8)) else some (65533, 1, false) := by
        rw [show k + 7 = (k + 6) + 1 from rfl, spec_l01Next.j1, if_neg (by decide), t8]
        by_cases c3 : 240 ≤ bB s i
        · rw [if_pos (by omega)]
          by_cases c5 : bB s i < 245
          · rw [if_pos (by omega), if_pos ⟨by omega, c5⟩]
            exact m3
          · rw [if_neg (by omega), if_neg (by omega)]
        · rw [if_neg (by omega), if_neg (by omega)]
      rw [show k + 8 = (k + 7) + 1 from rfl, spec_l01Next.j0, if_neg (by decide)]
      by_cases c3 : 224 ≤ bB s i
      · rw [if_pos (by omega)]
        by_cases c4 : bB s i < 240
        · rw [decide_eq_true (show (bB s i : Int) < 240 by omega), if_pos ⟨c3, c4⟩]
          exact j1T
        · rw [decide_eq_false (show ¬ (bB s i : Int) < 240 by omega), if_neg (show ¬ (224 ≤ bB s i ∧ bB s i < 240) by omega)]
          exact j1F
      · rw [if_neg (by omega), if_neg (show ¬ (224 ≤ bB s i ∧ bB s i < 240) by omega)]
        exact j1F
    by_cases c2 : 194 ≤ bB s i
    · rw [if_pos (by omega)]
      by_cases c3 : bB s i < 224
      · rw [decide_eq_true (show (bB s i : Int) < 224 by omega), if_pos ⟨c2, c3⟩]
        rw [show k + 8 = (k + 7) + 1 from rfl, spec_l01Next.j0, if_pos rfl, t32]
        exact m1
      · rw [decide_eq_false (show ¬ (bB s i : Int) < 224 by omega), jF, if_neg (show ¬ (194 ≤ bB s i ∧ bB s i < 224) by omega)]
        repeat' split
        all_goals rfl
    · rw [if_neg (by omega), jF, if_neg (show ¬ (194 ≤ bB s i ∧ bB s i < 224) by omega)]
      repeat' split
      all_goals rfl
theorem next_dec (s : ByteArray) (i : Nat) (hi : i < s.size) : (nextV s i).1 = ((decV s i).1 : Int) ∧ (nextV s i).2.1 = ((decV s i).2 : Int) := by
  unfold decV nextV moreV
  have b0 := bB_lt s i
  have b1 := bB_lt s (i + 1)
  have b2 := bB_lt s (i + 2)
  have b3 := bB_lt s (i + 3)
  generalize bB s i = x0 at *
  generalize bB s (i + 1) = x1 at *
  generalize bB s (i + 2) = x2 at *
  generalize bB s (i + 3) = x3 at *
  obtain ⟨m, hm⟩ : ∃ m, m = s.size - i := ⟨_, rfl⟩
  have g1 : (i + 1 ≥ s.size) = (m ≤ 1) := propext ⟨fun h => by omega, fun h => by omega⟩
  have g2 : (i + 2 ≥ s.size) = (m ≤ 2) := propext ⟨fun h => by omega, fun h => by omega⟩
  have g3 : (i + 3 ≥ s.size) = (m ≤ 3) := propext ⟨fun h => by omega, fun h => by omega⟩
  rw [← hm]
  simp only [g1, g2, g3]
  have m1 : 1 ≤ m := by omega
  clear hm g1 g2 g3 hi
  unfold Lib.decodeN finV encN
  by_cases c1 : x0 < 128
  · simp only [if_pos c1]; first | exact ⟨rfl, rfl⟩ | simp
  simp only [if_neg c1]
  by_cases c2 : 194 ≤ x0 ∧ x0 < 224
  · simp only [if_pos c2, if_true]
    have d1 : x0 / 32 = 6 := by omega
    by_cases c3 : m ≤ 1
    · simp only [if_pos c3]
      rw [if_neg (by omega), if_neg (by omega), if_neg (by omega)]; first | exact ⟨rfl, rfl⟩ | simp
    · simp only [if_neg c3]
      by_cases c4 : x1 < 128 ∨ 191 < x1
      · simp only [if_pos c4]
        rw [if_neg (by omega), if_neg (by omega), if_neg (by omega)]; first | exact ⟨rfl, rfl⟩ | simp
      · simp only [if_neg c4]
        rw [if_pos (show x0 / 32 = 6 ∧ (1 < m ∧ x1 / 64 = 2) by omega)]
        repeat' split
        all_goals first
          | (exfalso; omega)
          | (refine ⟨?_, ?_⟩ <;> simp <;> omega)
          | exact ⟨rfl, rfl⟩
          | simp
  simp only [if_neg c2]
  by_cases c3 : 224 ≤ x0 ∧ x0 < 240
  · simp only [if_pos c3]
    rw [if_neg (show ¬ (x0 / 32 = 6 ∧ (1 < m ∧ x1 / 64 = 2)) by omega)]
    by_cases c4 : m ≤ 2
    · simp only [if_pos c4]
      rw [if_neg (by omega), if_neg (by omega)]; first | exact ⟨rfl, rfl⟩ | simp
    · simp only [if_neg c4]
      by_cases c5 : x1 < 128 ∨ 191 < x1
      · simp only [if_pos c5]
        rw [if_neg (by omega), if_neg (by omega)]; first | exact ⟨rfl, rfl⟩ | simp
      · simp only [if_neg c5, if_neg (show ¬ ((2 : Nat) = 1) by omega)]
        by_cases c6 : x2 < 128 ∨ 191 < x2
        · simp only [if_pos c6]
          rw [if_neg (by omega), if_neg (by omega)]; first | exact ⟨rfl, rfl⟩ | simp
        · simp only [if_neg c6, if_true]
          rw [if_pos (show x0 / 16 = 14 ∧ (1 < m ∧ x1 / 64 = 2) ∧ (2 < m ∧ x2 / 64 = 2) by omega)]
          repeat' split
          all_goals first
            | (exfalso; omega)
            | (refine ⟨?_, ?_⟩ <;> simp <;> omega)
            | exact ⟨rfl, rfl⟩
  simp only [if_neg c3]
  by_cases c4 : 240 ≤ x0 ∧ x0 < 245
  · simp only [if_pos c4]
    rw [if_neg (show ¬ (x0 / 32 = 6 ∧ (1 < m ∧ x1 / 64 = 2)) by omega), if_neg (show ¬ (x0 / 16 = 14 ∧ (1 < m ∧ x1 / 64 = 2) ∧ (2 < m ∧ x2 / 64 = 2)) by omega)]
    by_cases c5 : m ≤ 3
    · simp only [if_pos c5]
      rw [if_neg (by omega)]; first | exact ⟨rfl, rfl⟩ | simp
    · simp only [if_neg c5]
      by_cases c6 : x1 < 128 ∨ 191 < x1
      · simp only [if_pos c6]
        rw [if_neg (by omega)]; first | exact ⟨rfl, rfl⟩ | simp
      · simp only [if_neg c6, if_neg (show ¬ ((3 : Nat) = 1) by omega)]
        by_cases c7 : x2 < 128 ∨ 191 < x2
        · simp only [if_pos c7]
          rw [if_neg (by omega)]; first | exact ⟨rfl, rfl⟩ | simp
        · simp only [if_neg c7, if_neg (show ¬ ((3 : Nat) = 2) by omega)]
          by_cases c8 : x3 < 128 ∨ 191 < x3
          · simp only [if_pos c8]
            rw [if_neg (by omega)]; first | exact ⟨rfl, rfl⟩ | simp
          · simp only [if_neg c8]
            rw [if_pos (show x0 / 8 = 30 ∧ (1 < m ∧ x1 / 64 = 2) ∧ (2 < m ∧ x2 / 64 = 2) ∧ (3 < m ∧ x3 / 64 = 2) by omega)]
            repeat' split
            all_goals first
              | (exfalso; omega)
              | (refine ⟨?_, ?_⟩ <;> simp <;> omega)
              | exact ⟨rfl, rfl⟩
  simp only [if_neg c4]
  repeat' split
  all_goals first
    | (exfalso; omega)
    | exact ⟨rfl, rfl⟩
end Go.Proofs.YtepeeahckgpapaaDoor.Q
end
section
namespace Go.Proofs.YtepeeahckgpapaaDoor.Q
open Go.RowKit Go.Proofs.YtepeeahckgpapaaDoorW.PrintWords Go.Proofs.YtepeeahckgpapaaDoorW.PrintLast Go.Proofs.YtepeeahckgpapaaDoorW.PrintMore
set_option linter.unusedSimpArgs false
def ckDec (n : Nat) : Bool := same2 3 (impl_decompose.f 20 (n : Int) false) (spec_l05All.f 20 (n : Int) false)
theorem dec_plain {p : Int} (h : p < 8192 ∨ (9754 ≤ p ∧ p < 12288) ∨ 23460 ≤ p) :
    impl_decompose.f 20 p false = some [p] ∧ spec_l05All.f 20 p false = some [p] := by
  constructor
  · have e : impl_parts.f 19 p false = some [] := by
      have e1 : impl_in.f p 8192 9631 = some false := by
        simp only [impl_in.f]; split <;> simp <;> omega
      have e2 : impl_in.f p 9728 9753 = some false := by
        simp only [impl_in.f]; split <;> simp <;> omega
      have e3 : impl_in.f p 12288 23459 = some false := by
        simp only [impl_in.f]; split <;> simp <;> omega
      simp [impl_parts.f, impl_parts.j0, e1, e2, e3]
    simp [impl_decompose.f, e]
  · have e : spec_l05Parts.f 19 p false = some [] := by
      rcases h with h | h | h <;> simp (disch := omega) only [spec_l05Parts.f, spec_l05Parts.j0, spec_l05Parts.j1, spec_l05Parts.j2, if_pos, if_neg, decide_eq_false, decide_eq_true, Bool.false_eq_true, if_false, ite_true] <;> (repeat' (first | rfl | split | (exfalso; omega)))
    simp [spec_l05All.f, e]
theorem ckDec_1 : allB ckDec 8192 11 = true := by decide +kernel
theorem ckDec_2 : allB ckDec 12288 11 = true := by decide +kernel
theorem ckDec_3 : allB ckDec 14336 11 = true := by decide +kernel
end Go.Proofs.YtepeeahckgpapaaDoor.Q
end
section
namespace Go.Proofs.YtepeeahckgpapaaDoor.Q
open Go.RowKit Go.Proofs.YtepeeahckgpapaaDoorW.PrintWords Go.Proofs.YtepeeahckgpapaaDoorW.PrintLast Go.Proofs.YtepeeahckgpapaaDoorW.PrintMore
set_option linter.unusedSimpArgs false
theorem ckDec_4 : allB ckDec 16384 12 = true := by decide +kernel
theorem ckDec_5 : allB ckDec 20480 11 = true := by decide +kernel
theorem ckDec_6 : allB ckDec 22528 10 = true := by decide +kernel
theorem dec_eq {p : Int} (h : PtI p) : ∃ l, (∀ k, 20 ≤ k → impl_decompose.f k p false = some l) ∧ (∀ k, 20 ≤ k → spec_l05All.f k p false = some l) ∧
    l.length ≤ 3 ∧ ∀ q ∈ l, PtI q := by
  have key : ∃ l, impl_decompose.f 20 p false = some l ∧ spec_l05All.f 20 p false = some l ∧ l.length ≤ 3 ∧ ∀ q ∈ l, PtI q := by
    by_cases hp : p < 8192 ∨ (9754 ≤ p ∧ p < 12288) ∨ 23460 ≤ p
    · obtain ⟨h1, h2⟩ := dec_plain hp
      exact ⟨[p], h1, h2, by simp, by simpa using h⟩
    · have hn : (p.toNat : Int) = p := Int.toNat_of_nonneg h.1
      have : ckDec p.toNat = true := by
        rcases (by omega : (8192 ≤ p.toNat ∧ p.toNat < 8192 + 2 ^ 11) ∨ (12288 ≤ p.toNat ∧ p.toNat < 12288 + 2 ^ 11) ∨ (14336 ≤ p.toNat ∧ p.toNat < 14336 + 2 ^ 11) ∨ (16384 ≤ p.toNat ∧ p.toNat < 16384 + 2 ^ 12) ∨ (20480 ≤ p.toNat ∧ p.toNat < 20480 + 2 ^ 11) ∨ (22528 ≤ p.toNat ∧ p.toNat < 22528 + 2 ^ 10)) with a | a | a | a | a | a
        · exact allB_all _ _ _ ckDec_1 _ a.1 a.2
        · exact allB_all _ _ _ ckDec_2 _ a.1 a.2
        · exact allB_all _ _ _ ckDec_3 _ a.1 a.2
        · exact allB_all _ _ _ ckDec_4 _ a.1 a.2
        · exact allB_all _ _ _ ckDec_5 _ a.1 a.2
        · exact allB_all _ _ _ ckDec_6 _ a.1 a.2
      unfold ckDec at this
      rw [hn] at this
      exact same2_out this
  obtain ⟨l, h1, h2, h3⟩ := key
  exact ⟨l, fun k hk => LeO.le (fun k => impl_decompose.mono _ _ k) h1 hk, fun k hk => LeO.le (fun k => spec_l05All.mono _ _ k) h2 hk, h3⟩
end Go.Proofs.YtepeeahckgpapaaDoor.Q
end
section
namespace Go.Proofs.YtepeeahckgpapaaDoor.Q
open Go.RowKit Go.Proofs.YtepeeahckgpapaaDoorW.PrintWords Go.Proofs.YtepeeahckgpapaaDoorW.PrintLast Go.Proofs.YtepeeahckgpapaaDoorW.PrintMore
attribute [local go_sem] max2_int max_two
set_option linter.unusedVariables false
set_option linter.unusedSimpArgs false
def spec_l05K.f (a0 : Int) : Option (Bool) := some (decide (a0 ≥ 3))
set_option maxHeartbeats 8000000 in
set_option maxRecDepth 100000 in
theorem spec_l05K.calls (a0 : Int) (r : Bool) (w : World) (h : spec_l05K.f a0 = some r) :
  Calls Tryd.prog 158 #[.int .i64 a0] w fun e w' => e = .returned (.bool r) ∧ Drawn0 w w' := by
 have H : (some (decide (a0 ≥ 3))) = some r := h
 clear h
 obtain rfl := Option.some.inj H
 go_enter Tryd.func158, Tryd.ntmps158
 go_wp2
 go_ret
 exact ⟨by first | rfl | (simp; done) | (simp [*]; done), by repeat (first | exact Drawn0.refl _ | apply Drawn0.step)⟩
end Go.Proofs.YtepeeahckgpapaaDoor.Q
end
section
namespace Go.Proofs.YtepeeahckgpapaaDoor.Q
open Go.RowKit Go.Proofs.YtepeeahckgpapaaDoorW.PrintWords Go.Proofs.YtepeeahckgpapaaDoorW.PrintLast Go.Proofs.YtepeeahckgpapaaDoorW.PrintMore
attribute [local go_sem] max2_int max_two
set_option linter.unusedVariables false
set_option linter.unusedSimpArgs false
def spec_l05C.f (a0 : Int) : Option (Bool) := some ((Int.tmod a0 2) == 0)
set_option maxHeartbeats 8000000 in
set_option maxRecDepth 100000 in
theorem spec_l05C.calls (a0 : Int) (r : Bool) (w : World) (h : spec_l05C.f a0 = some r) :
  Calls Tryd.prog 160 #[.int .i64 a0] w fun e w' => e = .returned (.bool r) ∧ Drawn0 w w' := by
 have H : (some ((Int.tmod a0 2) == 0)) = some r := h
 clear h
 obtain rfl := Option.some.inj H
 go_enter Tryd.func160, Tryd.ntmps160
 go_wp2
 go_ret
 exact ⟨by first | rfl | (simp; done) | (simp [*]; done), by repeat (first | exact Drawn0.refl _ | apply Drawn0.step)⟩
end Go.Proofs.YtepeeahckgpapaaDoor.Q
end
section
namespace Go.Proofs.YtepeeahckgpapaaDoor.Q
open Go.RowKit Go.Proofs.YtepeeahckgpapaaDoorW.PrintWords Go.Proofs.YtepeeahckgpapaaDoorW.PrintLast Go.Proofs.YtepeeahckgpapaaDoorW.PrintMore
attribute [local go_sem] max2_int max_two
set_option linter.unusedVariables false
set_option linter.unusedSimpArgs false
def spec_l05LetterAt.j0 : Nat → Int → Bool → Option (Int)
 | 0, _, _ => none
 | k + 1, x0, x3 => if x3 = true then (some (wrap64 (x0 - 65))) else (if x0 ≥ 97 then (if x0 ≤ 122 then (some (wrap64 ((wrap64 (x0 - 97)) + 26))) else (some (-1))) else (some (-1)))
def spec_l05LetterAt.f (k : Nat) (a0 : Int) : Option (Int) := if a0 ≥ 65 then (spec_l05LetterAt.j0 k a0 (decide (a0 ≤ 90))) else (spec_l05LetterAt.j0 k a0 false)
set_option maxHeartbeats 8000000 in
set_option maxRecDepth 100000 in
theorem spec_l05LetterAt.calls (k : Nat) (a0 : Int) (r : Int) (w : World) (h : spec_l05LetterAt.f k a0 = some r) :
  Calls Tryd.prog 246 #[.int .i64 a0] w fun e w' => e = .returned (.int .i64 r) ∧ Drawn0 w w' := by
 have H : (if a0 ≥ 65 then (spec_l05LetterAt.j0 k a0 (decide (a0 ≤ 90))) else (spec_l05LetterAt.j0 k a0 false)) = some r := h
 clear h
 have HC2 := Aside0.mk H
 clear H
 go_enter Tryd.func246, Tryd.ntmps246
 go_upto_region 1 with (fail)
 go_cut [3] (fun v3 wc => ∃ (kq : Nat) (x3_1 : Bool), v3 = .bool x3_1 ∧ Aside0 (spec_l05LetterAt.j0 kq a0 x3_1 = some r) ∧ Aside0 (kq ≤ k) ∧ Drawn0 w wc)
 case first =>
  have H := HC2.out
  clear HC2
  by_cases c3 : a0 ≥ 65
  ·rw [if_pos c3] at H
   have c3b0 : decide (65 ≤ a0) = true := decide_eq_true c3
   clear c3
   (first | rw [c3b0] | (simp only [i64_w, i32_w]; rw [c3b0]) | skip)
   have H' := Aside0.mk H
   clear H
   go_wp2
   go_meet
   case rel => exact ⟨_, (decide (a0 ≤ 90)), (by first | rfl | (simp; done) | (simp [*]; done)), H', ⟨by first | omega | exact Nat.le_refl _⟩, by repeat (first | exact Drawn0.refl _ | apply Drawn0.step)⟩
  ·rw [if_neg c3] at H
   have c3b0 : decide (65 ≤ a0) = false := decide_eq_false c3
   clear c3
   (first | rw [c3b0] | (simp only [i64_w, i32_w]; rw [c3b0]) | skip)
   have H' := Aside0.mk H
   clear H
   go_wp2
   go_meet
   case rel => exact ⟨_, (false), (by first | rfl | (simp; done) | (simp [*]; done)), H', ⟨by first | omega | exact Nat.le_refl _⟩, by repeat (first | exact Drawn0.refl _ | apply Drawn0.step)⟩
 case rest =>
  clear HC2
  try clear c2
  try clear p2
  try clear c3
  try clear c3b0
  obtain ⟨kq, x3_1, rfl, HA, HJ1, ⟨mc1, rfl⟩⟩ := hcut
  cases kq with
  | zero => exact absurd HA.out (by simp [spec_l05LetterAt.j0])
  | succ kj1 =>
   have H := HA.out
   clear HA
   simp only [spec_l05LetterAt.j0] at H
   by_cases c4 : x3_1 = true
   ·subst c4
    have H1 : (some (wrap64 (a0 - 65))) = some r := by rw [if_pos rfl] at H; exact H
    clear H
    have H := H1
    clear H1
    obtain rfl := Option.some.inj H
    go_wp2
    go_ret
    exact ⟨by first | rfl | (simp; done) | (simp [*]; done), by repeat (first | exact Drawn0.refl _ | apply Drawn0.step)⟩
   ·replace c4 := Bool.eq_false_iff.mpr c4
    subst c4
    have H1 : (if a0 ≥ 97 then (if a0 ≤ 122 then (some (wrap64 ((wrap64 (a0 - 97)) + 26))) else (some (-1))) else (some (-1))) = some r := by rw [if_neg (show ¬ (false = true) by decide)] at H; exact H
    clear H
    have H := H1
    clear H1
    by_cases c5 : a0 ≥ 97
    ·rw [if_pos c5] at H
     have c5b0 : decide (97 ≤ a0) = true := decide_eq_true c5
     clear c5
     by_cases c6 : a0 ≤ 122
     ·rw [if_pos c6] at H
      have c6b0 : decide (a0 ≤ 122) = true := decide_eq_true c6
      clear c6
      obtain rfl := Option.some.inj H
      go_wp2
      go_ret
      exact ⟨by first | rfl | (simp; done) | (simp [*]; done), by repeat (first | exact Drawn0.refl _ | apply Drawn0.step)⟩
     ·rw [if_neg c6] at H
      have c6b0 : decide (a0 ≤ 122) = false := decide_eq_false c6
      clear c6
      obtain rfl := Option.some.inj H
      go_wp2
      go_ret
      exact ⟨by first | rfl | (simp; done) | (simp [*]; done), by repeat (first | exact Drawn0.refl _ | apply Drawn0.step)⟩
    ·rw [if_neg c5] at H
     have c5b0 : decide (97 ≤ a0) = false := decide_eq_false c5
     clear c5
     obtain rfl := Option.some.inj H
     go_wp2
     go_ret
     exact ⟨by first | rfl | (simp; done) | (simp [*]; done), by repeat (first | exact Drawn0.refl _ | apply Drawn0.step)⟩
end Go.Proofs.YtepeeahckgpapaaDoor.Q
end
section
namespace Go.Proofs.YtepeeahckgpapaaDoor.Q
open Go.RowKit Go.Proofs.YtepeeahckgpapaaDoorW.PrintWords Go.Proofs.YtepeeahckgpapaaDoorW.PrintLast Go.Proofs.YtepeeahckgpapaaDoorW.PrintMore
attribute [local go_sem] max2_int max_two
set_option linter.unusedVariables false
set_option linter.unusedSimpArgs false
mutual
def spec_l05Pair.j0 : Nat → Int → Int → Int → Bool → Option (Int)
 | 0, _, _, _, _ => none
 | k + 1, x0, x1, x5, x8 => if x8 = true then (some (wrap64 ((wrap64 ((wrap64 (8192 + (wrap64 (8 * x5)))) + x1)) - 4096))) else (if x5 ≥ 0 then (if x1 ≥ 4112 then (spec_l05Pair.j1 k x0 x1 x5 (decide (x1 ≤ 4119))) else (spec_l05Pair.j1 k x0 x1 x5 false)) else (spec_l05Pair.j1 k x0 x1 x5 false))
def spec_l05Pair.j1 : Nat → Int → Int → Int → Bool → Option (Int)
 | 0, _, _, _, _ => none
 | k + 1, x0, x1, x5, x25 => if x25 = true then (some (wrap64 ((wrap64 ((wrap64 (8704 + (wrap64 (8 * x5)))) + x1)) - 4112))) else (if x0 ≥ 8704 then (if x0 < 9120 then (spec_l05Pair.j2 k x0 x1 (x1 == 4096)) else (spec_l05Pair.j2 k x0 x1 false)) else (spec_l05Pair.j2 k x0 x1 false))
def spec_l05Pair.j2 : Nat → Int → Int → Bool → Option (Int)
 | 0, _, _, _ => none
 | k + 1, x0, x1, x42 => if x42 = true then (some (wrap64 (x0 + 512))) else (if x0 ≥ 1792 then (if x0 ≤ 1810 then (if x1 ≥ 1824 then (spec_l05Pair.j3 k x0 x1 (decide (x1 ≤ 1844))) else (spec_l05Pair.j3 k x0 x1 false)) else (spec_l05Pair.j3 k x0 x1 false)) else (spec_l05Pair.j3 k x0 x1 false))
def spec_l05Pair.j3 : Nat → Int → Int → Bool → Option (Int)
 | 0, _, _, _ => none
 | k + 1, x0, x1, x55 => if x55 = true then (some (wrap64 (12288 + (wrap64 ((wrap64 ((wrap64 ((wrap64 ((wrap64 (x0 - 1792)) * 21)) + x1)) - 1824)) * 28))))) else (if x0 ≥ 12288 then (if x0 ≤ 23459 then (if (Int.tmod (wrap64 (x0 - 12288)) 28) = 0 then (if x1 ≥ 1857 then (if x1 ≤ 1883 then (some (wrap64 ((wrap64 (x0 + x1)) - 1856))) else (some (-1))) else (some (-1))) else (some (-1))) else (some (-1))) else (some (-1)))
end
def spec_l05Pair.f (k : Nat) (a0 : Int) (a1 : Int) : Option (Int) := (spec_l05LetterAt.f k a0).bind fun t101 => (if t101 ≥ 0 then (if a1 ≥ 4096 then (spec_l05Pair.j0 k a0 a1 t101 (decide (a1 ≤ 4103))) else (spec_l05Pair.j0 k a0 a1 t101 false)) else (spec_l05Pair.j0 k a0 a1 t101 false))
set_option maxHeartbeats 8000000 in
set_option maxRecDepth 100000 in
theorem spec_l05Pair.calls (k : Nat) (a0 : Int) (a1 : Int) (r : Int) (w : World) (h : spec_l05Pair.f k a0 a1 = some r) :
  Calls Tryd.prog 215 #[.int .i64 a0, .int .i64 a1] w fun e w' => e = .returned (.int .i64 r) ∧ Drawn0 w w' := by
 have H : ((spec_l05LetterAt.f k a0).bind fun t101 => (if t101 ≥ 0 then (if a1 ≥ 4096 then (spec_l05Pair.j0 k a0 a1 t101 (decide (a1 ≤ 4103))) else (spec_l05Pair.j0 k a0 a1 t101 false)) else (spec_l05Pair.j0 k a0 a1 t101 false))) = some r := h
 clear h
 replace H := Option.bind_eq_some_iff.mp H
 obtain ⟨t101, A30, H⟩ := H
 replace H : (if t101 ≥ 0 then (if a1 ≥ 4096 then (spec_l05Pair.j0 k a0 a1 t101 (decide (a1 ≤ 4103))) else (spec_l05Pair.j0 k a0 a1 t101 false)) else (spec_l05Pair.j0 k a0 a1 t101 false)) = some r := H
 have A3 := Aside0.mk A30
 clear A30
 have HC4 := Aside0.mk H
 clear H
 go_enter Tryd.func215, Tryd.ntmps215
 go_upto_region 2 with (first | ((with_reducible refine gate_callee (f := 246) rfl ?_); refine goesL_ (some 7) rfl rfl Tryd.func246 (by kernel_rfl) rfl #[.int .i64 a0] rfl (by (try simp only [List.map_toArray, List.map_cons, List.map_nil]); first | done | rfl | (simp only [List.length_drop, List.length_take]; rfl)) ?_; (with_reducible refine (spec_l05LetterAt.calls k a0 t101 _ A3.out).mono ?_); rintro e w' ⟨rfl, ⟨nd, rfl⟩⟩; refine ⟨_, rfl, ?_⟩))
 (try simp only [Act.put, List.setIfInBounds_toArray, List.set_cons_zero, List.set_cons_succ])
 go_cut [8] (fun v8 wc => ∃ (kq : Nat) (x8_3 : Bool), v8 = .bool x8_3 ∧ Aside0 (spec_l05Pair.j0 kq a0 a1 t101 x8_3 = some r) ∧ Aside0 (kq ≤ k) ∧ Drawn0 w wc)
 case first =>
  have H := HC4.out
  clear HC4
  by_cases c5 : t101 ≥ 0
  ·rw [if_pos c5] at H
   have c5b0 : decide (0 ≤ t101) = true := decide_eq_true c5
   clear c5
   (first | rw [c5b0] | (simp only [i64_w, i32_w]; rw [c5b0]) | skip)
   by_cases c6 : a1 ≥ 4096
   ·rw [if_pos c6] at H
    have c6b0 : decide (4096 ≤ a1) = true := decide_eq_true c6
    clear c6
    have H' := Aside0.mk H
    clear H
    go_wp2
    go_meet
    case rel => exact ⟨_, (decide (a1 ≤ 4103)), (by first | rfl | (simp; done) | (simp [*]; done)), H', ⟨by first | omega | exact Nat.le_refl _⟩, by repeat (first | exact Drawn0.refl _ | apply Drawn0.step)⟩
   ·rw [if_neg c6] at H
    have c6b0 : decide (4096 ≤ a1) = false := decide_eq_false c6
    clear c6
    have H' := Aside0.mk H
    clear H
    go_wp2
    go_meet
    case rel => exact ⟨_, (false), (by first | rfl | (simp; done) | (simp [*]; done)), H', ⟨by first | omega | exact Nat.le_refl _⟩, by repeat (first | exact Drawn0.refl _ | apply Drawn0.step)⟩
  ·rw [if_neg c5] at H
   have c5b0 : decide (0 ≤ t101) = false := decide_eq_false c5
   clear c5
   (first | rw [c5b0] | (simp only [i64_w, i32_w]; rw [c5b0]) | skip)
   have H' := Aside0.mk H
   clear H
   go_wp2
   go_meet
   case rel => exact ⟨_, (false), (by first | rfl | (simp; done) | (simp [*]; done)), H', ⟨by first | omega | exact Nat.le_refl _⟩, by repeat (first | exact Drawn0.refl _ | apply Drawn0.step)⟩
 case rest =>
  clear HC4
  try clear c2
  try clear p2
  try clear c5
  try clear c5b0
  try clear c6
  try clear c6b0
  obtain ⟨kq, x8_3, rfl, HA, HJ3, ⟨mc3, rfl⟩⟩ := hcut
  cases kq with
  | zero => exact absurd HA.out (by simp [spec_l05Pair.j0])
  | succ kj3 =>
   have H := HA.out
   clear HA
   simp only [spec_l05Pair.j0] at H
   by_cases c7 : x8_3 = true
   ·subst c7
    have H1 : (some (wrap64 ((wrap64 ((wrap64 (8192 + (wrap64 (8 * t101)))) + a1)) - 4096))) = some r := by rw [if_pos rfl] at H; exact H
    clear H
    have H := H1
    clear H1
    obtain rfl := Option.some.inj H
    go_wp2
    go_ret
    exact ⟨by first | rfl | (simp; done) | (simp [*]; done), by repeat (first | exact Drawn0.refl _ | apply Drawn0.step)⟩
   ·replace c7 := Bool.eq_false_iff.mpr c7
    subst c7
    have H1 : (if t101 ≥ 0 then (if a1 ≥ 4112 then (spec_l05Pair.j1 kj3 a0 a1 t101 (decide (a1 ≤ 4119))) else (spec_l05Pair.j1 kj3 a0 a1 t101 false)) else (spec_l05Pair.j1 kj3 a0 a1 t101 false)) = some r := by rw [if_neg (show ¬ (false = true) by decide)] at H; exact H
    clear H
    have H := H1
    clear H1
    have HC8 := Aside0.mk H
    clear H
    go_upto_region 4 with (fail)
    go_cut [25] (fun v25 wc => ∃ (kq : Nat) (x25_7 : Bool), v25 = .bool x25_7 ∧ Aside0 (spec_l05Pair.j1 kq a0 a1 t101 x25_7 = some r) ∧ Aside0 (kq ≤ kj3) ∧ Drawn0 w wc)
    case first =>
     have H := HC8.out
     clear HC8
     by_cases c9 : t101 ≥ 0
     ·rw [if_pos c9] at H
      have c9b0 : decide (0 ≤ t101) = true := decide_eq_true c9
      clear c9
      (first | rw [c9b0] | (simp only [i64_w, i32_w]; rw [c9b0]) | skip)
      by_cases c10 : a1 ≥ 4112
      ·rw [if_pos c10] at H
       have c10b0 : decide (4112 ≤ a1) = true := decide_eq_true c10
       clear c10
       have H' := Aside0.mk H
       clear H
       go_wp2
       go_meet
       case rel => exact ⟨_, (decide (a1 ≤ 4119)), (by first | rfl | (simp; done) | (simp [*]; done)), H', ⟨by have := HJ3.out; first | omega | exact Nat.le_refl _⟩, by repeat (first | exact Drawn0.refl _ | apply Drawn0.step)⟩
      ·rw [if_neg c10] at H
       have c10b0 : decide (4112 ≤ a1) = false := decide_eq_false c10
       clear c10
       have H' := Aside0.mk H
       clear H
       go_wp2
       go_meet
       case rel => exact ⟨_, (false), (by first | rfl | (simp; done) | (simp [*]; done)), H', ⟨by have := HJ3.out; first | omega | exact Nat.le_refl _⟩, by repeat (first | exact Drawn0.refl _ | apply Drawn0.step)⟩
     ·rw [if_neg c9] at H
      have c9b0 : decide (0 ≤ t101) = false := decide_eq_false c9
      clear c9
      (first | rw [c9b0] | (simp only [i64_w, i32_w]; rw [c9b0]) | skip)
      have H' := Aside0.mk H
      clear H
      go_wp2
      go_meet
      case rel => exact ⟨_, (false), (by first | rfl | (simp; done) | (simp [*]; done)), H', ⟨by have := HJ3.out; first | omega | exact Nat.le_refl _⟩, by repeat (first | exact Drawn0.refl _ | apply Drawn0.step)⟩
    case rest =>
     clear HC8
     try clear c1
     try clear c2
     try clear p2
     try clear c3
     try clear c5
     try clear c5b0
     try clear c6
     try clear c6b0
     try clear p6
     try clear c7
     try clear c9
     try clear c9b0
     try clear c10
     try clear c10b0
     try clear p2
     obtain ⟨kq, x25_7, rfl, HA, HJ7, ⟨mc7, rfl⟩⟩ := hcut
     cases kq with
     | zero => exact absurd HA.out (by simp [spec_l05Pair.j1])
     | succ kj7 =>
      have H := HA.out
      clear HA
      simp only [spec_l05Pair.j1] at H
      by_cases c11 : x25_7 = true
      ·subst c11
       have H1 : (some (wrap64 ((wrap64 ((wrap64 (8704 + (wrap64 (8 * t101)))) + a1)) - 4112))) = some r := by rw [if_pos rfl] at H; exact H
       clear H
       have H := H1
       clear H1
       obtain rfl := Option.some.inj H
       go_wp2
       go_ret
       exact ⟨by first | rfl | (simp; done) | (simp [*]; done), by repeat (first | exact Drawn0.refl _ | apply Drawn0.step)⟩
      ·replace c11 := Bool.eq_false_iff.mpr c11
       subst c11
       have H1 : (if a0 ≥ 8704 then (if a0 < 9120 then (spec_l05Pair.j2 kj7 a0 a1 (a1 == 4096)) else (spec_l05Pair.j2 kj7 a0 a1 false)) else (spec_l05Pair.j2 kj7 a0 a1 false)) = some r := by rw [if_neg (show ¬ (false = true) by decide)] at H; exact H
       clear H
       have H := H1
       clear H1
       have HC12 := Aside0.mk H
       clear H
       go_upto_region 6 with (fail)
       go_cut [42] (fun v42 wc => ∃ (kq : Nat) (x42_11 : Bool), v42 = .bool x42_11 ∧ Aside0 (spec_l05Pair.j2 kq a0 a1 x42_11 = some r) ∧ Aside0 (kq ≤ kj7) ∧ Drawn0 w wc)
       case first =>
        have H := HC12.out
        clear HC12
        by_cases c13 : a0 ≥ 8704
        ·rw [if_pos c13] at H
         have c13b0 : decide (8704 ≤ a0) = true := decide_eq_true c13
         clear c13
         (first | rw [c13b0] | (simp only [i64_w, i32_w]; rw [c13b0]) | skip)
         by_cases c14 : a0 < 9120
         ·rw [if_pos c14] at H
          have c14b0 : decide (a0 < 9120) = true := decide_eq_true c14
          clear c14
          have H' := Aside0.mk H
          clear H
          go_wp2
          go_meet
          case rel => exact ⟨_, ((a1 == 4096)), (by first | rfl | (simp; done) | (simp [*]; done)), H', ⟨by have := HJ3.out; have := HJ7.out; first | omega | exact Nat.le_refl _⟩, by repeat (first | exact Drawn0.refl _ | apply Drawn0.step)⟩
         ·rw [if_neg c14] at H
          have c14b0 : decide (a0 < 9120) = false := decide_eq_false c14
          clear c14
          have H' := Aside0.mk H
          clear H
          go_wp2
          go_meet
          case rel => exact ⟨_, (false), (by first | rfl | (simp; done) | (simp [*]; done)), H', ⟨by have := HJ3.out; have := HJ7.out; first | omega | exact Nat.le_refl _⟩, by repeat (first | exact Drawn0.refl _ | apply Drawn0.step)⟩
        ·rw [if_neg c13] at H
         have c13b0 : decide (8704 ≤ a0) = false := decide_eq_false c13
         clear c13
         (first | rw [c13b0] | (simp only [i64_w, i32_w]; rw [c13b0]) | skip)
         have H' := Aside0.mk H
         clear H
         go_wp2
         go_meet
         case rel => exact ⟨_, (false), (by first | rfl | (simp; done) | (simp [*]; done)), H', ⟨by have := HJ3.out; have := HJ7.out; first | omega | exact Nat.le_refl _⟩, by repeat (first | exact Drawn0.refl _ | apply Drawn0.step)⟩
       case rest =>
        clear HC12
        try clear c1
        try clear c2
        try clear p2
        try clear c3
        try clear c5
        try clear c5b0
        try clear c6
        try clear c6b0
        try clear p6
        try clear c7
        try clear c9
        try clear c9b0
        try clear c10
        try clear c10b0
        try clear c11
        try clear c13
        try clear c13b0
        try clear c14
        try clear c14b0
        try clear p2
        try clear p6
        obtain ⟨kq, x42_11, rfl, HA, HJ11, ⟨mc11, rfl⟩⟩ := hcut
        cases kq with
        | zero => exact absurd HA.out (by simp [spec_l05Pair.j2])
        | succ kj11 =>
         have H := HA.out
         clear HA
         simp only [spec_l05Pair.j2] at H
         by_cases c15 : x42_11 = true
         ·subst c15
          have H1 : (some (wrap64 (a0 + 512))) = some r := by rw [if_pos rfl] at H; exact H
          clear H
          have H := H1
          clear H1
          obtain rfl := Option.some.inj H
          go_wp2
          go_ret
          exact ⟨by first | rfl | (simp; done) | (simp [*]; done), by repeat (first | exact Drawn0.refl _ | apply Drawn0.step)⟩
         ·replace c15 := Bool.eq_false_iff.mpr c15
          subst c15
          have H1 : (if a0 ≥ 1792 then (if a0 ≤ 1810 then (if a1 ≥ 1824 then (spec_l05Pair.j3 kj11 a0 a1 (decide (a1 ≤ 1844))) else (spec_l05Pair.j3 kj11 a0 a1 false)) else (spec_l05Pair.j3 kj11 a0 a1 false)) else (spec_l05Pair.j3 kj11 a0 a1 false)) = some r := by rw [if_neg (show ¬ (false = true) by decide)] at H; exact H
          clear H
          have H := H1
          clear H1
          have HC16 := Aside0.mk H
          clear H
          go_upto_region 8 with (fail)
          go_cut [55] (fun v55 wc => ∃ (kq : Nat) (x55_15 : Bool), v55 = .bool x55_15 ∧ Aside0 (spec_l05Pair.j3 kq a0 a1 x55_15 = some r) ∧ Aside0 (kq ≤ kj11) ∧ Drawn0 w wc)
          case first =>
           have H := HC16.out
           clear HC16
           by_cases c17 : a0 ≥ 1792
           ·rw [if_pos c17] at H
            have c17b0 : decide (1792 ≤ a0) = true := decide_eq_true c17
            clear c17
            (first | rw [c17b0] | (simp only [i64_w, i32_w]; rw [c17b0]) | skip)
            by_cases c18 : a0 ≤ 1810
            ·rw [if_pos c18] at H
             have c18b0 : decide (a0 ≤ 1810) = true := decide_eq_true c18
             clear c18
             by_cases c19 : a1 ≥ 1824
             ·rw [if_pos c19] at H
              have c19b0 : decide (1824 ≤ a1) = true := decide_eq_true c19
              clear c19
              have H' := Aside0.mk H
              clear H
              go_wp2
              go_meet
              case rel => exact ⟨_, (decide (a1 ≤ 1844)), (by first | rfl | (simp; done) | (simp [*]; done)), H', ⟨by have := HJ3.out; have := HJ7.out; have := HJ11.out; first | omega | exact Nat.le_refl _⟩, by repeat (first | exact Drawn0.refl _ | apply Drawn0.step)⟩
             ·rw [if_neg c19] at H
              have c19b0 : decide (1824 ≤ a1) = false := decide_eq_false c19
              clear c19
              have H' := Aside0.mk H
              clear H
              go_wp2
              go_meet
              case rel => exact ⟨_, (false), (by first | rfl | (simp; done) | (simp [*]; done)), H', ⟨by have := HJ3.out; have := HJ7.out; have := HJ11.out; first | omega | exact Nat.le_refl _⟩, by repeat (first | exact Drawn0.refl _ | apply Drawn0.step)⟩
            ·rw [if_neg c18] at H
             have c18b0 : decide (a0 ≤ 1810) = false := decide_eq_false c18
             clear c18
             have H' := Aside0.mk H
             clear H
             go_wp2
             go_meet
             case rel => exact ⟨_, (false), (by first | rfl | (simp; done) | (simp [*]; done)), H', ⟨by have := HJ3.out; have := HJ7.out; have := HJ11.out; first | omega | exact Nat.le_refl _⟩, by repeat (first | exact Drawn0.refl _ | apply Drawn0.step)⟩
           ·rw [if_neg c17] at H
            have c17b0 : decide (1792 ≤ a0) = false := decide_eq_false c17
            clear c17
            (first | rw [c17b0] | (simp only [i64_w, i32_w]; rw [c17b0]) | skip)
            have H' := Aside0.mk H
            clear H
            go_wp2
            go_meet
            case rel => exact ⟨_, (false), (by first | rfl | (simp; done) | (simp [*]; done)), H', ⟨by have := HJ3.out; have := HJ7.out; have := HJ11.out; first | omega | exact Nat.le_refl _⟩, by repeat (first | exact Drawn0.refl _ | apply Drawn0.step)⟩
          case rest =>
           clear HC16
           try clear c1
           try clear c2
           try clear p2
           try clear c3
           try clear c5
           try clear c5b0
           try clear c6
           try clear c6b0
           try clear p6
           try clear c7
           try clear c9
           try clear c9b0
           try clear c10
           try clear c10b0
           try clear c11
           try clear c13
           try clear c13b0
           try clear c14
           try clear c14b0
           try clear c15
           try clear c17
           try clear c17b0
           try clear c18
           try clear c18b0
           try clear c19
           try clear c19b0
           try clear p2
           try clear p6
           obtain ⟨kq, x55_15, rfl, HA, HJ15, ⟨mc15, rfl⟩⟩ := hcut
           cases kq with
           | zero => exact absurd HA.out (by simp [spec_l05Pair.j3])
           | succ kj15 =>
            have H := HA.out
            clear HA
            simp only [spec_l05Pair.j3] at H
            by_cases c20 : x55_15 = true
            ·subst c20
             have H1 : (some (wrap64 (12288 + (wrap64 ((wrap64 ((wrap64 ((wrap64 ((wrap64 (a0 - 1792)) * 21)) + a1)) - 1824)) * 28))))) = some r := by rw [if_pos rfl] at H; exact H
             clear H
             have H := H1
             clear H1
             obtain rfl := Option.some.inj H
             go_wp2
             go_ret
             exact ⟨by first | rfl | (simp; done) | (simp [*]; done), by repeat (first | exact Drawn0.refl _ | apply Drawn0.step)⟩
            ·replace c20 := Bool.eq_false_iff.mpr c20
             subst c20
             have H1 : (if a0 ≥ 12288 then (if a0 ≤ 23459 then (if (Int.tmod (wrap64 (a0 - 12288)) 28) = 0 then (if a1 ≥ 1857 then (if a1 ≤ 1883 then (some (wrap64 ((wrap64 (a0 + a1)) - 1856))) else (some (-1))) else (some (-1))) else (some (-1))) else (some (-1))) else (some (-1))) = some r := by rw [if_neg (show ¬ (false = true) by decide)] at H; exact H
             clear H
             have H := H1
             clear H1
             by_cases c21 : a0 ≥ 12288
             ·rw [if_pos c21] at H
              have c21b0 : decide (12288 ≤ a0) = true := decide_eq_true c21
              clear c21
              by_cases c22 : a0 ≤ 23459
              ·rw [if_pos c22] at H
               have c22b0 : decide (a0 ≤ 23459) = true := decide_eq_true c22
               clear c22
               by_cases c23 : (Int.tmod (wrap64 (a0 - 12288)) 28) = 0
               ·rw [if_pos c23] at H
                have c23b0 : ((Int.tmod (wrap64 (a0 - 12288)) 28) == 0) = true := beq_iff_eq.mpr c23
                have c23b1 : ((Int.tmod (wrap64 (a0 - 12288)) 28) != 0) = false := bne_eq_false_iff_eq.mpr c23
                clear c23
                by_cases c24 : a1 ≥ 1857
                ·rw [if_pos c24] at H
                 have c24b0 : decide (1857 ≤ a1) = true := decide_eq_true c24
                 clear c24
                 by_cases c25 : a1 ≤ 1883
                 ·rw [if_pos c25] at H
                  have c25b0 : decide (a1 ≤ 1883) = true := decide_eq_true c25
                  clear c25
                  obtain rfl := Option.some.inj H
                  go_wp2
                  go_ret
                  exact ⟨by first | rfl | (simp; done) | (simp [*]; done), by repeat (first | exact Drawn0.refl _ | apply Drawn0.step)⟩
                 ·rw [if_neg c25] at H
                  have c25b0 : decide (a1 ≤ 1883) = false := decide_eq_false c25
                  clear c25
                  obtain rfl := Option.some.inj H
                  go_wp2
                  go_ret
                  exact ⟨by first | rfl | (simp; done) | (simp [*]; done), by repeat (first | exact Drawn0.refl _ | apply Drawn0.step)⟩
                ·rw [if_neg c24] at H
                 have c24b0 : decide (1857 ≤ a1) = false := decide_eq_false c24
                 clear c24
                 obtain rfl := Option.some.inj H
                 go_wp2
                 go_ret
                 exact ⟨by first | rfl | (simp; done) | (simp [*]; done), by repeat (first | exact Drawn0.refl _ | apply Drawn0.step)⟩
               ·rw [if_neg c23] at H
                have c23b0 : ((Int.tmod (wrap64 (a0 - 12288)) 28) == 0) = false := beq_eq_false_iff_ne.mpr c23
                have c23b1 : ((Int.tmod (wrap64 (a0 - 12288)) 28) != 0) = true := bne_iff_ne.mpr c23
                obtain rfl := Option.some.inj H
                go_wp2
                go_ret
                exact ⟨by first | rfl | (simp; done) | (simp [*]; done), by repeat (first | exact Drawn0.refl _ | apply Drawn0.step)⟩
              ·rw [if_neg c22] at H
               have c22b0 : decide (a0 ≤ 23459) = false := decide_eq_false c22
               clear c22
               obtain rfl := Option.some.inj H
               go_wp2
               go_ret
               exact ⟨by first | rfl | (simp; done) | (simp [*]; done), by repeat (first | exact Drawn0.refl _ | apply Drawn0.step)⟩
             ·rw [if_neg c21] at H
              have c21b0 : decide (12288 ≤ a0) = false := decide_eq_false c21
              clear c21
              obtain rfl := Option.some.inj H
              go_wp2
              go_ret
              exact ⟨by first | rfl | (simp; done) | (simp [*]; done), by repeat (first | exact Drawn0.refl _ | apply Drawn0.step)⟩
end Go.Proofs.YtepeeahckgpapaaDoor.Q
end
section
namespace Go.Proofs.YtepeeahckgpapaaDoor.Q
open Go.RowKit Go.Proofs.YtepeeahckgpapaaDoorW.PrintWords Go.Proofs.YtepeeahckgpapaaDoorW.PrintLast Go.Proofs.YtepeeahckgpapaaDoorW.PrintMore
attribute [local go_sem] max2_int max_two
set_option linter.unusedVariables false
set_option linter.unusedSimpArgs false
mutual
def spec_l05Composed.l0 : Nat → List Int → List Int → Int → Int → Option (List Int)
 | 0, _, _, _, _ => none
 | k + 1, x0, x3, x4, x5 => if x5 < (x0.length : Int) then (if 0 ≤ x5 then ((spec_l01Class.f k (rd x0 x5)).bind fun t105 => (spec_l05Composed.l1 k x0 x3 x4 x5 (rd x0 x5) t105 (decide (x4 ≥ 0)) (wrap64 (x4 + 1)))) else (none)) else (some x3)
def spec_l05Composed.l1 : Nat → List Int → List Int → Int → Int → Int → Int → Bool → Int → Option (List Int)
 | 0, _, _, _, _, _, _, _, _ => none
 | k + 1, x0, x3, x4, x5, x6, x7, x8, x9 => if x8 = true then (spec_l05Composed.j2 k x0 x3 x4 x5 x6 x7 x8 x9 (decide (x9 < (x3.length : Int)))) else (spec_l05Composed.j2 k x0 x3 x4 x5 x6 x7 x8 x9 false)
def spec_l05Composed.j2 : Nat → List Int → List Int → Int → Int → Int → Int → Bool → Int → Bool → Option (List Int)
 | 0, _, _, _, _, _, _, _, _, _ => none
 | k + 1, x0, x3, x4, x5, x6, x7, x8, x9, x34 => if x34 = true then (if 0 ≤ x9 then (if x9 < (x3.length : Int) then ((spec_l01Class.f k (rd x3 x9)).bind fun t107 => (if t107 = 0 then (spec_l05Composed.l1 k x0 x3 x4 x5 x6 x7 false (wrap64 (x9 + 1))) else ((spec_l01Class.f k (rd x3 x9)).bind fun t109 => (spec_l05Composed.l1 k x0 x3 x4 x5 x6 x7 (decide (t109 < x7)) (wrap64 (x9 + 1)))))) else (none)) else (none)) else (if x8 = true then (if 0 ≤ x4 then (if x4 < (x3.length : Int) then ((spec_l05Pair.f k (rd x3 x4) x6).bind fun t111 => (if t111 ≥ 0 then (spec_l05Composed.l0 k x0 (x3.set (x4 : Int).toNat t111) x4 (wrap64 (x5 + 1))) else (if x3.length < 17592186044416 then ((some (x3 ++ [x6] : List Int)).bind fun y113 => (if x7 = 0 then (spec_l05Composed.l0 k x0 y113 (wrap64 ((y113.length : Int) - 1)) (wrap64 (x5 + 1))) else (spec_l05Composed.l0 k x0 y113 x4 (wrap64 (x5 + 1))))) else (none)))) else (none)) else (none)) else (if x3.length < 17592186044416 then ((some (x3 ++ [x6] : List Int)).bind fun y116 => (if x7 = 0 then (spec_l05Composed.l0 k x0 y116 (wrap64 ((y116.length : Int) - 1)) (wrap64 (x5 + 1))) else (spec_l05Composed.l0 k x0 y116 x4 (wrap64 (x5 + 1))))) else (none)))
end
def spec_l05Composed.f (k : Nat) (l0 : List Int) : Option (List Int) := spec_l05Composed.l0 k l0 (([] : List Int)) (-1) 0
set_option maxHeartbeats 8000000 in
set_option maxRecDepth 100000 in
theorem spec_l05Composed.calls (k : Nat) (A0 : Option Addr) (c0 : Nat) (l0 : List Int) (r : List Int) (w : World) (hr0 : Kd.C (Kd.int .i64) w A0 l0.length l0) (hc0 : l0.length ≤ c0) (h : spec_l05Composed.f k l0 = some r) :
  Calls Tryd.prog 161 #[.slice A0 l0.length c0] w fun e w' => ∃ v0_ : Value, e = .returned (v0_) ∧ Kd.R (Kd.int .i64) 2 w' w.heap.size (fun _ => True) v0_ r ∧ Below w.heap.size w w' := by
 have HR0 := Aside0.mk hr0
 have HC0 := Aside0.mk hc0
 clear hr0 hc0
 have HB := Aside0.mk (Below.refl w.heap.size w)
 have H : (spec_l05Composed.l0 k l0 (([] : List Int)) (-1) 0) = some r := h
 clear h
 obtain ⟨y101, hy101⟩ : ∃ y_ : List Int, y_ = (([] : List Int)) := ⟨_, rfl⟩
 replace H : (spec_l05Composed.l0 k l0 y101 (-1) 0) = some r := by first | (rw [hy101]; with_reducible exact H) | (have H2_ := (Option.bind_some _ _).symm.trans H; rw [hy101]; with_reducible exact H2_) | (have H2_ := (Option.bind_some _ _).symm.trans H; with_reducible exact H2_) | with_reducible exact H | (rw [hy101]; exact H) | exact H
 have Ny101 := Aside0.mk hy101
 clear hy101
 have H' := Aside0.mk H
 clear H
 go_enter Tryd.func161, Tryd.ntmps161
 go_wp2_with (first | ((with_reducible refine gate_dst (N := 11) rfl ?_); (try (refine gate_guard (by rfl) ?_; dsimp only)); refine Kd.R_lit (Kd.int .i64) _ 2 ?hg (N := 11) ?hd (xs := ([] : List Int)) (inner := []) (ok := fun _ => True) (okp := fun _ => True) ?hr ?hp (fun _ hk => hk) trivial (Below.refl _ _) (Nat.le_refl _) (by simp) ?_; (case hd => rfl); (case hg => rfl); (case hr => first | (go_simp; done) | (go_simp; rfl)); (case hp => exact (Reps.none _ _)); intro v102 w2 ho3 hb hg_ hnew_; clear hg_ hnew_; (first | rw [← Ny101.out] at ho3 | (simp only [Int.reduceToNat] at ho3; rw [← Ny101.out] at ho3)); have n0_ := Aside0.mk (Kd.R_lower ho3 (below_size (by repeat (first | (with_reducible first | exact HB.out | apply below_alloc | apply pw_below_drewN | apply below_drew1) | exact HB.out)))); have n1_ := Aside0.mk (below_step (by repeat (first | (with_reducible first | exact HB.out | apply below_alloc | apply pw_below_drewN | apply below_drew1) | exact HB.out)) hb); clear HB; have HO103 := n0_; have HB := n1_; clear n0_ n1_; clear hb ho3))
 go_loopg [3, 4, 5] k (fun kq v3 v4 v5 w' => ∃ (x3_1 : List Int) (x4_1 : Int) (x5_1 : Int), v4 = .int .i64 x4_1 ∧ v5 = .int .i64 x5_1 ∧ Aside0 (spec_l05Composed.l0 kq l0 x3_1 x4_1 x5_1 = some r) ∧ Aside0 (kq ≤ k) ∧ Aside0 (Kd.R (Kd.int .i64) 2 w' w.heap.size (fun _ => True) v3 x3_1) ∧ Aside0 (Below w.heap.size w w'))
 case atStart => exact ⟨(y101), ((-1)), (0), (by first | rfl | (simp; done) | (simp [*]; done)), (by first | rfl | (simp; done) | (simp [*]; done)), H', ⟨Nat.le_refl _⟩, ⟨by (with_reducible repeat (first | apply Kd.R_alloc | apply Kd.R_drewN | apply Kd.R_drew)); exact HO103.out⟩, ⟨by repeat (first | (with_reducible first | exact HB.out | apply below_alloc | apply pw_below_drewN | apply below_drew1) | exact HB.out)⟩⟩
 case round =>
  clear H'
  try clear c1
  try clear p2
  obtain ⟨x3_1, x4_1, x5_1, rfl, rfl, HA, HK1, HO_3, HB⟩ := hrel
  cases gk with
  | zero => exact absurd HA.out (by simp [spec_l05Composed.l0])
  | succ k1 =>
   have H := HA.out
   clear HA
   simp only [spec_l05Composed.l0] at H
   by_cases c4 : x5_1 < (l0.length : Int)
   ·rw [if_pos c4] at H
    have c4b0 : decide (x5_1 < (l0.length : Int)) = true := decide_eq_true c4
    clear c4
    by_cases c5 : 0 ≤ x5_1
    ·rw [if_pos c5] at H
     have c5b0 : decide (0 ≤ x5_1) = true := decide_eq_true c5
     clear c5
     replace H := Option.bind_eq_some_iff.mp H
     obtain ⟨t105, A60, H⟩ := H
     replace H : (spec_l05Composed.l1 k1 l0 x3_1 x4_1 x5_1 (rd l0 x5_1) t105 (decide (x4_1 ≥ 0)) (wrap64 (x4_1 + 1))) = some r := H
     have A6 := Aside0.mk A60
     clear A60
     have H' := Aside0.mk H
     clear H
     have p104 : 0 ≤ (x5_1 : Int) := of_decide_eq_true (by first | (with_reducible assumption) | assumption)
     have q104 : x5_1 < (l0.length : Int) := of_decide_eq_true (by first | (with_reducible assumption) | assumption)
     obtain ⟨ad104, e104, hx104_0⟩ := Kd.at_int HR0.out x5_1 p104 q104
     cases e104
     replace hx104_0 := (HB.out.cell (World.block_lt_of_cell? w _ hx104_0)).trans hx104_0
     replace p104 := eq_true p104
     replace q104 := eq_true q104
     go_wp2_with (first | ((with_reducible refine gate_callee (f := 214) rfl ?_); refine goesL_ (some 23) rfl rfl Tryd.func214 (by kernel_rfl) rfl #[.int .i64 (rd l0 x5_1)] rfl (by (try simp only [List.map_toArray, List.map_cons, List.map_nil]); first | done | rfl | (simp only [List.length_drop, List.length_take]; rfl)) ?_; (with_reducible refine (spec_l01Class.calls k1 (rd l0 x5_1) t105 _ A6.out).mono ?_); rintro e w' ⟨rfl, ⟨nd, rfl⟩⟩; refine ⟨_, rfl, ?_⟩))
     go_loopg [8, 9] k1 (fun kq v8 v9 w' => ∃ (x8_2 : Bool) (x9_2 : Int), v8 = .bool x8_2 ∧ v9 = .int .i64 x9_2 ∧ Aside0 (spec_l05Composed.l1 kq l0 x3_1 x4_1 x5_1 (rd l0 x5_1) t105 x8_2 x9_2 = some r) ∧ Aside0 (kq ≤ k1) ∧ Aside0 (Kd.R (Kd.int .i64) 2 w' w.heap.size (fun _ => True) u3 x3_1) ∧ Aside0 (Below w.heap.size w w'))
     case atStart => exact ⟨(decide (x4_1 ≥ 0)), (wrap64 (x4_1 + 1)), (by first | rfl | (simp; done) | (simp [*]; done)), (by first | rfl | (simp; done) | (simp [*]; done)), H', ⟨Nat.le_refl _⟩, ⟨by (with_reducible repeat (first | apply Kd.R_alloc | apply Kd.R_drewN | apply Kd.R_drew)); exact HO_3.out⟩, ⟨by repeat (first | (with_reducible first | exact HB.out | apply below_alloc | apply pw_below_drewN | apply below_drew1) | exact HB.out)⟩⟩
     case round =>
      clear H'
      try clear c1
      try clear p1
      try clear q1
      try clear hx1
      try clear c2
      try clear p2
      try clear c4
      try clear c4b0
      try clear c5
      try clear c5b0
      try clear p6
      try clear hx104_0
      try clear p104
      try clear p2
      try clear q104
      obtain ⟨x8_2, x9_2, rfl, rfl, HA, HK2, HO_3, HB⟩ := hrel
      cases gk with
      | zero => exact absurd HA.out (by simp [spec_l05Composed.l1])
      | succ k2 =>
       have H := HA.out
       clear HA
       simp only [spec_l05Composed.l1] at H
       have HC7 := Aside0.mk H
       clear H
       go_upto_region 10 with (fail)
       go_cut [34] (fun v34 wc => ∃ (kq : Nat) (x34_6 : Bool), v34 = .bool x34_6 ∧ Aside0 (spec_l05Composed.j2 kq l0 x3_1 x4_1 x5_1 (rd l0 x5_1) t105 x8_2 x9_2 x34_6 = some r) ∧ Aside0 (kq ≤ k2) ∧ Aside0 (Kd.R (Kd.int .i64) 2 wc w.heap.size (fun _ => True) u3 x3_1) ∧ Aside0 (Below w.heap.size w wc))
       case first =>
        have H := HC7.out
        clear HC7
        by_cases c8 : x8_2 = true
        ·subst c8
         have H1 : (spec_l05Composed.j2 k2 l0 x3_1 x4_1 x5_1 (rd l0 x5_1) t105 true x9_2 (decide (x9_2 < (x3_1.length : Int)))) = some r := by rw [if_pos rfl] at H; exact H
         clear H
         have H := H1
         clear H1
         have H' := Aside0.mk H
         clear H
         obtain ⟨Ao9, co9, eo9⟩ := Kd.R_slice HO_3.out
         subst eo9
         go_wp2
         go_meet
         case rel => exact ⟨_, (decide (x9_2 < (x3_1.length : Int))), (by first | rfl | (simp; done) | (simp [*]; done)), H', ⟨by have := HK1.out; have := HK2.out; first | omega | exact Nat.le_refl _⟩, ⟨by (with_reducible repeat (first | apply Kd.R_alloc | apply Kd.R_drewN | apply Kd.R_drew)); exact HO_3.out⟩, ⟨by repeat (first | (with_reducible first | exact HB.out | apply below_alloc | apply pw_below_drewN | apply below_drew1) | exact HB.out)⟩⟩
        ·replace c8 := Bool.eq_false_iff.mpr c8
         subst c8
         have H1 : (spec_l05Composed.j2 k2 l0 x3_1 x4_1 x5_1 (rd l0 x5_1) t105 false x9_2 false) = some r := by rw [if_neg (show ¬ (false = true) by decide)] at H; exact H
         clear H
         have H := H1
         clear H1
         have H' := Aside0.mk H
         clear H
         go_wp2
         go_meet
         case rel => exact ⟨_, (false), (by first | rfl | (simp; done) | (simp [*]; done)), H', ⟨by have := HK1.out; have := HK2.out; first | omega | exact Nat.le_refl _⟩, ⟨by (with_reducible repeat (first | apply Kd.R_alloc | apply Kd.R_drewN | apply Kd.R_drew)); exact HO_3.out⟩, ⟨by repeat (first | (with_reducible first | exact HB.out | apply below_alloc | apply pw_below_drewN | apply below_drew1) | exact HB.out)⟩⟩
       case rest =>
        clear HC7
        try clear c1
        try clear p1
        try clear q1
        try clear hx1
        try clear c2
        try clear p2
        try clear c4
        try clear c4b0
        try clear c5
        try clear c5b0
        try clear p6
        try clear c8
        try clear hx104_0
        try clear p1
        try clear p104
        try clear p2
        try clear p6
        try clear q1
        try clear q104
        obtain ⟨kq, x34_6, rfl, HA, HJ6, HO_3, HB⟩ := hcut
        cases kq with
        | zero => exact absurd HA.out (by simp [spec_l05Composed.j2])
        | succ kj6 =>
         have H := HA.out
         clear HA
         simp only [spec_l05Composed.j2] at H
         by_cases c10 : x34_6 = true
         ·subst c10
          have H1 : (if 0 ≤ x9_2 then (if x9_2 < (x3_1.length : Int) then ((spec_l01Class.f kj6 (rd x3_1 x9_2)).bind fun t107 => (if t107 = 0 then (spec_l05Composed.l1 kj6 l0 x3_1 x4_1 x5_1 (rd l0 x5_1) t105 false (wrap64 (x9_2 + 1))) else ((spec_l01Class.f kj6 (rd x3_1 x9_2)).bind fun t109 => (spec_l05Composed.l1 kj6 l0 x3_1 x4_1 x5_1 (rd l0 x5_1) t105 (decide (t109 < t105)) (wrap64 (x9_2 + 1)))))) else (none)) else (none)) = some r := by rw [if_pos rfl] at H; exact H
          clear H
          have H := H1
          clear H1
          by_cases c11 : 0 ≤ x9_2
          ·rw [if_pos c11] at H
           have c11b0 : decide (0 ≤ x9_2) = true := decide_eq_true c11
           clear c11
           by_cases c12 : x9_2 < (x3_1.length : Int)
           ·rw [if_pos c12] at H
            have c12b0 : decide (x9_2 < (x3_1.length : Int)) = true := decide_eq_true c12
            clear c12
            replace H := Option.bind_eq_some_iff.mp H
            obtain ⟨t107, A130, H⟩ := H
            replace H : (if t107 = 0 then (spec_l05Composed.l1 kj6 l0 x3_1 x4_1 x5_1 (rd l0 x5_1) t105 false (wrap64 (x9_2 + 1))) else ((spec_l01Class.f kj6 (rd x3_1 x9_2)).bind fun t109 => (spec_l05Composed.l1 kj6 l0 x3_1 x4_1 x5_1 (rd l0 x5_1) t105 (decide (t109 < t105)) (wrap64 (x9_2 + 1))))) = some r := H
            have A13 := Aside0.mk A130
            clear A130
            by_cases c14 : t107 = 0
            ·rw [if_pos c14] at H
             have c14b0 : (t107 == 0) = true := beq_iff_eq.mpr c14
             have c14b1 : (t107 != 0) = false := bne_eq_false_iff_eq.mpr c14
             clear c14
             have H' := Aside0.mk H
             clear H
             obtain ⟨Ao15, co15, eo15⟩ := Kd.R_slice HO_3.out
             subst eo15
             have p106 : 0 ≤ (x9_2 : Int) := of_decide_eq_true (by first | (with_reducible assumption) | assumption)
             have q106 : x9_2 < (x3_1.length : Int) := of_decide_eq_true (by first | (with_reducible assumption) | assumption)
             obtain ⟨ad106, e106, hx106_0⟩ := Kd.at_int (Kd.R_reads' HO_3.out).2.2 x9_2 p106 q106
             cases e106
             replace p106 := eq_true p106
             replace q106 := eq_true q106
             go_wp2_with (first | ((with_reducible refine gate_callee (f := 214) rfl ?_); refine goesL_ (some 41) rfl rfl Tryd.func214 (by kernel_rfl) rfl #[.int .i64 (rd x3_1 x9_2)] rfl (by (try simp only [List.map_toArray, List.map_cons, List.map_nil]); first | done | rfl | (simp only [List.length_drop, List.length_take]; rfl)) ?_; (with_reducible refine (spec_l01Class.calls kj6 (rd x3_1 x9_2) t107 _ A13.out).mono ?_); rintro e w' ⟨rfl, ⟨nd, rfl⟩⟩; refine ⟨_, rfl, ?_⟩))
             go_roundg kj6
             case measure => have := HK1.out; have := HK2.out; have := HJ6.out; omega
             case rel => exact ⟨(false), (wrap64 (x9_2 + 1)), (by first | rfl | (simp; done) | (simp [*]; done)), (by first | rfl | (simp; done) | (simp [*]; done)), H', ⟨by have := HK1.out; have := HK2.out; have := HJ6.out; omega⟩, ⟨by (with_reducible repeat (first | apply Kd.R_alloc | apply Kd.R_drewN | apply Kd.R_drew)); exact HO_3.out⟩, ⟨by repeat (first | (with_reducible first | exact HB.out | apply below_alloc | apply pw_below_drewN | apply below_drew1) | exact HB.out)⟩⟩
            ·rw [if_neg c14] at H
             have c14b0 : (t107 == 0) = false := beq_eq_false_iff_ne.mpr c14
             have c14b1 : (t107 != 0) = true := bne_iff_ne.mpr c14
             replace H := Option.bind_eq_some_iff.mp H
             obtain ⟨t109, A160, H⟩ := H
             replace H : (spec_l05Composed.l1 kj6 l0 x3_1 x4_1 x5_1 (rd l0 x5_1) t105 (decide (t109 < t105)) (wrap64 (x9_2 + 1))) = some r := H
             have A16 := Aside0.mk A160
             clear A160
             have H' := Aside0.mk H
             clear H
             obtain ⟨Ao17, co17, eo17⟩ := Kd.R_slice HO_3.out
             subst eo17
             have p106 : 0 ≤ (x9_2 : Int) := of_decide_eq_true (by first | (with_reducible assumption) | assumption)
             have q106 : x9_2 < (x3_1.length : Int) := of_decide_eq_true (by first | (with_reducible assumption) | assumption)
             obtain ⟨ad106, e106, hx106_0⟩ := Kd.at_int (Kd.R_reads' HO_3.out).2.2 x9_2 p106 q106
             cases e106
             replace p106 := eq_true p106
             replace q106 := eq_true q106
             go_wp2_with (first | ((with_reducible refine gate_callee (f := 214) rfl ?_); refine goesL_ (some 41) rfl rfl Tryd.func214 (by kernel_rfl) rfl #[.int .i64 (rd x3_1 x9_2)] rfl (by (try simp only [List.map_toArray, List.map_cons, List.map_nil]); first | done | rfl | (simp only [List.length_drop, List.length_take]; rfl)) ?_; (with_reducible refine (spec_l01Class.calls kj6 (rd x3_1 x9_2) t107 _ A13.out).mono ?_); rintro e w' ⟨rfl, ⟨nd, rfl⟩⟩; refine ⟨_, rfl, ?_⟩; have p108 : 0 ≤ (x9_2 : Int) := of_decide_eq_true (by first | (with_reducible assumption) | assumption); have q108 : x9_2 < (x3_1.length : Int) := of_decide_eq_true (by first | (with_reducible assumption) | assumption); obtain ⟨ad108, e108, hx108_0⟩ := Kd.at_int (Kd.R_reads' HO_3.out).2.2 x9_2 p108 q108; obtain rfl : ad106 = ad108 := (by injection e108); replace p108 := eq_true p108; replace q108 := eq_true q108) | (go_at_call 214; (with_reducible refine (spec_l01Class.calls kj6 (rd x3_1 x9_2) t109 _ A16.out).mono ?_); rintro e w' ⟨rfl, ⟨nd, rfl⟩⟩))
             go_roundg kj6
             case measure => have := HK1.out; have := HK2.out; have := HJ6.out; omega
             case rel => exact ⟨(decide (t109 < t105)), (wrap64 (x9_2 + 1)), (by first | rfl | (simp; done) | (simp [*]; done)), (by first | rfl | (simp; done) | (simp [*]; done)), H', ⟨by have := HK1.out; have := HK2.out; have := HJ6.out; omega⟩, ⟨by (with_reducible repeat (first | apply Kd.R_alloc | apply Kd.R_drewN | apply Kd.R_drew)); exact HO_3.out⟩, ⟨by repeat (first | (with_reducible first | exact HB.out | apply below_alloc | apply pw_below_drewN | apply below_drew1) | exact HB.out)⟩⟩
           ·rw [if_neg c12] at H
            exact absurd H (by simp)
          ·rw [if_neg c11] at H
           exact absurd H (by simp)
         ·replace c10 := Bool.eq_false_iff.mpr c10
          subst c10
          have H1 : (if x8_2 = true then (if 0 ≤ x4_1 then (if x4_1 < (x3_1.length : Int) then ((spec_l05Pair.f kj6 (rd x3_1 x4_1) (rd l0 x5_1)).bind fun t111 => (if t111 ≥ 0 then (spec_l05Composed.l0 kj6 l0 (x3_1.set (x4_1 : Int).toNat t111) x4_1 (wrap64 (x5_1 + 1))) else (if x3_1.length < 17592186044416 then ((some (x3_1 ++ [(rd l0 x5_1)] : List Int)).bind fun y113 => (if t105 = 0 then (spec_l05Composed.l0 kj6 l0 y113 (wrap64 ((y113.length : Int) - 1)) (wrap64 (x5_1 + 1))) else (spec_l05Composed.l0 kj6 l0 y113 x4_1 (wrap64 (x5_1 + 1))))) else (none)))) else (none)) else (none)) else (if x3_1.length < 17592186044416 then ((some (x3_1 ++ [(rd l0 x5_1)] : List Int)).bind fun y116 => (if t105 = 0 then (spec_l05Composed.l0 kj6 l0 y116 (wrap64 ((y116.length : Int) - 1)) (wrap64 (x5_1 + 1))) else (spec_l05Composed.l0 kj6 l0 y116 x4_1 (wrap64 (x5_1 + 1))))) else (none))) = some r := by rw [if_neg (show ¬ (false = true) by decide)] at H; exact H
          clear H
          have H := H1
          clear H1
          by_cases c18 : x8_2 = true
          ·subst c18
           have H1 : (if 0 ≤ x4_1 then (if x4_1 < (x3_1.length : Int) then ((spec_l05Pair.f kj6 (rd x3_1 x4_1) (rd l0 x5_1)).bind fun t111 => (if t111 ≥ 0 then (spec_l05Composed.l0 kj6 l0 (x3_1.set (x4_1 : Int).toNat t111) x4_1 (wrap64 (x5_1 + 1))) else (if x3_1.length < 17592186044416 then ((some (x3_1 ++ [(rd l0 x5_1)] : List Int)).bind fun y113 => (if t105 = 0 then (spec_l05Composed.l0 kj6 l0 y113 (wrap64 ((y113.length : Int) - 1)) (wrap64 (x5_1 + 1))) else (spec_l05Composed.l0 kj6 l0 y113 x4_1 (wrap64 (x5_1 + 1))))) else (none)))) else (none)) else (none)) = some r := by rw [if_pos rfl] at H; exact H
           clear H
           have H := H1
           clear H1
           by_cases c19 : 0 ≤ x4_1
           ·rw [if_pos c19] at H
            have c19b0 : decide (0 ≤ x4_1) = true := decide_eq_true c19
            clear c19
            by_cases c20 : x4_1 < (x3_1.length : Int)
            ·rw [if_pos c20] at H
             have c20b0 : decide (x4_1 < (x3_1.length : Int)) = true := decide_eq_true c20
             clear c20
             replace H := Option.bind_eq_some_iff.mp H
             obtain ⟨t111, A210, H⟩ := H
             replace H : (if t111 ≥ 0 then (spec_l05Composed.l0 kj6 l0 (x3_1.set (x4_1 : Int).toNat t111) x4_1 (wrap64 (x5_1 + 1))) else (if x3_1.length < 17592186044416 then ((some (x3_1 ++ [(rd l0 x5_1)] : List Int)).bind fun y113 => (if t105 = 0 then (spec_l05Composed.l0 kj6 l0 y113 (wrap64 ((y113.length : Int) - 1)) (wrap64 (x5_1 + 1))) else (spec_l05Composed.l0 kj6 l0 y113 x4_1 (wrap64 (x5_1 + 1))))) else (none))) = some r := H
             have A21 := Aside0.mk A210
             clear A210
             by_cases c22 : t111 ≥ 0
             ·rw [if_pos c22] at H
              have c22b0 : decide (0 ≤ t111) = true := decide_eq_true c22
              clear c22
              obtain ⟨y112, hy112⟩ : ∃ y_ : List Int, y_ = (x3_1.set (x4_1 : Int).toNat t111) := ⟨_, rfl⟩
              replace H : (spec_l05Composed.l0 kj6 l0 y112 x4_1 (wrap64 (x5_1 + 1))) = some r := by first | (rw [hy112]; with_reducible exact H) | (have H2_ := (Option.bind_some _ _).symm.trans H; rw [hy112]; with_reducible exact H2_) | (have H2_ := (Option.bind_some _ _).symm.trans H; with_reducible exact H2_) | with_reducible exact H | (rw [hy112]; exact H) | exact H
              have Ny112 := Aside0.mk hy112
              clear hy112
              have H' := Aside0.mk H
              clear H
              obtain ⟨Ao24, co24, eo24⟩ := Kd.R_slice HO_3.out
              subst eo24
              have p110 : 0 ≤ (x4_1 : Int) := of_decide_eq_true (by first | (with_reducible assumption) | assumption)
              have q110 : x4_1 < (x3_1.length : Int) := of_decide_eq_true (by first | (with_reducible assumption) | assumption)
              obtain ⟨ad110, e110, hx110_0⟩ := Kd.at_int (Kd.R_reads' HO_3.out).2.2 x4_1 p110 q110
              cases e110
              replace p110 := eq_true p110
              replace q110 := eq_true q110
              go_wp2_with (first | ((with_reducible refine gate_callee (f := 215) rfl ?_); refine goesL_ (some 58) rfl rfl Tryd.func215 (by kernel_rfl) rfl #[.int .i64 (rd x3_1 x4_1), .int .i64 (rd l0 x5_1)] rfl (by (try simp only [List.map_toArray, List.map_cons, List.map_nil]); first | done | rfl | (simp only [List.length_drop, List.length_take]; rfl)) ?_; (with_reducible refine (spec_l05Pair.calls kj6 (rd x3_1 x4_1) (rd l0 x5_1) t111 _ A21.out).mono ?_); rintro e w' ⟨rfl, ⟨nd, rfl⟩⟩; refine ⟨_, rfl, ?_⟩; (try (rw [drewN_self wc]; generalize hq_ : World.drewN wc _ = wc; have n0_ : Aside0 (Kd.R (Kd.int .i64) 2 wc w.heap.size (fun _ => True) (.slice (some ad110) x3_1.length co24) x3_1) := ⟨by rw [← hq_]; exact (by (with_reducible repeat (first | apply Kd.R_alloc | apply Kd.R_drewN | apply Kd.R_drew)); exact HO_3.out)⟩; have n1_ : Aside0 (Below w.heap.size w wc) := ⟨by rw [← hq_]; exact (by repeat (first | (with_reducible first | exact HB.out | apply below_alloc | apply pw_below_drewN | apply below_drew1) | exact HB.out))⟩; clear HO_3 HB hq_; have HO_3 := n0_; have HB := n1_; clear n0_ n1_)); have p23 : 0 ≤ (x4_1 : Int) := of_decide_eq_true (by first | (with_reducible assumption) | assumption); have q23 : (x4_1 : Int) < ((x3_1.length : Int) : Int) := of_decide_eq_true (by first | (with_reducible assumption) | assumption); obtain ⟨go23, co23, eo23, gb23, gl23, cl23, HG23⟩ := Kd.R_form HO_3.out (by omega); (first | cases eo23 | (injection eo23 with ea_ en_ ec_; (first | subst ea_ | (injection ea_ with ea_; subst ea_)); subst ec_; clear en_)); have GB23 := Aside0.mk gb23; have GG23 := Aside0.mk HG23; clear gb23 gl23 HG23; (first | simp only [add_plain] at hx110_0 | skip); obtain ⟨hx23_0, hf23_0⟩ := Kd.R_celln 0 HO_3.out (x4_1 : Int) p23 q23; replace p23 := eq_true p23; replace q23 := eq_true q23; obtain ⟨hy25_, hz25_⟩ := Kd.R_celln 0 HO_3.out (x4_1 : Int) (of_decide_eq_true (by first | (with_reducible assumption) | assumption)) (of_decide_eq_true (by first | (with_reducible assumption) | assumption)); have HP25 := Kd.R_putg HO_3.out (x4_1 : Int) t111) | ((with_reducible refine gate_store (t := 2) (p := 64) rfl ?_); refine store_event (t := 2) (p := 64) (v := ?vo_w26) (w1 := (wc.setCell ⟨go23, (x4_1 : Int).toNat, none⟩ (.int .i64 t111))) ?hg ?ho ?hn ?hr ?_; (case ho => rfl); (case hg => rfl); (case hn => rfl); (case hr => first | (go_simp; done) | (go_simp; rfl)); intro w26 hw; have hg : wc.grownBy w26 (some go23) := (by rw [hw]; exact HP25.2); have hp_ : Kd.R (Kd.int .i64) 2 w26 w.heap.size (fun _ => True) (.slice (some ⟨go23, 0, none⟩) x3_1.length co24) y112 := (by rw [hw, Ny112.out]; exact HP25.1); clear HP25; have n0_ := Aside0.mk (hp_); have n1_ := Aside0.mk ((by rw [hw]; exact below_set (HB.out) GB23.out : Below w.heap.size w w26)); clear HO_3; clear HB; have HO_3 := n0_; have HB := n1_; clear n0_ n1_; clear hg hw hp_))
              go_roundg kj6
              case measure => have := HK1.out; have := HK2.out; have := HJ6.out; omega
              case rel => exact ⟨(y112), (x4_1), (wrap64 (x5_1 + 1)), (by first | rfl | (simp; done) | (simp [*]; done)), (by first | rfl | (simp; done) | (simp [*]; done)), H', ⟨by have := HK1.out; have := HK2.out; have := HJ6.out; omega⟩, ⟨by (with_reducible repeat (first | apply Kd.R_alloc | apply Kd.R_drewN | apply Kd.R_drew)); exact HO_3.out⟩, ⟨by repeat (first | (with_reducible first | exact HB.out | apply below_alloc | apply pw_below_drewN | apply below_drew1) | exact HB.out)⟩⟩
             ·rw [if_neg c22] at H
              have c22b0 : decide (0 ≤ t111) = false := decide_eq_false c22
              clear c22
              by_cases c27 : x3_1.length < 17592186044416
              ·rw [if_pos c27] at H
               have LMc27 := Aside0.mk c27
               clear c27
               obtain ⟨y113, hy113⟩ : ∃ y_ : List Int, y_ = (x3_1 ++ [(rd l0 x5_1)]) := ⟨_, rfl⟩
               replace H : (if t105 = 0 then (spec_l05Composed.l0 kj6 l0 y113 (wrap64 ((y113.length : Int) - 1)) (wrap64 (x5_1 + 1))) else (spec_l05Composed.l0 kj6 l0 y113 x4_1 (wrap64 (x5_1 + 1)))) = some r := by first | (rw [hy113]; with_reducible exact H) | (have H2_ := (Option.bind_some _ _).symm.trans H; rw [hy113]; with_reducible exact H2_) | (have H2_ := (Option.bind_some _ _).symm.trans H; with_reducible exact H2_) | with_reducible exact H | (rw [hy113]; exact H) | exact H
               have Ny113 := Aside0.mk hy113
               clear hy113
               by_cases c28 : t105 = 0
               ·rw [if_pos c28] at H
                have c28b0 : (t105 == 0) = true := beq_iff_eq.mpr c28
                have c28b1 : (t105 != 0) = false := bne_eq_false_iff_eq.mpr c28
                clear c28
                have H' := Aside0.mk H
                clear H
                obtain ⟨Ao29, co29, eo29⟩ := Kd.R_slice HO_3.out
                subst eo29
                have p110 : 0 ≤ (x4_1 : Int) := of_decide_eq_true (by first | (with_reducible assumption) | assumption)
                have q110 : x4_1 < (x3_1.length : Int) := of_decide_eq_true (by first | (with_reducible assumption) | assumption)
                obtain ⟨ad110, e110, hx110_0⟩ := Kd.at_int (Kd.R_reads' HO_3.out).2.2 x4_1 p110 q110
                cases e110
                replace p110 := eq_true p110
                replace q110 := eq_true q110
                go_wp2_with (first | ((with_reducible refine gate_callee (f := 215) rfl ?_); refine goesL_ (some 58) rfl rfl Tryd.func215 (by kernel_rfl) rfl #[.int .i64 (rd x3_1 x4_1), .int .i64 (rd l0 x5_1)] rfl (by (try simp only [List.map_toArray, List.map_cons, List.map_nil]); first | done | rfl | (simp only [List.length_drop, List.length_take]; rfl)) ?_; (with_reducible refine (spec_l05Pair.calls kj6 (rd x3_1 x4_1) (rd l0 x5_1) t111 _ A21.out).mono ?_); rintro e w' ⟨rfl, ⟨nd, rfl⟩⟩; refine ⟨_, rfl, ?_⟩) | ((with_reducible refine gate_builtin (b := .append) (xs := #[.tmp 65, .tmp 67]) rfl ?_); (try (refine gate_guard (by rfl) ?_; dsimp only)); at_builtin; refine Kd.R_append (Kd.int .i64) (w0 := w) w.heap.size rfl (.tmp 65) (.tmp 67) 35 2 (.int .i64 0) 8 rfl Tryd.underlying35 info2 rfl (by decide) (by omega) (.slice (some ad110) x3_1.length co29) x3_1 (rd l0 x5_1) [.int .i64 (rd l0 x5_1)] (fun _ => True) (fun _ => False) rfl rfl ?aP (fun _ hk => hk.elim) ?aF ?aO ?aB ?aS ?aL ?_; (case aP => exact rfl); (case aB => exact (by repeat (first | (with_reducible first | exact HB.out | apply below_alloc | apply pw_below_drewN | apply below_drew1) | exact HB.out))); (case aF => exact (fun _ _ => trivial)); (case aO => exact (by (with_reducible repeat (first | apply Kd.R_alloc | apply Kd.R_drewN | apply Kd.R_drew)); exact HO_3.out)); (case aS => exact (below_size (by repeat (first | (with_reducible first | exact HB.out | apply below_alloc | apply pw_below_drewN | apply below_drew1) | exact HB.out)))); (case aL => have := LMc27.out; omega); intro v114 w30 ho hb hg hat; rw [← Ny113.out] at ho; have n0_ := Aside0.mk (hb); have n1_ := Aside0.mk (ho); clear HB; clear HO_3; have HB := n0_; have HO115 := n1_; clear n0_ n1_; clear ho hb hg hat; obtain ⟨Ao31, co31, eo31⟩ := Kd.R_slice HO115.out; subst eo31))
                go_roundg kj6
                case measure => have := HK1.out; have := HK2.out; have := HJ6.out; omega
                case rel => exact ⟨(y113), (wrap64 ((y113.length : Int) - 1)), (wrap64 (x5_1 + 1)), (by first | rfl | (simp; done) | (simp [*]; done)), (by first | rfl | (simp; done) | (simp [*]; done)), H', ⟨by have := HK1.out; have := HK2.out; have := HJ6.out; omega⟩, ⟨by (with_reducible repeat (first | apply Kd.R_alloc | apply Kd.R_drewN | apply Kd.R_drew)); exact HO115.out⟩, ⟨by repeat (first | (with_reducible first | exact HB.out | apply below_alloc | apply pw_below_drewN | apply below_drew1) | exact HB.out)⟩⟩
               ·rw [if_neg c28] at H
                have c28b0 : (t105 == 0) = false := beq_eq_false_iff_ne.mpr c28
                have c28b1 : (t105 != 0) = true := bne_iff_ne.mpr c28
                have H' := Aside0.mk H
                clear H
                obtain ⟨Ao32, co32, eo32⟩ := Kd.R_slice HO_3.out
                subst eo32
                have p110 : 0 ≤ (x4_1 : Int) := of_decide_eq_true (by first | (with_reducible assumption) | assumption)
                have q110 : x4_1 < (x3_1.length : Int) := of_decide_eq_true (by first | (with_reducible assumption) | assumption)
                obtain ⟨ad110, e110, hx110_0⟩ := Kd.at_int (Kd.R_reads' HO_3.out).2.2 x4_1 p110 q110
                cases e110
                replace p110 := eq_true p110
                replace q110 := eq_true q110
                go_wp2_with (first | ((with_reducible refine gate_callee (f := 215) rfl ?_); refine goesL_ (some 58) rfl rfl Tryd.func215 (by kernel_rfl) rfl #[.int .i64 (rd x3_1 x4_1), .int .i64 (rd l0 x5_1)] rfl (by (try simp only [List.map_toArray, List.map_cons, List.map_nil]); first | done | rfl | (simp only [List.length_drop, List.length_take]; rfl)) ?_; (with_reducible refine (spec_l05Pair.calls kj6 (rd x3_1 x4_1) (rd l0 x5_1) t111 _ A21.out).mono ?_); rintro e w' ⟨rfl, ⟨nd, rfl⟩⟩; refine ⟨_, rfl, ?_⟩) | ((with_reducible refine gate_builtin (b := .append) (xs := #[.tmp 65, .tmp 67]) rfl ?_); (try (refine gate_guard (by rfl) ?_; dsimp only)); at_builtin; refine Kd.R_append (Kd.int .i64) (w0 := w) w.heap.size rfl (.tmp 65) (.tmp 67) 35 2 (.int .i64 0) 8 rfl Tryd.underlying35 info2 rfl (by decide) (by omega) (.slice (some ad110) x3_1.length co32) x3_1 (rd l0 x5_1) [.int .i64 (rd l0 x5_1)] (fun _ => True) (fun _ => False) rfl rfl ?aP (fun _ hk => hk.elim) ?aF ?aO ?aB ?aS ?aL ?_; (case aP => exact rfl); (case aB => exact (by repeat (first | (with_reducible first | exact HB.out | apply below_alloc | apply pw_below_drewN | apply below_drew1) | exact HB.out))); (case aF => exact (fun _ _ => trivial)); (case aO => exact (by (with_reducible repeat (first | apply Kd.R_alloc | apply Kd.R_drewN | apply Kd.R_drew)); exact HO_3.out)); (case aS => exact (below_size (by repeat (first | (with_reducible first | exact HB.out | apply below_alloc | apply pw_below_drewN | apply below_drew1) | exact HB.out)))); (case aL => have := LMc27.out; omega); intro v114 w33 ho hb hg hat; rw [← Ny113.out] at ho; have n0_ := Aside0.mk (hb); have n1_ := Aside0.mk (ho); clear HB; clear HO_3; have HB := n0_; have HO115 := n1_; clear n0_ n1_; clear ho hb hg hat))
                go_roundg kj6
                case measure => have := HK1.out; have := HK2.out; have := HJ6.out; omega
                case rel => exact ⟨(y113), (x4_1), (wrap64 (x5_1 + 1)), (by first | rfl | (simp; done) | (simp [*]; done)), (by first | rfl | (simp; done) | (simp [*]; done)), H', ⟨by have := HK1.out; have := HK2.out; have := HJ6.out; omega⟩, ⟨by (with_reducible repeat (first | apply Kd.R_alloc | apply Kd.R_drewN | apply Kd.R_drew)); exact HO115.out⟩, ⟨by repeat (first | (with_reducible first | exact HB.out | apply below_alloc | apply pw_below_drewN | apply below_drew1) | exact HB.out)⟩⟩
              ·rw [if_neg c27] at H
               exact absurd H (by simp)
            ·rw [if_neg c20] at H
             exact absurd H (by simp)
           ·rw [if_neg c19] at H
            exact absurd H (by simp)
          ·replace c18 := Bool.eq_false_iff.mpr c18
           subst c18
           have H1 : (if x3_1.length < 17592186044416 then ((some (x3_1 ++ [(rd l0 x5_1)] : List Int)).bind fun y116 => (if t105 = 0 then (spec_l05Composed.l0 kj6 l0 y116 (wrap64 ((y116.length : Int) - 1)) (wrap64 (x5_1 + 1))) else (spec_l05Composed.l0 kj6 l0 y116 x4_1 (wrap64 (x5_1 + 1))))) else (none)) = some r := by rw [if_neg (show ¬ (false = true) by decide)] at H; exact H
           clear H
           have H := H1
           clear H1
           by_cases c34 : x3_1.length < 17592186044416
           ·rw [if_pos c34] at H
            have LMc34 := Aside0.mk c34
            clear c34
            obtain ⟨y116, hy116⟩ : ∃ y_ : List Int, y_ = (x3_1 ++ [(rd l0 x5_1)]) := ⟨_, rfl⟩
            replace H : (if t105 = 0 then (spec_l05Composed.l0 kj6 l0 y116 (wrap64 ((y116.length : Int) - 1)) (wrap64 (x5_1 + 1))) else (spec_l05Composed.l0 kj6 l0 y116 x4_1 (wrap64 (x5_1 + 1)))) = some r := by first | (rw [hy116]; with_reducible exact H) | (have H2_ := (Option.bind_some _ _).symm.trans H; rw [hy116]; with_reducible exact H2_) | (have H2_ := (Option.bind_some _ _).symm.trans H; with_reducible exact H2_) | with_reducible exact H | (rw [hy116]; exact H) | exact H
            have Ny116 := Aside0.mk hy116
            clear hy116
            by_cases c35 : t105 = 0
            ·rw [if_pos c35] at H
             have c35b0 : (t105 == 0) = true := beq_iff_eq.mpr c35
             have c35b1 : (t105 != 0) = false := bne_eq_false_iff_eq.mpr c35
             clear c35
             have H' := Aside0.mk H
             clear H
             go_wp2_with (first | ((with_reducible refine gate_builtin (b := .append) (xs := #[.tmp 65, .tmp 67]) rfl ?_); (try (refine gate_guard (by rfl) ?_; dsimp only)); at_builtin; refine Kd.R_append (Kd.int .i64) (w0 := w) w.heap.size rfl (.tmp 65) (.tmp 67) 35 2 (.int .i64 0) 8 rfl Tryd.underlying35 info2 rfl (by decide) (by omega) u3 x3_1 (rd l0 x5_1) [.int .i64 (rd l0 x5_1)] (fun _ => True) (fun _ => False) rfl rfl ?aP (fun _ hk => hk.elim) ?aF ?aO ?aB ?aS ?aL ?_; (case aP => exact rfl); (case aB => exact (by repeat (first | (with_reducible first | exact HB.out | apply below_alloc | apply pw_below_drewN | apply below_drew1) | exact HB.out))); (case aF => exact (fun _ _ => trivial)); (case aO => exact (by (with_reducible repeat (first | apply Kd.R_alloc | apply Kd.R_drewN | apply Kd.R_drew)); exact HO_3.out)); (case aS => exact (below_size (by repeat (first | (with_reducible first | exact HB.out | apply below_alloc | apply pw_below_drewN | apply below_drew1) | exact HB.out)))); (case aL => have := LMc34.out; omega); intro v117 w36 ho hb hg hat; rw [← Ny116.out] at ho; have n0_ := Aside0.mk (hb); have n1_ := Aside0.mk (ho); clear HB; clear HO_3; have HB := n0_; have HO118 := n1_; clear n0_ n1_; clear ho hb hg hat; obtain ⟨Ao37, co37, eo37⟩ := Kd.R_slice HO118.out; subst eo37))
             go_roundg kj6
             case measure => have := HK1.out; have := HK2.out; have := HJ6.out; omega
             case rel => exact ⟨(y116), (wrap64 ((y116.length : Int) - 1)), (wrap64 (x5_1 + 1)), (by first | rfl | (simp; done) | (simp [*]; done)), (by first | rfl | (simp; done) | (simp [*]; done)), H', ⟨by have := HK1.out; have := HK2.out; have := HJ6.out; omega⟩, ⟨by (with_reducible repeat (first | apply Kd.R_alloc | apply Kd.R_drewN | apply Kd.R_drew)); exact HO118.out⟩, ⟨by repeat (first | (with_reducible first | exact HB.out | apply below_alloc | apply pw_below_drewN | apply below_drew1) | exact HB.out)⟩⟩
            ·rw [if_neg c35] at H
             have c35b0 : (t105 == 0) = false := beq_eq_false_iff_ne.mpr c35
             have c35b1 : (t105 != 0) = true := bne_iff_ne.mpr c35
             have H' := Aside0.mk H
             clear H
             go_wp2_with (first | ((with_reducible refine gate_builtin (b := .append) (xs := #[.tmp 65, .tmp 67]) rfl ?_); (try (refine gate_guard (by rfl) ?_; dsimp only)); at_builtin; refine Kd.R_append (Kd.int .i64) (w0 := w) w.heap.size rfl (.tmp 65) (.tmp 67) 35 2 (.int .i64 0) 8 rfl Tryd.underlying35 info2 rfl (by decide) (by omega) u3 x3_1 (rd l0 x5_1) [.int .i64 (rd l0 x5_1)] (fun _ => True) (fun _ => False) rfl rfl ?aP (fun _ hk => hk.elim) ?aF ?aO ?aB ?aS ?aL ?_; (case aP => exact rfl); (case aB => exact (by repeat (first | (with_reducible first | exact HB.out | apply below_alloc | apply pw_below_drewN | apply below_drew1) | exact HB.out))); (case aF => exact (fun _ _ => trivial)); (case aO => exact (by (with_reducible repeat (first | apply Kd.R_alloc | apply Kd.R_drewN | apply Kd.R_drew)); exact HO_3.out)); (case aS => exact (below_size (by repeat (first | (with_reducible first | exact HB.out | apply below_alloc | apply pw_below_drewN | apply below_drew1) | exact HB.out)))); (case aL => have := LMc34.out; omega); intro v117 w38 ho hb hg hat; rw [← Ny116.out] at ho; have n0_ := Aside0.mk (hb); have n1_ := Aside0.mk (ho); clear HB; clear HO_3; have HB := n0_; have HO118 := n1_; clear n0_ n1_; clear ho hb hg hat))
             go_roundg kj6
             case measure => have := HK1.out; have := HK2.out; have := HJ6.out; omega
             case rel => exact ⟨(y116), (x4_1), (wrap64 (x5_1 + 1)), (by first | rfl | (simp; done) | (simp [*]; done)), (by first | rfl | (simp; done) | (simp [*]; done)), H', ⟨by have := HK1.out; have := HK2.out; have := HJ6.out; omega⟩, ⟨by (with_reducible repeat (first | apply Kd.R_alloc | apply Kd.R_drewN | apply Kd.R_drew)); exact HO118.out⟩, ⟨by repeat (first | (with_reducible first | exact HB.out | apply below_alloc | apply pw_below_drewN | apply below_drew1) | exact HB.out)⟩⟩
           ·rw [if_neg c34] at H
            exact absurd H (by simp)
    ·rw [if_neg c5] at H
     exact absurd H (by simp)
   ·rw [if_neg c4] at H
    have c4b0 : decide (x5_1 < (l0.length : Int)) = false := decide_eq_false c4
    clear c4
    obtain rfl := Option.some.inj H
    go_wp2
    go_ret
    exact ⟨_, by first | rfl | (simp [errW_none, errW_some] <;> rfl) | (simp [*, errW_none, errW_some] <;> rfl), by (with_reducible repeat (first | apply Kd.R_alloc | apply Kd.R_drewN | apply Kd.R_drew)); exact HO_3.out, by repeat (first | (with_reducible first | exact HB.out | apply below_alloc | apply pw_below_drewN | apply below_drew1) | exact HB.out)⟩
end Go.Proofs.YtepeeahckgpapaaDoor.Q
end
section
namespace Go.Proofs.YtepeeahckgpapaaDoor.Q
open Go.RowKit Go.Proofs.YtepeeahckgpapaaDoorW.PrintWords Go.Proofs.YtepeeahckgpapaaDoorW.PrintLast Go.Proofs.YtepeeahckgpapaaDoorW.PrintMore
attribute [local go_sem] max2_int max_two
set_option linter.unusedVariables false
set_option linter.unusedSimpArgs false
def spec_l05Norm.l0 : Nat → Int → List Int → List Int → Int → Option (List Int)
 | 0, _, _, _, _ => none
 | k + 1, x0, x1, x5, x6 => if x6 < (x1.length : Int) then (if 0 ≤ x6 then ((spec_l05K.f x0).bind fun t105 => ((spec_l05All.f k (rd x1 x6) t105).bind fun t106 => (if x5.length + t106.length < 17592186044416 then (spec_l05Norm.l0 k x0 x1 (x5 ++ t106) (wrap64 (x6 + 1))) else (none)))) else (none)) else ((spec_l05Ordered.f k x5).bind fun t112 => ((spec_l05C.f x0).bind fun t115 => (if t115 = true then ((spec_l05Composed.f k t112).bind fun t116 => (some t116)) else (some t112))))
def spec_l05Norm.f (k : Nat) (a0 : Int) (l1 : List Int) : Option (List Int) := spec_l05Norm.l0 k a0 l1 (([] : List Int)) 0
def spec_l05Norm.T5 : Bool × List (List Nat × List Nat) := (true, [([], []), ([], []), ([], []), ([1, 2], [1, 2]), ([3], [3]), ([], []), ([5], [5]), ([4, 6, 6], [4, 6]), ([0, 7, 7], [0, 7]), ([8, 8, 0, 1, 2, 3, 4, 5, 6, 7, 8], [0, 8])])
def spec_l05Norm.B5 : List Nat := [0, 0, 0, 6, 14, 0, 32, 126, 255, 511]
theorem spec_l05Norm.tab5 : rtab .any (opsOf Tryd.f111 5) = spec_l05Norm.T5 := by kernel_rfl
theorem spec_l05Norm.bits5 : waitsOk spec_l05Norm.T5.2 spec_l05Norm.B5 = true := by kernel_rfl
set_option maxHeartbeats 8000000 in
set_option maxRecDepth 100000 in
theorem spec_l05Norm.calls (k : Nat) (a0 : Int) (A1 : Option Addr) (c1 : Nat) (l1 : List Int) (r : List Int) (w : World) (hr1 : Kd.C (Kd.int .i64) w A1 l1.length l1) (hc1 : l1.length ≤ c1) (h : spec_l05Norm.f k a0 l1 = some r) :
  Calls Tryd.prog 111 #[.int .i64 a0, .slice A1 l1.length c1] w fun e w' => ∃ v0_ : Value, e = .returned (v0_) ∧ Kd.R (Kd.int .i64) 2 w' w.heap.size (fun _ => True) v0_ r ∧ Below w.heap.size w w' := by
 have HR1 := Aside0.mk hr1
 have HC1 := Aside0.mk hc1
 clear hr1 hc1
 have HB := Aside0.mk (Below.refl w.heap.size w)
 have H : (spec_l05Norm.l0 k a0 l1 (([] : List Int)) 0) = some r := h
 clear h
 obtain ⟨y101, hy101⟩ : ∃ y_ : List Int, y_ = (([] : List Int)) := ⟨_, rfl⟩
 replace H : (spec_l05Norm.l0 k a0 l1 y101 0) = some r := by first | (rw [hy101]; with_reducible exact H) | (have H2_ := (Option.bind_some _ _).symm.trans H; rw [hy101]; with_reducible exact H2_) | (have H2_ := (Option.bind_some _ _).symm.trans H; with_reducible exact H2_) | with_reducible exact H | (rw [hy101]; exact H) | exact H
 have Ny101 := Aside0.mk hy101
 clear hy101
 have H' := Aside0.mk H
 clear H
 go_enter Tryd.func111, Tryd.ntmps111
 go_wp2_with (first | ((with_reducible refine gate_dst (N := 7) rfl ?_); refine Kd.R_lit (Kd.int .i64) _ 2 ?hg (N := 7) ?hd (xs := ([] : List Int)) (inner := []) (ok := fun _ => True) (okp := fun _ => True) ?hr ?hp (fun _ hk => hk) trivial (Below.refl _ _) (Nat.le_refl _) (by simp) ?_; (case hd => rfl); (case hg => rfl); (case hr => first | (go_simp; done) | (go_simp; rfl)); (case hp => exact (Reps.none _ _)); intro v102 w3 ho4 hb hg_ hnew_; clear hg_ hnew_; (first | rw [← Ny101.out] at ho4 | (simp only [Int.reduceToNat] at ho4; rw [← Ny101.out] at ho4)); have n0_ := Aside0.mk (Kd.R_lower ho4 (below_size (by repeat (first | (with_reducible first | exact HB.out | apply below_alloc | apply pw_below_drewN | apply below_drew1) | exact HB.out)))); have n1_ := Aside0.mk (below_step (by repeat (first | (with_reducible first | exact HB.out | apply below_alloc | apply pw_below_drewN | apply below_drew1) | exact HB.out)) hb); clear HB; have HO103 := n0_; have HB := n1_; clear n0_ n1_; clear hb ho4))
 go_loopg [5, 6] k (fun kq v5 v6 w' => ∃ (x5_1 : List Int) (x6_1 : Int), v6 = .int .i64 x6_1 ∧ Aside0 (spec_l05Norm.l0 kq a0 l1 x5_1 x6_1 = some r) ∧ Aside0 (kq ≤ k) ∧ Aside0 (Kd.R (Kd.int .i64) 2 w' w.heap.size (fun _ => True) v5 x5_1) ∧ Aside0 (Below w.heap.size w w'))
 case atStart => exact ⟨(y101), (0), (by first | rfl | (simp; done) | (simp [*]; done)), H', ⟨Nat.le_refl _⟩, ⟨by (with_reducible repeat (first | apply Kd.R_alloc | apply Kd.R_drewN | apply Kd.R_drew)); exact HO103.out⟩, ⟨by repeat (first | (with_reducible first | exact HB.out | apply below_alloc | apply pw_below_drewN | apply below_drew1) | exact HB.out)⟩⟩
 case round =>
  clear H'
  try clear c1
  try clear p2
  obtain ⟨x5_1, x6_1, rfl, HA, HK1, HO_5, HB⟩ := hrel
  cases gk with
  | zero => exact absurd HA.out (by simp [spec_l05Norm.l0])
  | succ k1 =>
   have H := HA.out
   clear HA
   simp only [spec_l05Norm.l0] at H
   by_cases c5 : x6_1 < (l1.length : Int)
   ·rw [if_pos c5] at H
    have c5b0 : decide (x6_1 < (l1.length : Int)) = true := decide_eq_true c5
    clear c5
    by_cases c6 : 0 ≤ x6_1
    ·rw [if_pos c6] at H
     have c6b0 : decide (0 ≤ x6_1) = true := decide_eq_true c6
     clear c6
     replace H := Option.bind_eq_some_iff.mp H
     obtain ⟨t105, A70, H⟩ := H
     replace H : ((spec_l05All.f k1 (rd l1 x6_1) t105).bind fun t106 => (if x5_1.length + t106.length < 17592186044416 then (spec_l05Norm.l0 k1 a0 l1 (x5_1 ++ t106) (wrap64 (x6_1 + 1))) else (none))) = some r := H
     have A7 := Aside0.mk A70
     clear A70
     replace H := Option.bind_eq_some_iff.mp H
     obtain ⟨t106, A80, H⟩ := H
     replace H : (if x5_1.length + t106.length < 17592186044416 then (spec_l05Norm.l0 k1 a0 l1 (x5_1 ++ t106) (wrap64 (x6_1 + 1))) else (none)) = some r := H
     have A8 := Aside0.mk A80
     clear A80
     by_cases c9 : x5_1.length + t106.length < 17592186044416
     ·rw [if_pos c9] at H
      have LMc9 := Aside0.mk c9
      clear c9
      obtain ⟨y109, hy109⟩ : ∃ y_ : List Int, y_ = (x5_1 ++ t106) := ⟨_, rfl⟩
      replace H : (spec_l05Norm.l0 k1 a0 l1 y109 (wrap64 (x6_1 + 1))) = some r := by first | (rw [hy109]; with_reducible exact H) | (have H2_ := (Option.bind_some _ _).symm.trans H; rw [hy109]; with_reducible exact H2_) | (have H2_ := (Option.bind_some _ _).symm.trans H; with_reducible exact H2_) | with_reducible exact H | (rw [hy109]; exact H) | exact H
      have Ny109 := Aside0.mk hy109
      clear hy109
      have H' := Aside0.mk H
      clear H
      try go_wp2
      have n0_ := Aside0.mk (Kd.R_drew HO_5.out)
      have n1_ := Aside0.mk (below_drew1 HB.out)
      clear HO_5
      clear HB
      have HO_5 := n0_
      have HB := n1_
      clear n0_ n1_
      have p104 : 0 ≤ (x6_1 : Int) := of_decide_eq_true (by first | (with_reducible assumption) | assumption)
      have q104 : x6_1 < (l1.length : Int) := of_decide_eq_true (by first | (with_reducible assumption) | assumption)
      obtain ⟨ad104, e104, hx104_0⟩ := Kd.at_int HR1.out x6_1 p104 q104
      have hw104_0 := hx104_0
      cases e104
      replace hx104_0 := (HB.out.cell (World.block_lt_of_cell? w _ hx104_0)).trans hx104_0
      replace p104 := eq_true p104
      replace q104 := eq_true q104
      refine start_ (n := 10) (S := fun w' => w'.cell? (ad104.add (x6_1).toNat) = some (.int .i64 (rd l1 x6_1))) (ds := []) #[false, false, false, false, false, false, false, false, false, false] (by kernel_rfl) rfl rfl (((HB.out.cell (World.block_lt_of_cell? w _ hw104_0)).trans hw104_0)) (fun hHeld => ?_); refine with_tabW spec_l05Norm.tab5 spec_l05Norm.bits5 (fun HT_ HW_ => ?_)
      generalize wr.drew = w10 at HO_5 HB hx104_0 hHeld ⊢
      refine pure_ (i := 0) (N := some 14) (v := ?_) (a' := ?_) #[true, false, false, false, false, false, false, false, false, false] rfl rfl (any_of HT_.out (by kernel_rfl)) (fun _ _ _ h => h) (Or.inl ⟨by rfl, ?_⟩) ?_ ?_
      rotate_left
      ·intro w'
       go_simp
       with_reducible rfl
      rotate_left
      ·simp only [Act.put, List.setIfInBounds_toArray, List.set_cons_zero, List.set_cons_succ, i64_w, i32_w]
       rfl
      refine pure_ (i := 1) (N := some 15) (v := ?_) (a' := ?_) #[true, true, false, false, false, false, false, false, false, false] rfl rfl (any_of HT_.out (by kernel_rfl)) (fun _ _ _ h => h) (Or.inl ⟨by rfl, ?_⟩) ?_ ?_
      rotate_left
      ·intro w'
       go_simp
       with_reducible rfl
      rotate_left
      ·simp only [Act.put, List.setIfInBounds_toArray, List.set_cons_zero, List.set_cons_succ, i64_w, i32_w]
       rfl
      refine pure_ (i := 2) (N := some 16) (v := ?_) (a' := ?_) #[true, true, true, false, false, false, false, false, false, false] rfl rfl (any_of HT_.out (by kernel_rfl)) (fun _ _ _ h => h) (Or.inl ⟨by rfl, ?_⟩) ?_ ?_
      rotate_left
      ·intro w'
       go_simp
       with_reducible rfl
      rotate_left
      ·simp only [Act.put, List.setIfInBounds_toArray, List.set_cons_zero, List.set_cons_succ, i64_w, i32_w]
       rfl
      refine pure_ (i := 3) (N := some 17) (v := ?_) (a' := ?_) #[true, true, true, true, false, false, false, false, false, false] rfl rfl (any_of HT_.out (by kernel_rfl)) (fun _ _ _ h => h) (Or.inl ⟨by rfl, ?_⟩) ?_ ?_
      rotate_left
      ·intro w'
       go_simp
       with_reducible rfl
      rotate_left
      ·simp only [Act.put, List.setIfInBounds_toArray, List.set_cons_zero, List.set_cons_succ, i64_w, i32_w]
       rfl
      refine pure_ (i := 5) (N := some 19) (v := ?_) (a' := ?_) #[true, true, true, true, false, true, false, false, false, false] rfl rfl (any_of HT_.out (by kernel_rfl)) (fun _ _ _ h => h) (Or.inl ⟨by rfl, ?_⟩) ?_ ?_
      rotate_left
      ·intro w'
       go_simp
       with_reducible rfl
      rotate_left
      ·simp only [Act.put, List.setIfInBounds_toArray, List.set_cons_zero, List.set_cons_succ, i64_w, i32_w]
       rfl
      refine take_ (i := 4) (N := some 18) (v := ?_) (a' := ?_) #[true, true, true, true, true, true, false, false, false, false] rfl rfl (take_ofW HT_.out HW_.out (by kernel_rfl)) (fun _ _ _ h => h) (Or.inl ⟨by rfl, ?_⟩) hHeld ?_ ?_
      rotate_left
      ·intro w' s0
       go_simp
       with_reducible rfl
      rotate_left
      ·simp only [Act.put, List.setIfInBounds_toArray, List.set_cons_zero, List.set_cons_succ, i64_w, i32_w]
       rfl
      refine one_ (i := 6) (N := some 20) #[true, true, true, true, true, true, true, false, false, false] rfl rfl (one_of HT_.out (by kernel_rfl)) (by decide) (fun K hK => ?_)
      refine goes_ Tryd.func158 (by kernel_rfl) rfl #[.int .i64 a0] (by rfl) rfl rfl (by (try simp only [List.map_toArray, List.map_cons, List.map_nil]); first | done | rfl | (simp only [List.length_drop, List.length_take]; rfl)) ?_
      with_reducible refine (spec_l05K.calls a0 t105 _ A7.out).mono ?_
      rintro e w' ⟨rfl, ⟨nd, rfl⟩⟩
      refine ⟨_, rfl, ?_⟩
      refine hK.out _ _ (((HB.out.cell (World.block_lt_of_cell? w _ hw104_0)).trans hw104_0)) (fun hHeld => ?_)
      clear hK K
      refine norm_ (a' := ?_) ?_ ?_
      rotate_left
      ·show Act.put _ (some 20) _ = _
       simp only [Act.put, List.setIfInBounds_toArray, List.set_cons_zero, List.set_cons_succ, i64_w, i32_w]
       rfl
      refine one_ (i := 7) (N := some 21) #[true, true, true, true, true, true, true, true, false, false] rfl rfl (one_of HT_.out (by kernel_rfl)) (by decide) (fun K hK => ?_)
      refine goes_ Tryd.func157 (by kernel_rfl) rfl #[.int .i64 (rd l1 x6_1), .bool t105] (by rfl) rfl rfl (by (try simp only [List.map_toArray, List.map_cons, List.map_nil]); first | done | rfl | (simp only [List.length_drop, List.length_take]; rfl)) ?_
      with_reducible refine (spec_l05All.calls k1 (rd l1 x6_1) t105 t106 _ A8.out).mono ?_
      rintro e w11 ⟨v107, rfl, ho0, hb⟩
      refine ⟨_, rfl, ?_⟩
      have n0_ := Aside0.mk (Kd.R_elder' (by (with_reducible repeat (first | apply Kd.R_alloc | apply Kd.R_drewN | apply Kd.R_drew)); exact HO_5.out) (Kd.R_base ho0) hb)
      have n1_ := Aside0.mk (Kd.R_lower (Kd.R_new' ho0 (Kd.R_lt (by (with_reducible repeat (first | apply Kd.R_alloc | apply Kd.R_drewN | apply Kd.R_drew)); exact HO_5.out))) (below_size (by repeat (first | (with_reducible first | exact HB.out | apply below_alloc | apply pw_below_drewN | apply below_drew1) | exact HB.out))))
      have n2_ := Aside0.mk (below_step (by repeat (first | (with_reducible first | exact HB.out | apply below_alloc | apply pw_below_drewN | apply below_drew1) | exact HB.out)) hb)
      clear HO_5
      clear HB
      have HO_5 := n0_
      have HO108 := n1_
      have HB := n2_
      clear n0_ n1_ n2_
      (try clear hb)
      (try clear hb2)
      (try clear hk)
      (try clear hi)
      (try clear ho0)
      obtain ⟨Ao13, co13, eo13⟩ := Kd.R_slice HO108.out
      (first | subst eo13 | (injection eo13 with f1_ f2_ f3_; have f4_ := f1_.symm; have f5_ := f3_.symm; clear f1_ f2_ f3_; subst f4_; subst f5_))
      refine hK.out _ _ (((HB.out.cell (World.block_lt_of_cell? w _ hw104_0)).trans hw104_0)) (fun hHeld => ?_)
      clear hK K
      refine norm_ (a' := ?_) ?_ ?_
      rotate_left
      ·show Act.put _ (some 21) _ = _
       simp only [Act.put, List.setIfInBounds_toArray, List.set_cons_zero, List.set_cons_succ, i64_w, i32_w]
       rfl
      refine one_ (i := 8) (N := some 22) #[true, true, true, true, true, true, true, true, true, false] rfl rfl (one_of HT_.out (by kernel_rfl)) (by decide) (fun K hK => ?_)
      refine Kd.R_append_rows_step (Kd.int .i64) (w0 := w) w.heap.size (by rfl) (.tmp 14) (.tmp 21) 35 2 (.int .i64 0) 8 rfl Tryd.underlying35 info2 rfl (by decide) (by omega) u5 x5_1 t106 _ _ _ (fun k_ => some k_ ≠ (.slice Ao13 t106.length co13 : Value).ownBlock) (fun _ => False) rfl rfl ?aO ?aR (fun _ _ h => h) (fun _ h => h.elim) ?aF ?aB ?aS ?aL ?_
      (case aR => repeat (first | exact (Kd.R_reads' HO108.out).2.2 | (with_reducible refine Kd.C_alloc ?_ _) | (with_reducible refine Kd.C_drewN ?_ _) | (with_reducible refine Kd.C_drew ?_)))
      (case aB => exact (by repeat (first | (with_reducible first | exact HB.out | apply below_alloc | apply pw_below_drewN | apply below_drew1) | exact HB.out)))
      (case aF => exact (fun k_ hk => Kd.fresh' (Kd.R_lt (by (with_reducible repeat (first | apply Kd.R_alloc | apply Kd.R_drewN | apply Kd.R_drew)); exact HO108.out)) k_ hk))
      (case aO => exact (by (with_reducible repeat (first | apply Kd.R_alloc | apply Kd.R_drewN | apply Kd.R_drew)); exact Kd.R_mono HO_5.out (fun _ hk => hk.2)))
      (case aS => exact (below_size (by repeat (first | (with_reducible first | exact HB.out | apply below_alloc | apply pw_below_drewN | apply below_drew1) | exact HB.out))))
      (case aL => have := LMc9.out; omega)
      intro v110 w12 ho hb hg hat
      rw [← Ny109.out] at ho
      have n0_ := Aside0.mk (Kd.R_after (ok := (fun _ => True)) (by (with_reducible repeat (first | apply Kd.R_alloc | apply Kd.R_drewN | apply Kd.R_drew)); exact HO108.out) hg hat)
      have n1_ := Aside0.mk (hb)
      have n2_ := Aside0.mk (ho)
      clear HO108
      clear HB
      clear HO_5
      have HO108 := n0_
      have HB := n1_
      have HO111 := n2_
      clear n0_ n1_ n2_
      clear ho hb hg hat
      refine hK.out _ _ (((HB.out.cell (World.block_lt_of_cell? w _ hw104_0)).trans hw104_0)) (fun hHeld => ?_)
      clear hK K
      refine norm_ (a' := ?_) ?_ ?_
      rotate_left
      ·show Act.put _ (some 22) _ = _
       simp only [Act.put, List.setIfInBounds_toArray, List.set_cons_zero, List.set_cons_succ, i64_w, i32_w]
       rfl
      refine pure_ (i := 9) (N := some 5) (v := ?_) (a' := ?_) #[true, true, true, true, true, true, true, true, true, true] rfl rfl (any_of HT_.out (by kernel_rfl)) (fun _ _ _ h => h) (Or.inl ⟨by rfl, ?_⟩) ?_ ?_
      rotate_left
      ·intro w'
       go_simp
       with_reducible rfl
      rotate_left
      ·simp only [Act.put, List.setIfInBounds_toArray, List.set_cons_zero, List.set_cons_succ, i64_w, i32_w]
       rfl
      refine done_ (done_of HT_.out (by kernel_rfl)) ?_
      try go_wp2
      go_roundg k1
      case measure => have := HK1.out; omega
      case rel => exact ⟨(y109), (wrap64 (x6_1 + 1)), (by first | rfl | (simp; done) | (simp [*]; done)), H', ⟨by have := HK1.out; omega⟩, ⟨by (with_reducible repeat (first | apply Kd.R_alloc | apply Kd.R_drewN | apply Kd.R_drew)); exact Kd.R_mono HO111.out (fun _ hk => trivial)⟩, ⟨by repeat (first | (with_reducible first | exact HB.out | apply below_alloc | apply pw_below_drewN | apply below_drew1) | exact HB.out)⟩⟩
     ·rw [if_neg c9] at H
      exact absurd H (by simp)
    ·rw [if_neg c6] at H
     exact absurd H (by simp)
   ·rw [if_neg c5] at H
    have c5b0 : decide (x6_1 < (l1.length : Int)) = false := decide_eq_false c5
    clear c5
    replace H := Option.bind_eq_some_iff.mp H
    obtain ⟨t112, A140, H⟩ := H
    replace H : ((spec_l05C.f a0).bind fun t115 => (if t115 = true then ((spec_l05Composed.f k1 t112).bind fun t116 => (some t116)) else (some t112))) = some r := H
    have A14 := Aside0.mk A140
    clear A140
    replace H := Option.bind_eq_some_iff.mp H
    obtain ⟨t115, A150, H⟩ := H
    replace H : (if t115 = true then ((spec_l05Composed.f k1 t112).bind fun t116 => (some t116)) else (some t112)) = some r := H
    have A15 := Aside0.mk A150
    clear A150
    by_cases c16 : t115 = true
    ·subst c16
     have H1 : ((spec_l05Composed.f k1 t112).bind fun t116 => (some t116)) = some r := by rw [if_pos rfl] at H; exact H
     clear H
     have H := H1
     clear H1
     replace H := Option.bind_eq_some_iff.mp H
     obtain ⟨t116, A170, H⟩ := H
     replace H : (some t116) = some r := H
     have A17 := Aside0.mk A170
     clear A170
     obtain rfl := Option.some.inj H
     obtain ⟨Ao18, co18, eo18⟩ := Kd.R_slice HO_5.out
     subst eo18
     go_wp2_with (first | ((with_reducible refine gate_callee (f := 159) rfl ?_); refine goesL_ (some 24) rfl rfl Tryd.func159 (by kernel_rfl) rfl #[.slice Ao18 x5_1.length co18] rfl (by (try simp only [List.map_toArray, List.map_cons, List.map_nil]); first | done | rfl | (simp only [List.length_drop, List.length_take]; rfl)) ?_; (with_reducible refine (spec_l05Ordered.calls k1 _ _ x5_1 t112 _ ?side1 ?side2 A14.out).mono ?_); (case side1 => repeat (first | exact (Kd.R_reads' HO_5.out).2.2 | (with_reducible refine Kd.C_alloc ?_ _) | (with_reducible refine Kd.C_drewN ?_ _) | (with_reducible refine Kd.C_drew ?_))); (case side2 => exact (Kd.R_reads' HO_5.out).2.1); rintro e w19 ⟨v113, rfl, ho0, hb⟩; refine ⟨_, rfl, ?_⟩; have n0_ := Aside0.mk (Kd.R_elder' (by (with_reducible repeat (first | apply Kd.R_alloc | apply Kd.R_drewN | apply Kd.R_drew)); exact HO_5.out) (Kd.R_base ho0) hb); have n1_ := Aside0.mk (Kd.R_lower (Kd.R_new' ho0 (Kd.R_lt (by (with_reducible repeat (first | apply Kd.R_alloc | apply Kd.R_drewN | apply Kd.R_drew)); exact HO_5.out))) (below_size (by repeat (first | (with_reducible first | exact HB.out | apply below_alloc | apply pw_below_drewN | apply below_drew1) | exact HB.out)))); have n2_ := Aside0.mk (below_step (by repeat (first | (with_reducible first | exact HB.out | apply below_alloc | apply pw_below_drewN | apply below_drew1) | exact HB.out)) hb); clear HO_5; clear HB; have HO_5 := n0_; have HO114 := n1_; have HB := n2_; clear n0_ n1_ n2_; (try clear hb); (try clear hb2); (try clear hk); (try clear hi); (try clear ho0)) | ((with_reducible refine gate_callee (f := 160) rfl ?_); refine goesL_ (some 26) rfl rfl Tryd.func160 (by kernel_rfl) rfl #[.int .i64 a0] rfl (by (try simp only [List.map_toArray, List.map_cons, List.map_nil]); first | done | rfl | (simp only [List.length_drop, List.length_take]; rfl)) ?_; (with_reducible refine (spec_l05C.calls a0 true _ A15.out).mono ?_); rintro e w' ⟨rfl, ⟨nd, rfl⟩⟩; refine ⟨_, rfl, ?_⟩; obtain ⟨Ao20, co20, eo20⟩ := Kd.R_slice HO114.out; subst eo20) | ((with_reducible refine gate_callee (f := 161) rfl ?_); refine goesL_ (some 28) rfl rfl Tryd.func161 (by kernel_rfl) rfl #[.slice Ao20 t112.length co20] rfl (by (try simp only [List.map_toArray, List.map_cons, List.map_nil]); first | done | rfl | (simp only [List.length_drop, List.length_take]; rfl)) ?_; (with_reducible refine (spec_l05Composed.calls k1 _ _ t112 t116 _ ?side1 ?side2 A17.out).mono ?_); (case side1 => repeat (first | exact (Kd.R_reads' HO114.out).2.2 | (with_reducible refine Kd.C_alloc ?_ _) | (with_reducible refine Kd.C_drewN ?_ _) | (with_reducible refine Kd.C_drew ?_))); (case side2 => exact (Kd.R_reads' HO114.out).2.1); rintro e w21 ⟨v117, rfl, ho0, hb⟩; refine ⟨_, rfl, ?_⟩; have n0_ := Aside0.mk (Kd.R_elder' (by (with_reducible repeat (first | apply Kd.R_alloc | apply Kd.R_drewN | apply Kd.R_drew)); exact HO_5.out) (Kd.R_base ho0) hb); have n1_ := Aside0.mk (Kd.R_elder' (by (with_reducible repeat (first | apply Kd.R_alloc | apply Kd.R_drewN | apply Kd.R_drew)); exact HO114.out) (Kd.R_base ho0) hb); have n2_ := Aside0.mk (Kd.R_lower (Kd.R_new' (Kd.R_new' ho0 (Kd.R_lt (by (with_reducible repeat (first | apply Kd.R_alloc | apply Kd.R_drewN | apply Kd.R_drew)); exact HO_5.out))) (Kd.R_lt (by (with_reducible repeat (first | apply Kd.R_alloc | apply Kd.R_drewN | apply Kd.R_drew)); exact HO114.out))) (below_size (by repeat (first | (with_reducible first | exact HB.out | apply below_alloc | apply pw_below_drewN | apply below_drew1) | exact HB.out)))); have n3_ := Aside0.mk (below_step (by repeat (first | (with_reducible first | exact HB.out | apply below_alloc | apply pw_below_drewN | apply below_drew1) | exact HB.out)) hb); clear HO_5; clear HO114; clear HB; have HO_5 := n0_; have HO114 := n1_; have HO118 := n2_; have HB := n3_; clear n0_ n1_ n2_ n3_; (try clear hb); (try clear hb2); (try clear hk); (try clear hi); (try clear ho0)))
     go_ret
     exact ⟨_, by first | rfl | (simp [errW_none, errW_some] <;> rfl) | (simp [*, errW_none, errW_some] <;> rfl), by (with_reducible repeat (first | apply Kd.R_alloc | apply Kd.R_drewN | apply Kd.R_drew)); exact Kd.R_mono HO118.out (fun _ hk => trivial), by repeat (first | (with_reducible first | exact HB.out | apply below_alloc | apply pw_below_drewN | apply below_drew1) | exact HB.out)⟩
    ·replace c16 := Bool.eq_false_iff.mpr c16
     subst c16
     have H1 : (some t112) = some r := by rw [if_neg (show ¬ (false = true) by decide)] at H; exact H
     clear H
     have H := H1
     clear H1
     obtain rfl := Option.some.inj H
     obtain ⟨Ao22, co22, eo22⟩ := Kd.R_slice HO_5.out
     subst eo22
     go_wp2_with (first | ((with_reducible refine gate_callee (f := 159) rfl ?_); refine goesL_ (some 24) rfl rfl Tryd.func159 (by kernel_rfl) rfl #[.slice Ao22 x5_1.length co22] rfl (by (try simp only [List.map_toArray, List.map_cons, List.map_nil]); first | done | rfl | (simp only [List.length_drop, List.length_take]; rfl)) ?_; (with_reducible refine (spec_l05Ordered.calls k1 _ _ x5_1 t112 _ ?side1 ?side2 A14.out).mono ?_); (case side1 => repeat (first | exact (Kd.R_reads' HO_5.out).2.2 | (with_reducible refine Kd.C_alloc ?_ _) | (with_reducible refine Kd.C_drewN ?_ _) | (with_reducible refine Kd.C_drew ?_))); (case side2 => exact (Kd.R_reads' HO_5.out).2.1); rintro e w23 ⟨v113, rfl, ho0, hb⟩; refine ⟨_, rfl, ?_⟩; have n0_ := Aside0.mk (Kd.R_elder' (by (with_reducible repeat (first | apply Kd.R_alloc | apply Kd.R_drewN | apply Kd.R_drew)); exact HO_5.out) (Kd.R_base ho0) hb); have n1_ := Aside0.mk (Kd.R_lower (Kd.R_new' ho0 (Kd.R_lt (by (with_reducible repeat (first | apply Kd.R_alloc | apply Kd.R_drewN | apply Kd.R_drew)); exact HO_5.out))) (below_size (by repeat (first | (with_reducible first | exact HB.out | apply below_alloc | apply pw_below_drewN | apply below_drew1) | exact HB.out)))); have n2_ := Aside0.mk (below_step (by repeat (first | (with_reducible first | exact HB.out | apply below_alloc | apply pw_below_drewN | apply below_drew1) | exact HB.out)) hb); clear HO_5; clear HB; have HO_5 := n0_; have HO114 := n1_; have HB := n2_; clear n0_ n1_ n2_; (try clear hb); (try clear hb2); (try clear hk); (try clear hi); (try clear ho0)) | ((with_reducible refine gate_callee (f := 160) rfl ?_); refine goesL_ (some 26) rfl rfl Tryd.func160 (by kernel_rfl) rfl #[.int .i64 a0] rfl (by (try simp only [List.map_toArray, List.map_cons, List.map_nil]); first | done | rfl | (simp only [List.length_drop, List.length_take]; rfl)) ?_; (with_reducible refine (spec_l05C.calls a0 false _ A15.out).mono ?_); rintro e w' ⟨rfl, ⟨nd, rfl⟩⟩; refine ⟨_, rfl, ?_⟩))
     go_ret
     exact ⟨_, by first | rfl | (simp [errW_none, errW_some] <;> rfl) | (simp [*, errW_none, errW_some] <;> rfl), by (with_reducible repeat (first | apply Kd.R_alloc | apply Kd.R_drewN | apply Kd.R_drew)); exact Kd.R_mono HO114.out (fun _ hk => trivial), by repeat (first | (with_reducible first | exact HB.out | apply below_alloc | apply pw_below_drewN | apply below_drew1) | exact HB.out)⟩
end Go.Proofs.YtepeeahckgpapaaDoor.Q
end
section
set_option linter.unusedVariables false
set_option linter.unusedSimpArgs false
namespace Go.Proofs.YtepeeahckgpapaaDoor.Q
open Go.RowKit Go.Sort Go.Proofs.YtepeeahckgpapaaDoorW.PrintWords Go.Proofs.YtepeeahckgpapaaDoorW.PrintLast Go.Proofs.YtepeeahckgpapaaDoorW.PrintMore
theorem sortSub_run (pre run rest : List Int) : sortSub (pre ++ (run ++ rest)) pre.length (pre.length + run.length) = pre ++ ((insAll (ltOf clsCmp) [] run).reverse ++ rest) := by
  have e := stable_eq_ins swoC run
  have e1 : ((pre ++ (run ++ rest)).drop pre.length).take (pre.length + run.length - pre.length) = run := by
    rw [List.drop_left', show pre.length + run.length - pre.length = run.length from by omega, List.take_left']
    · rfl
    · rfl
  have e2 : (pre ++ (run ++ rest)).drop (pre.length + run.length) = rest := by
    rw [← List.append_assoc]
    exact List.drop_left' (by simp)
  unfold sortSub
  rw [e1, e2, show pre.length + run.length - pre.length = run.length from by omega, e, List.take_left' rfl, List.append_assoc]
theorem virt_eq (X : List Int) (i n : Nat) (h1 : i ≤ n) (h2 : n ≤ X.length) (h3 : X.length < 17592186044416) (h4 : 0 < X.length) :
    virt_sortSub.f X (i : Int) (n : Int) = some (sortSub X i n) := by
  unfold virt_sortSub.f
  rw [if_pos ⟨by omega, by omega, by omega, h3, h4⟩]
  simp
theorem impl_run (pre rest : List Int) (r : List Int) (hrest : ∀ z ∈ rest.head?, clsV z = 0) :
    ∀ (run done : List Int), (∀ x ∈ run, clsV x ≠ 0) → (pre ++ ((done ++ run) ++ rest)).length < 17592186044416 → 0 < (pre ++ ((done ++ run) ++ rest)).length →
    Ev (fun k => impl_normal.l1 k 1 (sortSub (pre ++ ((done ++ run) ++ rest)) pre.length (pre.length + (done ++ run).length)) (mx ((pre.length + (done ++ run).length : Nat) : Int) (wrap64 ((pre.length : Int) + 1)))) r →
    Ev (fun k => impl_normal.l2 k 1 (pre ++ ((done ++ run) ++ rest)) (pre.length : Int) ((pre.length + done.length : Nat) : Int)) r := by
  intro run
  induction run with
  | nil =>
    intro done _ hl h0 h
    rw [List.append_nil] at *
    refine Ev.succ (h.congr fun k => ?_)
    have vs := virt_eq (pre ++ (done ++ rest)) pre.length (pre.length + done.length) (by omega) (by simp) hl h0
    cases rest with
    | nil =>
      simp only [impl_normal.l2, vs, Option.bind_some]
      rw [if_neg (by simp)]
    | cons z rest =>
      have hz : clsV z = 0 := hrest z (by simp)
      have rz : rd (pre ++ (done ++ z :: rest)) ((pre.length + done.length : Nat) : Int) = z := by
        have := rd_at' (pre ++ done) z rest ((pre.length + done.length : Nat) : Int) (by simp)
        rwa [List.append_assoc] at this
      simp only [impl_normal.l2, rz, clsV_eq, vs, Option.bind_some]
      rw [if_pos (by simp; omega), if_pos (by omega), if_pos hz]
  | cons x xs ih =>
    intro done hx hl h0 h
    have e : done ++ x :: xs = (done ++ [x]) ++ xs := by simp
    rw [e] at h hl h0 ⊢
    have W := ih (done ++ [x]) (fun y hy => hx y (by simp [hy])) hl h0 h
    refine Ev.succ (W.congr fun k => ?_)
    have rz : rd (pre ++ (((done ++ [x]) ++ xs) ++ rest)) ((pre.length + done.length : Nat) : Int) = x := by
      have := rd_at' (pre ++ done) x (xs ++ rest) ((pre.length + done.length : Nat) : Int) (by simp)
      simpa [List.append_assoc] using this
    have hlen : pre.length + done.length < (pre ++ (((done ++ [x]) ++ xs) ++ rest)).length := by simp
    simp only [impl_normal.l2, rz, clsV_eq, Option.bind_some]
    rw [if_pos (by omega), if_pos (by omega), if_neg (hx x (by simp))]
    congr 1
    rw [wrap64_id (by omega) (by omega)]
    simp
    omega
theorem insR_len (x : Int) : ∀ r : List Int, (insR (ltOf clsCmp) x r).length = r.length + 1 := by
  intro r
  induction r with
  | nil => rfl
  | cons y ys ih => rw [insR]; split <;> simp [ih]
theorem insAll_len : ∀ (l acc : List Int), (insAll (ltOf clsCmp) acc l).length = acc.length + l.length := by
  intro l
  induction l with
  | nil => intro acc; rfl
  | cons x xs ih =>
    intro acc
    have := ih (insR (ltOf clsCmp) x acc)
    rw [insR_len] at this
    simp only [insAll, List.foldl_cons] at this ⊢
    rw [this]; simp; omega
theorem impl_order : ∀ (n : Nat) (l pre : List Int), l.length ≤ n → (pre ++ l).length < 17592186044416 →
    Ev (fun k => impl_normal.l1 k 1 (pre ++ l) (pre.length : Int)) (pre ++ (ordR [] l).reverse) := by
  intro n
  induction n with
  | zero =>
    intro l pre h hl
    have : l = [] := List.eq_nil_of_length_eq_zero (by omega)
    subst this
    refine ⟨2, fun k hk => ?_⟩
    obtain ⟨k, rfl⟩ : ∃ q, k = q + 2 := ⟨k - 2, by omega⟩
    simp only [impl_normal.l1, impl_normal.j3, List.append_nil, ordR_nil, List.reverse_nil, if_true]
    rw [if_neg (by omega)]
  | succ n ih =>
    intro l pre h hl
    cases hc : l with
    | nil => subst hc; exact ih [] pre (by simp) hl
    | cons x xs =>
      rw [← hc]
      have hsplit : l = l.takeWhile (fun p => decide (clsV p ≠ 0)) ++ l.dropWhile (fun p => decide (clsV p ≠ 0)) := (List.takeWhile_append_dropWhile).symm
      obtain ⟨run, hrun⟩ : ∃ run, run = l.takeWhile (fun p => decide (clsV p ≠ 0)) := ⟨_, rfl⟩
      obtain ⟨rest, hrest⟩ : ∃ rest, rest = l.dropWhile (fun p => decide (clsV p ≠ 0)) := ⟨_, rfl⟩
      rw [← hrun, ← hrest] at hsplit
      have h1 : ∀ y ∈ run, clsV y ≠ 0 := by
        intro y hy
        rw [hrun] at hy
        have := List.all_eq_true.1 (List.all_takeWhile (p := fun p => decide (clsV p ≠ 0)) (l := l)) y hy
        simpa using this
      have h2 : ∀ z ∈ rest.head?, clsV z = 0 := by
        intro z hz
        rw [hrest, Option.mem_def] at hz
        have := List.head?_dropWhile_not (fun p => decide (clsV p ≠ 0)) l
        rw [hz] at this
        simpa using this
      have hlen : run.length + rest.length = l.length := by
        have := congrArg List.length hsplit; rw [List.length_append] at this; exact this.symm
      have hln : 0 < l.length := by rw [hc]; simp
      have hpl : pre.length + l.length < 17592186044416 := by simpa using hl
      have key : Ev (fun k => impl_normal.l1 k 1 (sortSub (pre ++ (run ++ rest)) pre.length (pre.length + run.length)) (mx ((pre.length + run.length : Nat) : Int) (wrap64 ((pre.length : Int) + 1)))) (pre ++ (ordR [] l).reverse) := by
        rw [sortSub_run, wrap64_id (by omega) (by omega)]
        have eo : ordR [] l = ordR [] rest ++ insAll (ltOf clsCmp) [] run := by
          rw [hsplit, ordR_run run rest h1 [], ordR_zero _ rest h2]
        by_cases cr : run = []
        ·
          subst cr
          cases hcr : rest with
          | nil => rw [hcr] at hlen; simp at hlen; omega
          | cons z zs =>
            have hz : clsV z = 0 := h2 z (by rw [hcr]; simp)
            have W := ih zs (pre ++ [z]) (by rw [hcr] at hlen; simp at hlen; omega) (by rw [hcr] at hlen; simp at hlen ⊢; omega)
            have e1 : mx ((pre.length + ([] : List Int).length : Nat) : Int) ((pre.length : Int) + 1) = ((pre ++ [z]).length : Int) := by
              unfold mx
              simp only [List.length_nil, Nat.add_zero, List.length_append, List.length_singleton]
              rw [if_pos (by omega)]; simp
            rw [e1]
            rw [eo, hcr]
            have e2 : ordR [] (z :: zs) = ordR [] zs ++ [z] := by
              rw [ordR_cons]
              have : ordStep [] z = [z] := by unfold ordStep; rw [if_pos hz]
              rw [this]
              have := ordR_app z [] hz zs []
              simpa using this
            rw [e2]
            simpa [insAll] using W
        · have hrl : 0 < run.length := List.length_pos_iff.2 cr
          have W := ih rest (pre ++ (insAll (ltOf clsCmp) [] run).reverse) (by omega) (by simp [insAll_len]; omega)
          have e1 : mx ((pre.length + run.length : Nat) : Int) ((pre.length : Int) + 1) = ((pre ++ (insAll (ltOf clsCmp) [] run).reverse).length : Int) := by
            unfold mx
            rw [if_neg (by omega)]
            simp [insAll_len]
          rw [e1, eo]
          simpa [List.append_assoc] using W
      have W := impl_run pre rest _ h2 run [] h1 (by rw [List.nil_append, ← hsplit]; exact hl) (by rw [List.nil_append, ← hsplit]; simp; omega) (by rw [List.nil_append]; exact key)
      rw [List.nil_append, ← hsplit] at W
      refine Ev.succ (W.congr fun k => ?_)
      simp only [impl_normal.l1]
      rw [if_pos (by simp; omega)]
      rfl
end Go.Proofs.YtepeeahckgpapaaDoor.Q
end
section
namespace Go.Proofs.YtepeeahckgpapaaDoor.Q
open Go.RowKit Go.Proofs.YtepeeahckgpapaaDoorW.PrintWords Go.Proofs.YtepeeahckgpapaaDoorW.PrintLast Go.Proofs.YtepeeahckgpapaaDoorW.PrintMore
set_option linter.unusedSimpArgs false
def findRow (p : Int) : List S225 → Int × Int
  | [] => (0, 0)
  | r :: rs => if p ≥ r.f0 then (if p ≤ r.f1 then (r.f2, r.f3) else findRow p rs) else findRow p rs
theorem findRow_skip {p : Int} (r : S225) (rs : List S225) (h : p < r.f0 ∨ r.f1 < p) : findRow p (r :: rs) = findRow p rs := by
  simp only [findRow]
  split
  · split
    · omega
    · rfl
  · rfl
theorem findRow_hit {p : Int} (r : S225) (rs : List S225) (h1 : r.f0 ≤ p) (h2 : p ≤ r.f1) : findRow p (r :: rs) = (r.f2, r.f3) := by
  simp only [findRow]
  rw [if_pos h1, if_pos h2]
theorem known_l1 (p : Int) : ∀ (rs pre : List S225) (k : Nat), rs.length + 1 ≤ k → (pre ++ rs).length < 4611686018427387904 →
    spec_l01Known.l1 k p (pre ++ rs) (pre.length : Int) = some (findRow p rs) := by
  intro rs
  induction rs with
  | nil =>
    intro pre k hk _
    obtain ⟨k, rfl⟩ := Nat.le.dest hk
    simp only [List.length_nil, Nat.zero_add, Nat.add_comm 1 k, spec_l01Known.l1, List.append_nil, Int.lt_irrefl, if_false, findRow]
  | cons r rs ih =>
    intro pre k hk hl
    obtain ⟨k, rfl⟩ := Nat.le.dest hk
    have hlen : (pre ++ r :: rs).length = pre.length + rs.length + 1 := by simp; omega
    have e : rd_T225 (pre ++ r :: rs) (pre.length : Int) = r := by simp [rd_T225]
    have e2 : wrap64 ((pre.length : Int) + 1) = ((pre ++ [r]).length : Int) := by
      rw [wrap64_id (by omega) (by omega)]; simp
    have e3 := ih (pre ++ [r]) (rs.length + 1 + k) (by omega) (by simpa using hl)
    rw [List.append_assoc, List.singleton_append] at e3
    have : (r :: rs).length + 1 + k = (rs.length + 1 + k) + 1 := by simp; omega
    rw [this]
    simp only [spec_l01Known.l1, e, e2, e3, findRow]
    rw [if_pos (by rw [hlen]; omega), if_pos (by omega)]
    split
    · split <;> rfl
    · rfl
theorem kind_r0 {p : Int} (h1 : 4160 ≤ p) (h2 : p ≤ 7679) : ∃ s t, impl_kind.f 20 p = some (0, s) ∧ spec_l01Known.f 60 p = some (0, t) := by
  have eb : impl_block.f p = some (0, 0) := by simp (disch := omega) only [impl_block.f, if_pos, if_neg]
  have e0 : impl_in.f p 0 31 = some false := by simp only [impl_in.f]; split <;> simp <;> omega
  have e33 : impl_in.f p 33 126 = some false := by simp only [impl_in.f]; split <;> simp <;> omega
  have e48 : impl_in.f p 48 57 = some false := by simp only [impl_in.f]; split <;> simp <;> omega
  have e65 : impl_in.f p 65 90 = some false := by simp only [impl_in.f]; split <;> simp <;> omega
  have e97 : impl_in.f p 97 122 = some false := by simp only [impl_in.f]; split <;> simp <;> omega
  have e127 : impl_in.f p 127 159 = some false := by simp only [impl_in.f]; split <;> simp <;> omega
  have e161 : impl_in.f p 161 191 = some false := by simp only [impl_in.f]; split <;> simp <;> omega
  have e1280 : impl_in.f p 1280 1311 = some false := by simp only [impl_in.f]; split <;> simp <;> omega
  have e1360 : impl_in.f p 1360 1369 = some false := by simp only [impl_in.f]; split <;> simp <;> omega
  have e1536 : impl_in.f p 1536 1567 = some false := by simp only [impl_in.f]; split <;> simp <;> omega
  have e1568 : impl_in.f p 1568 1579 = some false := by simp only [impl_in.f]; split <;> simp <;> omega
  have e1616 : impl_in.f p 1616 1625 = some false := by simp only [impl_in.f]; split <;> simp <;> omega
  have e1792 : impl_in.f p 1792 1810 = some false := by simp only [impl_in.f]; split <;> simp <;> omega
  have e1824 : impl_in.f p 1824 1844 = some false := by simp only [impl_in.f]; split <;> simp <;> omega
  have e1857 : impl_in.f p 1857 1883 = some false := by simp only [impl_in.f]; split <;> simp <;> omega
  have e2048 : impl_in.f p 2048 2095 = some false := by simp only [impl_in.f]; split <;> simp <;> omega
  have e4096 : impl_in.f p 4096 4159 = some false := by simp only [impl_in.f]; split <;> simp <;> omega
  have e7680 : impl_in.f p 7680 7748 = some false := by simp only [impl_in.f]; split <;> simp <;> omega
  have e7760 : impl_in.f p 7760 7785 = some false := by simp only [impl_in.f]; split <;> simp <;> omega
  have e7936 : impl_in.f p 7936 7947 = some false := by simp only [impl_in.f]; split <;> simp <;> omega
  have e8192 : impl_in.f p 8192 9631 = some false := by simp only [impl_in.f]; split <;> simp <;> omega
  have e9728 : impl_in.f p 9728 9753 = some false := by simp only [impl_in.f]; split <;> simp <;> omega
  have e9984 : impl_in.f p 9984 10009 = some false := by simp only [impl_in.f]; split <;> simp <;> omega
  have e10016 : impl_in.f p 10016 10025 = some false := by simp only [impl_in.f]; split <;> simp <;> omega
  have e10032 : impl_in.f p 10032 10035 = some false := by simp only [impl_in.f]; split <;> simp <;> omega
  have e12288 : impl_in.f p 12288 23459 = some false := by simp only [impl_in.f]; split <;> simp <;> omega
  have e24576 : impl_in.f p 24576 26623 = some false := by simp only [impl_in.f]; split <;> simp <;> omega
  have n1 : (p = 32) = False := eq_false (by omega)
  have n2 : (p = 160) = False := eq_false (by omega)
  have n3 : (p = 173) = False := eq_false (by omega)
  have n4 : (p = 7953) = False := eq_false (by omega)
  have n5 : (p == 8064) = false := beq_eq_false_iff_ne.mpr (by omega)
  have n6 : (p == 7954) = false := beq_eq_false_iff_ne.mpr (by omega)
  have n7 : (p = 1584) = False := eq_false (by omega)
  have n8 : (p == 1585) = false := beq_eq_false_iff_ne.mpr (by omega)
  refine ⟨0, 0, ?_, ?_⟩
  · simp only [impl_kind.f, impl_kind.j2, impl_kind.j3, impl_kind.j4, impl_kind.j5, impl_kind.j6, impl_kind.j7, impl_kind.j8, impl_kind.j9, eb, e0, e33, e48, e65, e97, e127, e161, e1280, e1360, e1536, e1568, e1616, e1792, e1824, e1857, e2048, e4096, e7680, e7760, e7936, e8192, e9728, e9984, e10016, e10032, e12288, e24576, n1, n2, n3, n4, n5, n6, n7, n8, Option.bind_some, Int.lt_irrefl, gt_iff_lt, Bool.false_eq_true, ↓reduceIte]
  · have q1 : (p ≥ 512) = True := eq_true (by omega)
    have q2 : decide (p < 1280) = false := decide_eq_false (by omega)
    have q3 : (p ≥ 8192) = False := eq_false (by omega)
    simp only [spec_l01Known.f, spec_l01Known.j0, spec_l01Known.j2, spec_l01Rows.f, q1, q2, q3, Option.bind_some, Bool.false_eq_true, ↓reduceIte]
    refine (known_l1 p _ [] _ (by decide) (by decide)).trans ?_
    refine congrArg some ?_
    repeat (refine (findRow_skip _ _ (by dsimp only; omega)).trans ?_)
    first | rfl | exact findRow_hit _ _ (by dsimp only; omega) (by dsimp only; omega)
theorem kind_r1 {p : Int} (h1 : 10036 ≤ p) (h2 : p ≤ 12287) : ∃ s t, impl_kind.f 20 p = some (0, s) ∧ spec_l01Known.f 60 p = some (0, t) := by
  have eb : impl_block.f p = some (0, 0) := by simp (disch := omega) only [impl_block.f, if_pos, if_neg]
  have e0 : impl_in.f p 0 31 = some false := by simp only [impl_in.f]; split <;> simp <;> omega
  have e33 : impl_in.f p 33 126 = some false := by simp only [impl_in.f]; split <;> simp <;> omega
  have e48 : impl_in.f p 48 57 = some false := by simp only [impl_in.f]; split <;> simp <;> omega
  have e65 : impl_in.f p 65 90 = some false := by simp only [impl_in.f]; split <;> simp <;> omega
  have e97 : impl_in.f p 97 122 = some false := by simp only [impl_in.f]; split <;> simp <;> omega
  have e127 : impl_in.f p 127 159 = some false := by simp only [impl_in.f]; split <;> simp <;> omega
  have e161 : impl_in.f p 161 191 = some false := by simp only [impl_in.f]; split <;> simp <;> omega
  have e1280 : impl_in.f p 1280 1311 = some false := by simp only [impl_in.f]; split <;> simp <;> omega
  have e1360 : impl_in.f p 1360 1369 = some false := by simp only [impl_in.f]; split <;> simp <;> omega
  have e1536 : impl_in.f p 1536 1567 = some false := by simp only [impl_in.f]; split <;> simp <;> omega
  have e1568 : impl_in.f p 1568 1579 = some false := by simp only [impl_in.f]; split <;> simp <;> omega
  have e1616 : impl_in.f p 1616 1625 = some false := by simp only [impl_in.f]; split <;> simp <;> omega
  have e1792 : impl_in.f p 1792 1810 = some false := by simp only [impl_in.f]; split <;> simp <;> omega
  have e1824 : impl_in.f p 1824 1844 = some false := by simp only [impl_in.f]; split <;> simp <;> omega
  have e1857 : impl_in.f p 1857 1883 = some false := by simp only [impl_in.f]; split <;> simp <;> omega
  have e2048 : impl_in.f p 2048 2095 = some false := by simp only [impl_in.f]; split <;> simp <;> omega
  have e4096 : impl_in.f p 4096 4159 = some false := by simp only [impl_in.f]; split <;> simp <;> omega
  have e7680 : impl_in.f p 7680 7748 = some false := by simp only [impl_in.f]; split <;> simp <;> omega
  have e7760 : impl_in.f p 7760 7785 = some false := by simp only [impl_in.f]; split <;> simp <;> omega
  have e7936 : impl_in.f p 7936 7947 = some false := by simp only [impl_in.f]; split <;> simp <;> omega
  have e8192 : impl_in.f p 8192 9631 = some false := by simp only [impl_in.f]; split <;> simp <;> omega
  have e9728 : impl_in.f p 9728 9753 = some false := by simp only [impl_in.f]; split <;> simp <;> omega
  have e9984 : impl_in.f p 9984 10009 = some false := by simp only [impl_in.f]; split <;> simp <;> omega
  have e10016 : impl_in.f p 10016 10025 = some false := by simp only [impl_in.f]; split <;> simp <;> omega
  have e10032 : impl_in.f p 10032 10035 = some false := by simp only [impl_in.f]; split <;> simp <;> omega
  have e12288 : impl_in.f p 12288 23459 = some false := by simp only [impl_in.f]; split <;> simp <;> omega
  have e24576 : impl_in.f p 24576 26623 = some false := by simp only [impl_in.f]; split <;> simp <;> omega
  have n1 : (p = 32) = False := eq_false (by omega)
  have n2 : (p = 160) = False := eq_false (by omega)
  have n3 : (p = 173) = False := eq_false (by omega)
  have n4 : (p = 7953) = False := eq_false (by omega)
  have n5 : (p == 8064) = false := beq_eq_false_iff_ne.mpr (by omega)
  have n6 : (p == 7954) = false := beq_eq_false_iff_ne.mpr (by omega)
  have n7 : (p = 1584) = False := eq_false (by omega)
  have n8 : (p == 1585) = false := beq_eq_false_iff_ne.mpr (by omega)
  refine ⟨0, 0, ?_, ?_⟩
  · simp only [impl_kind.f, impl_kind.j2, impl_kind.j3, impl_kind.j4, impl_kind.j5, impl_kind.j6, impl_kind.j7, impl_kind.j8, impl_kind.j9, eb, e0, e33, e48, e65, e97, e127, e161, e1280, e1360, e1536, e1568, e1616, e1792, e1824, e1857, e2048, e4096, e7680, e7760, e7936, e8192, e9728, e9984, e10016, e10032, e12288, e24576, n1, n2, n3, n4, n5, n6, n7, n8, Option.bind_some, Int.lt_irrefl, gt_iff_lt, Bool.false_eq_true, ↓reduceIte]
  · have q1 : (p ≥ 512) = True := eq_true (by omega)
    have q2 : decide (p < 1280) = false := decide_eq_false (by omega)
    have q3 : (p ≥ 8192) = True := eq_true (by omega)
    have q4 : decide (p < 9728) = false := decide_eq_false (by omega)
    simp only [spec_l01Known.f, spec_l01Known.j0, spec_l01Known.j2, spec_l01Rows.f, q1, q2, q3, q4, Option.bind_some, Bool.false_eq_true, ↓reduceIte]
    refine (known_l1 p _ [] _ (by decide) (by decide)).trans ?_
    refine congrArg some ?_
    repeat (refine (findRow_skip _ _ (by dsimp only; omega)).trans ?_)
    first | rfl | exact findRow_hit _ _ (by dsimp only; omega) (by dsimp only; omega)
theorem kind_r2 {p : Int} (h1 : 12288 ≤ p) (h2 : p ≤ 23459) : ∃ s t, impl_kind.f 20 p = some (7, s) ∧ spec_l01Known.f 60 p = some (7, t) := by
  have eb : impl_block.f p = some (0, 0) := by simp (disch := omega) only [impl_block.f, if_pos, if_neg]
  have e0 : impl_in.f p 0 31 = some false := by simp only [impl_in.f]; split <;> simp <;> omega
  have e33 : impl_in.f p 33 126 = some false := by simp only [impl_in.f]; split <;> simp <;> omega
  have e48 : impl_in.f p 48 57 = some false := by simp only [impl_in.f]; split <;> simp <;> omega
  have e65 : impl_in.f p 65 90 = some false := by simp only [impl_in.f]; split <;> simp <;> omega
  have e97 : impl_in.f p 97 122 = some false := by simp only [impl_in.f]; split <;> simp <;> omega
  have e127 : impl_in.f p 127 159 = some false := by simp only [impl_in.f]; split <;> simp <;> omega
  have e161 : impl_in.f p 161 191 = some false := by simp only [impl_in.f]; split <;> simp <;> omega
  have e1280 : impl_in.f p 1280 1311 = some false := by simp only [impl_in.f]; split <;> simp <;> omega
  have e1360 : impl_in.f p 1360 1369 = some false := by simp only [impl_in.f]; split <;> simp <;> omega
  have e1536 : impl_in.f p 1536 1567 = some false := by simp only [impl_in.f]; split <;> simp <;> omega
  have e1568 : impl_in.f p 1568 1579 = some false := by simp only [impl_in.f]; split <;> simp <;> omega
  have e1616 : impl_in.f p 1616 1625 = some false := by simp only [impl_in.f]; split <;> simp <;> omega
  have e1792 : impl_in.f p 1792 1810 = some false := by simp only [impl_in.f]; split <;> simp <;> omega
  have e1824 : impl_in.f p 1824 1844 = some false := by simp only [impl_in.f]; split <;> simp <;> omega
  have e1857 : impl_in.f p 1857 1883 = some false := by simp only [impl_in.f]; split <;> simp <;> omega
  have e2048 : impl_in.f p 2048 2095 = some false := by simp only [impl_in.f]; split <;> simp <;> omega
  have e4096 : impl_in.f p 4096 4159 = some false := by simp only [impl_in.f]; split <;> simp <;> omega
  have e7680 : impl_in.f p 7680 7748 = some false := by simp only [impl_in.f]; split <;> simp <;> omega
  have e7760 : impl_in.f p 7760 7785 = some false := by simp only [impl_in.f]; split <;> simp <;> omega
  have e7936 : impl_in.f p 7936 7947 = some false := by simp only [impl_in.f]; split <;> simp <;> omega
  have e8192 : impl_in.f p 8192 9631 = some false := by simp only [impl_in.f]; split <;> simp <;> omega
  have e9728 : impl_in.f p 9728 9753 = some false := by simp only [impl_in.f]; split <;> simp <;> omega
  have e9984 : impl_in.f p 9984 10009 = some false := by simp only [impl_in.f]; split <;> simp <;> omega
  have e10016 : impl_in.f p 10016 10025 = some false := by simp only [impl_in.f]; split <;> simp <;> omega
  have e10032 : impl_in.f p 10032 10035 = some false := by simp only [impl_in.f]; split <;> simp <;> omega
  have e12288 : impl_in.f p 12288 23459 = some true := by simp only [impl_in.f]; rw [if_pos (by omega)]; simp; omega
  have e24576 : impl_in.f p 24576 26623 = some false := by simp only [impl_in.f]; split <;> simp <;> omega
  have n1 : (p = 32) = False := eq_false (by omega)
  have n2 : (p = 160) = False := eq_false (by omega)
  have n3 : (p = 173) = False := eq_false (by omega)
  have n4 : (p = 7953) = False := eq_false (by omega)
  have n5 : (p == 8064) = false := beq_eq_false_iff_ne.mpr (by omega)
  have n6 : (p == 7954) = false := beq_eq_false_iff_ne.mpr (by omega)
  have n7 : (p = 1584) = False := eq_false (by omega)
  have n8 : (p == 1585) = false := beq_eq_false_iff_ne.mpr (by omega)
  refine ⟨7, 7, ?_, ?_⟩
  · simp only [impl_kind.f, impl_kind.j2, impl_kind.j3, impl_kind.j4, impl_kind.j5, impl_kind.j6, impl_kind.j7, impl_kind.j8, impl_kind.j9, eb, e0, e33, e48, e65, e97, e127, e161, e1280, e1360, e1536, e1568, e1616, e1792, e1824, e1857, e2048, e4096, e7680, e7760, e7936, e8192, e9728, e9984, e10016, e10032, e12288, e24576, n1, n2, n3, n4, n5, n6, n7, n8, Option.bind_some, Int.lt_irrefl, gt_iff_lt, Bool.false_eq_true, ↓reduceIte]
  · have q1 : (p ≥ 512) = True := eq_true (by omega)
    have q2 : decide (p < 1280) = false := decide_eq_false (by omega)
    have q3 : (p ≥ 8192) = True := eq_true (by omega)
    have q4 : decide (p < 9728) = false := decide_eq_false (by omega)
    simp only [spec_l01Known.f, spec_l01Known.j0, spec_l01Known.j2, spec_l01Rows.f, q1, q2, q3, q4, Option.bind_some, Bool.false_eq_true, ↓reduceIte]
    refine (known_l1 p _ [] _ (by decide) (by decide)).trans ?_
    refine congrArg some ?_
    repeat (refine (findRow_skip _ _ (by dsimp only; omega)).trans ?_)
    first | rfl | exact findRow_hit _ _ (by dsimp only; omega) (by dsimp only; omega)
theorem kind_r3 {p : Int} (h1 : 23460 ≤ p) (h2 : p ≤ 24575) : ∃ s t, impl_kind.f 20 p = some (0, s) ∧ spec_l01Known.f 60 p = some (0, t) := by
  have eb : impl_block.f p = some (0, 0) := by simp (disch := omega) only [impl_block.f, if_pos, if_neg]
  have e0 : impl_in.f p 0 31 = some false := by simp only [impl_in.f]; split <;> simp <;> omega
  have e33 : impl_in.f p 33 126 = some false := by simp only [impl_in.f]; split <;> simp <;> omega
  have e48 : impl_in.f p 48 57 = some false := by simp only [impl_in.f]; split <;> simp <;> omega
  have e65 : impl_in.f p 65 90 = some false := by simp only [impl_in.f]; split <;> simp <;> omega
  have e97 : impl_in.f p 97 122 = some false := by simp only [impl_in.f]; split <;> simp <;> omega
  have e127 : impl_in.f p 127 159 = some false := by simp only [impl_in.f]; split <;> simp <;> omega
  have e161 : impl_in.f p 161 191 = some false := by simp only [impl_in.f]; split <;> simp <;> omega
  have e1280 : impl_in.f p 1280 1311 = some false := by simp only [impl_in.f]; split <;> simp <;> omega
  have e1360 : impl_in.f p 1360 1369 = some false := by simp only [impl_in.f]; split <;> simp <;> omega
  have e1536 : impl_in.f p 1536 1567 = some false := by simp only [impl_in.f]; split <;> simp <;> omega
  have e1568 : impl_in.f p 1568 1579 = some false := by simp only [impl_in.f]; split <;> simp <;> omega
  have e1616 : impl_in.f p 1616 1625 = some false := by simp only [impl_in.f]; split <;> simp <;> omega
  have e1792 : impl_in.f p 1792 1810 = some false := by simp only [impl_in.f]; split <;> simp <;> omega
  have e1824 : impl_in.f p 1824 1844 = some false := by simp only [impl_in.f]; split <;> simp <;> omega
  have e1857 : impl_in.f p 1857 1883 = some false := by simp only [impl_in.f]; split <;> simp <;> omega
  have e2048 : impl_in.f p 2048 2095 = some false := by simp only [impl_in.f]; split <;> simp <;> omega
  have e4096 : impl_in.f p 4096 4159 = some false := by simp only [impl_in.f]; split <;> simp <;> omega
  have e7680 : impl_in.f p 7680 7748 = some false := by simp only [impl_in.f]; split <;> simp <;> omega
  have e7760 : impl_in.f p 7760 7785 = some false := by simp only [impl_in.f]; split <;> simp <;> omega
  have e7936 : impl_in.f p 7936 7947 = some false := by simp only [impl_in.f]; split <;> simp <;> omega
  have e8192 : impl_in.f p 8192 9631 = some false := by simp only [impl_in.f]; split <;> simp <;> omega
  have e9728 : impl_in.f p 9728 9753 = some false := by simp only [impl_in.f]; split <;> simp <;> omega
  have e9984 : impl_in.f p 9984 10009 = some false := by simp only [impl_in.f]; split <;> simp <;> omega
  have e10016 : impl_in.f p 10016 10025 = some false := by simp only [impl_in.f]; split <;> simp <;> omega
  have e10032 : impl_in.f p 10032 10035 = some false := by simp only [impl_in.f]; split <;> simp <;> omega
  have e12288 : impl_in.f p 12288 23459 = some false := by simp only [impl_in.f]; split <;> simp <;> omega
  have e24576 : impl_in.f p 24576 26623 = some false := by simp only [impl_in.f]; split <;> simp <;> omega
  have n1 : (p = 32) = False := eq_false (by omega)
  have n2 : (p = 160) = False := eq_false (by omega)
  have n3 : (p = 173) = False := eq_false (by omega)
  have n4 : (p = 7953) = False := eq_false (by omega)
  have n5 : (p == 8064) = false := beq_eq_false_iff_ne.mpr (by omega)
  have n6 : (p == 7954) = false := beq_eq_false_iff_ne.mpr (by omega)
  have n7 : (p = 1584) = False := eq_false (by omega)
  have n8 : (p == 1585) = false := beq_eq_false_iff_ne.mpr (by omega)
  refine ⟨0, 0, ?_, ?_⟩
  · simp only [impl_kind.f, impl_kind.j2, impl_kind.j3, impl_kind.j4, impl_kind.j5, impl_kind.j6, impl_kind.j7, impl_kind.j8, impl_kind.j9, eb, e0, e33, e48, e65, e97, e127, e161, e1280, e1360, e1536, e1568, e1616, e1792, e1824, e1857, e2048, e4096, e7680, e7760, e7936, e8192, e9728, e9984, e10016, e10032, e12288, e24576, n1, n2, n3, n4, n5, n6, n7, n8, Option.bind_some, Int.lt_irrefl, gt_iff_lt, Bool.false_eq_true, ↓reduceIte]
  · have q1 : (p ≥ 512) = True := eq_true (by omega)
    have q2 : decide (p < 1280) = false := decide_eq_false (by omega)
    have q3 : (p ≥ 8192) = True := eq_true (by omega)
    have q4 : decide (p < 9728) = false := decide_eq_false (by omega)
    simp only [spec_l01Known.f, spec_l01Known.j0, spec_l01Known.j2, spec_l01Rows.f, q1, q2, q3, q4, Option.bind_some, Bool.false_eq_true, ↓reduceIte]
    refine (known_l1 p _ [] _ (by decide) (by decide)).trans ?_
    refine congrArg some ?_
    repeat (refine (findRow_skip _ _ (by dsimp only; omega)).trans ?_)
    first | rfl | exact findRow_hit _ _ (by dsimp only; omega) (by dsimp only; omega)
theorem kind_r4 {p : Int} (h1 : 24576 ≤ p) (h2 : p ≤ 26623) : ∃ s t, impl_kind.f 20 p = some (7, s) ∧ spec_l01Known.f 60 p = some (7, t) := by
  have eb : impl_block.f p = some (0, 0) := by simp (disch := omega) only [impl_block.f, if_pos, if_neg]
  have e0 : impl_in.f p 0 31 = some false := by simp only [impl_in.f]; split <;> simp <;> omega
  have e33 : impl_in.f p 33 126 = some false := by simp only [impl_in.f]; split <;> simp <;> omega
  have e48 : impl_in.f p 48 57 = some false := by simp only [impl_in.f]; split <;> simp <;> omega
  have e65 : impl_in.f p 65 90 = some false := by simp only [impl_in.f]; split <;> simp <;> omega
  have e97 : impl_in.f p 97 122 = some false := by simp only [impl_in.f]; split <;> simp <;> omega
  have e127 : impl_in.f p 127 159 = some false := by simp only [impl_in.f]; split <;> simp <;> omega
  have e161 : impl_in.f p 161 191 = some false := by simp only [impl_in.f]; split <;> simp <;> omega
  have e1280 : impl_in.f p 1280 1311 = some false := by simp only [impl_in.f]; split <;> simp <;> omega
  have e1360 : impl_in.f p 1360 1369 = some false := by simp only [impl_in.f]; split <;> simp <;> omega
  have e1536 : impl_in.f p 1536 1567 = some false := by simp only [impl_in.f]; split <;> simp <;> omega
  have e1568 : impl_in.f p 1568 1579 = some false := by simp only [impl_in.f]; split <;> simp <;> omega
  have e1616 : impl_in.f p 1616 1625 = some false := by simp only [impl_in.f]; split <;> simp <;> omega
  have e1792 : impl_in.f p 1792 1810 = some false := by simp only [impl_in.f]; split <;> simp <;> omega
  have e1824 : impl_in.f p 1824 1844 = some false := by simp only [impl_in.f]; split <;> simp <;> omega
  have e1857 : impl_in.f p 1857 1883 = some false := by simp only [impl_in.f]; split <;> simp <;> omega
  have e2048 : impl_in.f p 2048 2095 = some false := by simp only [impl_in.f]; split <;> simp <;> omega
  have e4096 : impl_in.f p 4096 4159 = some false := by simp only [impl_in.f]; split <;> simp <;> omega
  have e7680 : impl_in.f p 7680 7748 = some false := by simp only [impl_in.f]; split <;> simp <;> omega
  have e7760 : impl_in.f p 7760 7785 = some false := by simp only [impl_in.f]; split <;> simp <;> omega
  have e7936 : impl_in.f p 7936 7947 = some false := by simp only [impl_in.f]; split <;> simp <;> omega
  have e8192 : impl_in.f p 8192 9631 = some false := by simp only [impl_in.f]; split <;> simp <;> omega
  have e9728 : impl_in.f p 9728 9753 = some false := by simp only [impl_in.f]; split <;> simp <;> omega
  have e9984 : impl_in.f p 9984 10009 = some false := by simp only [impl_in.f]; split <;> simp <;> omega
  have e10016 : impl_in.f p 10016 10025 = some false := by simp only [impl_in.f]; split <;> simp <;> omega
  have e10032 : impl_in.f p 10032 10035 = some false := by simp only [impl_in.f]; split <;> simp <;> omega
  have e12288 : impl_in.f p 12288 23459 = some false := by simp only [impl_in.f]; split <;> simp <;> omega
  have e24576 : impl_in.f p 24576 26623 = some true := by simp only [impl_in.f]; rw [if_pos (by omega)]; simp; omega
  have n1 : (p = 32) = False := eq_false (by omega)
  have n2 : (p = 160) = False := eq_false (by omega)
  have n3 : (p = 173) = False := eq_false (by omega)
  have n4 : (p = 7953) = False := eq_false (by omega)
  have n5 : (p == 8064) = false := beq_eq_false_iff_ne.mpr (by omega)
  have n6 : (p == 7954) = false := beq_eq_false_iff_ne.mpr (by omega)
  have n7 : (p = 1584) = False := eq_false (by omega)
  have n8 : (p == 1585) = false := beq_eq_false_iff_ne.mpr (by omega)
  refine ⟨9, 9, ?_, ?_⟩
  · simp only [impl_kind.f, impl_kind.j2, impl_kind.j3, impl_kind.j4, impl_kind.j5, impl_kind.j6, impl_kind.j7, impl_kind.j8, impl_kind.j9, eb, e0, e33, e48, e65, e97, e127, e161, e1280, e1360, e1536, e1568, e1616, e1792, e1824, e1857, e2048, e4096, e7680, e7760, e7936, e8192, e9728, e9984, e10016, e10032, e12288, e24576, n1, n2, n3, n4, n5, n6, n7, n8, Option.bind_some, Int.lt_irrefl, gt_iff_lt, Bool.false_eq_true, ↓reduceIte]
  · have q1 : (p ≥ 512) = True := eq_true (by omega)
    have q2 : decide (p < 1280) = false := decide_eq_false (by omega)
    have q3 : (p ≥ 8192) = True := eq_true (by omega)
    have q4 : decide (p < 9728) = false := decide_eq_false (by omega)
    simp only [spec_l01Known.f, spec_l01Known.j0, spec_l01Known.j2, spec_l01Rows.f, q1, q2, q3, q4, Option.bind_some, Bool.false_eq_true, ↓reduceIte]
    refine (known_l1 p _ [] _ (by decide) (by decide)).trans ?_
    refine congrArg some ?_
    repeat (refine (findRow_skip _ _ (by dsimp only; omega)).trans ?_)
    first | rfl | exact findRow_hit _ _ (by dsimp only; omega) (by dsimp only; omega)
theorem kind_r5 {p : Int} (h1 : 26624 ≤ p) : ∃ s t, impl_kind.f 20 p = some (0, s) ∧ spec_l01Known.f 60 p = some (0, t) := by
  have eb : impl_block.f p = some (0, 0) := by simp (disch := omega) only [impl_block.f, if_pos, if_neg]
  have e0 : impl_in.f p 0 31 = some false := by simp only [impl_in.f]; split <;> simp <;> omega
  have e33 : impl_in.f p 33 126 = some false := by simp only [impl_in.f]; split <;> simp <;> omega
  have e48 : impl_in.f p 48 57 = some false := by simp only [impl_in.f]; split <;> simp <;> omega
  have e65 : impl_in.f p 65 90 = some false := by simp only [impl_in.f]; split <;> simp <;> omega
  have e97 : impl_in.f p 97 122 = some false := by simp only [impl_in.f]; split <;> simp <;> omega
  have e127 : impl_in.f p 127 159 = some false := by simp only [impl_in.f]; split <;> simp <;> omega
  have e161 : impl_in.f p 161 191 = some false := by simp only [impl_in.f]; split <;> simp <;> omega
  have e1280 : impl_in.f p 1280 1311 = some false := by simp only [impl_in.f]; split <;> simp <;> omega
  have e1360 : impl_in.f p 1360 1369 = some false := by simp only [impl_in.f]; split <;> simp <;> omega
  have e1536 : impl_in.f p 1536 1567 = some false := by simp only [impl_in.f]; split <;> simp <;> omega
  have e1568 : impl_in.f p 1568 1579 = some false := by simp only [impl_in.f]; split <;> simp <;> omega
  have e1616 : impl_in.f p 1616 1625 = some false := by simp only [impl_in.f]; split <;> simp <;> omega
  have e1792 : impl_in.f p 1792 1810 = some false := by simp only [impl_in.f]; split <;> simp <;> omega
  have e1824 : impl_in.f p 1824 1844 = some false := by simp only [impl_in.f]; split <;> simp <;> omega
  have e1857 : impl_in.f p 1857 1883 = some false := by simp only [impl_in.f]; split <;> simp <;> omega
  have e2048 : impl_in.f p 2048 2095 = some false := by simp only [impl_in.f]; split <;> simp <;> omega
  have e4096 : impl_in.f p 4096 4159 = some false := by simp only [impl_in.f]; split <;> simp <;> omega
  have e7680 : impl_in.f p 7680 7748 = some false := by simp only [impl_in.f]; split <;> simp <;> omega
  have e7760 : impl_in.f p 7760 7785 = some false := by simp only [impl_in.f]; split <;> simp <;> omega
  have e7936 : impl_in.f p 7936 7947 = some false := by simp only [impl_in.f]; split <;> simp <;> omega
  have e8192 : impl_in.f p 8192 9631 = some false := by simp only [impl_in.f]; split <;> simp <;> omega
  have e9728 : impl_in.f p 9728 9753 = some false := by simp only [impl_in.f]; split <;> simp <;> omega
  have e9984 : impl_in.f p 9984 10009 = some false := by simp only [impl_in.f]; split <;> simp <;> omega
  have e10016 : impl_in.f p 10016 10025 = some false := by simp only [impl_in.f]; split <;> simp <;> omega
  have e10032 : impl_in.f p 10032 10035 = some false := by simp only [impl_in.f]; split <;> simp <;> omega
  have e12288 : impl_in.f p 12288 23459 = some false := by simp only [impl_in.f]; split <;> simp <;> omega
  have e24576 : impl_in.f p 24576 26623 = some false := by simp only [impl_in.f]; split <;> simp <;> omega
  have n1 : (p = 32) = False := eq_false (by omega)
  have n2 : (p = 160) = False := eq_false (by omega)
  have n3 : (p = 173) = False := eq_false (by omega)
  have n4 : (p = 7953) = False := eq_false (by omega)
  have n5 : (p == 8064) = false := beq_eq_false_iff_ne.mpr (by omega)
  have n6 : (p == 7954) = false := beq_eq_false_iff_ne.mpr (by omega)
  have n7 : (p = 1584) = False := eq_false (by omega)
  have n8 : (p == 1585) = false := beq_eq_false_iff_ne.mpr (by omega)
  refine ⟨0, 0, ?_, ?_⟩
  · simp only [impl_kind.f, impl_kind.j2, impl_kind.j3, impl_kind.j4, impl_kind.j5, impl_kind.j6, impl_kind.j7, impl_kind.j8, impl_kind.j9, eb, e0, e33, e48, e65, e97, e127, e161, e1280, e1360, e1536, e1568, e1616, e1792, e1824, e1857, e2048, e4096, e7680, e7760, e7936, e8192, e9728, e9984, e10016, e10032, e12288, e24576, n1, n2, n3, n4, n5, n6, n7, n8, Option.bind_some, Int.lt_irrefl, gt_iff_lt, Bool.false_eq_true, ↓reduceIte]
  · have q1 : (p ≥ 512) = True := eq_true (by omega)
    have q2 : decide (p < 1280) = false := decide_eq_false (by omega)
    have q3 : (p ≥ 8192) = True := eq_true (by omega)
    have q4 : decide (p < 9728) = false := decide_eq_false (by omega)
    simp only [spec_l01Known.f, spec_l01Known.j0, spec_l01Known.j2, spec_l01Rows.f, q1, q2, q3, q4, Option.bind_some, Bool.false_eq_true, ↓reduceIte]
    refine (known_l1 p _ [] _ (by decide) (by decide)).trans ?_
    refine congrArg some ?_
    repeat (refine (findRow_skip _ _ (by dsimp only; omega)).trans ?_)
    first | rfl | exact findRow_hit _ _ (by dsimp only; omega) (by dsimp only; omega)
theorem kind_high {p : Int} (h : (4160 ≤ p ∧ p < 7680) ∨ 10036 ≤ p) :
    ∃ c s t, impl_kind.f 20 p = some (c, s) ∧ spec_l01Known.f 60 p = some (c, t) ∧ c ≠ 1 ∧ c ≠ 2 ∧ c ≠ 8 ∧ c ≠ 11 := by
  rcases (by omega : (4160 ≤ p ∧ p ≤ 7679) ∨ (10036 ≤ p ∧ p ≤ 12287) ∨ (12288 ≤ p ∧ p ≤ 23459) ∨ (23460 ≤ p ∧ p ≤ 24575) ∨ (24576 ≤ p ∧ p ≤ 26623) ∨ 26624 ≤ p) with a | a | a | a | a | a
  · obtain ⟨s, t, h1, h2⟩ := kind_r0 a.1 a.2
    exact ⟨0, s, t, h1, h2, by decide, by decide, by decide, by decide⟩
  · obtain ⟨s, t, h1, h2⟩ := kind_r1 a.1 a.2
    exact ⟨0, s, t, h1, h2, by decide, by decide, by decide, by decide⟩
  · obtain ⟨s, t, h1, h2⟩ := kind_r2 a.1 a.2
    exact ⟨7, s, t, h1, h2, by decide, by decide, by decide, by decide⟩
  · obtain ⟨s, t, h1, h2⟩ := kind_r3 a.1 a.2
    exact ⟨0, s, t, h1, h2, by decide, by decide, by decide, by decide⟩
  · obtain ⟨s, t, h1, h2⟩ := kind_r4 a.1 a.2
    exact ⟨7, s, t, h1, h2, by decide, by decide, by decide, by decide⟩
  · obtain ⟨s, t, h1, h2⟩ := kind_r5 a
    exact ⟨0, s, t, h1, h2, by decide, by decide, by decide, by decide⟩
end Go.Proofs.YtepeeahckgpapaaDoor.Q
end
section
namespace Go.Proofs.YtepeeahckgpapaaDoor.Q
open Go.RowKit Go.Proofs.YtepeeahckgpapaaDoorW.PrintWords Go.Proofs.YtepeeahckgpapaaDoorW.PrintLast Go.Proofs.YtepeeahckgpapaaDoorW.PrintMore
set_option linter.unusedSimpArgs false
def ckLook (n : Nat) : Bool := same2 2 (impl_looks.f 40 (n : Int)) (spec_l19Seen.f 80 (n : Int))
theorem in_no {p a b : Int} (h : p < a ∨ b < p) : impl_in.f p a b = some false := by
  simp only [impl_in.f]; split <;> simp <;> omega
theorem system_high {p : Int} (h : (4160 ≤ p ∧ p < 7680) ∨ 10036 ≤ p) : impl_systemOf.f p = some (-1, -1) := by
  have : ∀ (rs : List Int) (k : Nat), (∀ r ∈ rs, ¬ (p ≥ r ∧ p ≤ r + 9)) → impl_systemOf.from p k rs = (-1, -1) := by
    intro rs
    induction rs with
    | nil => intro k _; rfl
    | cons r rs ih =>
      intro k hr
      simp only [impl_systemOf.from]
      rw [if_neg (hr r (by simp))]
      exact ih _ (fun x hx => hr x (by simp [hx]))
  simp only [impl_systemOf.f]
  rw [this]
  intro r hr
  have : r ∈ [48, 592, 848, 1104, 1360, 1616, 10016] ∨ True := Or.inr trivial
  revert hr
  simp only [digitRowsL]
  intro hr
  simp at hr
  omega
theorem look_high {p : Int} (h : (4160 ≤ p ∧ p < 7680) ∨ (10036 ≤ p)) :
    impl_looks.f 40 p = some [p] ∧ spec_l19Seen.f 80 p = some [p] := by
  obtain ⟨c, s, t, h1, h2, c1, c2, c8, c11⟩ := kind_high h
  constructor
  · have eb : impl_block.f p = some (0, 0) := by simp (disch := omega) only [impl_block.f, if_pos, if_neg]
    have ec : impl_Category.f 39 p = some c := by
      simp only [impl_Category.f, LeO.le (fun k => impl_kind.mono p k) h1 (by decide : 20 ≤ 39), Option.bind_some]
    have es := system_high h
    have n1 : (c = 1) = False := eq_false c1
    have n2 : (c == 11) = false := beq_eq_false_iff_ne.mpr c11
    have n3 : (p = 73) = False := eq_false (by omega)
    have n4 : (p == 1281) = false := beq_eq_false_iff_ne.mpr (by omega)
    have n5 : (p = 1280) = False := eq_false (by omega)
    have n6 : (c = 2) = False := eq_false c2
    have i1 := in_no (p := p) (a := 9984) (b := 10009) (by omega)
    have i2 := in_no (p := p) (a := 10032) (b := 10035) (by omega)
    have m1 : ((-1 : Int) = 0) = False := by decide
    have m2 : ((-1 : Int) = 1) = False := by decide
    have m3 : ((-1 : Int) > 1) = False := by decide
    have m4 : ((0 : Int) > 0) = False := by decide
    simp only [impl_looks.f, impl_looks.j0, impl_looks.j1, impl_looks.j2, impl_looks.j3, impl_looks.j4, impl_looks.j5, ec, eb, es, n1, n2, n3, n4, n5, n6, i1, i2, m1, m2, m3, m4, Option.bind_some, Bool.false_eq_true, ↓reduceIte]
  · have eb : spec_l06Block.f p = some 0 := by
      have e2 : p ≥ 1280 := by omega
      have e1 : ¬ p < 512 := by omega
      simp only [spec_l06Block.f, if_neg e1, if_pos e2]
    have ec : spec_l01Cat.f 79 p = some c := by
      simp only [spec_l01Cat.f, LeO.le (fun k => spec_l01Known.mono p k) h2 (by decide : 60 ≤ 79), Option.bind_some]
    have ew : spec_l05Wide.f 79 p = some [] := by
      have d1 : (p = 8064) = False := eq_false (by omega)
      have d2 : (p == 160) = false := beq_eq_false_iff_ne.mpr (by omega)
      rcases h with h | h
      · have d3 : (p ≥ 9984) = False := eq_false (by omega)
        have d4 : (p ≥ 10016) = False := eq_false (by omega)
        have d5 : (p ≥ 10032) = False := eq_false (by omega)
        simp only [spec_l05Wide.f, spec_l05Wide.j0, spec_l05Wide.j1, spec_l05Wide.j2, d1, d2, d3, d4, d5, Bool.false_eq_true, ↓reduceIte]
      · have d3 : (p ≥ 9984) = True := eq_true (by omega)
        have d4 : (p ≥ 10016) = True := eq_true (by omega)
        have d5 : (p ≥ 10032) = True := eq_true (by omega)
        have d6 : decide (p ≤ 10009) = false := decide_eq_false (by omega)
        have d7 : decide (p ≤ 10025) = false := decide_eq_false (by omega)
        have d8 : (p ≤ 10035) = False := eq_false (by omega)
        simp only [spec_l05Wide.f, spec_l05Wide.j0, spec_l05Wide.j1, spec_l05Wide.j2, d1, d2, d3, d4, d5, d6, d7, d8, Bool.false_eq_true, ↓reduceIte]
    have n1 : (c = 1) = False := eq_false c1
    have n2 : (c == 11) = false := beq_eq_false_iff_ne.mpr c11
    have n3 : (c = 8) = False := eq_false c8
    have n4 : (c = 2) = False := eq_false c2
    have n5 : (p == 1280) = false := beq_eq_false_iff_ne.mpr (by omega)
    have n6 : (p = 73) = False := eq_false (by omega)
    have n7 : (p == 1281) = false := beq_eq_false_iff_ne.mpr (by omega)
    have m1 : ((0 : Int) > 0) = False := by decide
    simp only [spec_l19Seen.f, spec_l19Seen.j0, spec_l19Seen.j1, spec_l19Seen.j2, spec_l19Seen.j3, spec_l19Seen.j4, spec_l19Seen.j5, ec, eb, ew, n1, n2, n3, n4, n5, n6, n7, m1, Option.bind_some, Bool.false_eq_true, ↓reduceIte]
    exact if_neg (by decide)
end Go.Proofs.YtepeeahckgpapaaDoor.Q
end
