/- part 1 -/
import Derived.Test.YtepeeahckgpapaaDoorProg
import Derived.Below
import Derived.Deep.Draws
import Derived.Deep.AppendLies
import Derived.Maps.AppendAt
import Derived.OwnWalk
import Derived.Laws.BytesArg
import Derived.Laws.MakeOwn
import Derived.Laws.OwnMore
import Derived.Deep.OwnRows
import Derived.Tactics
import Derived.Lib.ConvBytes
import Derived.Laws.Slices
import Derived.WalkKit
import Derived.KernelRfl
import Derived.RowKit3
import Derived.Deep.LoopGhost
import Derived.Deep.QuietTactic
import Derived.BigQuiet
import Derived.WideLaws
import Derived.Deep.DeepCutAuto
import Derived.Deep.CutBlock
import Derived.Deep.RegionHeld3
import Derived.Laws.Rows
import Derived.Lib.AppendStr
import Derived.ArgAppend
import Derived.Laws.IdiomCopy
import Derived.OrdersHeld
import Derived.Laws.BitsLemmas
import Derived.RowKit
import Derived.Lib.DecodeN
import Derived.Test.YtepeeahckgpapaaDoorCards
import Derived.Test.YtepeeahckgpapaaDoorTie
import Derived.ProofKit
import Derived.OpenShut
import Derived.Deep.DeepHandedRow
import Derived.Deep.DeepWitnessRowRef
import Derived.Lib.LaidTab
import Derived.Lib.LaidU8
import Derived.Test.YtepeeahckgpapaaDoorA0
section
namespace Go.Proofs.YtepeeahckgpapaaDoor.Q
open Go.RowKit Go.Proofs.YtepeeahckgpapaaDoorW.PrintWords Go.Proofs.YtepeeahckgpapaaDoorW.PrintLast Go.Proofs.YtepeeahckgpapaaDoorW.PrintMore
attribute [local go_sem] max2_int max_two
set_option linter.unusedVariables false
set_option linter.unusedSimpArgs false
def errW : Option Int → Value
 | none => .nilIface
 | some c => .iface 0 (.int .i64 c)
theorem errW_none : errW none = .nilIface := rfl
theorem errW_some (c : Int) : errW (some c) = .iface 0 (.int .i64 c) := rfl
theorem info2 : (Tryd.prog.info? 2).map (fun i => (i.zero, i.size, i.bytes)) = some (some (.int .i64 0), 1, 8) := by kernel_rfl
theorem info5 : (Tryd.prog.info? 5).map (fun i => (i.zero, i.size, i.bytes)) = some (some (.int .u8 0), 1, 1) := by kernel_rfl
theorem info174 : (Tryd.prog.info? 174).map (fun i => (i.zero, i.size, i.bytes)) = some (some (.agg #[(.int .i64 0), (.int .i64 0), (.int .i64 0), (.bool false)]), 4, 32) := by kernel_rfl
structure S225 where
 f0 : Int
 f1 : Int
 f2 : Int
 f3 : Int
def z225 : S225 := ⟨(0 : Int), (0 : Int), (0 : Int), (0 : Int)⟩
def k225 : Kd S225 := Kd.iso (Kd.pair (Kd.int .i64) (Kd.pair (Kd.int .i64) (Kd.pair (Kd.int .i64) (Kd.int .i64)))) (fun x : S225 => (x.f0, x.f1, x.f2, x.f3))
theorem k225_open {w : World} {x : S225} {cs : List Value} (h : k225.K w x cs) : cs = [.int .i64 x.f0, .int .i64 x.f1, .int .i64 x.f2, .int .i64 x.f3] := by
 obtain ⟨_, _, rfl, rfl, ⟨_, _, rfl, rfl, ⟨_, _, rfl, rfl, rfl⟩⟩⟩ := h
 exact rfl
theorem k225_mkM (w : World) (base : Nat) (ok : Nat → Prop) (x : S225)  : k225.M w base ok x [.int .i64 x.f0, .int .i64 x.f1, .int .i64 x.f2, .int .i64 x.f3] := ⟨[.int .i64 x.f0], [.int .i64 x.f1, .int .i64 x.f2, .int .i64 x.f3], rfl, rfl, ⟨[.int .i64 x.f1], [.int .i64 x.f2, .int .i64 x.f3], rfl, rfl, ⟨[.int .i64 x.f2], [.int .i64 x.f3], rfl, rfl, rfl⟩⟩⟩
def rd_T225 (xs : List S225) (i : Int) : S225 := xs.getD i.toNat z225
theorem at_T225 {w : World} {A : Option Addr} {n : Nat} {xs : List S225} (h : Kd.C k225 w A n xs) (i : Int) (h0 : 0 ≤ i) (h1 : i < n) : ∃ ad , A = some ad ∧ w.cell? (ad.add (i.toNat * 4)) = some (.int .i64 (rd_T225 xs i).f0) ∧ w.cell? ⟨(ad.add (i.toNat * 4)).block, (ad.add (i.toNat * 4)).off + 1, none⟩ = some (.int .i64 (rd_T225 xs i).f1) ∧ w.cell? ⟨(ad.add (i.toNat * 4)).block, (ad.add (i.toNat * 4)).off + 2, none⟩ = some (.int .i64 (rd_T225 xs i).f2) ∧ w.cell? ⟨(ad.add (i.toNat * 4)).block, (ad.add (i.toNat * 4)).off + 3, none⟩ = some (.int .i64 (rd_T225 xs i).f3) := by
 obtain ⟨ad, c, e, _, hK, hc0⟩ := Kd.C_get h z225 i h0 h1
 have hc : ∀ j u, c[j]? = some u → w.cell? (ad.add (i.toNat * 4 + j)) = some u := hc0
 obtain rfl := k225_open hK
 exact ⟨ad, e, hc 0 _ rfl, by rw [← add_field _ _ 1 (by omega)]; exact hc 1 _ rfl, by rw [← add_field _ _ 2 (by omega)]; exact hc 2 _ rfl, by rw [← add_field _ _ 3 (by omega)]; exact hc 3 _ rfl⟩
def rd_L3 (xs : List (List Int)) (i : Int) : (List Int) := xs.getD i.toNat ([] : List Int)
theorem at_L3 {w : World} {A : Option Addr} {n : Nat} {xs : List (List Int)} (h : Kd.C (Kd.slice 2 (Kd.int .i64)) w A n xs) (i : Int) (h0 : 0 ≤ i) (h1 : i < n) : ∃ ad A0 c0, A = some ad ∧ w.cell? (ad.add i.toNat) = some (.slice A0 (rd_L3 xs i).length c0) ∧ (rd_L3 xs i).length ≤ c0 ∧ (Kd.int .i64).C w A0 (rd_L3 xs i).length (rd_L3 xs i) := by
 obtain ⟨ad, c, e, _, hK, hc0⟩ := Kd.C_get h ([] : List Int) i h0 h1
 have hc : ∀ j u, c[j]? = some u → w.cell? (ad.add (i.toNat * 1 + j)) = some u := hc0
 obtain ⟨A0, c0, rfl, l0, g0⟩ := hK
 exact ⟨ad, A0, c0, e, by have hq := hc 0 _ rfl; rwa [Nat.mul_one, Nat.add_zero] at hq, l0, g0⟩
structure S174 where
 f0 : Int
 f1 : Int
 f2 : Int
 f3 : Bool
def z174 : S174 := ⟨(0 : Int), (0 : Int), (0 : Int), false⟩
def k174 : Kd S174 := Kd.iso (Kd.pair (Kd.int .i64) (Kd.pair (Kd.int .i64) (Kd.pair (Kd.int .i64) Kd.bool))) (fun x : S174 => (x.f0, x.f1, x.f2, x.f3))
theorem k174_open {w : World} {x : S174} {cs : List Value} (h : k174.K w x cs) : cs = [.int .i64 x.f0, .int .i64 x.f1, .int .i64 x.f2, .bool x.f3] := by
 obtain ⟨_, _, rfl, rfl, ⟨_, _, rfl, rfl, ⟨_, _, rfl, rfl, rfl⟩⟩⟩ := h
 exact rfl
theorem k174_mkM (w : World) (base : Nat) (ok : Nat → Prop) (x : S174)  : k174.M w base ok x [.int .i64 x.f0, .int .i64 x.f1, .int .i64 x.f2, .bool x.f3] := ⟨[.int .i64 x.f0], [.int .i64 x.f1, .int .i64 x.f2, .bool x.f3], rfl, rfl, ⟨[.int .i64 x.f1], [.int .i64 x.f2, .bool x.f3], rfl, rfl, ⟨[.int .i64 x.f2], [.bool x.f3], rfl, rfl, rfl⟩⟩⟩
def rd_T174 (xs : List S174) (i : Int) : S174 := xs.getD i.toNat z174
theorem at_T174 {w : World} {A : Option Addr} {n : Nat} {xs : List S174} (h : Kd.C k174 w A n xs) (i : Int) (h0 : 0 ≤ i) (h1 : i < n) : ∃ ad , A = some ad ∧ w.cell? (ad.add (i.toNat * 4)) = some (.int .i64 (rd_T174 xs i).f0) ∧ w.cell? ⟨(ad.add (i.toNat * 4)).block, (ad.add (i.toNat * 4)).off + 1, none⟩ = some (.int .i64 (rd_T174 xs i).f1) ∧ w.cell? ⟨(ad.add (i.toNat * 4)).block, (ad.add (i.toNat * 4)).off + 2, none⟩ = some (.int .i64 (rd_T174 xs i).f2) ∧ w.cell? ⟨(ad.add (i.toNat * 4)).block, (ad.add (i.toNat * 4)).off + 3, none⟩ = some (.bool (rd_T174 xs i).f3) := by
 obtain ⟨ad, c, e, _, hK, hc0⟩ := Kd.C_get h z174 i h0 h1
 have hc : ∀ j u, c[j]? = some u → w.cell? (ad.add (i.toNat * 4 + j)) = some u := hc0
 obtain rfl := k174_open hK
 exact ⟨ad, e, hc 0 _ rfl, by rw [← add_field _ _ 1 (by omega)]; exact hc 1 _ rfl, by rw [← add_field _ _ 2 (by omega)]; exact hc 2 _ rfl, by rw [← add_field _ _ 3 (by omega)]; exact hc 3 _ rfl⟩
end Go.Proofs.YtepeeahckgpapaaDoor.Q
end
section
namespace Go.Proofs.YtepeeahckgpapaaDoor.Q
open Go.RowKit Go.Proofs.YtepeeahckgpapaaDoorW.PrintWords Go.Proofs.YtepeeahckgpapaaDoorW.PrintLast Go.Proofs.YtepeeahckgpapaaDoorW.PrintMore
attribute [local go_sem] max2_int max_two
set_option linter.unusedVariables false
set_option linter.unusedSimpArgs false
structure NilIfEmpty {α : Type} (v : Value) (r : List α) : Prop where mk :: (out : r = [] → v = .slice none 0 0)
structure GdU (w : World) : Prop where mk :: (out : (∀ c, c < 256 → w.cell? ⟨2, c, none⟩ = some (.int .u8 (Lib.firstT c))) ∧
 (∀ i, i < 16 → w.cell? ⟨3, 2 * i, none⟩ = some (.int .u8 (Lib.accLo i)) ∧ w.cell? ⟨3, 2 * i + 1, none⟩ = some (.int .u8 (Lib.accHi i))))
theorem GdU.below {w W : World} (h : GdU w) (hb : Below w.heap.size w W) : GdU W :=
 ⟨fun c hc => pw_cell_below hb (h.out.1 c hc), fun i hi => ⟨pw_cell_below hb (h.out.2 i hi).1, pw_cell_below hb (h.out.2 i hi).2⟩⟩
def digitRowsL : List Int := [48, 592, 848, 1104, 1360, 1616, 10016]
structure GdD (w : World) : Prop where mk :: (out : ∃ a : Addr, w.cell? ⟨1, 0, none⟩ = some (.slice (some a) 7 7) ∧ ∀ i : Nat, i < 7 → w.cell? (a.add i) = some (.int .i64 (digitRowsL.getD i 0)))
theorem GdD.below {w W : World} (h : GdD w) (hb : Below w.heap.size w W) : GdD W := by
 obtain ⟨a, h1, h2⟩ := h.out
 exact ⟨a, pw_cell_below hb h1, fun i hi => pw_cell_below hb (h2 i hi)⟩
end Go.Proofs.YtepeeahckgpapaaDoor.Q
end
section
set_option linter.unusedVariables false
set_option linter.unusedSimpArgs false
namespace Go.Proofs.YtepeeahckgpapaaDoor.K
open Go.ChangeShapes Go.WideShapes Go.ChangeAt Go.RowKit Go.Lib Go.Proofs.YtepeeahckgpapaaDoor.Q
theorem own : ownKnob Tryd.prog.godebug = none := by kernel_rfl
theorem gA : Tryd.prog.globalNamed "unicode/utf8.acceptRanges" = some 3 := by kernel_rfl
theorem gAt : (Tryd.prog.globals[3]?).map (·.type) = some 235 := by kernel_rfl
theorem gD : Tryd.prog.globalNamed "loop.example/g00044/impl.digitRows" = some 1 := by kernel_rfl
theorem gDt : (Tryd.prog.globals[1]?).map (·.type) = some 35 := by kernel_rfl
theorem gF : Tryd.prog.globalNamed "unicode/utf8.first" = some 2 := by kernel_rfl
theorem gFt : (Tryd.prog.globals[2]?).map (·.type) = some 232 := by kernel_rfl
theorem c2 : Tryd.prog.cellsOf 2 = 1 := by kernel_rfl
theorem c5 : Tryd.prog.cellsOf 5 = 1 := by kernel_rfl
theorem c232 : Tryd.prog.cellsOf 232 = 256 := by kernel_rfl
theorem c234 : Tryd.prog.cellsOf 234 = 2 := by kernel_rfl
theorem gdU {W : World} (h3 : VarReads Tryd.prog W "unicode/utf8.first" firstData) (h4 : VarReads Tryd.prog W "unicode/utf8.acceptRanges" acceptData) : GdU W := by
  refine ⟨fun c hc => ?_, fun i hi => ?_⟩
  · obtain ⟨g, t, cs, fuel, p, hg, hty, hvar, hd⟩ := h3
    obtain rfl := Option.some.inj (gF.symm.trans hg)
    obtain rfl := Option.some.inj (gFt.symm.trans hty)
    have hcs := cells_of_tab Tryd.underlying232 Tryd.underlying5 c5 c232 hd
    have := World.var?_cell hg hvar c
    rw [this, ← Array.getElem?_toList, hcs]
    simp [firstTab, hc]
  · obtain ⟨g, t, cs, fuel, p, hg, hty, hvar, hd⟩ := h4
    obtain rfl := Option.some.inj (gA.symm.trans hg)
    obtain rfl := Option.some.inj (gAt.symm.trans hty)
    obtain ⟨fuel', d, q, hdi, he⟩ := array_elem Tryd.underlying235 hd i hi
    simp only [List.getElem?_map, List.getElem?_range hi, Option.map_some, Option.some.injEq] at hdi
    subst hdi
    rw [c234] at he
    have hcs := ints_of_struct Tryd.underlying234 (fun j f hj => by
      match j, hj with
      | 0, hj => simp at hj; subst hj; exact ⟨Tryd.underlying5, rfl, c5⟩
      | 1, hj => simp at hj; subst hj; exact ⟨Tryd.underlying5, rfl, c5⟩
      | j + 2, hj => simp at hj) (by rw [c234]; rfl) he
    have e0 := congrArg (·[0]?) hcs
    have e1 := congrArg (·[1]?) hcs
    simp only [List.getElem?_take, List.getElem?_drop] at e0 e1
    constructor
    · rw [World.var?_cell hg hvar (2 * i), ← Array.getElem?_toList]
      simpa [Nat.mul_comm] using e0
    · rw [World.var?_cell hg hvar (2 * i + 1), ← Array.getElem?_toList]
      simpa [Nat.mul_comm] using e1
def digitData : DataW Unit := .slice (digitRowsL.map fun z => .lit (.int .i64 z)) []
theorem gdD {W : World} (h : VarReads Tryd.prog W "loop.example/g00044/impl.digitRows" digitData) : GdD W := by
  obtain ⟨g, t, cs, fuel, p, hg, hty, hvar, hd⟩ := h
  obtain rfl := Option.some.inj (gD.symm.trans hg)
  obtain rfl := Option.some.inj (gDt.symm.trans hty)
  rcases open_ints Tryd.underlying35 Tryd.underlying2 c2 hd with ⟨_, hx⟩ | ⟨a, len, cap, zs, hcs, _, hlc, _, hz, hx, hcell, _⟩
  · cases hx
  have e0 := congrArg Prod.fst hx
  simp only [digitData, DataW.slice.injEq] at e0
  obtain ⟨e1, e2⟩ := e0
  have l2 : zs.length ≤ len := by
    have := congrArg List.length e2
    simp [lits] at this
    omega
  have l1 : digitRowsL.length = min len zs.length := by
    have := congrArg List.length e1
    simpa [lits] using this
  simp only [if_true] at hz
  have h7 : digitRowsL.length = 7 := rfl
  have hlen : len = 7 := by omega
  have hcap : cap = 7 := by omega
  have hzs : zs = digitRowsL := by
    have e3 : zs.take len = zs := List.take_of_length_le l2
    rw [e3] at e1
    have := congrArg (List.map (fun d : DataW Unit => match d with | .lit (.int _ z) => z | _ => 0)) e1
    simp only [lits, List.map_map] at this
    have id1 : ∀ l : List Int, List.map ((fun d : DataW Unit => match d with | .lit (.int _ z) => z | _ => 0) ∘ fun z => DataW.lit (Lit.int IntKind.i64 z)) l = l := by
      intro l
      induction l with
      | nil => rfl
      | cons x xs ih => rw [List.map_cons, ih]; rfl
    rw [id1] at this
    exact (this.trans (id1 zs)).symm
  subst hlen hcap hzs
  refine ⟨a, ?_, fun i hi => hcell i (by rw [h7]; exact hi)⟩
  rw [World.var?_cell hg hvar 0, ← Array.getElem?_toList, hcs]
  rfl
end Go.Proofs.YtepeeahckgpapaaDoor.K
end
section
namespace Go.Proofs.YtepeeahckgpapaaDoor.Q
open Go.RowKit Go.Proofs.YtepeeahckgpapaaDoorW.PrintWords Go.Proofs.YtepeeahckgpapaaDoorW.PrintLast Go.Proofs.YtepeeahckgpapaaDoorW.PrintMore
attribute [local go_sem] max2_int max_two
set_option linter.unusedVariables false
set_option linter.unusedSimpArgs false
def impl_block.f (a0 : Int) : Option (Int × Int) := if a0 ≥ 512 then (if a0 < 1280 then (some (Go.bits .andNot .i64 a0 255, Go.bits .and .i64 a0 255)) else (some (0, 0))) else (some (0, 0))
set_option maxHeartbeats 8000000 in
set_option maxRecDepth 100000 in
theorem impl_block.calls (a0 : Int) (r1 : Int) (r2 : Int) (w : World) (h : impl_block.f a0 = some (r1, r2)) :
  Calls Tryd.prog 172 #[.int .i64 a0] w fun e w' => e = .returned (.tuple #[.int .i64 r1, .int .i64 r2]) ∧ Drawn0 w w' := by
 have H : (if a0 ≥ 512 then (if a0 < 1280 then (some (Go.bits .andNot .i64 a0 255, Go.bits .and .i64 a0 255)) else (some (0, 0))) else (some (0, 0))) = some (r1, r2) := h
 clear h
 by_cases c2 : a0 ≥ 512
 ·rw [if_pos c2] at H
  have c2b0 : decide (512 ≤ a0) = true := decide_eq_true c2
  clear c2
  by_cases c3 : a0 < 1280
  ·rw [if_pos c3] at H
   have c3b0 : decide (a0 < 1280) = true := decide_eq_true c3
   clear c3
   simp only [Option.some.injEq, Prod.mk.injEq] at H
   obtain ⟨rfl, rfl⟩ := H
   go_enter Tryd.func172, Tryd.ntmps172
   go_wp2
   go_ret2
   exact ⟨by first | rfl | (simp; done) | (simp [*]; done), by repeat (first | exact Drawn0.refl _ | apply Drawn0.step)⟩
  ·rw [if_neg c3] at H
   have c3b0 : decide (a0 < 1280) = false := decide_eq_false c3
   clear c3
   simp only [Option.some.injEq, Prod.mk.injEq] at H
   obtain ⟨rfl, rfl⟩ := H
   go_enter Tryd.func172, Tryd.ntmps172
   go_wp2
   go_ret2
   exact ⟨by first | rfl | (simp; done) | (simp [*]; done), by repeat (first | exact Drawn0.refl _ | apply Drawn0.step)⟩
 ·rw [if_neg c2] at H
  have c2b0 : decide (512 ≤ a0) = false := decide_eq_false c2
  clear c2
  simp only [Option.some.injEq, Prod.mk.injEq] at H
  obtain ⟨rfl, rfl⟩ := H
  go_enter Tryd.func172, Tryd.ntmps172
  go_wp2
  go_ret2
  exact ⟨by first | rfl | (simp; done) | (simp [*]; done), by repeat (first | exact Drawn0.refl _ | apply Drawn0.step)⟩
end Go.Proofs.YtepeeahckgpapaaDoor.Q
end
section
namespace Go.Proofs.YtepeeahckgpapaaDoor.Q
open Go.RowKit Go.Proofs.YtepeeahckgpapaaDoorW.PrintWords Go.Proofs.YtepeeahckgpapaaDoorW.PrintLast Go.Proofs.YtepeeahckgpapaaDoorW.PrintMore
attribute [local go_sem] max2_int max_two
set_option linter.unusedVariables false
set_option linter.unusedSimpArgs false
def impl_in.f (a0 : Int) (a1 : Int) (a2 : Int) : Option (Bool) := if a0 ≥ a1 then (some (decide (a0 ≤ a2))) else (some false)
set_option maxHeartbeats 8000000 in
set_option maxRecDepth 100000 in
theorem impl_in.calls (a0 : Int) (a1 : Int) (a2 : Int) (r : Bool) (w : World) (h : impl_in.f a0 a1 a2 = some r) :
  Calls Tryd.prog 97 #[.int .i64 a0, .int .i64 a1, .int .i64 a2] w fun e w' => e = .returned (.bool r) ∧ Drawn0 w w' := by
 have H : (if a0 ≥ a1 then (some (decide (a0 ≤ a2))) else (some false)) = some r := h
 clear h
 by_cases c4 : a0 ≥ a1
 ·rw [if_pos c4] at H
  have c4b0 : decide (a1 ≤ a0) = true := decide_eq_true c4
  clear c4
  obtain rfl := Option.some.inj H
  go_enter Tryd.func97, Tryd.ntmps97
  go_wp2
  go_ret
  exact ⟨by first | rfl | (simp; done) | (simp [*]; done), by repeat (first | exact Drawn0.refl _ | apply Drawn0.step)⟩
 ·rw [if_neg c4] at H
  have c4b0 : decide (a1 ≤ a0) = false := decide_eq_false c4
  clear c4
  obtain rfl := Option.some.inj H
  go_enter Tryd.func97, Tryd.ntmps97
  go_wp2
  go_ret
  exact ⟨by first | rfl | (simp; done) | (simp [*]; done), by repeat (first | exact Drawn0.refl _ | apply Drawn0.step)⟩
end Go.Proofs.YtepeeahckgpapaaDoor.Q
end
section
namespace Go.Proofs.YtepeeahckgpapaaDoor.Q
open Go.RowKit Go.Proofs.YtepeeahckgpapaaDoorW.PrintWords Go.Proofs.YtepeeahckgpapaaDoorW.PrintLast Go.Proofs.YtepeeahckgpapaaDoorW.PrintMore
attribute [local go_sem] max2_int max_two
set_option linter.unusedVariables false
set_option linter.unusedSimpArgs false
mutual
def impl_kind.j0 : Nat → Int → Int → Bool → Option (Int × Int)
 | 0, _, _, _ => none
 | k + 1, x5, x6, x16 => if x16 = true then (some (4, x6)) else (if x5 < 64 then (impl_kind.j1 k x5 x6 true) else ((impl_in.f x5 72 75).bind fun t104 => (if t104 = true then (impl_kind.j1 k x5 x6 true) else ((impl_in.f x5 96 97).bind fun t105 => (impl_kind.j1 k x5 x6 t105)))))
def impl_kind.j1 : Nat → Int → Int → Bool → Option (Int × Int)
 | 0, _, _, _ => none
 | k + 1, x5, x6, x24 => if x24 = true then (some (5, x6)) else ((impl_in.f x5 68 71).bind fun t106 => (if t106 = true then (some (6, x6)) else ((impl_in.f x5 80 89).bind fun t107 => (if t107 = true then (some (8, x6)) else (some (0, 0))))))
def impl_kind.j2 : Nat → Int → Bool → Option (Int × Int)
 | 0, _, _ => none
 | k + 1, x0, x44 => if x44 = true then (some (1, 0)) else (if x0 = 32 then (impl_kind.j3 k x0 true) else (if x0 = 160 then (impl_kind.j3 k x0 true) else (impl_kind.j3 k x0 (x0 == 8064))))
def impl_kind.j3 : Nat → Int → Bool → Option (Int × Int)
 | 0, _, _ => none
 | k + 1, x0, x51 => if x51 = true then (some (2, 0)) else ((impl_in.f x0 48 57).bind fun t110 => (if t110 = true then (some (8, 0)) else ((impl_in.f x0 65 90).bind fun t111 => (if t111 = true then (some (4, 1)) else ((impl_in.f x0 97 122).bind fun t112 => (if t112 = true then (some (5, 1)) else ((impl_in.f x0 33 126).bind fun t113 => (if t113 = true then (some (9, 0)) else (if x0 = 173 then (some (11, 0)) else ((impl_in.f x0 161 191).bind fun t114 => (if t114 = true then (some (10, 0)) else ((impl_in.f x0 1280 1311).bind fun t115 => (if t115 = true then (some (7, 5)) else ((impl_in.f x0 1360 1369).bind fun t116 => (if t116 = true then (some (8, 5)) else ((impl_in.f x0 1536 1567).bind fun t117 => (if t117 = true then (some (7, 6)) else ((impl_in.f x0 1568 1579).bind fun t118 => (if t118 = true then (impl_kind.j4 k x0 true) else (if x0 = 1584 then (impl_kind.j4 k x0 true) else (impl_kind.j4 k x0 (x0 == 1585))))))))))))))))))))))
def impl_kind.j4 : Nat → Int → Bool → Option (Int × Int)
 | 0, _, _ => none
 | k + 1, x0, x89 => if x89 = true then (some (3, 6)) else ((impl_in.f x0 1616 1625).bind fun t119 => (if t119 = true then (some (8, 6)) else ((impl_in.f x0 1792 1810).bind fun t120 => (if t120 = true then (impl_kind.j5 k x0 true) else ((impl_in.f x0 1824 1844).bind fun t121 => (if t121 = true then (impl_kind.j5 k x0 true) else ((impl_in.f x0 1857 1883).bind fun t122 => (if t122 = true then (impl_kind.j5 k x0 true) else ((impl_in.f x0 12288 23459).bind fun t123 => (impl_kind.j5 k x0 t123))))))))))
def impl_kind.j5 : Nat → Int → Bool → Option (Int × Int)
 | 0, _, _ => none
 | k + 1, x0, x103 => if x103 = true then (some (7, 7)) else ((impl_in.f x0 2048 2095).bind fun t124 => (if t124 = true then (some (7, 8)) else ((impl_in.f x0 4096 4159).bind fun t125 => (if t125 = true then (some (3, 0)) else ((impl_in.f x0 7680 7748).bind fun t126 => (if t126 = true then (impl_kind.j6 k x0 true) else ((impl_in.f x0 7760 7785).bind fun t127 => (impl_kind.j6 k x0 t127))))))))
def impl_kind.j6 : Nat → Int → Bool → Option (Int × Int)
 | 0, _, _ => none
 | k + 1, x0, x124 => if x124 = true then (some (10, 0)) else ((impl_in.f x0 7936 7947).bind fun t128 => (if t128 = true then (impl_kind.j7 k x0 true) else (if x0 = 7953 then (impl_kind.j7 k x0 true) else (impl_kind.j7 k x0 (x0 == 7954)))))
def impl_kind.j7 : Nat → Int → Bool → Option (Int × Int)
 | 0, _, _ => none
 | k + 1, x0, x131 => if x131 = true then (some (11, 0)) else ((impl_in.f x0 8192 9631).bind fun t129 => (if t129 = true then (impl_kind.j8 k x0 (decide ((Int.tmod (wrap64 (x0 - 8192)) 512) < 416))) else (impl_kind.j8 k x0 false)))
def impl_kind.j8 : Nat → Int → Bool → Option (Int × Int)
 | 0, _, _ => none
 | k + 1, x0, x142 => if x142 = true then (if (Int.tmod (wrap64 (x0 - 8192)) 512) < 208 then (some (4, 1)) else (some (5, 1))) else ((impl_in.f x0 9728 9753).bind fun t130 => (if t130 = true then (some (4, 1)) else ((impl_in.f x0 9984 10009).bind fun t131 => (if t131 = true then (impl_kind.j9 k x0 true) else ((impl_in.f x0 10032 10035).bind fun t132 => (impl_kind.j9 k x0 t132))))))
def impl_kind.j9 : Nat → Int → Bool → Option (Int × Int)
 | 0, _, _ => none
 | k + 1, x0, x158 => if x158 = true then (some (10, 0)) else ((impl_in.f x0 10016 10025).bind fun t133 => (if t133 = true then (some (8, 0)) else ((impl_in.f x0 24576 26623).bind fun t134 => (if t134 = true then (some (7, 9)) else (some (0, 0))))))
end
def impl_kind.f (k : Nat) (a0 : Int) : Option (Int × Int) := (impl_block.f a0).bind fun bt101 => (if bt101.1 > 0 then (if bt101.2 < 32 then (impl_kind.j0 k bt101.2 (bt101.1 / 256) true) else ((impl_in.f bt101.2 64 67).bind fun t103 => (impl_kind.j0 k bt101.2 (bt101.1 / 256) t103))) else ((impl_in.f a0 0 31).bind fun t108 => (if t108 = true then (impl_kind.j2 k a0 true) else ((impl_in.f a0 127 159).bind fun t109 => (impl_kind.j2 k a0 t109)))))
theorem impl_kind.mono_l : ∀ k, (∀ y0 y1 y2, LeO (impl_kind.j0 k y0 y1 y2) (impl_kind.j0 (k + 1) y0 y1 y2)) ∧ (∀ y0 y1 y2, LeO (impl_kind.j1 k y0 y1 y2) (impl_kind.j1 (k + 1) y0 y1 y2)) ∧ (∀ y0 y1, LeO (impl_kind.j2 k y0 y1) (impl_kind.j2 (k + 1) y0 y1)) ∧ (∀ y0 y1, LeO (impl_kind.j3 k y0 y1) (impl_kind.j3 (k + 1) y0 y1)) ∧ (∀ y0 y1, LeO (impl_kind.j4 k y0 y1) (impl_kind.j4 (k + 1) y0 y1)) ∧ (∀ y0 y1, LeO (impl_kind.j5 k y0 y1) (impl_kind.j5 (k + 1) y0 y1)) ∧ (∀ y0 y1, LeO (impl_kind.j6 k y0 y1) (impl_kind.j6 (k + 1) y0 y1)) ∧ (∀ y0 y1, LeO (impl_kind.j7 k y0 y1) (impl_kind.j7 (k + 1) y0 y1)) ∧ (∀ y0 y1, LeO (impl_kind.j8 k y0 y1) (impl_kind.j8 (k + 1) y0 y1)) ∧ (∀ y0 y1, LeO (impl_kind.j9 k y0 y1) (impl_kind.j9 (k + 1) y0 y1))
 | 0 => ⟨fun _ _ _ r h => by simp [impl_kind.j0] at h, fun _ _ _ r h => by simp [impl_kind.j1] at h, fun _ _ r h => by simp [impl_kind.j2] at h, fun _ _ r h => by simp [impl_kind.j3] at h, fun _ _ r h => by simp [impl_kind.j4] at h, fun _ _ r h => by simp [impl_kind.j5] at h, fun _ _ r h => by simp [impl_kind.j6] at h, fun _ _ r h => by simp [impl_kind.j7] at h, fun _ _ r h => by simp [impl_kind.j8] at h, fun _ _ r h => by simp [impl_kind.j9] at h⟩
 | k + 1 => by
  obtain ⟨ih0, ih1, ih2, ih3, ih4, ih5, ih6, ih7, ih8, ih9⟩ := impl_kind.mono_l k
  refine ⟨?_, ?_, ?_, ?_, ?_, ?_, ?_, ?_, ?_, ?_⟩
  all_goals intros
  all_goals first | unfold impl_kind.j0 | unfold impl_kind.j1 | unfold impl_kind.j2 | unfold impl_kind.j3 | unfold impl_kind.j4 | unfold impl_kind.j5 | unfold impl_kind.j6 | unfold impl_kind.j7 | unfold impl_kind.j8 | unfold impl_kind.j9
  all_goals repeat' first | (with_reducible first | exact ih0 _ _ _ | exact ih1 _ _ _ | exact ih2 _ _ | exact ih3 _ _ | exact ih4 _ _ | exact ih5 _ _ | exact ih6 _ _ | exact ih7 _ _ | exact ih8 _ _ | exact ih9 _ _ | exact LeO.refl _ | exact LeO.none _ | refine LeO.ite ?_ ?_ | refine LeO.bind ?_ (fun _ => ?_)) | exact ih0 _ _ _ | exact ih1 _ _ _ | exact ih2 _ _ | exact ih3 _ _ | exact ih4 _ _ | exact ih5 _ _ | exact ih6 _ _ | exact ih7 _ _ | exact ih8 _ _ | exact ih9 _ _ | exact LeO.none _ | refine LeO.ite ?_ ?_ | refine LeO.bind ?_ (fun _ => ?_)
theorem impl_kind.mono : ∀ a0 k, LeO (impl_kind.f k a0) (impl_kind.f (k + 1) a0) := by
 intro a0 k
 obtain ⟨ih0, ih1, ih2, ih3, ih4, ih5, ih6, ih7, ih8, ih9⟩ := impl_kind.mono_l k
 unfold impl_kind.f
 repeat' first | (with_reducible first | exact ih0 _ _ _ | exact ih1 _ _ _ | exact ih2 _ _ | exact ih3 _ _ | exact ih4 _ _ | exact ih5 _ _ | exact ih6 _ _ | exact ih7 _ _ | exact ih8 _ _ | exact ih9 _ _ | exact LeO.refl _ | exact LeO.none _ | refine LeO.ite ?_ ?_ | refine LeO.bind ?_ (fun _ => ?_)) | exact ih0 _ _ _ | exact ih1 _ _ _ | exact ih2 _ _ | exact ih3 _ _ | exact ih4 _ _ | exact ih5 _ _ | exact ih6 _ _ | exact ih7 _ _ | exact ih8 _ _ | exact ih9 _ _ | exact LeO.none _ | refine LeO.ite ?_ ?_ | refine LeO.bind ?_ (fun _ => ?_)
set_option maxHeartbeats 8000000 in
set_option maxRecDepth 100000 in
theorem impl_kind.calls (k : Nat) (a0 : Int) (r1 : Int) (r2 : Int) (w : World) (h : impl_kind.f k a0 = some (r1, r2)) :
  Calls Tryd.prog 185 #[.int .i64 a0] w fun e w' => e = .returned (.tuple #[.int .i64 r1, .int .i64 r2]) ∧ Drawn0 w w' := by
 have H : ((impl_block.f a0).bind fun bt101 => (if bt101.1 > 0 then (if bt101.2 < 32 then (impl_kind.j0 k bt101.2 (bt101.1 / 256) true) else ((impl_in.f bt101.2 64 67).bind fun t103 => (impl_kind.j0 k bt101.2 (bt101.1 / 256) t103))) else ((impl_in.f a0 0 31).bind fun t108 => (if t108 = true then (impl_kind.j2 k a0 true) else ((impl_in.f a0 127 159).bind fun t109 => (impl_kind.j2 k a0 t109)))))) = some (r1, r2) := h
 clear h
 replace H := Option.bind_eq_some_iff.mp H
 obtain ⟨⟨t101, t102⟩, A20, H⟩ := H
 replace H : (if t101 > 0 then (if t102 < 32 then (impl_kind.j0 k t102 (t101 / 256) true) else ((impl_in.f t102 64 67).bind fun t103 => (impl_kind.j0 k t102 (t101 / 256) t103))) else ((impl_in.f a0 0 31).bind fun t108 => (if t108 = true then (impl_kind.j2 k a0 true) else ((impl_in.f a0 127 159).bind fun t109 => (impl_kind.j2 k a0 t109))))) = some (r1, r2) := H
 have A2 := Aside0.mk A20
 clear A20
 by_cases c3 : t101 > 0
 ·as_aux_lemma =>
  rw [if_pos c3] at H
  have c3b0 : decide (0 < t101) = true := decide_eq_true c3
  clear c3
  have HC4 := Aside0.mk H
  clear H
  go_enter Tryd.func185, Tryd.ntmps185
  go_upto_region 4 with (first | ((with_reducible refine gate_callee (f := 172) rfl ?_); refine goesL_ (some 9) rfl rfl Tryd.func172 (by kernel_rfl) rfl #[.int .i64 a0] rfl (by (try simp only [List.map_toArray, List.map_cons, List.map_nil]); first | done | rfl | (simp only [List.length_drop, List.length_take]; rfl)) ?_; (with_reducible refine (impl_block.calls a0 t101 t102 _ A2.out).mono ?_); rintro e w' ⟨rfl, ⟨nd, rfl⟩⟩; refine ⟨_, rfl, ?_⟩))
  (try simp only [Act.put, List.setIfInBounds_toArray, List.set_cons_zero, List.set_cons_succ])
  go_cut [16] (fun v16 wc => ∃ (kq : Nat) (x16_3 : Bool), v16 = .bool x16_3 ∧ Aside0 (impl_kind.j0 kq t102 (t101 / 256) x16_3 = some (r1, r2)) ∧ Aside0 (kq ≤ k) ∧ Drawn0 w wc)
  case first =>
   have H := HC4.out
   clear HC4
   by_cases c5 : t102 < 32
   ·as_aux_lemma =>
    rw [if_pos c5] at H
    have c5b0 : decide (t102 < 32) = true := decide_eq_true c5
    clear c5
    (first | rw [c5b0] | (simp only [i64_w, i32_w]; rw [c5b0]) | skip)
    have H' := Aside0.mk H
    clear H
    go_wp2
    go_meet
    case rel => exact ⟨_, (true), (by first | rfl | (simp; done) | (simp [*]; done)), H', ⟨by first | omega | exact Nat.le_refl _⟩, by repeat (first | exact Drawn0.refl _ | apply Drawn0.step)⟩
   ·rw [if_neg c5] at H
    have c5b0 : decide (t102 < 32) = false := decide_eq_false c5
    clear c5
    (first | rw [c5b0] | (simp only [i64_w, i32_w]; rw [c5b0]) | skip)
    replace H := Option.bind_eq_some_iff.mp H
    obtain ⟨t103, A60, H⟩ := H
    replace H : (impl_kind.j0 k t102 (t101 / 256) t103) = some (r1, r2) := H
    have A6 := Aside0.mk A60
    clear A60
    have H' := Aside0.mk H
    clear H
    go_wp2_with (first | (go_at_call 97; (with_reducible refine (impl_in.calls t102 64 67 t103 _ A6.out).mono ?_); rintro e w' ⟨rfl, ⟨nd, rfl⟩⟩))
    go_meet
    case rel => exact ⟨_, (t103), (by first | rfl | (simp; done) | (simp [*]; done)), H', ⟨by first | omega | exact Nat.le_refl _⟩, by repeat (first | exact Drawn0.refl _ | apply Drawn0.step)⟩
  case rest =>
   clear HC4
   try clear c1
   try clear p2
   try clear c3
   try clear c3b0
   try clear c5
   try clear c5b0
   obtain ⟨kq, x16_3, rfl, HA, HJ3, ⟨mc3, rfl⟩⟩ := hcut
   cases kq with
   | zero => exact absurd HA.out (by simp [impl_kind.j0])
   | succ kj3 =>
    have H := HA.out
    clear HA
    simp only [impl_kind.j0] at H
    by_cases c7 : x16_3 = true
    ·as_aux_lemma =>
     subst c7
     have H1 : (some (4, (t101 / 256))) = some (r1, r2) := by rw [if_pos rfl] at H; exact H
     clear H
     have H := H1
     clear H1
     simp only [Option.some.injEq, Prod.mk.injEq] at H
     obtain ⟨rfl, rfl⟩ := H
     go_wp2
     go_ret2
     exact ⟨by first | rfl | (simp; done) | (simp [*]; done), by repeat (first | exact Drawn0.refl _ | apply Drawn0.step)⟩
    ·replace c7 := Bool.eq_false_iff.mpr c7
     subst c7
     have H1 : (if t102 < 64 then (impl_kind.j1 kj3 t102 (t101 / 256) true) else ((impl_in.f t102 72 75).bind fun t104 => (if t104 = true then (impl_kind.j1 kj3 t102 (t101 / 256) true) else ((impl_in.f t102 96 97).bind fun t105 => (impl_kind.j1 kj3 t102 (t101 / 256) t105))))) = some (r1, r2) := by rw [if_neg (show ¬ (false = true) by decide)] at H; exact H
     clear H
     have H := H1
     clear H1
     have HC8 := Aside0.mk H
     clear H
     go_upto_region 6 with (fail)
     go_cut [24] (fun v24 wc => ∃ (kq : Nat) (x24_7 : Bool), v24 = .bool x24_7 ∧ Aside0 (impl_kind.j1 kq t102 (t101 / 256) x24_7 = some (r1, r2)) ∧ Aside0 (kq ≤ kj3) ∧ Drawn0 w wc)
     case first =>
      have H := HC8.out
      clear HC8
      by_cases c9 : t102 < 64
      ·as_aux_lemma =>
       rw [if_pos c9] at H
       have c9b0 : decide (t102 < 64) = true := decide_eq_true c9
       clear c9
       (first | rw [c9b0] | (simp only [i64_w, i32_w]; rw [c9b0]) | skip)
       have H' := Aside0.mk H
       clear H
       go_wp2
       go_meet
       case rel => exact ⟨_, (true), (by first | rfl | (simp; done) | (simp [*]; done)), H', ⟨by have := HJ3.out; first | omega | exact Nat.le_refl _⟩, by repeat (first | exact Drawn0.refl _ | apply Drawn0.step)⟩
      ·rw [if_neg c9] at H
       have c9b0 : decide (t102 < 64) = false := decide_eq_false c9
       clear c9
       (first | rw [c9b0] | (simp only [i64_w, i32_w]; rw [c9b0]) | skip)
       replace H := Option.bind_eq_some_iff.mp H
       obtain ⟨t104, A100, H⟩ := H
       replace H : (if t104 = true then (impl_kind.j1 kj3 t102 (t101 / 256) true) else ((impl_in.f t102 96 97).bind fun t105 => (impl_kind.j1 kj3 t102 (t101 / 256) t105))) = some (r1, r2) := H
       have A10 := Aside0.mk A100
       clear A100
       by_cases c11 : t104 = true
       ·as_aux_lemma =>
        subst c11
        have H1 : (impl_kind.j1 kj3 t102 (t101 / 256) true) = some (r1, r2) := by rw [if_pos rfl] at H; exact H
        clear H
        have H := H1
        clear H1
        have H' := Aside0.mk H
        clear H
        go_wp2_with (first | (go_at_call 97; (with_reducible refine (impl_in.calls t102 72 75 true _ A10.out).mono ?_); rintro e w' ⟨rfl, ⟨nd, rfl⟩⟩))
        go_meet
        case rel => exact ⟨_, (true), (by first | rfl | (simp; done) | (simp [*]; done)), H', ⟨by have := HJ3.out; first | omega | exact Nat.le_refl _⟩, by repeat (first | exact Drawn0.refl _ | apply Drawn0.step)⟩
       ·replace c11 := Bool.eq_false_iff.mpr c11
        subst c11
        have H1 : ((impl_in.f t102 96 97).bind fun t105 => (impl_kind.j1 kj3 t102 (t101 / 256) t105)) = some (r1, r2) := by rw [if_neg (show ¬ (false = true) by decide)] at H; exact H
        clear H
        have H := H1
        clear H1
        replace H := Option.bind_eq_some_iff.mp H
        obtain ⟨t105, A120, H⟩ := H
        replace H : (impl_kind.j1 kj3 t102 (t101 / 256) t105) = some (r1, r2) := H
        have A12 := Aside0.mk A120
        clear A120
        have H' := Aside0.mk H
        clear H
        go_wp2_with (first | (go_at_call 97; (with_reducible refine (impl_in.calls t102 72 75 false _ A10.out).mono ?_); rintro e w' ⟨rfl, ⟨nd, rfl⟩⟩) | (go_at_call 97; (with_reducible refine (impl_in.calls t102 96 97 t105 _ A12.out).mono ?_); rintro e w' ⟨rfl, ⟨nd, rfl⟩⟩))
        go_meet
        case rel => exact ⟨_, (t105), (by first | rfl | (simp; done) | (simp [*]; done)), H', ⟨by have := HJ3.out; first | omega | exact Nat.le_refl _⟩, by repeat (first | exact Drawn0.refl _ | apply Drawn0.step)⟩
     case rest =>
      clear HC8
      try clear c1
      try clear p2
      try clear c3
      try clear c3b0
      try clear c5
      try clear c5b0
      try clear c7
      try clear c9
      try clear c9b0
      try clear c11
      try clear p2
      obtain ⟨kq, x24_7, rfl, HA, HJ7, ⟨mc7, rfl⟩⟩ := hcut
      cases kq with
      | zero => exact absurd HA.out (by simp [impl_kind.j1])
      | succ kj7 =>
       have H := HA.out
       clear HA
       simp only [impl_kind.j1] at H
       by_cases c13 : x24_7 = true
       ·as_aux_lemma =>
        subst c13
        have H1 : (some (5, (t101 / 256))) = some (r1, r2) := by rw [if_pos rfl] at H; exact H
        clear H
        have H := H1
        clear H1
        simp only [Option.some.injEq, Prod.mk.injEq] at H
        obtain ⟨rfl, rfl⟩ := H
        go_wp2
        go_ret2
        exact ⟨by first | rfl | (simp; done) | (simp [*]; done), by repeat (first | exact Drawn0.refl _ | apply Drawn0.step)⟩
       ·replace c13 := Bool.eq_false_iff.mpr c13
        subst c13
        have H1 : ((impl_in.f t102 68 71).bind fun t106 => (if t106 = true then (some (6, (t101 / 256))) else ((impl_in.f t102 80 89).bind fun t107 => (if t107 = true then (some (8, (t101 / 256))) else (some (0, 0)))))) = some (r1, r2) := by rw [if_neg (show ¬ (false = true) by decide)] at H; exact H
        clear H
        have H := H1
        clear H1
        replace H := Option.bind_eq_some_iff.mp H
        obtain ⟨t106, A140, H⟩ := H
        replace H : (if t106 = true then (some (6, (t101 / 256))) else ((impl_in.f t102 80 89).bind fun t107 => (if t107 = true then (some (8, (t101 / 256))) else (some (0, 0))))) = some (r1, r2) := H
        have A14 := Aside0.mk A140
        clear A140
        by_cases c15 : t106 = true
        ·as_aux_lemma =>
         subst c15
         have H1 : (some (6, (t101 / 256))) = some (r1, r2) := by rw [if_pos rfl] at H; exact H
         clear H
         have H := H1
         clear H1
         simp only [Option.some.injEq, Prod.mk.injEq] at H
         obtain ⟨rfl, rfl⟩ := H
         go_wp2_with (first | ((with_reducible refine gate_callee (f := 97) rfl ?_); refine goesL_ (some 38) rfl rfl Tryd.func97 (by kernel_rfl) rfl #[.int .i64 t102, .int .i64 68, .int .i64 71] rfl (by (try simp only [List.map_toArray, List.map_cons, List.map_nil]); first | done | rfl | (simp only [List.length_drop, List.length_take]; rfl)) ?_; (with_reducible refine (impl_in.calls t102 68 71 true _ A14.out).mono ?_); rintro e w' ⟨rfl, ⟨nd, rfl⟩⟩; refine ⟨_, rfl, ?_⟩))
         go_ret2
         exact ⟨by first | rfl | (simp; done) | (simp [*]; done), by repeat (first | exact Drawn0.refl _ | apply Drawn0.step)⟩
        ·replace c15 := Bool.eq_false_iff.mpr c15
         subst c15
         have H1 : ((impl_in.f t102 80 89).bind fun t107 => (if t107 = true then (some (8, (t101 / 256))) else (some (0, 0)))) = some (r1, r2) := by rw [if_neg (show ¬ (false = true) by decide)] at H; exact H
         clear H
         have H := H1
         clear H1
         replace H := Option.bind_eq_some_iff.mp H
         obtain ⟨t107, A160, H⟩ := H
         replace H : (if t107 = true then (some (8, (t101 / 256))) else (some (0, 0))) = some (r1, r2) := H
         have A16 := Aside0.mk A160
         clear A160
         by_cases c17 : t107 = true
         ·as_aux_lemma =>
          subst c17
          have H1 : (some (8, (t101 / 256))) = some (r1, r2) := by rw [if_pos rfl] at H; exact H
          clear H
          have H := H1
          clear H1
          simp only [Option.some.injEq, Prod.mk.injEq] at H
          obtain ⟨rfl, rfl⟩ := H
          go_wp2_with (first | ((with_reducible refine gate_callee (f := 97) rfl ?_); refine goesL_ (some 38) rfl rfl Tryd.func97 (by kernel_rfl) rfl #[.int .i64 t102, .int .i64 68, .int .i64 71] rfl (by (try simp only [List.map_toArray, List.map_cons, List.map_nil]); first | done | rfl | (simp only [List.length_drop, List.length_take]; rfl)) ?_; (with_reducible refine (impl_in.calls t102 68 71 false _ A14.out).mono ?_); rintro e w' ⟨rfl, ⟨nd, rfl⟩⟩; refine ⟨_, rfl, ?_⟩) | ((with_reducible refine gate_callee (f := 97) rfl ?_); refine goesL_ (some 42) rfl rfl Tryd.func97 (by kernel_rfl) rfl #[.int .i64 t102, .int .i64 80, .int .i64 89] rfl (by (try simp only [List.map_toArray, List.map_cons, List.map_nil]); first | done | rfl | (simp only [List.length_drop, List.length_take]; rfl)) ?_; (with_reducible refine (impl_in.calls t102 80 89 true _ A16.out).mono ?_); rintro e w' ⟨rfl, ⟨nd, rfl⟩⟩; refine ⟨_, rfl, ?_⟩))
          go_ret2
          exact ⟨by first | rfl | (simp; done) | (simp [*]; done), by repeat (first | exact Drawn0.refl _ | apply Drawn0.step)⟩
         ·replace c17 := Bool.eq_false_iff.mpr c17
          subst c17
          have H1 : (some (0, 0)) = some (r1, r2) := by rw [if_neg (show ¬ (false = true) by decide)] at H; exact H
          clear H
          have H := H1
          clear H1
          simp only [Option.some.injEq, Prod.mk.injEq] at H
          obtain ⟨rfl, rfl⟩ := H
          go_wp2_with (first | ((with_reducible refine gate_callee (f := 97) rfl ?_); refine goesL_ (some 38) rfl rfl Tryd.func97 (by kernel_rfl) rfl #[.int .i64 t102, .int .i64 68, .int .i64 71] rfl (by (try simp only [List.map_toArray, List.map_cons, List.map_nil]); first | done | rfl | (simp only [List.length_drop, List.length_take]; rfl)) ?_; (with_reducible refine (impl_in.calls t102 68 71 false _ A14.out).mono ?_); rintro e w' ⟨rfl, ⟨nd, rfl⟩⟩; refine ⟨_, rfl, ?_⟩) | ((with_reducible refine gate_callee (f := 97) rfl ?_); refine goesL_ (some 42) rfl rfl Tryd.func97 (by kernel_rfl) rfl #[.int .i64 t102, .int .i64 80, .int .i64 89] rfl (by (try simp only [List.map_toArray, List.map_cons, List.map_nil]); first | done | rfl | (simp only [List.length_drop, List.length_take]; rfl)) ?_; (with_reducible refine (impl_in.calls t102 80 89 false _ A16.out).mono ?_); rintro e w' ⟨rfl, ⟨nd, rfl⟩⟩; refine ⟨_, rfl, ?_⟩))
          go_ret2
          exact ⟨by first | rfl | (simp; done) | (simp [*]; done), by repeat (first | exact Drawn0.refl _ | apply Drawn0.step)⟩
 ·rw [if_neg c3] at H
  have c3b0 : decide (0 < t101) = false := decide_eq_false c3
  clear c3
  have HC18 := Aside0.mk H
  clear H
  go_enter Tryd.func185, Tryd.ntmps185
  go_upto_region 13 with (first | ((with_reducible refine gate_callee (f := 172) rfl ?_); refine goesL_ (some 9) rfl rfl Tryd.func172 (by kernel_rfl) rfl #[.int .i64 a0] rfl (by (try simp only [List.map_toArray, List.map_cons, List.map_nil]); first | done | rfl | (simp only [List.length_drop, List.length_take]; rfl)) ?_; (with_reducible refine (impl_block.calls a0 t101 t102 _ A2.out).mono ?_); rintro e w' ⟨rfl, ⟨nd, rfl⟩⟩; refine ⟨_, rfl, ?_⟩))
  (try simp only [Act.put, List.setIfInBounds_toArray, List.set_cons_zero, List.set_cons_succ])
  go_cut [44] (fun v44 wc => ∃ (kq : Nat) (x44_17 : Bool), v44 = .bool x44_17 ∧ Aside0 (impl_kind.j2 kq a0 x44_17 = some (r1, r2)) ∧ Aside0 (kq ≤ k) ∧ Drawn0 w wc)
  case first =>
   have H := HC18.out
   clear HC18
   replace H := Option.bind_eq_some_iff.mp H
   obtain ⟨t108, A190, H⟩ := H
   replace H : (if t108 = true then (impl_kind.j2 k a0 true) else ((impl_in.f a0 127 159).bind fun t109 => (impl_kind.j2 k a0 t109))) = some (r1, r2) := H
   have A19 := Aside0.mk A190
   clear A190
   by_cases c20 : t108 = true
   ·as_aux_lemma =>
    subst c20
    have H1 : (impl_kind.j2 k a0 true) = some (r1, r2) := by rw [if_pos rfl] at H; exact H
    clear H
    have H := H1
    clear H1
    have H' := Aside0.mk H
    clear H
    go_wp2_with (first | ((with_reducible refine gate_callee (f := 97) rfl ?_); refine goesL_ (some 46) rfl rfl Tryd.func97 (by kernel_rfl) rfl #[.int .i64 a0, .int .i64 0, .int .i64 31] rfl (by (try simp only [List.map_toArray, List.map_cons, List.map_nil]); first | done | rfl | (simp only [List.length_drop, List.length_take]; rfl)) ?_; (with_reducible refine (impl_in.calls a0 0 31 true _ A19.out).mono ?_); rintro e w' ⟨rfl, ⟨nd, rfl⟩⟩; refine ⟨_, rfl, ?_⟩))
    go_meet
    case rel => exact ⟨_, (true), (by first | rfl | (simp; done) | (simp [*]; done)), H', ⟨by first | omega | exact Nat.le_refl _⟩, by repeat (first | exact Drawn0.refl _ | apply Drawn0.step)⟩
   ·replace c20 := Bool.eq_false_iff.mpr c20
    subst c20
    have H1 : ((impl_in.f a0 127 159).bind fun t109 => (impl_kind.j2 k a0 t109)) = some (r1, r2) := by rw [if_neg (show ¬ (false = true) by decide)] at H; exact H
    clear H
    have H := H1
    clear H1
    replace H := Option.bind_eq_some_iff.mp H
    obtain ⟨t109, A210, H⟩ := H
    replace H : (impl_kind.j2 k a0 t109) = some (r1, r2) := H
    have A21 := Aside0.mk A210
    clear A210
    have H' := Aside0.mk H
    clear H
    go_wp2_with (first | ((with_reducible refine gate_callee (f := 97) rfl ?_); refine goesL_ (some 46) rfl rfl Tryd.func97 (by kernel_rfl) rfl #[.int .i64 a0, .int .i64 0, .int .i64 31] rfl (by (try simp only [List.map_toArray, List.map_cons, List.map_nil]); first | done | rfl | (simp only [List.length_drop, List.length_take]; rfl)) ?_; (with_reducible refine (impl_in.calls a0 0 31 false _ A19.out).mono ?_); rintro e w' ⟨rfl, ⟨nd, rfl⟩⟩; refine ⟨_, rfl, ?_⟩) | (go_at_call 97; (with_reducible refine (impl_in.calls a0 127 159 t109 _ A21.out).mono ?_); rintro e w' ⟨rfl, ⟨nd, rfl⟩⟩))
    go_meet
    case rel => exact ⟨_, (t109), (by first | rfl | (simp; done) | (simp [*]; done)), H', ⟨by first | omega | exact Nat.le_refl _⟩, by repeat (first | exact Drawn0.refl _ | apply Drawn0.step)⟩
  case rest =>
   clear HC18
   try clear c1
   try clear c2
   try clear p2
   try clear c3
   try clear c3b0
   try clear c5
   try clear c5b0
   try clear c7
   try clear c9
   try clear c9b0
   try clear c11
   try clear c13
   try clear c15
   try clear c17
   try clear c18
   try clear c20
   try clear p2
   obtain ⟨kq, x44_17, rfl, HA, HJ17, ⟨mc17, rfl⟩⟩ := hcut
   cases kq with
   | zero => exact absurd HA.out (by simp [impl_kind.j2])
   | succ kj17 =>
    have H := HA.out
    clear HA
    simp only [impl_kind.j2] at H
    by_cases c22 : x44_17 = true
    ·as_aux_lemma =>
     subst c22
     have H1 : (some (1, 0)) = some (r1, r2) := by rw [if_pos rfl] at H; exact H
     clear H
     have H := H1
     clear H1
     simp only [Option.some.injEq, Prod.mk.injEq] at H
     obtain ⟨rfl, rfl⟩ := H
     go_wp2
     go_ret2
     exact ⟨by first | rfl | (simp; done) | (simp [*]; done), by repeat (first | exact Drawn0.refl _ | apply Drawn0.step)⟩
    ·replace c22 := Bool.eq_false_iff.mpr c22
     subst c22
     have H1 : (if a0 = 32 then (impl_kind.j3 kj17 a0 true) else (if a0 = 160 then (impl_kind.j3 kj17 a0 true) else (impl_kind.j3 kj17 a0 (a0 == 8064)))) = some (r1, r2) := by rw [if_neg (show ¬ (false = true) by decide)] at H; exact H
     clear H
     have H := H1
     clear H1
     have HC23 := Aside0.mk H
     clear H
     go_upto_region 15 with (fail)
     go_cut [51] (fun v51 wc => ∃ (kq : Nat) (x51_22 : Bool), v51 = .bool x51_22 ∧ Aside0 (impl_kind.j3 kq a0 x51_22 = some (r1, r2)) ∧ Aside0 (kq ≤ kj17) ∧ Drawn0 w wc)
     case first =>
      have H := HC23.out
      clear HC23
      by_cases c24 : a0 = 32
      ·as_aux_lemma =>
       rw [if_pos c24] at H
       have c24b0 : (a0 == 32) = true := beq_iff_eq.mpr c24
       have c24b1 : (a0 != 32) = false := bne_eq_false_iff_eq.mpr c24
       clear c24
       (first | rw [c24b0] | (simp only [i64_w, i32_w]; rw [c24b0]) | skip)
       have H' := Aside0.mk H
       clear H
       go_wp2
       go_meet
       case rel => exact ⟨_, (true), (by first | rfl | (simp; done) | (simp [*]; done)), H', ⟨by have := HJ17.out; first | omega | exact Nat.le_refl _⟩, by repeat (first | exact Drawn0.refl _ | apply Drawn0.step)⟩
      ·rw [if_neg c24] at H
       have c24b0 : (a0 == 32) = false := beq_eq_false_iff_ne.mpr c24
       have c24b1 : (a0 != 32) = true := bne_iff_ne.mpr c24
       (first | rw [c24b0] | (simp only [i64_w, i32_w]; rw [c24b0]) | skip)
       by_cases c25 : a0 = 160
       ·as_aux_lemma =>
        rw [if_pos c25] at H
        have c25b0 : (a0 == 160) = true := beq_iff_eq.mpr c25
        have c25b1 : (a0 != 160) = false := bne_eq_false_iff_eq.mpr c25
        clear c25
        have H' := Aside0.mk H
        clear H
        go_wp2
        go_meet
        case rel => exact ⟨_, (true), (by first | rfl | (simp; done) | (simp [*]; done)), H', ⟨by have := HJ17.out; first | omega | exact Nat.le_refl _⟩, by repeat (first | exact Drawn0.refl _ | apply Drawn0.step)⟩
       ·rw [if_neg c25] at H
        have c25b0 : (a0 == 160) = false := beq_eq_false_iff_ne.mpr c25
        have c25b1 : (a0 != 160) = true := bne_iff_ne.mpr c25
        have H' := Aside0.mk H
        clear H
        go_wp2
        go_meet
        case rel => exact ⟨_, ((a0 == 8064)), (by first | rfl | (simp; done) | (simp [*]; done)), H', ⟨by have := HJ17.out; first | omega | exact Nat.le_refl _⟩, by repeat (first | exact Drawn0.refl _ | apply Drawn0.step)⟩
     case rest =>
      clear HC23
      try clear c1
      try clear c2
      try clear p2
      try clear c3
      try clear c3b0
      try clear c5
      try clear c5b0
      try clear c7
      try clear c9
      try clear c9b0
      try clear c11
      try clear c13
      try clear c15
      try clear c17
      try clear c18
      try clear c20
      try clear c22
      try clear c24
      try clear c24b0
      try clear c24b1
      try clear c25
      try clear c25b0
      try clear c25b1
      try clear p2
      obtain ⟨kq, x51_22, rfl, HA, HJ22, ⟨mc22, rfl⟩⟩ := hcut
      cases kq with
      | zero => exact absurd HA.out (by simp [impl_kind.j3])
      | succ kj22 =>
       have H := HA.out
       clear HA
       simp only [impl_kind.j3] at H
       by_cases c26 : x51_22 = true
       ·as_aux_lemma =>
        subst c26
        have H1 : (some (2, 0)) = some (r1, r2) := by rw [if_pos rfl] at H; exact H
        clear H
        have H := H1
        clear H1
        simp only [Option.some.injEq, Prod.mk.injEq] at H
        obtain ⟨rfl, rfl⟩ := H
        go_wp2
        go_ret2
        exact ⟨by first | rfl | (simp; done) | (simp [*]; done), by repeat (first | exact Drawn0.refl _ | apply Drawn0.step)⟩
       ·replace c26 := Bool.eq_false_iff.mpr c26
        subst c26
        have H1 : ((impl_in.f a0 48 57).bind fun t110 => (if t110 = true then (some (8, 0)) else ((impl_in.f a0 65 90).bind fun t111 => (if t111 = true then (some (4, 1)) else ((impl_in.f a0 97 122).bind fun t112 => (if t112 = true then (some (5, 1)) else ((impl_in.f a0 33 126).bind fun t113 => (if t113 = true then (some (9, 0)) else (if a0 = 173 then (some (11, 0)) else ((impl_in.f a0 161 191).bind fun t114 => (if t114 = true then (some (10, 0)) else ((impl_in.f a0 1280 1311).bind fun t115 => (if t115 = true then (some (7, 5)) else ((impl_in.f a0 1360 1369).bind fun t116 => (if t116 = true then (some (8, 5)) else ((impl_in.f a0 1536 1567).bind fun t117 => (if t117 = true then (some (7, 6)) else ((impl_in.f a0 1568 1579).bind fun t118 => (if t118 = true then (impl_kind.j4 kj22 a0 true) else (if a0 = 1584 then (impl_kind.j4 kj22 a0 true) else (impl_kind.j4 kj22 a0 (a0 == 1585)))))))))))))))))))))) = some (r1, r2) := by rw [if_neg (show ¬ (false = true) by decide)] at H; exact H
        clear H
        have H := H1
        clear H1
        replace H := Option.bind_eq_some_iff.mp H
        obtain ⟨t110, A270, H⟩ := H
        replace H : (if t110 = true then (some (8, 0)) else ((impl_in.f a0 65 90).bind fun t111 => (if t111 = true then (some (4, 1)) else ((impl_in.f a0 97 122).bind fun t112 => (if t112 = true then (some (5, 1)) else ((impl_in.f a0 33 126).bind fun t113 => (if t113 = true then (some (9, 0)) else (if a0 = 173 then (some (11, 0)) else ((impl_in.f a0 161 191).bind fun t114 => (if t114 = true then (some (10, 0)) else ((impl_in.f a0 1280 1311).bind fun t115 => (if t115 = true then (some (7, 5)) else ((impl_in.f a0 1360 1369).bind fun t116 => (if t116 = true then (some (8, 5)) else ((impl_in.f a0 1536 1567).bind fun t117 => (if t117 = true then (some (7, 6)) else ((impl_in.f a0 1568 1579).bind fun t118 => (if t118 = true then (impl_kind.j4 kj22 a0 true) else (if a0 = 1584 then (impl_kind.j4 kj22 a0 true) else (impl_kind.j4 kj22 a0 (a0 == 1585))))))))))))))))))))) = some (r1, r2) := H
        have A27 := Aside0.mk A270
        clear A270
        by_cases c28 : t110 = true
        ·as_aux_lemma =>
         subst c28
         have H1 : (some (8, 0)) = some (r1, r2) := by rw [if_pos rfl] at H; exact H
         clear H
         have H := H1
         clear H1
         simp only [Option.some.injEq, Prod.mk.injEq] at H
         obtain ⟨rfl, rfl⟩ := H
         go_wp2_with (first | ((with_reducible refine gate_callee (f := 97) rfl ?_); refine goesL_ (some 64) rfl rfl Tryd.func97 (by kernel_rfl) rfl #[.int .i64 a0, .int .i64 48, .int .i64 57] rfl (by (try simp only [List.map_toArray, List.map_cons, List.map_nil]); first | done | rfl | (simp only [List.length_drop, List.length_take]; rfl)) ?_; (with_reducible refine (impl_in.calls a0 48 57 true _ A27.out).mono ?_); rintro e w' ⟨rfl, ⟨nd, rfl⟩⟩; refine ⟨_, rfl, ?_⟩))
         go_ret2
         exact ⟨by first | rfl | (simp; done) | (simp [*]; done), by repeat (first | exact Drawn0.refl _ | apply Drawn0.step)⟩
        ·replace c28 := Bool.eq_false_iff.mpr c28
         subst c28
         have H1 : ((impl_in.f a0 65 90).bind fun t111 => (if t111 = true then (some (4, 1)) else ((impl_in.f a0 97 122).bind fun t112 => (if t112 = true then (some (5, 1)) else ((impl_in.f a0 33 126).bind fun t113 => (if t113 = true then (some (9, 0)) else (if a0 = 173 then (some (11, 0)) else ((impl_in.f a0 161 191).bind fun t114 => (if t114 = true then (some (10, 0)) else ((impl_in.f a0 1280 1311).bind fun t115 => (if t115 = true then (some (7, 5)) else ((impl_in.f a0 1360 1369).bind fun t116 => (if t116 = true then (some (8, 5)) else ((impl_in.f a0 1536 1567).bind fun t117 => (if t117 = true then (some (7, 6)) else ((impl_in.f a0 1568 1579).bind fun t118 => (if t118 = true then (impl_kind.j4 kj22 a0 true) else (if a0 = 1584 then (impl_kind.j4 kj22 a0 true) else (impl_kind.j4 kj22 a0 (a0 == 1585)))))))))))))))))))) = some (r1, r2) := by rw [if_neg (show ¬ (false = true) by decide)] at H; exact H
         clear H
         have H := H1
         clear H1
         replace H := Option.bind_eq_some_iff.mp H
         obtain ⟨t111, A290, H⟩ := H
         replace H : (if t111 = true then (some (4, 1)) else ((impl_in.f a0 97 122).bind fun t112 => (if t112 = true then (some (5, 1)) else ((impl_in.f a0 33 126).bind fun t113 => (if t113 = true then (some (9, 0)) else (if a0 = 173 then (some (11, 0)) else ((impl_in.f a0 161 191).bind fun t114 => (if t114 = true then (some (10, 0)) else ((impl_in.f a0 1280 1311).bind fun t115 => (if t115 = true then (some (7, 5)) else ((impl_in.f a0 1360 1369).bind fun t116 => (if t116 = true then (some (8, 5)) else ((impl_in.f a0 1536 1567).bind fun t117 => (if t117 = true then (some (7, 6)) else ((impl_in.f a0 1568 1579).bind fun t118 => (if t118 = true then (impl_kind.j4 kj22 a0 true) else (if a0 = 1584 then (impl_kind.j4 kj22 a0 true) else (impl_kind.j4 kj22 a0 (a0 == 1585))))))))))))))))))) = some (r1, r2) := H
         have A29 := Aside0.mk A290
         clear A290
         by_cases c30 : t111 = true
         ·as_aux_lemma =>
          subst c30
          have H1 : (some (4, 1)) = some (r1, r2) := by rw [if_pos rfl] at H; exact H
          clear H
          have H := H1
          clear H1
          simp only [Option.some.injEq, Prod.mk.injEq] at H
          obtain ⟨rfl, rfl⟩ := H
          go_wp2_with (first | ((with_reducible refine gate_callee (f := 97) rfl ?_); refine goesL_ (some 64) rfl rfl Tryd.func97 (by kernel_rfl) rfl #[.int .i64 a0, .int .i64 48, .int .i64 57] rfl (by (try simp only [List.map_toArray, List.map_cons, List.map_nil]); first | done | rfl | (simp only [List.length_drop, List.length_take]; rfl)) ?_; (with_reducible refine (impl_in.calls a0 48 57 false _ A27.out).mono ?_); rintro e w' ⟨rfl, ⟨nd, rfl⟩⟩; refine ⟨_, rfl, ?_⟩) | ((with_reducible refine gate_callee (f := 97) rfl ?_); refine goesL_ (some 67) rfl rfl Tryd.func97 (by kernel_rfl) rfl #[.int .i64 a0, .int .i64 65, .int .i64 90] rfl (by (try simp only [List.map_toArray, List.map_cons, List.map_nil]); first | done | rfl | (simp only [List.length_drop, List.length_take]; rfl)) ?_; (with_reducible refine (impl_in.calls a0 65 90 true _ A29.out).mono ?_); rintro e w' ⟨rfl, ⟨nd, rfl⟩⟩; refine ⟨_, rfl, ?_⟩))
          go_ret2
          exact ⟨by first | rfl | (simp; done) | (simp [*]; done), by repeat (first | exact Drawn0.refl _ | apply Drawn0.step)⟩
         ·replace c30 := Bool.eq_false_iff.mpr c30
          subst c30
          have H1 : ((impl_in.f a0 97 122).bind fun t112 => (if t112 = true then (some (5, 1)) else ((impl_in.f a0 33 126).bind fun t113 => (if t113 = true then (some (9, 0)) else (if a0 = 173 then (some (11, 0)) else ((impl_in.f a0 161 191).bind fun t114 => (if t114 = true then (some (10, 0)) else ((impl_in.f a0 1280 1311).bind fun t115 => (if t115 = true then (some (7, 5)) else ((impl_in.f a0 1360 1369).bind fun t116 => (if t116 = true then (some (8, 5)) else ((impl_in.f a0 1536 1567).bind fun t117 => (if t117 = true then (some (7, 6)) else ((impl_in.f a0 1568 1579).bind fun t118 => (if t118 = true then (impl_kind.j4 kj22 a0 true) else (if a0 = 1584 then (impl_kind.j4 kj22 a0 true) else (impl_kind.j4 kj22 a0 (a0 == 1585)))))))))))))))))) = some (r1, r2) := by rw [if_neg (show ¬ (false = true) by decide)] at H; exact H
          clear H
          have H := H1
          clear H1
          replace H := Option.bind_eq_some_iff.mp H
          obtain ⟨t112, A310, H⟩ := H
          replace H : (if t112 = true then (some (5, 1)) else ((impl_in.f a0 33 126).bind fun t113 => (if t113 = true then (some (9, 0)) else (if a0 = 173 then (some (11, 0)) else ((impl_in.f a0 161 191).bind fun t114 => (if t114 = true then (some (10, 0)) else ((impl_in.f a0 1280 1311).bind fun t115 => (if t115 = true then (some (7, 5)) else ((impl_in.f a0 1360 1369).bind fun t116 => (if t116 = true then (some (8, 5)) else ((impl_in.f a0 1536 1567).bind fun t117 => (if t117 = true then (some (7, 6)) else ((impl_in.f a0 1568 1579).bind fun t118 => (if t118 = true then (impl_kind.j4 kj22 a0 true) else (if a0 = 1584 then (impl_kind.j4 kj22 a0 true) else (impl_kind.j4 kj22 a0 (a0 == 1585))))))))))))))))) = some (r1, r2) := H
          have A31 := Aside0.mk A310
          clear A310
          by_cases c32 : t112 = true
          ·as_aux_lemma =>
           subst c32
           have H1 : (some (5, 1)) = some (r1, r2) := by rw [if_pos rfl] at H; exact H
           clear H
           have H := H1
           clear H1
           simp only [Option.some.injEq, Prod.mk.injEq] at H
           obtain ⟨rfl, rfl⟩ := H
           go_wp2_with (first | ((with_reducible refine gate_callee (f := 97) rfl ?_); refine goesL_ (some 64) rfl rfl Tryd.func97 (by kernel_rfl) rfl #[.int .i64 a0, .int .i64 48, .int .i64 57] rfl (by (try simp only [List.map_toArray, List.map_cons, List.map_nil]); first | done | rfl | (simp only [List.length_drop, List.length_take]; rfl)) ?_; (with_reducible refine (impl_in.calls a0 48 57 false _ A27.out).mono ?_); rintro e w' ⟨rfl, ⟨nd, rfl⟩⟩; refine ⟨_, rfl, ?_⟩) | ((with_reducible refine gate_callee (f := 97) rfl ?_); refine goesL_ (some 67) rfl rfl Tryd.func97 (by kernel_rfl) rfl #[.int .i64 a0, .int .i64 65, .int .i64 90] rfl (by (try simp only [List.map_toArray, List.map_cons, List.map_nil]); first | done | rfl | (simp only [List.length_drop, List.length_take]; rfl)) ?_; (with_reducible refine (impl_in.calls a0 65 90 false _ A29.out).mono ?_); rintro e w' ⟨rfl, ⟨nd, rfl⟩⟩; refine ⟨_, rfl, ?_⟩) | ((with_reducible refine gate_callee (f := 97) rfl ?_); refine goesL_ (some 70) rfl rfl Tryd.func97 (by kernel_rfl) rfl #[.int .i64 a0, .int .i64 97, .int .i64 122] rfl (by (try simp only [List.map_toArray, List.map_cons, List.map_nil]); first | done | rfl | (simp only [List.length_drop, List.length_take]; rfl)) ?_; (with_reducible refine (impl_in.calls a0 97 122 true _ A31.out).mono ?_); rintro e w' ⟨rfl, ⟨nd, rfl⟩⟩; refine ⟨_, rfl, ?_⟩))
           go_ret2
           exact ⟨by first | rfl | (simp; done) | (simp [*]; done), by repeat (first | exact Drawn0.refl _ | apply Drawn0.step)⟩
          ·replace c32 := Bool.eq_false_iff.mpr c32
           subst c32
           have H1 : ((impl_in.f a0 33 126).bind fun t113 => (if t113 = true then (some (9, 0)) else (if a0 = 173 then (some (11, 0)) else ((impl_in.f a0 161 191).bind fun t114 => (if t114 = true then (some (10, 0)) else ((impl_in.f a0 1280 1311).bind fun t115 => (if t115 = true then (some (7, 5)) else ((impl_in.f a0 1360 1369).bind fun t116 => (if t116 = true then (some (8, 5)) else ((impl_in.f a0 1536 1567).bind fun t117 => (if t117 = true then (some (7, 6)) else ((impl_in.f a0 1568 1579).bind fun t118 => (if t118 = true then (impl_kind.j4 kj22 a0 true) else (if a0 = 1584 then (impl_kind.j4 kj22 a0 true) else (impl_kind.j4 kj22 a0 (a0 == 1585)))))))))))))))) = some (r1, r2) := by rw [if_neg (show ¬ (false = true) by decide)] at H; exact H
           clear H
           have H := H1
           clear H1
           replace H := Option.bind_eq_some_iff.mp H
           obtain ⟨t113, A330, H⟩ := H
           replace H : (if t113 = true then (some (9, 0)) else (if a0 = 173 then (some (11, 0)) else ((impl_in.f a0 161 191).bind fun t114 => (if t114 = true then (some (10, 0)) else ((impl_in.f a0 1280 1311).bind fun t115 => (if t115 = true then (some (7, 5)) else ((impl_in.f a0 1360 1369).bind fun t116 => (if t116 = true then (some (8, 5)) else ((impl_in.f a0 1536 1567).bind fun t117 => (if t117 = true then (some (7, 6)) else ((impl_in.f a0 1568 1579).bind fun t118 => (if t118 = true then (impl_kind.j4 kj22 a0 true) else (if a0 = 1584 then (impl_kind.j4 kj22 a0 true) else (impl_kind.j4 kj22 a0 (a0 == 1585))))))))))))))) = some (r1, r2) := H
           have A33 := Aside0.mk A330
           clear A330
           by_cases c34 : t113 = true
           ·as_aux_lemma =>
            subst c34
            have H1 : (some (9, 0)) = some (r1, r2) := by rw [if_pos rfl] at H; exact H
            clear H
            have H := H1
            clear H1
            simp only [Option.some.injEq, Prod.mk.injEq] at H
            obtain ⟨rfl, rfl⟩ := H
            go_wp2_with (first | ((with_reducible refine gate_callee (f := 97) rfl ?_); refine goesL_ (some 64) rfl rfl Tryd.func97 (by kernel_rfl) rfl #[.int .i64 a0, .int .i64 48, .int .i64 57] rfl (by (try simp only [List.map_toArray, List.map_cons, List.map_nil]); first | done | rfl | (simp only [List.length_drop, List.length_take]; rfl)) ?_; (with_reducible refine (impl_in.calls a0 48 57 false _ A27.out).mono ?_); rintro e w' ⟨rfl, ⟨nd, rfl⟩⟩; refine ⟨_, rfl, ?_⟩) | ((with_reducible refine gate_callee (f := 97) rfl ?_); refine goesL_ (some 67) rfl rfl Tryd.func97 (by kernel_rfl) rfl #[.int .i64 a0, .int .i64 65, .int .i64 90] rfl (by (try simp only [List.map_toArray, List.map_cons, List.map_nil]); first | done | rfl | (simp only [List.length_drop, List.length_take]; rfl)) ?_; (with_reducible refine (impl_in.calls a0 65 90 false _ A29.out).mono ?_); rintro e w' ⟨rfl, ⟨nd, rfl⟩⟩; refine ⟨_, rfl, ?_⟩) | ((with_reducible refine gate_callee (f := 97) rfl ?_); refine goesL_ (some 70) rfl rfl Tryd.func97 (by kernel_rfl) rfl #[.int .i64 a0, .int .i64 97, .int .i64 122] rfl (by (try simp only [List.map_toArray, List.map_cons, List.map_nil]); first | done | rfl | (simp only [List.length_drop, List.length_take]; rfl)) ?_; (with_reducible refine (impl_in.calls a0 97 122 false _ A31.out).mono ?_); rintro e w' ⟨rfl, ⟨nd, rfl⟩⟩; refine ⟨_, rfl, ?_⟩) | ((with_reducible refine gate_callee (f := 97) rfl ?_); refine goesL_ (some 73) rfl rfl Tryd.func97 (by kernel_rfl) rfl #[.int .i64 a0, .int .i64 33, .int .i64 126] rfl (by (try simp only [List.map_toArray, List.map_cons, List.map_nil]); first | done | rfl | (simp only [List.length_drop, List.length_take]; rfl)) ?_; (with_reducible refine (impl_in.calls a0 33 126 true _ A33.out).mono ?_); rintro e w' ⟨rfl, ⟨nd, rfl⟩⟩; refine ⟨_, rfl, ?_⟩))
            go_ret2
            exact ⟨by first | rfl | (simp; done) | (simp [*]; done), by repeat (first | exact Drawn0.refl _ | apply Drawn0.step)⟩
           ·replace c34 := Bool.eq_false_iff.mpr c34
            subst c34
            have H1 : (if a0 = 173 then (some (11, 0)) else ((impl_in.f a0 161 191).bind fun t114 => (if t114 = true then (some (10, 0)) else ((impl_in.f a0 1280 1311).bind fun t115 => (if t115 = true then (some (7, 5)) else ((impl_in.f a0 1360 1369).bind fun t116 => (if t116 = true then (some (8, 5)) else ((impl_in.f a0 1536 1567).bind fun t117 => (if t117 = true then (some (7, 6)) else ((impl_in.f a0 1568 1579).bind fun t118 => (if t118 = true then (impl_kind.j4 kj22 a0 true) else (if a0 = 1584 then (impl_kind.j4 kj22 a0 true) else (impl_kind.j4 kj22 a0 (a0 == 1585)))))))))))))) = some (r1, r2) := by rw [if_neg (show ¬ (false = true) by decide)] at H; exact H
            clear H
            have H := H1
            clear H1
            by_cases c35 : a0 = 173
            ·as_aux_lemma =>
             rw [if_pos c35] at H
             have c35b0 : (a0 == 173) = true := beq_iff_eq.mpr c35
             have c35b1 : (a0 != 173) = false := bne_eq_false_iff_eq.mpr c35
             clear c35
             simp only [Option.some.injEq, Prod.mk.injEq] at H
             obtain ⟨rfl, rfl⟩ := H
             go_wp2_with (first | ((with_reducible refine gate_callee (f := 97) rfl ?_); refine goesL_ (some 64) rfl rfl Tryd.func97 (by kernel_rfl) rfl #[.int .i64 a0, .int .i64 48, .int .i64 57] rfl (by (try simp only [List.map_toArray, List.map_cons, List.map_nil]); first | done | rfl | (simp only [List.length_drop, List.length_take]; rfl)) ?_; (with_reducible refine (impl_in.calls a0 48 57 false _ A27.out).mono ?_); rintro e w' ⟨rfl, ⟨nd, rfl⟩⟩; refine ⟨_, rfl, ?_⟩) | ((with_reducible refine gate_callee (f := 97) rfl ?_); refine goesL_ (some 67) rfl rfl Tryd.func97 (by kernel_rfl) rfl #[.int .i64 a0, .int .i64 65, .int .i64 90] rfl (by (try simp only [List.map_toArray, List.map_cons, List.map_nil]); first | done | rfl | (simp only [List.length_drop, List.length_take]; rfl)) ?_; (with_reducible refine (impl_in.calls a0 65 90 false _ A29.out).mono ?_); rintro e w' ⟨rfl, ⟨nd, rfl⟩⟩; refine ⟨_, rfl, ?_⟩) | ((with_reducible refine gate_callee (f := 97) rfl ?_); refine goesL_ (some 70) rfl rfl Tryd.func97 (by kernel_rfl) rfl #[.int .i64 a0, .int .i64 97, .int .i64 122] rfl (by (try simp only [List.map_toArray, List.map_cons, List.map_nil]); first | done | rfl | (simp only [List.length_drop, List.length_take]; rfl)) ?_; (with_reducible refine (impl_in.calls a0 97 122 false _ A31.out).mono ?_); rintro e w' ⟨rfl, ⟨nd, rfl⟩⟩; refine ⟨_, rfl, ?_⟩) | ((with_reducible refine gate_callee (f := 97) rfl ?_); refine goesL_ (some 73) rfl rfl Tryd.func97 (by kernel_rfl) rfl #[.int .i64 a0, .int .i64 33, .int .i64 126] rfl (by (try simp only [List.map_toArray, List.map_cons, List.map_nil]); first | done | rfl | (simp only [List.length_drop, List.length_take]; rfl)) ?_; (with_reducible refine (impl_in.calls a0 33 126 false _ A33.out).mono ?_); rintro e w' ⟨rfl, ⟨nd, rfl⟩⟩; refine ⟨_, rfl, ?_⟩))
             go_ret2
             exact ⟨by first | rfl | (simp; done) | (simp [*]; done), by repeat (first | exact Drawn0.refl _ | apply Drawn0.step)⟩
            ·rw [if_neg c35] at H
             have c35b0 : (a0 == 173) = false := beq_eq_false_iff_ne.mpr c35
             have c35b1 : (a0 != 173) = true := bne_iff_ne.mpr c35
             replace H := Option.bind_eq_some_iff.mp H
             obtain ⟨t114, A360, H⟩ := H
             replace H : (if t114 = true then (some (10, 0)) else ((impl_in.f a0 1280 1311).bind fun t115 => (if t115 = true then (some (7, 5)) else ((impl_in.f a0 1360 1369).bind fun t116 => (if t116 = true then (some (8, 5)) else ((impl_in.f a0 1536 1567).bind fun t117 => (if t117 = true then (some (7, 6)) else ((impl_in.f a0 1568 1579).bind fun t118 => (if t118 = true then (impl_kind.j4 kj22 a0 true) else (if a0 = 1584 then (impl_kind.j4 kj22 a0 true) else (impl_kind.j4 kj22 a0 (a0 == 1585)))))))))))) = some (r1, r2) := H
             have A36 := Aside0.mk A360
             clear A360
             by_cases c37 : t114 = true
             ·as_aux_lemma =>
              subst c37
              have H1 : (some (10, 0)) = some (r1, r2) := by rw [if_pos rfl] at H; exact H
              clear H
              have H := H1
              clear H1
              simp only [Option.some.injEq, Prod.mk.injEq] at H
              obtain ⟨rfl, rfl⟩ := H
              go_wp2_with (first | ((with_reducible refine gate_callee (f := 97) rfl ?_); refine goesL_ (some 64) rfl rfl Tryd.func97 (by kernel_rfl) rfl #[.int .i64 a0, .int .i64 48, .int .i64 57] rfl (by (try simp only [List.map_toArray, List.map_cons, List.map_nil]); first | done | rfl | (simp only [List.length_drop, List.length_take]; rfl)) ?_; (with_reducible refine (impl_in.calls a0 48 57 false _ A27.out).mono ?_); rintro e w' ⟨rfl, ⟨nd, rfl⟩⟩; refine ⟨_, rfl, ?_⟩) | ((with_reducible refine gate_callee (f := 97) rfl ?_); refine goesL_ (some 67) rfl rfl Tryd.func97 (by kernel_rfl) rfl #[.int .i64 a0, .int .i64 65, .int .i64 90] rfl (by (try simp only [List.map_toArray, List.map_cons, List.map_nil]); first | done | rfl | (simp only [List.length_drop, List.length_take]; rfl)) ?_; (with_reducible refine (impl_in.calls a0 65 90 false _ A29.out).mono ?_); rintro e w' ⟨rfl, ⟨nd, rfl⟩⟩; refine ⟨_, rfl, ?_⟩) | ((with_reducible refine gate_callee (f := 97) rfl ?_); refine goesL_ (some 70) rfl rfl Tryd.func97 (by kernel_rfl) rfl #[.int .i64 a0, .int .i64 97, .int .i64 122] rfl (by (try simp only [List.map_toArray, List.map_cons, List.map_nil]); first | done | rfl | (simp only [List.length_drop, List.length_take]; rfl)) ?_; (with_reducible refine (impl_in.calls a0 97 122 false _ A31.out).mono ?_); rintro e w' ⟨rfl, ⟨nd, rfl⟩⟩; refine ⟨_, rfl, ?_⟩) | ((with_reducible refine gate_callee (f := 97) rfl ?_); refine goesL_ (some 73) rfl rfl Tryd.func97 (by kernel_rfl) rfl #[.int .i64 a0, .int .i64 33, .int .i64 126] rfl (by (try simp only [List.map_toArray, List.map_cons, List.map_nil]); first | done | rfl | (simp only [List.length_drop, List.length_take]; rfl)) ?_; (with_reducible refine (impl_in.calls a0 33 126 false _ A33.out).mono ?_); rintro e w' ⟨rfl, ⟨nd, rfl⟩⟩; refine ⟨_, rfl, ?_⟩) | ((with_reducible refine gate_callee (f := 97) rfl ?_); refine goesL_ (some 79) rfl rfl Tryd.func97 (by kernel_rfl) rfl #[.int .i64 a0, .int .i64 161, .int .i64 191] rfl (by (try simp only [List.map_toArray, List.map_cons, List.map_nil]); first | done | rfl | (simp only [List.length_drop, List.length_take]; rfl)) ?_; (with_reducible refine (impl_in.calls a0 161 191 true _ A36.out).mono ?_); rintro e w' ⟨rfl, ⟨nd, rfl⟩⟩; refine ⟨_, rfl, ?_⟩))
              go_ret2
              exact ⟨by first | rfl | (simp; done) | (simp [*]; done), by repeat (first | exact Drawn0.refl _ | apply Drawn0.step)⟩
             ·replace c37 := Bool.eq_false_iff.mpr c37
              subst c37
              have H1 : ((impl_in.f a0 1280 1311).bind fun t115 => (if t115 = true then (some (7, 5)) else ((impl_in.f a0 1360 1369).bind fun t116 => (if t116 = true then (some (8, 5)) else ((impl_in.f a0 1536 1567).bind fun t117 => (if t117 = true then (some (7, 6)) else ((impl_in.f a0 1568 1579).bind fun t118 => (if t118 = true then (impl_kind.j4 kj22 a0 true) else (if a0 = 1584 then (impl_kind.j4 kj22 a0 true) else (impl_kind.j4 kj22 a0 (a0 == 1585))))))))))) = some (r1, r2) := by rw [if_neg (show ¬ (false = true) by decide)] at H; exact H
              clear H
              have H := H1
              clear H1
              replace H := Option.bind_eq_some_iff.mp H
              obtain ⟨t115, A380, H⟩ := H
              replace H : (if t115 = true then (some (7, 5)) else ((impl_in.f a0 1360 1369).bind fun t116 => (if t116 = true then (some (8, 5)) else ((impl_in.f a0 1536 1567).bind fun t117 => (if t117 = true then (some (7, 6)) else ((impl_in.f a0 1568 1579).bind fun t118 => (if t118 = true then (impl_kind.j4 kj22 a0 true) else (if a0 = 1584 then (impl_kind.j4 kj22 a0 true) else (impl_kind.j4 kj22 a0 (a0 == 1585)))))))))) = some (r1, r2) := H
              have A38 := Aside0.mk A380
              clear A380
              by_cases c39 : t115 = true
              ·as_aux_lemma =>
               subst c39
               have H1 : (some (7, 5)) = some (r1, r2) := by rw [if_pos rfl] at H; exact H
               clear H
               have H := H1
               clear H1
               simp only [Option.some.injEq, Prod.mk.injEq] at H
               obtain ⟨rfl, rfl⟩ := H
               go_wp2_with (first | ((with_reducible refine gate_callee (f := 97) rfl ?_); refine goesL_ (some 64) rfl rfl Tryd.func97 (by kernel_rfl) rfl #[.int .i64 a0, .int .i64 48, .int .i64 57] rfl (by (try simp only [List.map_toArray, List.map_cons, List.map_nil]); first | done | rfl | (simp only [List.length_drop, List.length_take]; rfl)) ?_; (with_reducible refine (impl_in.calls a0 48 57 false _ A27.out).mono ?_); rintro e w' ⟨rfl, ⟨nd, rfl⟩⟩; refine ⟨_, rfl, ?_⟩) | ((with_reducible refine gate_callee (f := 97) rfl ?_); refine goesL_ (some 67) rfl rfl Tryd.func97 (by kernel_rfl) rfl #[.int .i64 a0, .int .i64 65, .int .i64 90] rfl (by (try simp only [List.map_toArray, List.map_cons, List.map_nil]); first | done | rfl | (simp only [List.length_drop, List.length_take]; rfl)) ?_; (with_reducible refine (impl_in.calls a0 65 90 false _ A29.out).mono ?_); rintro e w' ⟨rfl, ⟨nd, rfl⟩⟩; refine ⟨_, rfl, ?_⟩) | ((with_reducible refine gate_callee (f := 97) rfl ?_); refine goesL_ (some 70) rfl rfl Tryd.func97 (by kernel_rfl) rfl #[.int .i64 a0, .int .i64 97, .int .i64 122] rfl (by (try simp only [List.map_toArray, List.map_cons, List.map_nil]); first | done | rfl | (simp only [List.length_drop, List.length_take]; rfl)) ?_; (with_reducible refine (impl_in.calls a0 97 122 false _ A31.out).mono ?_); rintro e w' ⟨rfl, ⟨nd, rfl⟩⟩; refine ⟨_, rfl, ?_⟩) | ((with_reducible refine gate_callee (f := 97) rfl ?_); refine goesL_ (some 73) rfl rfl Tryd.func97 (by kernel_rfl) rfl #[.int .i64 a0, .int .i64 33, .int .i64 126] rfl (by (try simp only [List.map_toArray, List.map_cons, List.map_nil]); first | done | rfl | (simp only [List.length_drop, List.length_take]; rfl)) ?_; (with_reducible refine (impl_in.calls a0 33 126 false _ A33.out).mono ?_); rintro e w' ⟨rfl, ⟨nd, rfl⟩⟩; refine ⟨_, rfl, ?_⟩) | ((with_reducible refine gate_callee (f := 97) rfl ?_); refine goesL_ (some 79) rfl rfl Tryd.func97 (by kernel_rfl) rfl #[.int .i64 a0, .int .i64 161, .int .i64 191] rfl (by (try simp only [List.map_toArray, List.map_cons, List.map_nil]); first | done | rfl | (simp only [List.length_drop, List.length_take]; rfl)) ?_; (with_reducible refine (impl_in.calls a0 161 191 false _ A36.out).mono ?_); rintro e w' ⟨rfl, ⟨nd, rfl⟩⟩; refine ⟨_, rfl, ?_⟩) | ((with_reducible refine gate_callee (f := 97) rfl ?_); refine goesL_ (some 82) rfl rfl Tryd.func97 (by kernel_rfl) rfl #[.int .i64 a0, .int .i64 1280, .int .i64 1311] rfl (by (try simp only [List.map_toArray, List.map_cons, List.map_nil]); first | done | rfl | (simp only [List.length_drop, List.length_take]; rfl)) ?_; (with_reducible refine (impl_in.calls a0 1280 1311 true _ A38.out).mono ?_); rintro e w' ⟨rfl, ⟨nd, rfl⟩⟩; refine ⟨_, rfl, ?_⟩))
               go_ret2
               exact ⟨by first | rfl | (simp; done) | (simp [*]; done), by repeat (first | exact Drawn0.refl _ | apply Drawn0.step)⟩
              ·replace c39 := Bool.eq_false_iff.mpr c39
               subst c39
               have H1 : ((impl_in.f a0 1360 1369).bind fun t116 => (if t116 = true then (some (8, 5)) else ((impl_in.f a0 1536 1567).bind fun t117 => (if t117 = true then (some (7, 6)) else ((impl_in.f a0 1568 1579).bind fun t118 => (if t118 = true then (impl_kind.j4 kj22 a0 true) else (if a0 = 1584 then (impl_kind.j4 kj22 a0 true) else (impl_kind.j4 kj22 a0 (a0 == 1585))))))))) = some (r1, r2) := by rw [if_neg (show ¬ (false = true) by decide)] at H; exact H
               clear H
               have H := H1
               clear H1
               replace H := Option.bind_eq_some_iff.mp H
               obtain ⟨t116, A400, H⟩ := H
               replace H : (if t116 = true then (some (8, 5)) else ((impl_in.f a0 1536 1567).bind fun t117 => (if t117 = true then (some (7, 6)) else ((impl_in.f a0 1568 1579).bind fun t118 => (if t118 = true then (impl_kind.j4 kj22 a0 true) else (if a0 = 1584 then (impl_kind.j4 kj22 a0 true) else (impl_kind.j4 kj22 a0 (a0 == 1585)))))))) = some (r1, r2) := H
               have A40 := Aside0.mk A400
               clear A400
               by_cases c41 : t116 = true
               ·as_aux_lemma =>
                subst c41
                have H1 : (some (8, 5)) = some (r1, r2) := by rw [if_pos rfl] at H; exact H
                clear H
                have H := H1
                clear H1
                simp only [Option.some.injEq, Prod.mk.injEq] at H
                obtain ⟨rfl, rfl⟩ := H
                go_wp2_with (first | ((with_reducible refine gate_callee (f := 97) rfl ?_); refine goesL_ (some 64) rfl rfl Tryd.func97 (by kernel_rfl) rfl #[.int .i64 a0, .int .i64 48, .int .i64 57] rfl (by (try simp only [List.map_toArray, List.map_cons, List.map_nil]); first | done | rfl | (simp only [List.length_drop, List.length_take]; rfl)) ?_; (with_reducible refine (impl_in.calls a0 48 57 false _ A27.out).mono ?_); rintro e w' ⟨rfl, ⟨nd, rfl⟩⟩; refine ⟨_, rfl, ?_⟩) | ((with_reducible refine gate_callee (f := 97) rfl ?_); refine goesL_ (some 67) rfl rfl Tryd.func97 (by kernel_rfl) rfl #[.int .i64 a0, .int .i64 65, .int .i64 90] rfl (by (try simp only [List.map_toArray, List.map_cons, List.map_nil]); first | done | rfl | (simp only [List.length_drop, List.length_take]; rfl)) ?_; (with_reducible refine (impl_in.calls a0 65 90 false _ A29.out).mono ?_); rintro e w' ⟨rfl, ⟨nd, rfl⟩⟩; refine ⟨_, rfl, ?_⟩) | ((with_reducible refine gate_callee (f := 97) rfl ?_); refine goesL_ (some 70) rfl rfl Tryd.func97 (by kernel_rfl) rfl #[.int .i64 a0, .int .i64 97, .int .i64 122] rfl (by (try simp only [List.map_toArray, List.map_cons, List.map_nil]); first | done | rfl | (simp only [List.length_drop, List.length_take]; rfl)) ?_; (with_reducible refine (impl_in.calls a0 97 122 false _ A31.out).mono ?_); rintro e w' ⟨rfl, ⟨nd, rfl⟩⟩; refine ⟨_, rfl, ?_⟩) | ((with_reducible refine gate_callee (f := 97) rfl ?_); refine goesL_ (some 73) rfl rfl Tryd.func97 (by kernel_rfl) rfl #[.int .i64 a0, .int .i64 33, .int .i64 126] rfl (by (try simp only [List.map_toArray, List.map_cons, List.map_nil]); first | done | rfl | (simp only [List.length_drop, List.length_take]; rfl)) ?_; (with_reducible refine (impl_in.calls a0 33 126 false _ A33.out).mono ?_); rintro e w' ⟨rfl, ⟨nd, rfl⟩⟩; refine ⟨_, rfl, ?_⟩) | ((with_reducible refine gate_callee (f := 97) rfl ?_); refine goesL_ (some 79) rfl rfl Tryd.func97 (by kernel_rfl) rfl #[.int .i64 a0, .int .i64 161, .int .i64 191] rfl (by (try simp only [List.map_toArray, List.map_cons, List.map_nil]); first | done | rfl | (simp only [List.length_drop, List.length_take]; rfl)) ?_; (with_reducible refine (impl_in.calls a0 161 191 false _ A36.out).mono ?_); rintro e w' ⟨rfl, ⟨nd, rfl⟩⟩; refine ⟨_, rfl, ?_⟩) | ((with_reducible refine gate_callee (f := 97) rfl ?_); refine goesL_ (some 82) rfl rfl Tryd.func97 (by kernel_rfl) rfl #[.int .i64 a0, .int .i64 1280, .int .i64 1311] rfl (by (try simp only [List.map_toArray, List.map_cons, List.map_nil]); first | done | rfl | (simp only [List.length_drop, List.length_take]; rfl)) ?_; (with_reducible refine (impl_in.calls a0 1280 1311 false _ A38.out).mono ?_); rintro e w' ⟨rfl, ⟨nd, rfl⟩⟩; refine ⟨_, rfl, ?_⟩) | ((with_reducible refine gate_callee (f := 97) rfl ?_); refine goesL_ (some 85) rfl rfl Tryd.func97 (by kernel_rfl) rfl #[.int .i64 a0, .int .i64 1360, .int .i64 1369] rfl (by (try simp only [List.map_toArray, List.map_cons, List.map_nil]); first | done | rfl | (simp only [List.length_drop, List.length_take]; rfl)) ?_; (with_reducible refine (impl_in.calls a0 1360 1369 true _ A40.out).mono ?_); rintro e w' ⟨rfl, ⟨nd, rfl⟩⟩; refine ⟨_, rfl, ?_⟩))
                go_ret2
                exact ⟨by first | rfl | (simp; done) | (simp [*]; done), by repeat (first | exact Drawn0.refl _ | apply Drawn0.step)⟩
               ·replace c41 := Bool.eq_false_iff.mpr c41
                subst c41
                have H1 : ((impl_in.f a0 1536 1567).bind fun t117 => (if t117 = true then (some (7, 6)) else ((impl_in.f a0 1568 1579).bind fun t118 => (if t118 = true then (impl_kind.j4 kj22 a0 true) else (if a0 = 1584 then (impl_kind.j4 kj22 a0 true) else (impl_kind.j4 kj22 a0 (a0 == 1585))))))) = some (r1, r2) := by rw [if_neg (show ¬ (false = true) by decide)] at H; exact H
                clear H
                have H := H1
                clear H1
                replace H := Option.bind_eq_some_iff.mp H
                obtain ⟨t117, A420, H⟩ := H
                replace H : (if t117 = true then (some (7, 6)) else ((impl_in.f a0 1568 1579).bind fun t118 => (if t118 = true then (impl_kind.j4 kj22 a0 true) else (if a0 = 1584 then (impl_kind.j4 kj22 a0 true) else (impl_kind.j4 kj22 a0 (a0 == 1585)))))) = some (r1, r2) := H
                have A42 := Aside0.mk A420
                clear A420
                by_cases c43 : t117 = true
                ·as_aux_lemma =>
                 subst c43
                 have H1 : (some (7, 6)) = some (r1, r2) := by rw [if_pos rfl] at H; exact H
                 clear H
                 have H := H1
                 clear H1
                 simp only [Option.some.injEq, Prod.mk.injEq] at H
                 obtain ⟨rfl, rfl⟩ := H
                 go_wp2_with (first | ((with_reducible refine gate_callee (f := 97) rfl ?_); refine goesL_ (some 64) rfl rfl Tryd.func97 (by kernel_rfl) rfl #[.int .i64 a0, .int .i64 48, .int .i64 57] rfl (by (try simp only [List.map_toArray, List.map_cons, List.map_nil]); first | done | rfl | (simp only [List.length_drop, List.length_take]; rfl)) ?_; (with_reducible refine (impl_in.calls a0 48 57 false _ A27.out).mono ?_); rintro e w' ⟨rfl, ⟨nd, rfl⟩⟩; refine ⟨_, rfl, ?_⟩) | ((with_reducible refine gate_callee (f := 97) rfl ?_); refine goesL_ (some 67) rfl rfl Tryd.func97 (by kernel_rfl) rfl #[.int .i64 a0, .int .i64 65, .int .i64 90] rfl (by (try simp only [List.map_toArray, List.map_cons, List.map_nil]); first | done | rfl | (simp only [List.length_drop, List.length_take]; rfl)) ?_; (with_reducible refine (impl_in.calls a0 65 90 false _ A29.out).mono ?_); rintro e w' ⟨rfl, ⟨nd, rfl⟩⟩; refine ⟨_, rfl, ?_⟩) | ((with_reducible refine gate_callee (f := 97) rfl ?_); refine goesL_ (some 70) rfl rfl Tryd.func97 (by kernel_rfl) rfl #[.int .i64 a0, .int .i64 97, .int .i64 122] rfl (by (try simp only [List.map_toArray, List.map_cons, List.map_nil]); first | done | rfl | (simp only [List.length_drop, List.length_take]; rfl)) ?_; (with_reducible refine (impl_in.calls a0 97 122 false _ A31.out).mono ?_); rintro e w' ⟨rfl, ⟨nd, rfl⟩⟩; refine ⟨_, rfl, ?_⟩) | ((with_reducible refine gate_callee (f := 97) rfl ?_); refine goesL_ (some 73) rfl rfl Tryd.func97 (by kernel_rfl) rfl #[.int .i64 a0, .int .i64 33, .int .i64 126] rfl (by (try simp only [List.map_toArray, List.map_cons, List.map_nil]); first | done | rfl | (simp only [List.length_drop, List.length_take]; rfl)) ?_; (with_reducible refine (impl_in.calls a0 33 126 false _ A33.out).mono ?_); rintro e w' ⟨rfl, ⟨nd, rfl⟩⟩; refine ⟨_, rfl, ?_⟩) | ((with_reducible refine gate_callee (f := 97) rfl ?_); refine goesL_ (some 79) rfl rfl Tryd.func97 (by kernel_rfl) rfl #[.int .i64 a0, .int .i64 161, .int .i64 191] rfl (by (try simp only [List.map_toArray, List.map_cons, List.map_nil]); first | done | rfl | (simp only [List.length_drop, List.length_take]; rfl)) ?_; (with_reducible refine (impl_in.calls a0 161 191 false _ A36.out).mono ?_); rintro e w' ⟨rfl, ⟨nd, rfl⟩⟩; refine ⟨_, rfl, ?_⟩) | ((with_reducible refine gate_callee (f := 97) rfl ?_); refine goesL_ (some 82) rfl rfl Tryd.func97 (by kernel_rfl) rfl #[.int .i64 a0, .int .i64 1280, .int .i64 1311] rfl (by (try simp only [List.map_toArray, List.map_cons, List.map_nil]); first | done | rfl | (simp only [List.length_drop, List.length_take]; rfl)) ?_; (with_reducible refine (impl_in.calls a0 1280 1311 false _ A38.out).mono ?_); rintro e w' ⟨rfl, ⟨nd, rfl⟩⟩; refine ⟨_, rfl, ?_⟩) | ((with_reducible refine gate_callee (f := 97) rfl ?_); refine goesL_ (some 85) rfl rfl Tryd.func97 (by kernel_rfl) rfl #[.int .i64 a0, .int .i64 1360, .int .i64 1369] rfl (by (try simp only [List.map_toArray, List.map_cons, List.map_nil]); first | done | rfl | (simp only [List.length_drop, List.length_take]; rfl)) ?_; (with_reducible refine (impl_in.calls a0 1360 1369 false _ A40.out).mono ?_); rintro e w' ⟨rfl, ⟨nd, rfl⟩⟩; refine ⟨_, rfl, ?_⟩) | ((with_reducible refine gate_callee (f := 97) rfl ?_); refine goesL_ (some 88) rfl rfl Tryd.func97 (by kernel_rfl) rfl #[.int .i64 a0, .int .i64 1536, .int .i64 1567] rfl (by (try simp only [List.map_toArray, List.map_cons, List.map_nil]); first | done | rfl | (simp only [List.length_drop, List.length_take]; rfl)) ?_; (with_reducible refine (impl_in.calls a0 1536 1567 true _ A42.out).mono ?_); rintro e w' ⟨rfl, ⟨nd, rfl⟩⟩; refine ⟨_, rfl, ?_⟩))
                 go_ret2
                 exact ⟨by first | rfl | (simp; done) | (simp [*]; done), by repeat (first | exact Drawn0.refl _ | apply Drawn0.step)⟩
                ·replace c43 := Bool.eq_false_iff.mpr c43
                 subst c43
                 have H1 : ((impl_in.f a0 1568 1579).bind fun t118 => (if t118 = true then (impl_kind.j4 kj22 a0 true) else (if a0 = 1584 then (impl_kind.j4 kj22 a0 true) else (impl_kind.j4 kj22 a0 (a0 == 1585))))) = some (r1, r2) := by rw [if_neg (show ¬ (false = true) by decide)] at H; exact H
                 clear H
                 have H := H1
                 clear H1
                 have HC44 := Aside0.mk H
                 clear H
                 go_upto_region 35 with (first | ((with_reducible refine gate_callee (f := 97) rfl ?_); refine goesL_ (some 64) rfl rfl Tryd.func97 (by kernel_rfl) rfl #[.int .i64 a0, .int .i64 48, .int .i64 57] rfl (by (try simp only [List.map_toArray, List.map_cons, List.map_nil]); first | done | rfl | (simp only [List.length_drop, List.length_take]; rfl)) ?_; (with_reducible refine (impl_in.calls a0 48 57 false _ A27.out).mono ?_); rintro e w' ⟨rfl, ⟨nd, rfl⟩⟩; refine ⟨_, rfl, ?_⟩) | ((with_reducible refine gate_callee (f := 97) rfl ?_); refine goesL_ (some 67) rfl rfl Tryd.func97 (by kernel_rfl) rfl #[.int .i64 a0, .int .i64 65, .int .i64 90] rfl (by (try simp only [List.map_toArray, List.map_cons, List.map_nil]); first | done | rfl | (simp only [List.length_drop, List.length_take]; rfl)) ?_; (with_reducible refine (impl_in.calls a0 65 90 false _ A29.out).mono ?_); rintro e w' ⟨rfl, ⟨nd, rfl⟩⟩; refine ⟨_, rfl, ?_⟩) | ((with_reducible refine gate_callee (f := 97) rfl ?_); refine goesL_ (some 70) rfl rfl Tryd.func97 (by kernel_rfl) rfl #[.int .i64 a0, .int .i64 97, .int .i64 122] rfl (by (try simp only [List.map_toArray, List.map_cons, List.map_nil]); first | done | rfl | (simp only [List.length_drop, List.length_take]; rfl)) ?_; (with_reducible refine (impl_in.calls a0 97 122 false _ A31.out).mono ?_); rintro e w' ⟨rfl, ⟨nd, rfl⟩⟩; refine ⟨_, rfl, ?_⟩) | ((with_reducible refine gate_callee (f := 97) rfl ?_); refine goesL_ (some 73) rfl rfl Tryd.func97 (by kernel_rfl) rfl #[.int .i64 a0, .int .i64 33, .int .i64 126] rfl (by (try simp only [List.map_toArray, List.map_cons, List.map_nil]); first | done | rfl | (simp only [List.length_drop, List.length_take]; rfl)) ?_; (with_reducible refine (impl_in.calls a0 33 126 false _ A33.out).mono ?_); rintro e w' ⟨rfl, ⟨nd, rfl⟩⟩; refine ⟨_, rfl, ?_⟩) | ((with_reducible refine gate_callee (f := 97) rfl ?_); refine goesL_ (some 79) rfl rfl Tryd.func97 (by kernel_rfl) rfl #[.int .i64 a0, .int .i64 161, .int .i64 191] rfl (by (try simp only [List.map_toArray, List.map_cons, List.map_nil]); first | done | rfl | (simp only [List.length_drop, List.length_take]; rfl)) ?_; (with_reducible refine (impl_in.calls a0 161 191 false _ A36.out).mono ?_); rintro e w' ⟨rfl, ⟨nd, rfl⟩⟩; refine ⟨_, rfl, ?_⟩) | ((with_reducible refine gate_callee (f := 97) rfl ?_); refine goesL_ (some 82) rfl rfl Tryd.func97 (by kernel_rfl) rfl #[.int .i64 a0, .int .i64 1280, .int .i64 1311] rfl (by (try simp only [List.map_toArray, List.map_cons, List.map_nil]); first | done | rfl | (simp only [List.length_drop, List.length_take]; rfl)) ?_; (with_reducible refine (impl_in.calls a0 1280 1311 false _ A38.out).mono ?_); rintro e w' ⟨rfl, ⟨nd, rfl⟩⟩; refine ⟨_, rfl, ?_⟩) | ((with_reducible refine gate_callee (f := 97) rfl ?_); refine goesL_ (some 85) rfl rfl Tryd.func97 (by kernel_rfl) rfl #[.int .i64 a0, .int .i64 1360, .int .i64 1369] rfl (by (try simp only [List.map_toArray, List.map_cons, List.map_nil]); first | done | rfl | (simp only [List.length_drop, List.length_take]; rfl)) ?_; (with_reducible refine (impl_in.calls a0 1360 1369 false _ A40.out).mono ?_); rintro e w' ⟨rfl, ⟨nd, rfl⟩⟩; refine ⟨_, rfl, ?_⟩) | ((with_reducible refine gate_callee (f := 97) rfl ?_); refine goesL_ (some 88) rfl rfl Tryd.func97 (by kernel_rfl) rfl #[.int .i64 a0, .int .i64 1536, .int .i64 1567] rfl (by (try simp only [List.map_toArray, List.map_cons, List.map_nil]); first | done | rfl | (simp only [List.length_drop, List.length_take]; rfl)) ?_; (with_reducible refine (impl_in.calls a0 1536 1567 false _ A42.out).mono ?_); rintro e w' ⟨rfl, ⟨nd, rfl⟩⟩; refine ⟨_, rfl, ?_⟩))
                 (try simp only [Act.put, List.setIfInBounds_toArray, List.set_cons_zero, List.set_cons_succ])
                 go_cut [89] (fun v89 wc => ∃ (kq : Nat) (x89_43 : Bool), v89 = .bool x89_43 ∧ Aside0 (impl_kind.j4 kq a0 x89_43 = some (r1, r2)) ∧ Aside0 (kq ≤ kj22) ∧ Drawn0 w wc)
                 case first =>
                  have H := HC44.out
                  clear HC44
                  replace H := Option.bind_eq_some_iff.mp H
                  obtain ⟨t118, A450, H⟩ := H
                  replace H : (if t118 = true then (impl_kind.j4 kj22 a0 true) else (if a0 = 1584 then (impl_kind.j4 kj22 a0 true) else (impl_kind.j4 kj22 a0 (a0 == 1585)))) = some (r1, r2) := H
                  have A45 := Aside0.mk A450
                  clear A450
                  by_cases c46 : t118 = true
                  ·as_aux_lemma =>
                   subst c46
                   have H1 : (impl_kind.j4 kj22 a0 true) = some (r1, r2) := by rw [if_pos rfl] at H; exact H
                   clear H
                   have H := H1
                   clear H1
                   have H' := Aside0.mk H
                   clear H
                   go_wp2_with (first | ((with_reducible refine gate_callee (f := 97) rfl ?_); refine goesL_ (some 91) rfl rfl Tryd.func97 (by kernel_rfl) rfl #[.int .i64 a0, .int .i64 1568, .int .i64 1579] rfl (by (try simp only [List.map_toArray, List.map_cons, List.map_nil]); first | done | rfl | (simp only [List.length_drop, List.length_take]; rfl)) ?_; (with_reducible refine (impl_in.calls a0 1568 1579 true _ A45.out).mono ?_); rintro e w' ⟨rfl, ⟨nd, rfl⟩⟩; refine ⟨_, rfl, ?_⟩))
                   go_meet
                   case rel => exact ⟨_, (true), (by first | rfl | (simp; done) | (simp [*]; done)), H', ⟨by have := HJ17.out; have := HJ22.out; first | omega | exact Nat.le_refl _⟩, by repeat (first | exact Drawn0.refl _ | apply Drawn0.step)⟩
                  ·replace c46 := Bool.eq_false_iff.mpr c46
                   subst c46
                   have H1 : (if a0 = 1584 then (impl_kind.j4 kj22 a0 true) else (impl_kind.j4 kj22 a0 (a0 == 1585))) = some (r1, r2) := by rw [if_neg (show ¬ (false = true) by decide)] at H; exact H
                   clear H
                   have H := H1
                   clear H1
                   by_cases c47 : a0 = 1584
                   ·as_aux_lemma =>
                    rw [if_pos c47] at H
                    have c47b0 : (a0 == 1584) = true := beq_iff_eq.mpr c47
                    have c47b1 : (a0 != 1584) = false := bne_eq_false_iff_eq.mpr c47
                    clear c47
                    (first | rw [c47b0] | (simp only [i64_w, i32_w]; rw [c47b0]) | skip)
                    have H' := Aside0.mk H
                    clear H
                    go_wp2_with (first | ((with_reducible refine gate_callee (f := 97) rfl ?_); refine goesL_ (some 91) rfl rfl Tryd.func97 (by kernel_rfl) rfl #[.int .i64 a0, .int .i64 1568, .int .i64 1579] rfl (by (try simp only [List.map_toArray, List.map_cons, List.map_nil]); first | done | rfl | (simp only [List.length_drop, List.length_take]; rfl)) ?_; (with_reducible refine (impl_in.calls a0 1568 1579 false _ A45.out).mono ?_); rintro e w' ⟨rfl, ⟨nd, rfl⟩⟩; refine ⟨_, rfl, ?_⟩))
                    go_meet
                    case rel => exact ⟨_, (true), (by first | rfl | (simp; done) | (simp [*]; done)), H', ⟨by have := HJ17.out; have := HJ22.out; first | omega | exact Nat.le_refl _⟩, by repeat (first | exact Drawn0.refl _ | apply Drawn0.step)⟩
                   ·rw [if_neg c47] at H
                    have c47b0 : (a0 == 1584) = false := beq_eq_false_iff_ne.mpr c47
                    have c47b1 : (a0 != 1584) = true := bne_iff_ne.mpr c47
                    (first | rw [c47b0] | (simp only [i64_w, i32_w]; rw [c47b0]) | skip)
                    have H' := Aside0.mk H
                    clear H
                    go_wp2_with (first | ((with_reducible refine gate_callee (f := 97) rfl ?_); refine goesL_ (some 91) rfl rfl Tryd.func97 (by kernel_rfl) rfl #[.int .i64 a0, .int .i64 1568, .int .i64 1579] rfl (by (try simp only [List.map_toArray, List.map_cons, List.map_nil]); first | done | rfl | (simp only [List.length_drop, List.length_take]; rfl)) ?_; (with_reducible refine (impl_in.calls a0 1568 1579 false _ A45.out).mono ?_); rintro e w' ⟨rfl, ⟨nd, rfl⟩⟩; refine ⟨_, rfl, ?_⟩))
                    go_meet
                    case rel => exact ⟨_, ((a0 == 1585)), (by first | rfl | (simp; done) | (simp [*]; done)), H', ⟨by have := HJ17.out; have := HJ22.out; first | omega | exact Nat.le_refl _⟩, by repeat (first | exact Drawn0.refl _ | apply Drawn0.step)⟩
                 case rest =>
                  clear HC44
                  try clear c1
                  try clear c2
                  try clear p2
                  try clear c3
                  try clear c3b0
                  try clear c4
                  try clear c5
                  try clear c5b0
                  try clear c7
                  try clear c9
                  try clear c9b0
                  try clear c11
                  try clear c13
                  try clear c15
                  try clear c17
                  try clear c18
                  try clear c20
                  try clear c22
                  try clear c24
                  try clear c24b0
                  try clear c24b1
                  try clear c25
                  try clear c25b0
                  try clear c25b1
                  try clear c26
                  try clear c28
                  try clear c30
                  try clear c32
                  try clear c34
                  try clear c35
                  try clear c35b0
                  try clear c35b1
                  try clear c37
                  try clear c39
                  try clear c41
                  try clear c43
                  try clear c46
                  try clear c47
                  try clear c47b0
                  try clear c47b1
                  try clear p2
                  obtain ⟨kq, x89_43, rfl, HA, HJ43, ⟨mc43, rfl⟩⟩ := hcut
                  cases kq with
                  | zero => exact absurd HA.out (by simp [impl_kind.j4])
                  | succ kj43 =>
                   have H := HA.out
                   clear HA
                   simp only [impl_kind.j4] at H
                   by_cases c48 : x89_43 = true
                   ·as_aux_lemma =>
                    subst c48
                    have H1 : (some (3, 6)) = some (r1, r2) := by rw [if_pos rfl] at H; exact H
                    clear H
                    have H := H1
                    clear H1
                    simp only [Option.some.injEq, Prod.mk.injEq] at H
                    obtain ⟨rfl, rfl⟩ := H
                    go_wp2
                    go_ret2
                    exact ⟨by first | rfl | (simp; done) | (simp [*]; done), by repeat (first | exact Drawn0.refl _ | apply Drawn0.step)⟩
                   ·replace c48 := Bool.eq_false_iff.mpr c48
                    subst c48
                    have H1 : ((impl_in.f a0 1616 1625).bind fun t119 => (if t119 = true then (some (8, 6)) else ((impl_in.f a0 1792 1810).bind fun t120 => (if t120 = true then (impl_kind.j5 kj43 a0 true) else ((impl_in.f a0 1824 1844).bind fun t121 => (if t121 = true then (impl_kind.j5 kj43 a0 true) else ((impl_in.f a0 1857 1883).bind fun t122 => (if t122 = true then (impl_kind.j5 kj43 a0 true) else ((impl_in.f a0 12288 23459).bind fun t123 => (impl_kind.j5 kj43 a0 t123)))))))))) = some (r1, r2) := by rw [if_neg (show ¬ (false = true) by decide)] at H; exact H
                    clear H
                    have H := H1
                    clear H1
                    replace H := Option.bind_eq_some_iff.mp H
                    obtain ⟨t119, A490, H⟩ := H
                    replace H : (if t119 = true then (some (8, 6)) else ((impl_in.f a0 1792 1810).bind fun t120 => (if t120 = true then (impl_kind.j5 kj43 a0 true) else ((impl_in.f a0 1824 1844).bind fun t121 => (if t121 = true then (impl_kind.j5 kj43 a0 true) else ((impl_in.f a0 1857 1883).bind fun t122 => (if t122 = true then (impl_kind.j5 kj43 a0 true) else ((impl_in.f a0 12288 23459).bind fun t123 => (impl_kind.j5 kj43 a0 t123))))))))) = some (r1, r2) := H
                    have A49 := Aside0.mk A490
                    clear A490
                    by_cases c50 : t119 = true
                    ·as_aux_lemma =>
                     subst c50
                     have H1 : (some (8, 6)) = some (r1, r2) := by rw [if_pos rfl] at H; exact H
                     clear H
                     have H := H1
                     clear H1
                     simp only [Option.some.injEq, Prod.mk.injEq] at H
                     obtain ⟨rfl, rfl⟩ := H
                     go_wp2_with (first | ((with_reducible refine gate_callee (f := 97) rfl ?_); refine goesL_ (some 102) rfl rfl Tryd.func97 (by kernel_rfl) rfl #[.int .i64 a0, .int .i64 1616, .int .i64 1625] rfl (by (try simp only [List.map_toArray, List.map_cons, List.map_nil]); first | done | rfl | (simp only [List.length_drop, List.length_take]; rfl)) ?_; (with_reducible refine (impl_in.calls a0 1616 1625 true _ A49.out).mono ?_); rintro e w' ⟨rfl, ⟨nd, rfl⟩⟩; refine ⟨_, rfl, ?_⟩))
                     go_ret2
                     exact ⟨by first | rfl | (simp; done) | (simp [*]; done), by repeat (first | exact Drawn0.refl _ | apply Drawn0.step)⟩
                    ·replace c50 := Bool.eq_false_iff.mpr c50
                     subst c50
                     have H1 : ((impl_in.f a0 1792 1810).bind fun t120 => (if t120 = true then (impl_kind.j5 kj43 a0 true) else ((impl_in.f a0 1824 1844).bind fun t121 => (if t121 = true then (impl_kind.j5 kj43 a0 true) else ((impl_in.f a0 1857 1883).bind fun t122 => (if t122 = true then (impl_kind.j5 kj43 a0 true) else ((impl_in.f a0 12288 23459).bind fun t123 => (impl_kind.j5 kj43 a0 t123)))))))) = some (r1, r2) := by rw [if_neg (show ¬ (false = true) by decide)] at H; exact H
                     clear H
                     have H := H1
                     clear H1
                     have HC51 := Aside0.mk H
                     clear H
                     go_upto_region 39 with (first | ((with_reducible refine gate_callee (f := 97) rfl ?_); refine goesL_ (some 102) rfl rfl Tryd.func97 (by kernel_rfl) rfl #[.int .i64 a0, .int .i64 1616, .int .i64 1625] rfl (by (try simp only [List.map_toArray, List.map_cons, List.map_nil]); first | done | rfl | (simp only [List.length_drop, List.length_take]; rfl)) ?_; (with_reducible refine (impl_in.calls a0 1616 1625 false _ A49.out).mono ?_); rintro e w' ⟨rfl, ⟨nd, rfl⟩⟩; refine ⟨_, rfl, ?_⟩))
                     (try simp only [Act.put, List.setIfInBounds_toArray, List.set_cons_zero, List.set_cons_succ])
                     go_cut [103] (fun v103 wc => ∃ (kq : Nat) (x103_50 : Bool), v103 = .bool x103_50 ∧ Aside0 (impl_kind.j5 kq a0 x103_50 = some (r1, r2)) ∧ Aside0 (kq ≤ kj43) ∧ Drawn0 w wc)
                     case first =>
                      have H := HC51.out
                      clear HC51
                      replace H := Option.bind_eq_some_iff.mp H
                      obtain ⟨t120, A520, H⟩ := H
                      replace H : (if t120 = true then (impl_kind.j5 kj43 a0 true) else ((impl_in.f a0 1824 1844).bind fun t121 => (if t121 = true then (impl_kind.j5 kj43 a0 true) else ((impl_in.f a0 1857 1883).bind fun t122 => (if t122 = true then (impl_kind.j5 kj43 a0 true) else ((impl_in.f a0 12288 23459).bind fun t123 => (impl_kind.j5 kj43 a0 t123))))))) = some (r1, r2) := H
                      have A52 := Aside0.mk A520
                      clear A520
                      by_cases c53 : t120 = true
                      ·as_aux_lemma =>
                       subst c53
                       have H1 : (impl_kind.j5 kj43 a0 true) = some (r1, r2) := by rw [if_pos rfl] at H; exact H
                       clear H
                       have H := H1
                       clear H1
                       have H' := Aside0.mk H
                       clear H
                       go_wp2_with (first | ((with_reducible refine gate_callee (f := 97) rfl ?_); refine goesL_ (some 105) rfl rfl Tryd.func97 (by kernel_rfl) rfl #[.int .i64 a0, .int .i64 1792, .int .i64 1810] rfl (by (try simp only [List.map_toArray, List.map_cons, List.map_nil]); first | done | rfl | (simp only [List.length_drop, List.length_take]; rfl)) ?_; (with_reducible refine (impl_in.calls a0 1792 1810 true _ A52.out).mono ?_); rintro e w' ⟨rfl, ⟨nd, rfl⟩⟩; refine ⟨_, rfl, ?_⟩))
                       go_meet
                       case rel => exact ⟨_, (true), (by first | rfl | (simp; done) | (simp [*]; done)), H', ⟨by have := HJ17.out; have := HJ22.out; have := HJ43.out; first | omega | exact Nat.le_refl _⟩, by repeat (first | exact Drawn0.refl _ | apply Drawn0.step)⟩
                      ·replace c53 := Bool.eq_false_iff.mpr c53
                       subst c53
                       have H1 : ((impl_in.f a0 1824 1844).bind fun t121 => (if t121 = true then (impl_kind.j5 kj43 a0 true) else ((impl_in.f a0 1857 1883).bind fun t122 => (if t122 = true then (impl_kind.j5 kj43 a0 true) else ((impl_in.f a0 12288 23459).bind fun t123 => (impl_kind.j5 kj43 a0 t123)))))) = some (r1, r2) := by rw [if_neg (show ¬ (false = true) by decide)] at H; exact H
                       clear H
                       have H := H1
                       clear H1
                       replace H := Option.bind_eq_some_iff.mp H
                       obtain ⟨t121, A540, H⟩ := H
                       replace H : (if t121 = true then (impl_kind.j5 kj43 a0 true) else ((impl_in.f a0 1857 1883).bind fun t122 => (if t122 = true then (impl_kind.j5 kj43 a0 true) else ((impl_in.f a0 12288 23459).bind fun t123 => (impl_kind.j5 kj43 a0 t123))))) = some (r1, r2) := H
                       have A54 := Aside0.mk A540
                       clear A540
                       by_cases c55 : t121 = true
                       ·as_aux_lemma =>
                        subst c55
                        have H1 : (impl_kind.j5 kj43 a0 true) = some (r1, r2) := by rw [if_pos rfl] at H; exact H
                        clear H
                        have H := H1
                        clear H1
                        have H' := Aside0.mk H
                        clear H
                        go_wp2_with (first | ((with_reducible refine gate_callee (f := 97) rfl ?_); refine goesL_ (some 105) rfl rfl Tryd.func97 (by kernel_rfl) rfl #[.int .i64 a0, .int .i64 1792, .int .i64 1810] rfl (by (try simp only [List.map_toArray, List.map_cons, List.map_nil]); first | done | rfl | (simp only [List.length_drop, List.length_take]; rfl)) ?_; (with_reducible refine (impl_in.calls a0 1792 1810 false _ A52.out).mono ?_); rintro e w' ⟨rfl, ⟨nd, rfl⟩⟩; refine ⟨_, rfl, ?_⟩) | (go_at_call 97; (with_reducible refine (impl_in.calls a0 1824 1844 true _ A54.out).mono ?_); rintro e w' ⟨rfl, ⟨nd, rfl⟩⟩))
                        go_meet
                        case rel => exact ⟨_, (true), (by first | rfl | (simp; done) | (simp [*]; done)), H', ⟨by have := HJ17.out; have := HJ22.out; have := HJ43.out; first | omega | exact Nat.le_refl _⟩, by repeat (first | exact Drawn0.refl _ | apply Drawn0.step)⟩
                       ·replace c55 := Bool.eq_false_iff.mpr c55
                        subst c55
                        have H1 : ((impl_in.f a0 1857 1883).bind fun t122 => (if t122 = true then (impl_kind.j5 kj43 a0 true) else ((impl_in.f a0 12288 23459).bind fun t123 => (impl_kind.j5 kj43 a0 t123)))) = some (r1, r2) := by rw [if_neg (show ¬ (false = true) by decide)] at H; exact H
                        clear H
                        have H := H1
                        clear H1
                        replace H := Option.bind_eq_some_iff.mp H
                        obtain ⟨t122, A560, H⟩ := H
                        replace H : (if t122 = true then (impl_kind.j5 kj43 a0 true) else ((impl_in.f a0 12288 23459).bind fun t123 => (impl_kind.j5 kj43 a0 t123))) = some (r1, r2) := H
                        have A56 := Aside0.mk A560
                        clear A560
                        by_cases c57 : t122 = true
                        ·as_aux_lemma =>
                         subst c57
                         have H1 : (impl_kind.j5 kj43 a0 true) = some (r1, r2) := by rw [if_pos rfl] at H; exact H
                         clear H
                         have H := H1
                         clear H1
                         have H' := Aside0.mk H
                         clear H
                         go_wp2_with (first | ((with_reducible refine gate_callee (f := 97) rfl ?_); refine goesL_ (some 105) rfl rfl Tryd.func97 (by kernel_rfl) rfl #[.int .i64 a0, .int .i64 1792, .int .i64 1810] rfl (by (try simp only [List.map_toArray, List.map_cons, List.map_nil]); first | done | rfl | (simp only [List.length_drop, List.length_take]; rfl)) ?_; (with_reducible refine (impl_in.calls a0 1792 1810 false _ A52.out).mono ?_); rintro e w' ⟨rfl, ⟨nd, rfl⟩⟩; refine ⟨_, rfl, ?_⟩) | (go_at_call 97; (with_reducible refine (impl_in.calls a0 1824 1844 false _ A54.out).mono ?_); rintro e w' ⟨rfl, ⟨nd, rfl⟩⟩) | (go_at_call 97; (with_reducible refine (impl_in.calls a0 1857 1883 true _ A56.out).mono ?_); rintro e w' ⟨rfl, ⟨nd, rfl⟩⟩))
                         go_meet
                         case rel => exact ⟨_, (true), (by first | rfl | (simp; done) | (simp [*]; done)), H', ⟨by have := HJ17.out; have := HJ22.out; have := HJ43.out; first | omega | exact Nat.le_refl _⟩, by repeat (first | exact Drawn0.refl _ | apply Drawn0.step)⟩
                        ·replace c57 := Bool.eq_false_iff.mpr c57
                         subst c57
                         have H1 : ((impl_in.f a0 12288 23459).bind fun t123 => (impl_kind.j5 kj43 a0 t123)) = some (r1, r2) := by rw [if_neg (show ¬ (false = true) by decide)] at H; exact H
                         clear H
                         have H := H1
                         clear H1
                         replace H := Option.bind_eq_some_iff.mp H
                         obtain ⟨t123, A580, H⟩ := H
                         replace H : (impl_kind.j5 kj43 a0 t123) = some (r1, r2) := H
                         have A58 := Aside0.mk A580
                         clear A580
                         have H' := Aside0.mk H
                         clear H
                         go_wp2_with (first | ((with_reducible refine gate_callee (f := 97) rfl ?_); refine goesL_ (some 105) rfl rfl Tryd.func97 (by kernel_rfl) rfl #[.int .i64 a0, .int .i64 1792, .int .i64 1810] rfl (by (try simp only [List.map_toArray, List.map_cons, List.map_nil]); first | done | rfl | (simp only [List.length_drop, List.length_take]; rfl)) ?_; (with_reducible refine (impl_in.calls a0 1792 1810 false _ A52.out).mono ?_); rintro e w' ⟨rfl, ⟨nd, rfl⟩⟩; refine ⟨_, rfl, ?_⟩) | (go_at_call 97; (with_reducible refine (impl_in.calls a0 1824 1844 false _ A54.out).mono ?_); rintro e w' ⟨rfl, ⟨nd, rfl⟩⟩) | (go_at_call 97; (with_reducible refine (impl_in.calls a0 1857 1883 false _ A56.out).mono ?_); rintro e w' ⟨rfl, ⟨nd, rfl⟩⟩) | (go_at_call 97; (with_reducible refine (impl_in.calls a0 12288 23459 t123 _ A58.out).mono ?_); rintro e w' ⟨rfl, ⟨nd, rfl⟩⟩))
                         go_meet
                         case rel => exact ⟨_, (t123), (by first | rfl | (simp; done) | (simp [*]; done)), H', ⟨by have := HJ17.out; have := HJ22.out; have := HJ43.out; first | omega | exact Nat.le_refl _⟩, by repeat (first | exact Drawn0.refl _ | apply Drawn0.step)⟩
                     case rest =>
                      clear HC51
                      try clear c1
                      try clear c2
                      try clear p2
                      try clear c3
                      try clear c3b0
                      try clear c4
                      try clear c5
                      try clear c5b0
                      try clear c7
                      try clear c9
                      try clear c9b0
                      try clear c11
                      try clear c13
                      try clear c15
                      try clear c17
                      try clear c18
                      try clear c20
                      try clear c22
                      try clear c24
                      try clear c24b0
                      try clear c24b1
                      try clear c25
                      try clear c25b0
                      try clear c25b1
                      try clear c26
                      try clear c28
                      try clear c30
                      try clear c32
                      try clear c34
                      try clear c35
                      try clear c35b0
                      try clear c35b1
                      try clear c37
                      try clear c39
                      try clear c41
                      try clear c43
                      try clear c46
                      try clear c47
                      try clear c47b0
                      try clear c47b1
                      try clear c48
                      try clear c50
                      try clear c53
                      try clear c55
                      try clear c57
                      try clear p2
                      obtain ⟨kq, x103_50, rfl, HA, HJ50, ⟨mc50, rfl⟩⟩ := hcut
                      cases kq with
                      | zero => exact absurd HA.out (by simp [impl_kind.j5])
                      | succ kj50 =>
                       have H := HA.out
                       clear HA
                       simp only [impl_kind.j5] at H
                       by_cases c59 : x103_50 = true
                       ·as_aux_lemma =>
                        subst c59
                        have H1 : (some (7, 7)) = some (r1, r2) := by rw [if_pos rfl] at H; exact H
                        clear H
                        have H := H1
                        clear H1
                        simp only [Option.some.injEq, Prod.mk.injEq] at H
                        obtain ⟨rfl, rfl⟩ := H
                        go_wp2
                        go_ret2
                        exact ⟨by first | rfl | (simp; done) | (simp [*]; done), by repeat (first | exact Drawn0.refl _ | apply Drawn0.step)⟩
                       ·replace c59 := Bool.eq_false_iff.mpr c59
                        subst c59
                        have H1 : ((impl_in.f a0 2048 2095).bind fun t124 => (if t124 = true then (some (7, 8)) else ((impl_in.f a0 4096 4159).bind fun t125 => (if t125 = true then (some (3, 0)) else ((impl_in.f a0 7680 7748).bind fun t126 => (if t126 = true then (impl_kind.j6 kj50 a0 true) else ((impl_in.f a0 7760 7785).bind fun t127 => (impl_kind.j6 kj50 a0 t127)))))))) = some (r1, r2) := by rw [if_neg (show ¬ (false = true) by decide)] at H; exact H
                        clear H
                        have H := H1
                        clear H1
                        replace H := Option.bind_eq_some_iff.mp H
                        obtain ⟨t124, A600, H⟩ := H
                        replace H : (if t124 = true then (some (7, 8)) else ((impl_in.f a0 4096 4159).bind fun t125 => (if t125 = true then (some (3, 0)) else ((impl_in.f a0 7680 7748).bind fun t126 => (if t126 = true then (impl_kind.j6 kj50 a0 true) else ((impl_in.f a0 7760 7785).bind fun t127 => (impl_kind.j6 kj50 a0 t127))))))) = some (r1, r2) := H
                        have A60 := Aside0.mk A600
                        clear A600
                        by_cases c61 : t124 = true
                        ·as_aux_lemma =>
                         subst c61
                         have H1 : (some (7, 8)) = some (r1, r2) := by rw [if_pos rfl] at H; exact H
                         clear H
                         have H := H1
                         clear H1
                         simp only [Option.some.injEq, Prod.mk.injEq] at H
                         obtain ⟨rfl, rfl⟩ := H
                         go_wp2_with (first | ((with_reducible refine gate_callee (f := 97) rfl ?_); refine goesL_ (some 120) rfl rfl Tryd.func97 (by kernel_rfl) rfl #[.int .i64 a0, .int .i64 2048, .int .i64 2095] rfl (by (try simp only [List.map_toArray, List.map_cons, List.map_nil]); first | done | rfl | (simp only [List.length_drop, List.length_take]; rfl)) ?_; (with_reducible refine (impl_in.calls a0 2048 2095 true _ A60.out).mono ?_); rintro e w' ⟨rfl, ⟨nd, rfl⟩⟩; refine ⟨_, rfl, ?_⟩))
                         go_ret2
                         exact ⟨by first | rfl | (simp; done) | (simp [*]; done), by repeat (first | exact Drawn0.refl _ | apply Drawn0.step)⟩
                        ·replace c61 := Bool.eq_false_iff.mpr c61
                         subst c61
                         have H1 : ((impl_in.f a0 4096 4159).bind fun t125 => (if t125 = true then (some (3, 0)) else ((impl_in.f a0 7680 7748).bind fun t126 => (if t126 = true then (impl_kind.j6 kj50 a0 true) else ((impl_in.f a0 7760 7785).bind fun t127 => (impl_kind.j6 kj50 a0 t127)))))) = some (r1, r2) := by rw [if_neg (show ¬ (false = true) by decide)] at H; exact H
                         clear H
                         have H := H1
                         clear H1
                         replace H := Option.bind_eq_some_iff.mp H
                         obtain ⟨t125, A620, H⟩ := H
                         replace H : (if t125 = true then (some (3, 0)) else ((impl_in.f a0 7680 7748).bind fun t126 => (if t126 = true then (impl_kind.j6 kj50 a0 true) else ((impl_in.f a0 7760 7785).bind fun t127 => (impl_kind.j6 kj50 a0 t127))))) = some (r1, r2) := H
                         have A62 := Aside0.mk A620
                         clear A620
                         by_cases c63 : t125 = true
                         ·as_aux_lemma =>
                          subst c63
                          have H1 : (some (3, 0)) = some (r1, r2) := by rw [if_pos rfl] at H; exact H
                          clear H
                          have H := H1
                          clear H1
                          simp only [Option.some.injEq, Prod.mk.injEq] at H
                          obtain ⟨rfl, rfl⟩ := H
                          go_wp2_with (first | ((with_reducible refine gate_callee (f := 97) rfl ?_); refine goesL_ (some 120) rfl rfl Tryd.func97 (by kernel_rfl) rfl #[.int .i64 a0, .int .i64 2048, .int .i64 2095] rfl (by (try simp only [List.map_toArray, List.map_cons, List.map_nil]); first | done | rfl | (simp only [List.length_drop, List.length_take]; rfl)) ?_; (with_reducible refine (impl_in.calls a0 2048 2095 false _ A60.out).mono ?_); rintro e w' ⟨rfl, ⟨nd, rfl⟩⟩; refine ⟨_, rfl, ?_⟩) | ((with_reducible refine gate_callee (f := 97) rfl ?_); refine goesL_ (some 123) rfl rfl Tryd.func97 (by kernel_rfl) rfl #[.int .i64 a0, .int .i64 4096, .int .i64 4159] rfl (by (try simp only [List.map_toArray, List.map_cons, List.map_nil]); first | done | rfl | (simp only [List.length_drop, List.length_take]; rfl)) ?_; (with_reducible refine (impl_in.calls a0 4096 4159 true _ A62.out).mono ?_); rintro e w' ⟨rfl, ⟨nd, rfl⟩⟩; refine ⟨_, rfl, ?_⟩))
                          go_ret2
                          exact ⟨by first | rfl | (simp; done) | (simp [*]; done), by repeat (first | exact Drawn0.refl _ | apply Drawn0.step)⟩
                         ·replace c63 := Bool.eq_false_iff.mpr c63
                          subst c63
                          have H1 : ((impl_in.f a0 7680 7748).bind fun t126 => (if t126 = true then (impl_kind.j6 kj50 a0 true) else ((impl_in.f a0 7760 7785).bind fun t127 => (impl_kind.j6 kj50 a0 t127)))) = some (r1, r2) := by rw [if_neg (show ¬ (false = true) by decide)] at H; exact H
                          clear H
                          have H := H1
                          clear H1
                          have HC64 := Aside0.mk H
                          clear H
                          go_upto_region 45 with (first | ((with_reducible refine gate_callee (f := 97) rfl ?_); refine goesL_ (some 120) rfl rfl Tryd.func97 (by kernel_rfl) rfl #[.int .i64 a0, .int .i64 2048, .int .i64 2095] rfl (by (try simp only [List.map_toArray, List.map_cons, List.map_nil]); first | done | rfl | (simp only [List.length_drop, List.length_take]; rfl)) ?_; (with_reducible refine (impl_in.calls a0 2048 2095 false _ A60.out).mono ?_); rintro e w' ⟨rfl, ⟨nd, rfl⟩⟩; refine ⟨_, rfl, ?_⟩) | ((with_reducible refine gate_callee (f := 97) rfl ?_); refine goesL_ (some 123) rfl rfl Tryd.func97 (by kernel_rfl) rfl #[.int .i64 a0, .int .i64 4096, .int .i64 4159] rfl (by (try simp only [List.map_toArray, List.map_cons, List.map_nil]); first | done | rfl | (simp only [List.length_drop, List.length_take]; rfl)) ?_; (with_reducible refine (impl_in.calls a0 4096 4159 false _ A62.out).mono ?_); rintro e w' ⟨rfl, ⟨nd, rfl⟩⟩; refine ⟨_, rfl, ?_⟩))
                          (try simp only [Act.put, List.setIfInBounds_toArray, List.set_cons_zero, List.set_cons_succ])
                          go_cut [124] (fun v124 wc => ∃ (kq : Nat) (x124_63 : Bool), v124 = .bool x124_63 ∧ Aside0 (impl_kind.j6 kq a0 x124_63 = some (r1, r2)) ∧ Aside0 (kq ≤ kj50) ∧ Drawn0 w wc)
                          case first =>
                           have H := HC64.out
                           clear HC64
                           replace H := Option.bind_eq_some_iff.mp H
                           obtain ⟨t126, A650, H⟩ := H
                           replace H : (if t126 = true then (impl_kind.j6 kj50 a0 true) else ((impl_in.f a0 7760 7785).bind fun t127 => (impl_kind.j6 kj50 a0 t127))) = some (r1, r2) := H
                           have A65 := Aside0.mk A650
                           clear A650
                           by_cases c66 : t126 = true
                           ·as_aux_lemma =>
                            subst c66
                            have H1 : (impl_kind.j6 kj50 a0 true) = some (r1, r2) := by rw [if_pos rfl] at H; exact H
                            clear H
                            have H := H1
                            clear H1
                            have H' := Aside0.mk H
                            clear H
                            go_wp2_with (first | ((with_reducible refine gate_callee (f := 97) rfl ?_); refine goesL_ (some 126) rfl rfl Tryd.func97 (by kernel_rfl) rfl #[.int .i64 a0, .int .i64 7680, .int .i64 7748] rfl (by (try simp only [List.map_toArray, List.map_cons, List.map_nil]); first | done | rfl | (simp only [List.length_drop, List.length_take]; rfl)) ?_; (with_reducible refine (impl_in.calls a0 7680 7748 true _ A65.out).mono ?_); rintro e w' ⟨rfl, ⟨nd, rfl⟩⟩; refine ⟨_, rfl, ?_⟩))
                            go_meet
                            case rel => exact ⟨_, (true), (by first | rfl | (simp; done) | (simp [*]; done)), H', ⟨by have := HJ17.out; have := HJ22.out; have := HJ43.out; have := HJ50.out; first | omega | exact Nat.le_refl _⟩, by repeat (first | exact Drawn0.refl _ | apply Drawn0.step)⟩
                           ·replace c66 := Bool.eq_false_iff.mpr c66
                            subst c66
                            have H1 : ((impl_in.f a0 7760 7785).bind fun t127 => (impl_kind.j6 kj50 a0 t127)) = some (r1, r2) := by rw [if_neg (show ¬ (false = true) by decide)] at H; exact H
                            clear H
                            have H := H1
                            clear H1
                            replace H := Option.bind_eq_some_iff.mp H
                            obtain ⟨t127, A670, H⟩ := H
                            replace H : (impl_kind.j6 kj50 a0 t127) = some (r1, r2) := H
                            have A67 := Aside0.mk A670
                            clear A670
                            have H' := Aside0.mk H
                            clear H
                            go_wp2_with (first | ((with_reducible refine gate_callee (f := 97) rfl ?_); refine goesL_ (some 126) rfl rfl Tryd.func97 (by kernel_rfl) rfl #[.int .i64 a0, .int .i64 7680, .int .i64 7748] rfl (by (try simp only [List.map_toArray, List.map_cons, List.map_nil]); first | done | rfl | (simp only [List.length_drop, List.length_take]; rfl)) ?_; (with_reducible refine (impl_in.calls a0 7680 7748 false _ A65.out).mono ?_); rintro e w' ⟨rfl, ⟨nd, rfl⟩⟩; refine ⟨_, rfl, ?_⟩) | (go_at_call 97; (with_reducible refine (impl_in.calls a0 7760 7785 t127 _ A67.out).mono ?_); rintro e w' ⟨rfl, ⟨nd, rfl⟩⟩))
                            go_meet
                            case rel => exact ⟨_, (t127), (by first | rfl | (simp; done) | (simp [*]; done)), H', ⟨by have := HJ17.out; have := HJ22.out; have := HJ43.out; have := HJ50.out; first | omega | exact Nat.le_refl _⟩, by repeat (first | exact Drawn0.refl _ | apply Drawn0.step)⟩
                          case rest =>
                           clear HC64
                           try clear c1
                           try clear c2
                           try clear p2
                           try clear c3
                           try clear c3b0
                           try clear c4
                           try clear c5
                           try clear c5b0
                           try clear c6
                           try clear c7
                           try clear c9
                           try clear c9b0
                           try clear c11
                           try clear c13
                           try clear c15
                           try clear c17
                           try clear c18
                           try clear c20
                           try clear c22
                           try clear c24
                           try clear c24b0
                           try clear c24b1
                           try clear c25
                           try clear c25b0
                           try clear c25b1
                           try clear c26
                           try clear c28
                           try clear c30
                           try clear c32
                           try clear c34
                           try clear c35
                           try clear c35b0
                           try clear c35b1
                           try clear c37
                           try clear c39
                           try clear c41
                           try clear c43
                           try clear c46
                           try clear c47
                           try clear c47b0
                           try clear c47b1
                           try clear c48
                           try clear c50
                           try clear c53
                           try clear c55
                           try clear c57
                           try clear c59
                           try clear c61
                           try clear c63
                           try clear c66
                           try clear p2
                           obtain ⟨kq, x124_63, rfl, HA, HJ63, ⟨mc63, rfl⟩⟩ := hcut
                           cases kq with
                           | zero => exact absurd HA.out (by simp [impl_kind.j6])
                           | succ kj63 =>
                            have H := HA.out
                            clear HA
                            simp only [impl_kind.j6] at H
                            by_cases c68 : x124_63 = true
                            ·as_aux_lemma =>
                             subst c68
                             have H1 : (some (10, 0)) = some (r1, r2) := by rw [if_pos rfl] at H; exact H
                             clear H
                             have H := H1
                             clear H1
                             simp only [Option.some.injEq, Prod.mk.injEq] at H
                             obtain ⟨rfl, rfl⟩ := H
                             go_wp2
                             go_ret2
                             exact ⟨by first | rfl | (simp; done) | (simp [*]; done), by repeat (first | exact Drawn0.refl _ | apply Drawn0.step)⟩
                            ·replace c68 := Bool.eq_false_iff.mpr c68
                             subst c68
                             have H1 : ((impl_in.f a0 7936 7947).bind fun t128 => (if t128 = true then (impl_kind.j7 kj63 a0 true) else (if a0 = 7953 then (impl_kind.j7 kj63 a0 true) else (impl_kind.j7 kj63 a0 (a0 == 7954))))) = some (r1, r2) := by rw [if_neg (show ¬ (false = true) by decide)] at H; exact H
                             clear H
                             have H := H1
                             clear H1
                             have HC69 := Aside0.mk H
                             clear H
                             go_upto_region 47 with (fail)
                             go_cut [131] (fun v131 wc => ∃ (kq : Nat) (x131_68 : Bool), v131 = .bool x131_68 ∧ Aside0 (impl_kind.j7 kq a0 x131_68 = some (r1, r2)) ∧ Aside0 (kq ≤ kj63) ∧ Drawn0 w wc)
                             case first =>
                              have H := HC69.out
                              clear HC69
                              replace H := Option.bind_eq_some_iff.mp H
                              obtain ⟨t128, A700, H⟩ := H
                              replace H : (if t128 = true then (impl_kind.j7 kj63 a0 true) else (if a0 = 7953 then (impl_kind.j7 kj63 a0 true) else (impl_kind.j7 kj63 a0 (a0 == 7954)))) = some (r1, r2) := H
                              have A70 := Aside0.mk A700
                              clear A700
                              by_cases c71 : t128 = true
                              ·as_aux_lemma =>
                               subst c71
                               have H1 : (impl_kind.j7 kj63 a0 true) = some (r1, r2) := by rw [if_pos rfl] at H; exact H
                               clear H
                               have H := H1
                               clear H1
                               have H' := Aside0.mk H
                               clear H
                               go_wp2_with (first | ((with_reducible refine gate_callee (f := 97) rfl ?_); refine goesL_ (some 133) rfl rfl Tryd.func97 (by kernel_rfl) rfl #[.int .i64 a0, .int .i64 7936, .int .i64 7947] rfl (by (try simp only [List.map_toArray, List.map_cons, List.map_nil]); first | done | rfl | (simp only [List.length_drop, List.length_take]; rfl)) ?_; (with_reducible refine (impl_in.calls a0 7936 7947 true _ A70.out).mono ?_); rintro e w' ⟨rfl, ⟨nd, rfl⟩⟩; refine ⟨_, rfl, ?_⟩))
                               go_meet
                               case rel => exact ⟨_, (true), (by first | rfl | (simp; done) | (simp [*]; done)), H', ⟨by have := HJ17.out; have := HJ22.out; have := HJ43.out; have := HJ50.out; have := HJ63.out; first | omega | exact Nat.le_refl _⟩, by repeat (first | exact Drawn0.refl _ | apply Drawn0.step)⟩
                              ·replace c71 := Bool.eq_false_iff.mpr c71
                               subst c71
                               have H1 : (if a0 = 7953 then (impl_kind.j7 kj63 a0 true) else (impl_kind.j7 kj63 a0 (a0 == 7954))) = some (r1, r2) := by rw [if_neg (show ¬ (false = true) by decide)] at H; exact H
                               clear H
                               have H := H1
                               clear H1
                               by_cases c72 : a0 = 7953
                               ·as_aux_lemma =>
                                rw [if_pos c72] at H
                                have c72b0 : (a0 == 7953) = true := beq_iff_eq.mpr c72
                                have c72b1 : (a0 != 7953) = false := bne_eq_false_iff_eq.mpr c72
                                clear c72
                                (first | rw [c72b0] | (simp only [i64_w, i32_w]; rw [c72b0]) | skip)
                                have H' := Aside0.mk H
                                clear H
                                go_wp2_with (first | ((with_reducible refine gate_callee (f := 97) rfl ?_); refine goesL_ (some 133) rfl rfl Tryd.func97 (by kernel_rfl) rfl #[.int .i64 a0, .int .i64 7936, .int .i64 7947] rfl (by (try simp only [List.map_toArray, List.map_cons, List.map_nil]); first | done | rfl | (simp only [List.length_drop, List.length_take]; rfl)) ?_; (with_reducible refine (impl_in.calls a0 7936 7947 false _ A70.out).mono ?_); rintro e w' ⟨rfl, ⟨nd, rfl⟩⟩; refine ⟨_, rfl, ?_⟩))
                                go_meet
                                case rel => exact ⟨_, (true), (by first | rfl | (simp; done) | (simp [*]; done)), H', ⟨by have := HJ17.out; have := HJ22.out; have := HJ43.out; have := HJ50.out; have := HJ63.out; first | omega | exact Nat.le_refl _⟩, by repeat (first | exact Drawn0.refl _ | apply Drawn0.step)⟩
                               ·rw [if_neg c72] at H
                                have c72b0 : (a0 == 7953) = false := beq_eq_false_iff_ne.mpr c72
                                have c72b1 : (a0 != 7953) = true := bne_iff_ne.mpr c72
                                (first | rw [c72b0] | (simp only [i64_w, i32_w]; rw [c72b0]) | skip)
                                have H' := Aside0.mk H
                                clear H
                                go_wp2_with (first | ((with_reducible refine gate_callee (f := 97) rfl ?_); refine goesL_ (some 133) rfl rfl Tryd.func97 (by kernel_rfl) rfl #[.int .i64 a0, .int .i64 7936, .int .i64 7947] rfl (by (try simp only [List.map_toArray, List.map_cons, List.map_nil]); first | done | rfl | (simp only [List.length_drop, List.length_take]; rfl)) ?_; (with_reducible refine (impl_in.calls a0 7936 7947 false _ A70.out).mono ?_); rintro e w' ⟨rfl, ⟨nd, rfl⟩⟩; refine ⟨_, rfl, ?_⟩))
                                go_meet
                                case rel => exact ⟨_, ((a0 == 7954)), (by first | rfl | (simp; done) | (simp [*]; done)), H', ⟨by have := HJ17.out; have := HJ22.out; have := HJ43.out; have := HJ50.out; have := HJ63.out; first | omega | exact Nat.le_refl _⟩, by repeat (first | exact Drawn0.refl _ | apply Drawn0.step)⟩
                             case rest =>
                              clear HC69
                              try clear c1
                              try clear c2
                              try clear p2
                              try clear c3
                              try clear c3b0
                              try clear c4
                              try clear c5
                              try clear c5b0
                              try clear c6
                              try clear c7
                              try clear c9
                              try clear c9b0
                              try clear c11
                              try clear c13
                              try clear c15
                              try clear c17
                              try clear c18
                              try clear c20
                              try clear c22
                              try clear c24
                              try clear c24b0
                              try clear c24b1
                              try clear c25
                              try clear c25b0
                              try clear c25b1
                              try clear c26
                              try clear c28
                              try clear c30
                              try clear c32
                              try clear c34
                              try clear c35
                              try clear c35b0
                              try clear c35b1
                              try clear c37
                              try clear c39
                              try clear c41
                              try clear c43
                              try clear c46
                              try clear c47
                              try clear c47b0
                              try clear c47b1
                              try clear c48
                              try clear c50
                              try clear c53
                              try clear c55
                              try clear c57
                              try clear c59
                              try clear c61
                              try clear c63
                              try clear c66
                              try clear c68
                              try clear c71
                              try clear c72
                              try clear c72b0
                              try clear c72b1
                              try clear p2
                              obtain ⟨kq, x131_68, rfl, HA, HJ68, ⟨mc68, rfl⟩⟩ := hcut
                              cases kq with
                              | zero => exact absurd HA.out (by simp [impl_kind.j7])
                              | succ kj68 =>
                               have H := HA.out
                               clear HA
                               simp only [impl_kind.j7] at H
                               by_cases c73 : x131_68 = true
                               ·as_aux_lemma =>
                                subst c73
                                have H1 : (some (11, 0)) = some (r1, r2) := by rw [if_pos rfl] at H; exact H
                                clear H
                                have H := H1
                                clear H1
                                simp only [Option.some.injEq, Prod.mk.injEq] at H
                                obtain ⟨rfl, rfl⟩ := H
                                go_wp2
                                go_ret2
                                exact ⟨by first | rfl | (simp; done) | (simp [*]; done), by repeat (first | exact Drawn0.refl _ | apply Drawn0.step)⟩
                               ·replace c73 := Bool.eq_false_iff.mpr c73
                                subst c73
                                have H1 : ((impl_in.f a0 8192 9631).bind fun t129 => (if t129 = true then (impl_kind.j8 kj68 a0 (decide ((Int.tmod (wrap64 (a0 - 8192)) 512) < 416))) else (impl_kind.j8 kj68 a0 false))) = some (r1, r2) := by rw [if_neg (show ¬ (false = true) by decide)] at H; exact H
                                clear H
                                have H := H1
                                clear H1
                                have HC74 := Aside0.mk H
                                clear H
                                go_upto_region 49 with (fail)
                                go_cut [142] (fun v142 wc => ∃ (kq : Nat) (x142_73 : Bool), v142 = .bool x142_73 ∧ Aside0 (impl_kind.j8 kq a0 x142_73 = some (r1, r2)) ∧ Aside0 (kq ≤ kj68) ∧ Drawn0 w wc)
                                case first =>
                                 have H := HC74.out
                                 clear HC74
                                 replace H := Option.bind_eq_some_iff.mp H
                                 obtain ⟨t129, A750, H⟩ := H
                                 replace H : (if t129 = true then (impl_kind.j8 kj68 a0 (decide ((Int.tmod (wrap64 (a0 - 8192)) 512) < 416))) else (impl_kind.j8 kj68 a0 false)) = some (r1, r2) := H
                                 have A75 := Aside0.mk A750
                                 clear A750
                                 by_cases c76 : t129 = true
                                 ·as_aux_lemma =>
                                  subst c76
                                  have H1 : (impl_kind.j8 kj68 a0 (decide ((Int.tmod (wrap64 (a0 - 8192)) 512) < 416))) = some (r1, r2) := by rw [if_pos rfl] at H; exact H
                                  clear H
                                  have H := H1
                                  clear H1
                                  have H' := Aside0.mk H
                                  clear H
                                  go_wp2_with (first | ((with_reducible refine gate_callee (f := 97) rfl ?_); refine goesL_ (some 144) rfl rfl Tryd.func97 (by kernel_rfl) rfl #[.int .i64 a0, .int .i64 8192, .int .i64 9631] rfl (by (try simp only [List.map_toArray, List.map_cons, List.map_nil]); first | done | rfl | (simp only [List.length_drop, List.length_take]; rfl)) ?_; (with_reducible refine (impl_in.calls a0 8192 9631 true _ A75.out).mono ?_); rintro e w' ⟨rfl, ⟨nd, rfl⟩⟩; refine ⟨_, rfl, ?_⟩))
                                  go_meet
                                  case rel => exact ⟨_, (decide ((Int.tmod (wrap64 (a0 - 8192)) 512) < 416)), (by first | rfl | (simp; done) | (simp [*]; done)), H', ⟨by have := HJ17.out; have := HJ22.out; have := HJ43.out; have := HJ50.out; have := HJ63.out; have := HJ68.out; first | omega | exact Nat.le_refl _⟩, by repeat (first | exact Drawn0.refl _ | apply Drawn0.step)⟩
                                 ·replace c76 := Bool.eq_false_iff.mpr c76
                                  subst c76
                                  have H1 : (impl_kind.j8 kj68 a0 false) = some (r1, r2) := by rw [if_neg (show ¬ (false = true) by decide)] at H; exact H
                                  clear H
                                  have H := H1
                                  clear H1
                                  have H' := Aside0.mk H
                                  clear H
                                  go_wp2_with (first | ((with_reducible refine gate_callee (f := 97) rfl ?_); refine goesL_ (some 144) rfl rfl Tryd.func97 (by kernel_rfl) rfl #[.int .i64 a0, .int .i64 8192, .int .i64 9631] rfl (by (try simp only [List.map_toArray, List.map_cons, List.map_nil]); first | done | rfl | (simp only [List.length_drop, List.length_take]; rfl)) ?_; (with_reducible refine (impl_in.calls a0 8192 9631 false _ A75.out).mono ?_); rintro e w' ⟨rfl, ⟨nd, rfl⟩⟩; refine ⟨_, rfl, ?_⟩))
                                  go_meet
                                  case rel => exact ⟨_, (false), (by first | rfl | (simp; done) | (simp [*]; done)), H', ⟨by have := HJ17.out; have := HJ22.out; have := HJ43.out; have := HJ50.out; have := HJ63.out; have := HJ68.out; first | omega | exact Nat.le_refl _⟩, by repeat (first | exact Drawn0.refl _ | apply Drawn0.step)⟩
                                case rest =>
                                 clear HC74
                                 try clear c1
                                 try clear c2
                                 try clear p2
                                 try clear c3
                                 try clear c3b0
                                 try clear c4
                                 try clear c5
                                 try clear c5b0
                                 try clear c6
                                 try clear p6
                                 try clear c7
                                 try clear c9
                                 try clear c9b0
                                 try clear c11
                                 try clear c13
                                 try clear c15
                                 try clear c17
                                 try clear c18
                                 try clear c20
                                 try clear c22
                                 try clear c24
                                 try clear c24b0
                                 try clear c24b1
                                 try clear c25
                                 try clear c25b0
                                 try clear c25b1
                                 try clear c26
                                 try clear c28
                                 try clear c30
                                 try clear c32
                                 try clear c34
                                 try clear c35
                                 try clear c35b0
                                 try clear c35b1
                                 try clear c37
                                 try clear c39
                                 try clear c41
                                 try clear c43
                                 try clear c46
                                 try clear c47
                                 try clear c47b0
                                 try clear c47b1
                                 try clear c48
                                 try clear c50
                                 try clear c53
                                 try clear c55
                                 try clear c57
                                 try clear c59
                                 try clear c61
                                 try clear c63
                                 try clear p64
                                 try clear c66
                                 try clear c68
                                 try clear c71
                                 try clear c72
                                 try clear c72b0
                                 try clear c72b1
                                 try clear c73
                                 try clear c76
                                 try clear p2
                                 obtain ⟨kq, x142_73, rfl, HA, HJ73, ⟨mc73, rfl⟩⟩ := hcut
                                 cases kq with
                                 | zero => exact absurd HA.out (by simp [impl_kind.j8])
                                 | succ kj73 =>
                                  have H := HA.out
                                  clear HA
                                  simp only [impl_kind.j8] at H
                                  by_cases c77 : x142_73 = true
                                  ·as_aux_lemma =>
                                   subst c77
                                   have H1 : (if (Int.tmod (wrap64 (a0 - 8192)) 512) < 208 then (some (4, 1)) else (some (5, 1))) = some (r1, r2) := by rw [if_pos rfl] at H; exact H
                                   clear H
                                   have H := H1
                                   clear H1
                                   by_cases c78 : (Int.tmod (wrap64 (a0 - 8192)) 512) < 208
                                   ·as_aux_lemma =>
                                    rw [if_pos c78] at H
                                    have c78b0 : decide ((Int.tmod (wrap64 (a0 - 8192)) 512) < 208) = true := decide_eq_true c78
                                    clear c78
                                    simp only [Option.some.injEq, Prod.mk.injEq] at H
                                    obtain ⟨rfl, rfl⟩ := H
                                    go_wp2
                                    go_ret2
                                    exact ⟨by first | rfl | (simp; done) | (simp [*]; done), by repeat (first | exact Drawn0.refl _ | apply Drawn0.step)⟩
                                   ·rw [if_neg c78] at H
                                    have c78b0 : decide ((Int.tmod (wrap64 (a0 - 8192)) 512) < 208) = false := decide_eq_false c78
                                    clear c78
                                    simp only [Option.some.injEq, Prod.mk.injEq] at H
                                    obtain ⟨rfl, rfl⟩ := H
                                    go_wp2
                                    go_ret2
                                    exact ⟨by first | rfl | (simp; done) | (simp [*]; done), by repeat (first | exact Drawn0.refl _ | apply Drawn0.step)⟩
                                  ·replace c77 := Bool.eq_false_iff.mpr c77
                                   subst c77
                                   have H1 : ((impl_in.f a0 9728 9753).bind fun t130 => (if t130 = true then (some (4, 1)) else ((impl_in.f a0 9984 10009).bind fun t131 => (if t131 = true then (impl_kind.j9 kj73 a0 true) else ((impl_in.f a0 10032 10035).bind fun t132 => (impl_kind.j9 kj73 a0 t132)))))) = some (r1, r2) := by rw [if_neg (show ¬ (false = true) by decide)] at H; exact H
                                   clear H
                                   have H := H1
                                   clear H1
                                   replace H := Option.bind_eq_some_iff.mp H
                                   obtain ⟨t130, A790, H⟩ := H
                                   replace H : (if t130 = true then (some (4, 1)) else ((impl_in.f a0 9984 10009).bind fun t131 => (if t131 = true then (impl_kind.j9 kj73 a0 true) else ((impl_in.f a0 10032 10035).bind fun t132 => (impl_kind.j9 kj73 a0 t132))))) = some (r1, r2) := H
                                   have A79 := Aside0.mk A790
                                   clear A790
                                   by_cases c80 : t130 = true
                                   ·as_aux_lemma =>
                                    subst c80
                                    have H1 : (some (4, 1)) = some (r1, r2) := by rw [if_pos rfl] at H; exact H
                                    clear H
                                    have H := H1
                                    clear H1
                                    simp only [Option.some.injEq, Prod.mk.injEq] at H
                                    obtain ⟨rfl, rfl⟩ := H
                                    go_wp2_with (first | ((with_reducible refine gate_callee (f := 97) rfl ?_); refine goesL_ (some 157) rfl rfl Tryd.func97 (by kernel_rfl) rfl #[.int .i64 a0, .int .i64 9728, .int .i64 9753] rfl (by (try simp only [List.map_toArray, List.map_cons, List.map_nil]); first | done | rfl | (simp only [List.length_drop, List.length_take]; rfl)) ?_; (with_reducible refine (impl_in.calls a0 9728 9753 true _ A79.out).mono ?_); rintro e w' ⟨rfl, ⟨nd, rfl⟩⟩; refine ⟨_, rfl, ?_⟩))
                                    go_ret2
                                    exact ⟨by first | rfl | (simp; done) | (simp [*]; done), by repeat (first | exact Drawn0.refl _ | apply Drawn0.step)⟩
                                   ·replace c80 := Bool.eq_false_iff.mpr c80
                                    subst c80
                                    have H1 : ((impl_in.f a0 9984 10009).bind fun t131 => (if t131 = true then (impl_kind.j9 kj73 a0 true) else ((impl_in.f a0 10032 10035).bind fun t132 => (impl_kind.j9 kj73 a0 t132)))) = some (r1, r2) := by rw [if_neg (show ¬ (false = true) by decide)] at H; exact H
                                    clear H
                                    have H := H1
                                    clear H1
                                    have HC81 := Aside0.mk H
                                    clear H
                                    go_upto_region 55 with (first | ((with_reducible refine gate_callee (f := 97) rfl ?_); refine goesL_ (some 157) rfl rfl Tryd.func97 (by kernel_rfl) rfl #[.int .i64 a0, .int .i64 9728, .int .i64 9753] rfl (by (try simp only [List.map_toArray, List.map_cons, List.map_nil]); first | done | rfl | (simp only [List.length_drop, List.length_take]; rfl)) ?_; (with_reducible refine (impl_in.calls a0 9728 9753 false _ A79.out).mono ?_); rintro e w' ⟨rfl, ⟨nd, rfl⟩⟩; refine ⟨_, rfl, ?_⟩))
                                    (try simp only [Act.put, List.setIfInBounds_toArray, List.set_cons_zero, List.set_cons_succ])
                                    go_cut [158] (fun v158 wc => ∃ (kq : Nat) (x158_80 : Bool), v158 = .bool x158_80 ∧ Aside0 (impl_kind.j9 kq a0 x158_80 = some (r1, r2)) ∧ Aside0 (kq ≤ kj73) ∧ Drawn0 w wc)
                                    case first =>
                                     have H := HC81.out
                                     clear HC81
                                     replace H := Option.bind_eq_some_iff.mp H
                                     obtain ⟨t131, A820, H⟩ := H
                                     replace H : (if t131 = true then (impl_kind.j9 kj73 a0 true) else ((impl_in.f a0 10032 10035).bind fun t132 => (impl_kind.j9 kj73 a0 t132))) = some (r1, r2) := H
                                     have A82 := Aside0.mk A820
                                     clear A820
                                     by_cases c83 : t131 = true
                                     ·as_aux_lemma =>
                                      subst c83
                                      have H1 : (impl_kind.j9 kj73 a0 true) = some (r1, r2) := by rw [if_pos rfl] at H; exact H
                                      clear H
                                      have H := H1
                                      clear H1
                                      have H' := Aside0.mk H
                                      clear H
                                      go_wp2_with (first | ((with_reducible refine gate_callee (f := 97) rfl ?_); refine goesL_ (some 160) rfl rfl Tryd.func97 (by kernel_rfl) rfl #[.int .i64 a0, .int .i64 9984, .int .i64 10009] rfl (by (try simp only [List.map_toArray, List.map_cons, List.map_nil]); first | done | rfl | (simp only [List.length_drop, List.length_take]; rfl)) ?_; (with_reducible refine (impl_in.calls a0 9984 10009 true _ A82.out).mono ?_); rintro e w' ⟨rfl, ⟨nd, rfl⟩⟩; refine ⟨_, rfl, ?_⟩))
                                      go_meet
                                      case rel => exact ⟨_, (true), (by first | rfl | (simp; done) | (simp [*]; done)), H', ⟨by have := HJ17.out; have := HJ22.out; have := HJ43.out; have := HJ50.out; have := HJ63.out; have := HJ68.out; have := HJ73.out; first | omega | exact Nat.le_refl _⟩, by repeat (first | exact Drawn0.refl _ | apply Drawn0.step)⟩
                                     ·replace c83 := Bool.eq_false_iff.mpr c83
                                      subst c83
                                      have H1 : ((impl_in.f a0 10032 10035).bind fun t132 => (impl_kind.j9 kj73 a0 t132)) = some (r1, r2) := by rw [if_neg (show ¬ (false = true) by decide)] at H; exact H
                                      clear H
                                      have H := H1
                                      clear H1
                                      replace H := Option.bind_eq_some_iff.mp H
                                      obtain ⟨t132, A840, H⟩ := H
                                      replace H : (impl_kind.j9 kj73 a0 t132) = some (r1, r2) := H
                                      have A84 := Aside0.mk A840
                                      clear A840
                                      have H' := Aside0.mk H
                                      clear H
                                      go_wp2_with (first | ((with_reducible refine gate_callee (f := 97) rfl ?_); refine goesL_ (some 160) rfl rfl Tryd.func97 (by kernel_rfl) rfl #[.int .i64 a0, .int .i64 9984, .int .i64 10009] rfl (by (try simp only [List.map_toArray, List.map_cons, List.map_nil]); first | done | rfl | (simp only [List.length_drop, List.length_take]; rfl)) ?_; (with_reducible refine (impl_in.calls a0 9984 10009 false _ A82.out).mono ?_); rintro e w' ⟨rfl, ⟨nd, rfl⟩⟩; refine ⟨_, rfl, ?_⟩) | (go_at_call 97; (with_reducible refine (impl_in.calls a0 10032 10035 t132 _ A84.out).mono ?_); rintro e w' ⟨rfl, ⟨nd, rfl⟩⟩))
                                      go_meet
                                      case rel => exact ⟨_, (t132), (by first | rfl | (simp; done) | (simp [*]; done)), H', ⟨by have := HJ17.out; have := HJ22.out; have := HJ43.out; have := HJ50.out; have := HJ63.out; have := HJ68.out; have := HJ73.out; first | omega | exact Nat.le_refl _⟩, by repeat (first | exact Drawn0.refl _ | apply Drawn0.step)⟩
                                    case rest =>
                                     clear HC81
                                     try clear c1
                                     try clear c2
                                     try clear p2
                                     try clear c3
                                     try clear c3b0
                                     try clear c4
                                     try clear c5
                                     try clear c5b0
                                     try clear c6
                                     try clear p6
                                     try clear c7
                                     try clear c8
                                     try clear c9
                                     try clear c9b0
                                     try clear c11
                                     try clear c13
                                     try clear c15
                                     try clear c17
                                     try clear c18
                                     try clear c20
                                     try clear c22
                                     try clear c24
                                     try clear c24b0
                                     try clear c24b1
                                     try clear c25
                                     try clear c25b0
                                     try clear c25b1
                                     try clear c26
                                     try clear c28
                                     try clear c30
                                     try clear c32
                                     try clear c34
                                     try clear c35
                                     try clear c35b0
                                     try clear c35b1
                                     try clear c37
                                     try clear c39
                                     try clear c41
                                     try clear c43
                                     try clear c46
                                     try clear c47
                                     try clear c47b0
                                     try clear c47b1
                                     try clear c48
                                     try clear c50
                                     try clear c53
                                     try clear c55
                                     try clear c57
                                     try clear c59
                                     try clear c61
                                     try clear c63
                                     try clear p64
                                     try clear c66
                                     try clear c68
                                     try clear c71
                                     try clear c72
                                     try clear c72b0
                                     try clear c72b1
                                     try clear c73
                                     try clear c76
                                     try clear c77
                                     try clear c78
                                     try clear c78b0
                                     try clear c80
                                     try clear c83
                                     try clear p2
                                     try clear p6
                                     try clear p64
                                     obtain ⟨kq, x158_80, rfl, HA, HJ80, ⟨mc80, rfl⟩⟩ := hcut
                                     cases kq with
                                     | zero => exact absurd HA.out (by simp [impl_kind.j9])
                                     | succ kj80 =>
                                      have H := HA.out
                                      clear HA
                                      simp only [impl_kind.j9] at H
                                      by_cases c85 : x158_80 = true
                                      ·as_aux_lemma =>
                                       subst c85
                                       have H1 : (some (10, 0)) = some (r1, r2) := by rw [if_pos rfl] at H; exact H
                                       clear H
                                       have H := H1
                                       clear H1
                                       simp only [Option.some.injEq, Prod.mk.injEq] at H
                                       obtain ⟨rfl, rfl⟩ := H
                                       go_wp2
                                       go_ret2
                                       exact ⟨by first | rfl | (simp; done) | (simp [*]; done), by repeat (first | exact Drawn0.refl _ | apply Drawn0.step)⟩
                                      ·replace c85 := Bool.eq_false_iff.mpr c85
                                       subst c85
                                       have H1 : ((impl_in.f a0 10016 10025).bind fun t133 => (if t133 = true then (some (8, 0)) else ((impl_in.f a0 24576 26623).bind fun t134 => (if t134 = true then (some (7, 9)) else (some (0, 0)))))) = some (r1, r2) := by rw [if_neg (show ¬ (false = true) by decide)] at H; exact H
                                       clear H
                                       have H := H1
                                       clear H1
                                       replace H := Option.bind_eq_some_iff.mp H
                                       obtain ⟨t133, A860, H⟩ := H
                                       replace H : (if t133 = true then (some (8, 0)) else ((impl_in.f a0 24576 26623).bind fun t134 => (if t134 = true then (some (7, 9)) else (some (0, 0))))) = some (r1, r2) := H
                                       have A86 := Aside0.mk A860
                                       clear A860
                                       by_cases c87 : t133 = true
                                       ·as_aux_lemma =>
                                        subst c87
                                        have H1 : (some (8, 0)) = some (r1, r2) := by rw [if_pos rfl] at H; exact H
                                        clear H
                                        have H := H1
                                        clear H1
                                        simp only [Option.some.injEq, Prod.mk.injEq] at H
                                        obtain ⟨rfl, rfl⟩ := H
                                        go_wp2_with (first | ((with_reducible refine gate_callee (f := 97) rfl ?_); refine goesL_ (some 167) rfl rfl Tryd.func97 (by kernel_rfl) rfl #[.int .i64 a0, .int .i64 10016, .int .i64 10025] rfl (by (try simp only [List.map_toArray, List.map_cons, List.map_nil]); first | done | rfl | (simp only [List.length_drop, List.length_take]; rfl)) ?_; (with_reducible refine (impl_in.calls a0 10016 10025 true _ A86.out).mono ?_); rintro e w' ⟨rfl, ⟨nd, rfl⟩⟩; refine ⟨_, rfl, ?_⟩))
                                        go_ret2
                                        exact ⟨by first | rfl | (simp; done) | (simp [*]; done), by repeat (first | exact Drawn0.refl _ | apply Drawn0.step)⟩
                                       ·replace c87 := Bool.eq_false_iff.mpr c87
                                        subst c87
                                        have H1 : ((impl_in.f a0 24576 26623).bind fun t134 => (if t134 = true then (some (7, 9)) else (some (0, 0)))) = some (r1, r2) := by rw [if_neg (show ¬ (false = true) by decide)] at H; exact H
                                        clear H
                                        have H := H1
                                        clear H1
                                        replace H := Option.bind_eq_some_iff.mp H
                                        obtain ⟨t134, A880, H⟩ := H
                                        replace H : (if t134 = true then (some (7, 9)) else (some (0, 0))) = some (r1, r2) := H
                                        have A88 := Aside0.mk A880
                                        clear A880
                                        by_cases c89 : t134 = true
                                        ·as_aux_lemma =>
                                         subst c89
                                         have H1 : (some (7, 9)) = some (r1, r2) := by rw [if_pos rfl] at H; exact H
                                         clear H
                                         have H := H1
                                         clear H1
                                         simp only [Option.some.injEq, Prod.mk.injEq] at H
                                         obtain ⟨rfl, rfl⟩ := H
                                         go_wp2_with (first | ((with_reducible refine gate_callee (f := 97) rfl ?_); refine goesL_ (some 167) rfl rfl Tryd.func97 (by kernel_rfl) rfl #[.int .i64 a0, .int .i64 10016, .int .i64 10025] rfl (by (try simp only [List.map_toArray, List.map_cons, List.map_nil]); first | done | rfl | (simp only [List.length_drop, List.length_take]; rfl)) ?_; (with_reducible refine (impl_in.calls a0 10016 10025 false _ A86.out).mono ?_); rintro e w' ⟨rfl, ⟨nd, rfl⟩⟩; refine ⟨_, rfl, ?_⟩) | ((with_reducible refine gate_callee (f := 97) rfl ?_); refine goesL_ (some 170) rfl rfl Tryd.func97 (by kernel_rfl) rfl #[.int .i64 a0, .int .i64 24576, .int .i64 26623] rfl (by (try simp only [List.map_toArray, List.map_cons, List.map_nil]); first | done | rfl | (simp only [List.length_drop, List.length_take]; rfl)) ?_; (with_reducible refine (impl_in.calls a0 24576 26623 true _ A88.out).mono ?_); rintro e w' ⟨rfl, ⟨nd, rfl⟩⟩; refine ⟨_, rfl, ?_⟩))
                                         go_ret2
                                         exact ⟨by first | rfl | (simp; done) | (simp [*]; done), by repeat (first | exact Drawn0.refl _ | apply Drawn0.step)⟩
                                        ·replace c89 := Bool.eq_false_iff.mpr c89
                                         subst c89
                                         have H1 : (some (0, 0)) = some (r1, r2) := by rw [if_neg (show ¬ (false = true) by decide)] at H; exact H
                                         clear H
                                         have H := H1
                                         clear H1
                                         simp only [Option.some.injEq, Prod.mk.injEq] at H
                                         obtain ⟨rfl, rfl⟩ := H
                                         go_wp2_with (first | ((with_reducible refine gate_callee (f := 97) rfl ?_); refine goesL_ (some 167) rfl rfl Tryd.func97 (by kernel_rfl) rfl #[.int .i64 a0, .int .i64 10016, .int .i64 10025] rfl (by (try simp only [List.map_toArray, List.map_cons, List.map_nil]); first | done | rfl | (simp only [List.length_drop, List.length_take]; rfl)) ?_; (with_reducible refine (impl_in.calls a0 10016 10025 false _ A86.out).mono ?_); rintro e w' ⟨rfl, ⟨nd, rfl⟩⟩; refine ⟨_, rfl, ?_⟩) | ((with_reducible refine gate_callee (f := 97) rfl ?_); refine goesL_ (some 170) rfl rfl Tryd.func97 (by kernel_rfl) rfl #[.int .i64 a0, .int .i64 24576, .int .i64 26623] rfl (by (try simp only [List.map_toArray, List.map_cons, List.map_nil]); first | done | rfl | (simp only [List.length_drop, List.length_take]; rfl)) ?_; (with_reducible refine (impl_in.calls a0 24576 26623 false _ A88.out).mono ?_); rintro e w' ⟨rfl, ⟨nd, rfl⟩⟩; refine ⟨_, rfl, ?_⟩))
                                         go_ret2
                                         exact ⟨by first | rfl | (simp; done) | (simp [*]; done), by repeat (first | exact Drawn0.refl _ | apply Drawn0.step)⟩
end Go.Proofs.YtepeeahckgpapaaDoor.Q
end
section
namespace Go.Proofs.YtepeeahckgpapaaDoor.Q
open Go.RowKit Go.Proofs.YtepeeahckgpapaaDoorW.PrintWords Go.Proofs.YtepeeahckgpapaaDoorW.PrintLast Go.Proofs.YtepeeahckgpapaaDoorW.PrintMore
attribute [local go_sem] max2_int max_two
set_option linter.unusedVariables false
set_option linter.unusedSimpArgs false
def impl_Category.f (k : Nat) (a0 : Int) : Option (Int) := (impl_kind.f k a0).bind fun bt101 => (some bt101.1)
theorem impl_Category.mono : ∀ a0 k, LeO (impl_Category.f k a0) (impl_Category.f (k + 1) a0) := by
 intro a0 k
 unfold impl_Category.f
 repeat' first | (with_reducible first | exact impl_kind.mono _ _ | exact LeO.refl _ | exact LeO.none _ | refine LeO.ite ?_ ?_ | refine LeO.bind ?_ (fun _ => ?_)) | exact impl_kind.mono _ _ | exact LeO.none _ | refine LeO.ite ?_ ?_ | refine LeO.bind ?_ (fun _ => ?_)
set_option maxHeartbeats 8000000 in
set_option maxRecDepth 100000 in
theorem impl_Category.calls (k : Nat) (a0 : Int) (r : Int) (w : World) (h : impl_Category.f k a0 = some r) :
  Calls Tryd.prog 122 #[.int .i64 a0] w fun e w' => e = .returned (.int .i64 r) ∧ Drawn0 w w' := by
 have H : ((impl_kind.f k a0).bind fun bt101 => (some bt101.1)) = some r := h
 clear h
 replace H := Option.bind_eq_some_iff.mp H
 obtain ⟨⟨t101, t102⟩, A20, H⟩ := H
 replace H : (some t101) = some r := H
 have A2 := Aside0.mk A20
 clear A20
 obtain rfl := Option.some.inj H
 go_enter Tryd.func122, Tryd.ntmps122
 go_wp2_with (first | ((with_reducible refine gate_callee (f := 185) rfl ?_); refine goesL_ (some 7) rfl rfl Tryd.func185 (by kernel_rfl) rfl #[.int .i64 a0] rfl (by (try simp only [List.map_toArray, List.map_cons, List.map_nil]); first | done | rfl | (simp only [List.length_drop, List.length_take]; rfl)) ?_; (with_reducible refine (impl_kind.calls k a0 t101 t102 _ A2.out).mono ?_); rintro e w' ⟨rfl, ⟨nd, rfl⟩⟩; refine ⟨_, rfl, ?_⟩))
 go_ret
 exact ⟨by first | rfl | (simp; done) | (simp [*]; done), by repeat (first | exact Drawn0.refl _ | apply Drawn0.step)⟩
end Go.Proofs.YtepeeahckgpapaaDoor.Q
end
section
namespace Go.Proofs.YtepeeahckgpapaaDoor.Q
open Go.RowKit Go.Proofs.YtepeeahckgpapaaDoorW.PrintWords Go.Proofs.YtepeeahckgpapaaDoorW.PrintLast Go.Proofs.YtepeeahckgpapaaDoorW.PrintMore
attribute [local go_sem] max2_int max_two
set_option linter.unusedVariables false
set_option linter.unusedSimpArgs false
def impl_systemOf.from (p : Int) : Nat → List Int → Int × Int
 | _, [] => (-1, -1)
 | k, r :: rest => if p ≥ r ∧ p ≤ r + 9 then ((k : Int), p - r) else impl_systemOf.from p (k + 1) rest
def impl_systemOf.f (a0 : Int) : Option (Int × Int) := some (impl_systemOf.from a0 0 digitRowsL)
theorem impl_systemOf.step (p : Int) (k : Nat) (hk : k < 7) : impl_systemOf.from p k (digitRowsL.drop k) = if p ≥ digitRowsL.getD k 0 ∧ p ≤ digitRowsL.getD k 0 + 9 then ((k : Int), p - digitRowsL.getD k 0) else impl_systemOf.from p (k + 1) (digitRowsL.drop (k + 1)) := by
 have h7 : digitRowsL.length = 7 := rfl
 rw [List.drop_eq_getElem_cons (by omega)]
 rw [impl_systemOf.from]
 have e : digitRowsL.getD k 0 = digitRowsL[k]'(by omega) := by rw [List.getD_eq_getElem?_getD, List.getElem?_eq_getElem (by omega)]; rfl
 rw [e]
theorem impl_systemOf.row_bd (k : Nat) : 0 ≤ digitRowsL.getD k 0 ∧ digitRowsL.getD k 0 ≤ 10016 := by
 by_cases h : k < 7
 ·have : ∀ i : Fin 7, 0 ≤ digitRowsL.getD i.val 0 ∧ digitRowsL.getD i.val 0 ≤ 10016 := by decide
  exact this ⟨k, h⟩
 ·have : digitRowsL.getD k 0 = 0 := by rw [List.getD_eq_getElem?_getD, List.getElem?_eq_none (by simp [digitRowsL]; omega)]; rfl
  omega
set_option maxHeartbeats 4000000 in
set_option maxRecDepth 100000 in
theorem impl_systemOf.calls (a0 : Int) (r1 : Int) (r2 : Int) (w : World) (hGD : GdD w) (h : impl_systemOf.f a0 = some (r1, r2)) :
  Calls Tryd.prog 173 #[.int .i64 a0] w fun e w' => e = .returned (.tuple #[.int .i64 r1, .int .i64 r2]) ∧ Below w.heap.size w w' := by
 obtain ⟨a, hc, hrow⟩ := hGD.out
 have HR := Aside0.mk hrow
 clear hrow
 have H : Aside0 (impl_systemOf.from a0 0 digitRowsL = (r1, r2)) := ⟨Option.some.inj h⟩
 clear h
 go_enter Tryd.func173, Tryd.ntmps173
 go_wp2
 go_loopg [8] 7 (fun gk v8 w' => ∃ i : Nat, v8 = .int .i64 i ∧ i ≤ 7 ∧ 7 - i ≤ gk ∧ Aside0 (impl_systemOf.from a0 i (digitRowsL.drop i) = (r1, r2)) ∧ Aside0 (Below w.heap.size w w'))
 case atStart => exact ⟨0, rfl, by omega, by omega, H, ⟨Below.refl _ _⟩⟩
 case round =>
  clear H hc
  obtain ⟨i, rfl, hi, hg, HA, HB⟩ := hrel
  by_cases hlt : i < 7
  ·have HS := Aside0.mk (impl_systemOf.step a0 i hlt)
   have hx0 := (HB.out.cell (World.block_lt_of_cell? w _ (HR.out i hlt))).trans (HR.out i hlt)
   have hbd := impl_systemOf.row_bd i
   obtain ⟨x, hx⟩ : ∃ x, x = digitRowsL.getD i 0 := ⟨_, rfl⟩
   rw [← hx] at hx0 hbd
   obtain ⟨b0, b1⟩ := hbd
   have HX := Aside0.mk hx
   clear hx
   have hltz : (i : Int) < 7 := by omega
   have hi0 : (0 : Int) ≤ (i : Int) := by omega
   by_cases c1 : a0 ≥ x
   ·by_cases c2 : a0 ≤ x + 9
    ·have hin := Aside0.mk (show impl_in.f a0 x (x + 9) = some true by unfold impl_in.f; rw [if_pos c1, decide_eq_true c2])
     have hfin := HA.out
     rw [HS.out, ← HX.out, if_pos ⟨c1, c2⟩] at hfin
     obtain ⟨e1, e2⟩ := Prod.mk.inj hfin
     subst e1 e2
     clear hfin HA
     go_wp2_with (go_at_call 97; (with_reducible refine (impl_in.calls a0 x (x + 9) true _ hin.out).mono ?_); rintro e w8 ⟨rfl, ⟨nd, rfl⟩⟩)
     go_ret2
     exact ⟨rfl, by repeat (first | (with_reducible first | exact HB.out | apply below_alloc | apply pw_below_drewN | apply below_drew1) | exact HB.out)⟩
    ·have hin := Aside0.mk (show impl_in.f a0 x (x + 9) = some false by unfold impl_in.f; rw [if_pos c1, decide_eq_false c2])
     have hfin := HA.out
     rw [HS.out, ← HX.out, if_neg (fun h_ => c2 h_.2)] at hfin
     have HF := Aside0.mk hfin
     clear hfin c1 c2 HA
     go_wp2_with (go_at_call 97; (with_reducible refine (impl_in.calls a0 x (x + 9) false _ hin.out).mono ?_); rintro e w8 ⟨rfl, ⟨nd, rfl⟩⟩)
     go_roundg (7 - (i + 1))
     case measure => omega
     case rel => exact ⟨i + 1, by first | rfl | go_num, by omega, Nat.le_refl _, HF, ⟨by repeat (first | (with_reducible first | exact HB.out | apply below_alloc | apply pw_below_drewN | apply below_drew1) | exact HB.out)⟩⟩
   ·have hin := Aside0.mk (show impl_in.f a0 x (x + 9) = some false by unfold impl_in.f; rw [if_neg c1])
    have hfin := HA.out
    rw [HS.out, ← HX.out, if_neg (fun h_ => c1 h_.1)] at hfin
    have HF := Aside0.mk hfin
    clear hfin c1 HA
    go_wp2_with (go_at_call 97; (with_reducible refine (impl_in.calls a0 x (x + 9) false _ hin.out).mono ?_); rintro e w8 ⟨rfl, ⟨nd, rfl⟩⟩)
    go_roundg (7 - (i + 1))
    case measure => omega
    case rel => exact ⟨i + 1, by first | rfl | go_num, by omega, Nat.le_refl _, HF, ⟨by repeat (first | (with_reducible first | exact HB.out | apply below_alloc | apply pw_below_drewN | apply below_drew1) | exact HB.out)⟩⟩
  ·obtain rfl : i = 7 := by omega
   have hfin := HA.out
   rw [show digitRowsL.drop 7 = [] from rfl, impl_systemOf.from] at hfin
   obtain ⟨e1, e2⟩ := Prod.mk.inj hfin
   subst e1 e2
   clear hfin HA hlt
   go_wp2
   go_ret2
   exact ⟨rfl, by repeat (first | (with_reducible first | exact HB.out | apply below_alloc | apply pw_below_drewN | apply below_drew1) | exact HB.out)⟩
end Go.Proofs.YtepeeahckgpapaaDoor.Q
end
section
namespace Go.Proofs.YtepeeahckgpapaaDoor.Q
open Go.RowKit Go.Proofs.YtepeeahckgpapaaDoorW.PrintWords Go.Proofs.YtepeeahckgpapaaDoorW.PrintLast Go.Proofs.YtepeeahckgpapaaDoorW.PrintMore
attribute [local go_sem] max2_int max_two
set_option linter.unusedVariables false
set_option linter.unusedSimpArgs false
def impl_letter.f (a0 : Int) : Option (Int) := if a0 < 26 then (some (wrap64 (65 + a0))) else (some (wrap64 ((wrap64 (97 + a0)) - 26)))
set_option maxHeartbeats 8000000 in
set_option maxRecDepth 100000 in
theorem impl_letter.calls (a0 : Int) (r : Int) (w : World) (h : impl_letter.f a0 = some r) :
  Calls Tryd.prog 219 #[.int .i64 a0] w fun e w' => e = .returned (.int .i64 r) ∧ Drawn0 w w' := by
 have H : (if a0 < 26 then (some (wrap64 (65 + a0))) else (some (wrap64 ((wrap64 (97 + a0)) - 26)))) = some r := h
 clear h
 by_cases c2 : a0 < 26
 ·rw [if_pos c2] at H
  have c2b0 : decide (a0 < 26) = true := decide_eq_true c2
  clear c2
  obtain rfl := Option.some.inj H
  go_enter Tryd.func219, Tryd.ntmps219
  go_wp2
  go_ret
  exact ⟨by first | rfl | (simp; done) | (simp [*]; done), by repeat (first | exact Drawn0.refl _ | apply Drawn0.step)⟩
 ·rw [if_neg c2] at H
  have c2b0 : decide (a0 < 26) = false := decide_eq_false c2
  clear c2
  obtain rfl := Option.some.inj H
  go_enter Tryd.func219, Tryd.ntmps219
  go_wp2
  go_ret
  exact ⟨by first | rfl | (simp; done) | (simp [*]; done), by repeat (first | exact Drawn0.refl _ | apply Drawn0.step)⟩
end Go.Proofs.YtepeeahckgpapaaDoor.Q
end
section
namespace Go.Proofs.YtepeeahckgpapaaDoor.Q
open Go.RowKit Go.Proofs.YtepeeahckgpapaaDoorW.PrintWords Go.Proofs.YtepeeahckgpapaaDoorW.PrintLast Go.Proofs.YtepeeahckgpapaaDoorW.PrintMore
attribute [local go_sem] max2_int max_two
set_option linter.unusedVariables false
set_option linter.unusedSimpArgs false
theorem rd_four_ne (xs : List (List Int)) (j : Int) (hx : ∀ x ∈ xs, x ≠ []) (h0 : 0 ≤ j) (h1 : j < (xs.length : Int)) : rd_L3 xs j ≠ [] := by
 unfold rd_L3
 rw [List.getD_eq_getElem?_getD, List.getElem?_eq_getElem (show j.toNat < xs.length by omega)]
 exact hx _ (List.getElem_mem _)
mutual
def impl_parts.j0 : Nat → Int → Bool → Bool → Option (List Int)
 | 0, _, _, _ => none
 | k + 1, x0, x1, x8 => if x8 = true then (if (wrap64 (Int.tdiv (wrap64 (x0 - 8192)) 512)) = 0 then ((impl_letter.f (wrap64 (Int.tdiv (Int.tmod (wrap64 (x0 - 8192)) 512) 8))).bind fun t102 => (some (([t102, wrap64 (4096 + (Int.tmod (Int.tmod (wrap64 (x0 - 8192)) 512) 8))] : List Int)))) else (if (wrap64 (Int.tdiv (wrap64 (x0 - 8192)) 512)) = 1 then ((impl_letter.f (wrap64 (Int.tdiv (Int.tmod (wrap64 (x0 - 8192)) 512) 8))).bind fun t106 => (some (([t106, wrap64 (4112 + (Int.tmod (Int.tmod (wrap64 (x0 - 8192)) 512) 8))] : List Int)))) else (some (([wrap64 (8704 + (Int.tmod (wrap64 (x0 - 8192)) 512)), 4096] : List Int))))) else ((impl_in.f x0 9728 9753).bind fun t113 => (if t113 = true then (some (([wrap64 ((wrap64 (65 + x0)) - 9728)] : List Int))) else ((impl_in.f x0 12288 23459).bind fun t117 => (if t117 = true then (if (Int.tmod (wrap64 (x0 - 12288)) 28) > 0 then (some (([wrap64 (x0 - (Int.tmod (wrap64 (x0 - 12288)) 28)), wrap64 (1856 + (Int.tmod (wrap64 (x0 - 12288)) 28))] : List Int))) else (some (([wrap64 (1792 + (wrap64 (Int.tdiv (wrap64 (Int.tdiv (wrap64 (x0 - 12288)) 28)) 21))), wrap64 (1824 + (Int.tmod (wrap64 (Int.tdiv (wrap64 (x0 - 12288)) 28)) 21))] : List Int)))) else (if x1 = true then ((impl_in.f x0 9984 10009).bind fun t124 => (if t124 = true then (some (([wrap64 ((wrap64 (65 + x0)) - 9984)] : List Int))) else ((impl_in.f x0 10016 10025).bind fun t128 => (if t128 = true then (some (([wrap64 ((wrap64 (48 + x0)) - 10016)] : List Int))) else (if x0 = 8064 then (impl_parts.j1 k x0 true) else (impl_parts.j1 k x0 (x0 == 160))))))) else (some ([] : List Int)))))))
def impl_parts.j1 : Nat → Int → Bool → Option (List Int)
 | 0, _, _ => none
 | k + 1, x0, x92 => if x92 = true then (some (([32] : List Int))) else ((impl_in.f x0 10032 10035).bind fun t135 => (if t135 = true then ((some (([(([102, 102] : List Int)), (([102, 105] : List Int)), (([102, 108] : List Int)), (([115, 116] : List Int))] : List (List Int)) : List (List Int))).bind fun y148 => (if 0 ≤ (wrap64 (x0 - 10032)) then (if (wrap64 (x0 - 10032)) < (y148.length : Int) then (some (rd_L3 y148 (wrap64 (x0 - 10032)))) else (none)) else (none))) else (some ([] : List Int))))
end
def impl_parts.f (k : Nat) (a0 : Int) (a1 : Bool) : Option (List Int) := (impl_in.f a0 8192 9631).bind fun t101 => (if t101 = true then (impl_parts.j0 k a0 a1 (decide ((Int.tmod (wrap64 (a0 - 8192)) 512) < 416))) else (impl_parts.j0 k a0 a1 false))
theorem impl_parts.mono_l : ∀ k, (∀ y0 y1 y2, LeO (impl_parts.j0 k y0 y1 y2) (impl_parts.j0 (k + 1) y0 y1 y2)) ∧ (∀ y0 y1, LeO (impl_parts.j1 k y0 y1) (impl_parts.j1 (k + 1) y0 y1))
 | 0 => ⟨fun _ _ _ r h => by simp [impl_parts.j0] at h, fun _ _ r h => by simp [impl_parts.j1] at h⟩
 | k + 1 => by
  obtain ⟨ih0, ih1⟩ := impl_parts.mono_l k
  refine ⟨?_, ?_⟩
  all_goals intros
  all_goals first | unfold impl_parts.j0 | unfold impl_parts.j1
  all_goals repeat' first | (with_reducible first | exact ih0 _ _ _ | exact ih1 _ _ | exact LeO.refl _ | exact LeO.none _ | refine LeO.ite ?_ ?_ | refine LeO.bind ?_ (fun _ => ?_)) | exact ih0 _ _ _ | exact ih1 _ _ | exact LeO.none _ | refine LeO.ite ?_ ?_ | refine LeO.bind ?_ (fun _ => ?_)
theorem impl_parts.mono : ∀ a0 a1 k, LeO (impl_parts.f k a0 a1) (impl_parts.f (k + 1) a0 a1) := by
 intro a0 a1 k
 obtain ⟨ih0, ih1⟩ := impl_parts.mono_l k
 unfold impl_parts.f
 repeat' first | (with_reducible first | exact ih0 _ _ _ | exact ih1 _ _ | exact LeO.refl _ | exact LeO.none _ | refine LeO.ite ?_ ?_ | refine LeO.bind ?_ (fun _ => ?_)) | exact ih0 _ _ _ | exact ih1 _ _ | exact LeO.none _ | refine LeO.ite ?_ ?_ | refine LeO.bind ?_ (fun _ => ?_)
set_option maxHeartbeats 8000000 in
set_option maxRecDepth 100000 in
theorem impl_parts.calls (k : Nat) (a0 : Int) (a1 : Bool) (r : List Int) (w : World) (h : impl_parts.f k a0 a1 = some r) :
  Calls Tryd.prog 174 #[.int .i64 a0, .bool a1] w fun e w' => ∃ v0_ : Value, e = .returned (v0_) ∧ Kd.V (Kd.int .i64) 2 w' w.heap.size (fun k_ => (w.heap.size ≤ k_)) v0_ r ∧ Below w.heap.size w w' ∧ NilIfEmpty v0_ r := by
 have HB := Aside0.mk (Below.refl w.heap.size w)
 have H : ((impl_in.f a0 8192 9631).bind fun t101 => (if t101 = true then (impl_parts.j0 k a0 a1 (decide ((Int.tmod (wrap64 (a0 - 8192)) 512) < 416))) else (impl_parts.j0 k a0 a1 false))) = some r := h
 clear h
 have HC3 := Aside0.mk H
 clear H
 go_enter Tryd.func174, Tryd.ntmps174
 go_upto_region 1 with (fail)
 go_cut [8] (fun v8 wc => ∃ (kq : Nat) (x8_2 : Bool), v8 = .bool x8_2 ∧ Aside0 (impl_parts.j0 kq a0 a1 x8_2 = some r) ∧ Aside0 (kq ≤ k) ∧ Aside0 (Below w.heap.size w wc))
 case first =>
  have H := HC3.out
  clear HC3
  replace H := Option.bind_eq_some_iff.mp H
  obtain ⟨t101, A40, H⟩ := H
  replace H : (if t101 = true then (impl_parts.j0 k a0 a1 (decide ((Int.tmod (wrap64 (a0 - 8192)) 512) < 416))) else (impl_parts.j0 k a0 a1 false)) = some r := H
  have A4 := Aside0.mk A40
  clear A40
  by_cases c5 : t101 = true
  ·subst c5
   have H1 : (impl_parts.j0 k a0 a1 (decide ((Int.tmod (wrap64 (a0 - 8192)) 512) < 416))) = some r := by rw [if_pos rfl] at H; exact H
   clear H
   have H := H1
   clear H1
   have H' := Aside0.mk H
   clear H
   go_wp2_with (first | ((with_reducible refine gate_callee (f := 97) rfl ?_); refine goesL_ (some 10) rfl rfl Tryd.func97 (by kernel_rfl) rfl #[.int .i64 a0, .int .i64 8192, .int .i64 9631] rfl (by (try simp only [List.map_toArray, List.map_cons, List.map_nil]); first | done | rfl | (simp only [List.length_drop, List.length_take]; rfl)) ?_; (with_reducible refine (impl_in.calls a0 8192 9631 true _ A4.out).mono ?_); rintro e w' ⟨rfl, ⟨nd, rfl⟩⟩; refine ⟨_, rfl, ?_⟩))
   go_meet
   case rel => exact ⟨_, (decide ((Int.tmod (wrap64 (a0 - 8192)) 512) < 416)), (by first | rfl | (simp; done) | (simp [*]; done)), H', ⟨by first | omega | exact Nat.le_refl _⟩, ⟨by repeat (first | (with_reducible first | exact HB.out | apply below_alloc | apply pw_below_drewN | apply below_drew1) | exact HB.out)⟩⟩
  ·replace c5 := Bool.eq_false_iff.mpr c5
   subst c5
   have H1 : (impl_parts.j0 k a0 a1 false) = some r := by rw [if_neg (show ¬ (false = true) by decide)] at H; exact H
   clear H
   have H := H1
   clear H1
   have H' := Aside0.mk H
   clear H
   go_wp2_with (first | ((with_reducible refine gate_callee (f := 97) rfl ?_); refine goesL_ (some 10) rfl rfl Tryd.func97 (by kernel_rfl) rfl #[.int .i64 a0, .int .i64 8192, .int .i64 9631] rfl (by (try simp only [List.map_toArray, List.map_cons, List.map_nil]); first | done | rfl | (simp only [List.length_drop, List.length_take]; rfl)) ?_; (with_reducible refine (impl_in.calls a0 8192 9631 false _ A4.out).mono ?_); rintro e w' ⟨rfl, ⟨nd, rfl⟩⟩; refine ⟨_, rfl, ?_⟩))
   go_meet
   case rel => exact ⟨_, (false), (by first | rfl | (simp; done) | (simp [*]; done)), H', ⟨by first | omega | exact Nat.le_refl _⟩, ⟨by repeat (first | (with_reducible first | exact HB.out | apply below_alloc | apply pw_below_drewN | apply below_drew1) | exact HB.out)⟩⟩
 case rest =>
  clear HC3
  try clear c1
  try clear p2
  try clear c5
  obtain ⟨kq, x8_2, rfl, HA, HJ2, HB⟩ := hcut
  cases kq with
  | zero => exact absurd HA.out (by simp [impl_parts.j0])
  | succ kj2 =>
   have H := HA.out
   clear HA
   simp only [impl_parts.j0] at H
   by_cases c6 : x8_2 = true
   ·subst c6
    have H1 : (if (wrap64 (Int.tdiv (wrap64 (a0 - 8192)) 512)) = 0 then ((impl_letter.f (wrap64 (Int.tdiv (Int.tmod (wrap64 (a0 - 8192)) 512) 8))).bind fun t102 => (some (([t102, wrap64 (4096 + (Int.tmod (Int.tmod (wrap64 (a0 - 8192)) 512) 8))] : List Int)))) else (if (wrap64 (Int.tdiv (wrap64 (a0 - 8192)) 512)) = 1 then ((impl_letter.f (wrap64 (Int.tdiv (Int.tmod (wrap64 (a0 - 8192)) 512) 8))).bind fun t106 => (some (([t106, wrap64 (4112 + (Int.tmod (Int.tmod (wrap64 (a0 - 8192)) 512) 8))] : List Int)))) else (some (([wrap64 (8704 + (Int.tmod (wrap64 (a0 - 8192)) 512)), 4096] : List Int))))) = some r := by rw [if_pos rfl] at H; exact H
    clear H
    have H := H1
    clear H1
    by_cases c7 : (wrap64 (Int.tdiv (wrap64 (a0 - 8192)) 512)) = 0
    ·rw [if_pos c7] at H
     have c7b0 : ((wrap64 (Int.tdiv (wrap64 (a0 - 8192)) 512)) == 0) = true := beq_iff_eq.mpr c7
     have c7b1 : ((wrap64 (Int.tdiv (wrap64 (a0 - 8192)) 512)) != 0) = false := bne_eq_false_iff_eq.mpr c7
     clear c7
     replace H := Option.bind_eq_some_iff.mp H
     obtain ⟨t102, A80, H⟩ := H
     replace H : (some (([t102, wrap64 (4096 + (Int.tmod (Int.tmod (wrap64 (a0 - 8192)) 512) 8))] : List Int))) = some r := H
     have A8 := Aside0.mk A80
     clear A80
     obtain ⟨y103, hy103⟩ : ∃ y_ : List Int, y_ = (([t102, wrap64 (4096 + (Int.tmod (Int.tmod (wrap64 (a0 - 8192)) 512) 8))] : List Int)) := ⟨_, rfl⟩
     replace H : (some y103) = some r := by first | (rw [hy103]; with_reducible exact H) | (have H2_ := (Option.bind_some _ _).symm.trans H; rw [hy103]; with_reducible exact H2_) | (have H2_ := (Option.bind_some _ _).symm.trans H; with_reducible exact H2_) | with_reducible exact H | (rw [hy103]; exact H) | exact H
     have Ny103 := Aside0.mk hy103
     clear hy103
     obtain rfl := Option.some.inj H
     go_wp2_with (first | ((with_reducible refine gate_callee (f := 219) rfl ?_); refine goesL_ (some 27) rfl rfl Tryd.func219 (by kernel_rfl) rfl #[.int .i64 (wrap64 (Int.tdiv (Int.tmod (wrap64 (a0 - 8192)) 512) 8))] rfl (by (try simp only [List.map_toArray, List.map_cons, List.map_nil]); first | done | rfl | (simp only [List.length_drop, List.length_take]; rfl)) ?_; (with_reducible refine (impl_letter.calls (wrap64 (Int.tdiv (Int.tmod (wrap64 (a0 - 8192)) 512) 8)) t102 _ A8.out).mono ?_); rintro e w' ⟨rfl, ⟨nd, rfl⟩⟩; refine ⟨_, rfl, ?_⟩) | ((with_reducible refine gate_dst (N := 31) rfl ?_); refine Kd.R_lit (Kd.int .i64) _ 2 ?hg (N := 31) ?hd (xs := ([t102, wrap64 (4096 + (Int.tmod (Int.tmod (wrap64 (a0 - 8192)) 512) 8))] : List Int)) (inner := [.int .i64 t102, .int .i64 (wrap64 (4096 + (Int.tmod (Int.tmod (wrap64 (a0 - 8192)) 512) 8)))]) (ok := fun _ => True) (okp := fun _ => True) ?hr ?hp (fun _ hk => hk) trivial (Below.refl _ _) (Nat.le_refl _) (by simp) ?_; (case hd => rfl); (case hg => rfl); (case hr => first | (go_simp; done) | (go_simp; rfl)); (case hp => exact (Reps.one (show Kd.M (Kd.int .i64) _ _ _ t102 [.int .i64 t102] from rfl) (Reps.one (show Kd.M (Kd.int .i64) _ _ _ (wrap64 (4096 + (Int.tmod (Int.tmod (wrap64 (a0 - 8192)) 512) 8))) [.int .i64 (wrap64 (4096 + (Int.tmod (Int.tmod (wrap64 (a0 - 8192)) 512) 8)))] from rfl) (Reps.none _ _)))); intro v104 w9 ho10 hb hg_ hnew_; clear hg_ hnew_; (first | rw [← Ny103.out] at ho10 | (simp only [Int.reduceToNat] at ho10; rw [← Ny103.out] at ho10)); have n0_ := Aside0.mk (Kd.R_lower (Kd.R_newM (M := fun k_ => (w.heap.size ≤ k_)) ho10 (below_size (by repeat (first | (with_reducible first | exact HB.out | apply below_alloc | apply pw_below_drewN | apply below_drew1) | exact HB.out))) (fun k_ h_ => h_)) (below_size (by repeat (first | (with_reducible first | exact HB.out | apply below_alloc | apply pw_below_drewN | apply below_drew1) | exact HB.out)))); have n1_ := Aside0.mk (below_step (by repeat (first | (with_reducible first | exact HB.out | apply below_alloc | apply pw_below_drewN | apply below_drew1) | exact HB.out)) hb); clear HB; have HO105 := n0_; have HB := n1_; clear n0_ n1_; clear hb ho10))
     go_ret
     exact ⟨_, by first | rfl | (simp [errW_none, errW_some] <;> rfl) | (simp [*, errW_none, errW_some] <;> rfl), Kd.R_V (by (with_reducible repeat (first | apply Kd.R_alloc | apply Kd.R_drewN | apply Kd.R_drew)); exact Kd.R_mono HO105.out (fun _ hk => hk.1)), by repeat (first | (with_reducible first | exact HB.out | apply below_alloc | apply pw_below_drewN | apply below_drew1) | exact HB.out), ⟨by first | exact fun _ => rfl | exact fun h_ => absurd (Ny103.out.symm.trans h_) (by simp) | exact fun h_ => absurd (Ny107.out.symm.trans h_) (by simp) | exact fun h_ => absurd (Ny110.out.symm.trans h_) (by simp) | exact fun h_ => absurd (Ny114.out.symm.trans h_) (by simp) | exact fun h_ => absurd (Ny118.out.symm.trans h_) (by simp) | exact fun h_ => absurd (Ny121.out.symm.trans h_) (by simp) | exact fun h_ => absurd (Ny125.out.symm.trans h_) (by simp) | exact fun h_ => absurd (Ny129.out.symm.trans h_) (by simp) | exact fun h_ => absurd (Ny132.out.symm.trans h_) (by simp) | exact fun h_ => absurd (Ny136.out.symm.trans h_) (by simp) | exact fun h_ => absurd (Ny139.out.symm.trans h_) (by simp) | exact fun h_ => absurd (Ny142.out.symm.trans h_) (by simp) | exact fun h_ => absurd (Ny145.out.symm.trans h_) (by simp) | exact fun h_ => absurd (Ny148.out.symm.trans h_) (by simp)⟩⟩
    ·rw [if_neg c7] at H
     have c7b0 : ((wrap64 (Int.tdiv (wrap64 (a0 - 8192)) 512)) == 0) = false := beq_eq_false_iff_ne.mpr c7
     have c7b1 : ((wrap64 (Int.tdiv (wrap64 (a0 - 8192)) 512)) != 0) = true := bne_iff_ne.mpr c7
     by_cases c11 : (wrap64 (Int.tdiv (wrap64 (a0 - 8192)) 512)) = 1
     ·rw [if_pos c11] at H
      have c11b0 : ((wrap64 (Int.tdiv (wrap64 (a0 - 8192)) 512)) == 1) = true := beq_iff_eq.mpr c11
      have c11b1 : ((wrap64 (Int.tdiv (wrap64 (a0 - 8192)) 512)) != 1) = false := bne_eq_false_iff_eq.mpr c11
      clear c11
      replace H := Option.bind_eq_some_iff.mp H
      obtain ⟨t106, A120, H⟩ := H
      replace H : (some (([t106, wrap64 (4112 + (Int.tmod (Int.tmod (wrap64 (a0 - 8192)) 512) 8))] : List Int))) = some r := H
      have A12 := Aside0.mk A120
      clear A120
      obtain ⟨y107, hy107⟩ : ∃ y_ : List Int, y_ = (([t106, wrap64 (4112 + (Int.tmod (Int.tmod (wrap64 (a0 - 8192)) 512) 8))] : List Int)) := ⟨_, rfl⟩
      replace H : (some y107) = some r := by first | (rw [hy107]; with_reducible exact H) | (have H2_ := (Option.bind_some _ _).symm.trans H; rw [hy107]; with_reducible exact H2_) | (have H2_ := (Option.bind_some _ _).symm.trans H; with_reducible exact H2_) | with_reducible exact H | (rw [hy107]; exact H) | exact H
      have Ny107 := Aside0.mk hy107
      clear hy107
      obtain rfl := Option.some.inj H
      go_wp2_with (first | ((with_reducible refine gate_callee (f := 219) rfl ?_); refine goesL_ (some 36) rfl rfl Tryd.func219 (by kernel_rfl) rfl #[.int .i64 (wrap64 (Int.tdiv (Int.tmod (wrap64 (a0 - 8192)) 512) 8))] rfl (by (try simp only [List.map_toArray, List.map_cons, List.map_nil]); first | done | rfl | (simp only [List.length_drop, List.length_take]; rfl)) ?_; (with_reducible refine (impl_letter.calls (wrap64 (Int.tdiv (Int.tmod (wrap64 (a0 - 8192)) 512) 8)) t106 _ A12.out).mono ?_); rintro e w' ⟨rfl, ⟨nd, rfl⟩⟩; refine ⟨_, rfl, ?_⟩) | ((with_reducible refine gate_dst (N := 40) rfl ?_); refine Kd.R_lit (Kd.int .i64) _ 2 ?hg (N := 40) ?hd (xs := ([t106, wrap64 (4112 + (Int.tmod (Int.tmod (wrap64 (a0 - 8192)) 512) 8))] : List Int)) (inner := [.int .i64 t106, .int .i64 (wrap64 (4112 + (Int.tmod (Int.tmod (wrap64 (a0 - 8192)) 512) 8)))]) (ok := fun _ => True) (okp := fun _ => True) ?hr ?hp (fun _ hk => hk) trivial (Below.refl _ _) (Nat.le_refl _) (by simp) ?_; (case hd => rfl); (case hg => rfl); (case hr => first | (go_simp; done) | (go_simp; rfl)); (case hp => exact (Reps.one (show Kd.M (Kd.int .i64) _ _ _ t106 [.int .i64 t106] from rfl) (Reps.one (show Kd.M (Kd.int .i64) _ _ _ (wrap64 (4112 + (Int.tmod (Int.tmod (wrap64 (a0 - 8192)) 512) 8))) [.int .i64 (wrap64 (4112 + (Int.tmod (Int.tmod (wrap64 (a0 - 8192)) 512) 8)))] from rfl) (Reps.none _ _)))); intro v108 w13 ho14 hb hg_ hnew_; clear hg_ hnew_; (first | rw [← Ny107.out] at ho14 | (simp only [Int.reduceToNat] at ho14; rw [← Ny107.out] at ho14)); have n0_ := Aside0.mk (Kd.R_lower (Kd.R_newM (M := fun k_ => (w.heap.size ≤ k_)) ho14 (below_size (by repeat (first | (with_reducible first | exact HB.out | apply below_alloc | apply pw_below_drewN | apply below_drew1) | exact HB.out))) (fun k_ h_ => h_)) (below_size (by repeat (first | (with_reducible first | exact HB.out | apply below_alloc | apply pw_below_drewN | apply below_drew1) | exact HB.out)))); have n1_ := Aside0.mk (below_step (by repeat (first | (with_reducible first | exact HB.out | apply below_alloc | apply pw_below_drewN | apply below_drew1) | exact HB.out)) hb); clear HB; have HO109 := n0_; have HB := n1_; clear n0_ n1_; clear hb ho14))
      go_ret
      exact ⟨_, by first | rfl | (simp [errW_none, errW_some] <;> rfl) | (simp [*, errW_none, errW_some] <;> rfl), Kd.R_V (by (with_reducible repeat (first | apply Kd.R_alloc | apply Kd.R_drewN | apply Kd.R_drew)); exact Kd.R_mono HO109.out (fun _ hk => hk.1)), by repeat (first | (with_reducible first | exact HB.out | apply below_alloc | apply pw_below_drewN | apply below_drew1) | exact HB.out), ⟨by first | exact fun _ => rfl | exact fun h_ => absurd (Ny103.out.symm.trans h_) (by simp) | exact fun h_ => absurd (Ny107.out.symm.trans h_) (by simp) | exact fun h_ => absurd (Ny110.out.symm.trans h_) (by simp) | exact fun h_ => absurd (Ny114.out.symm.trans h_) (by simp) | exact fun h_ => absurd (Ny118.out.symm.trans h_) (by simp) | exact fun h_ => absurd (Ny121.out.symm.trans h_) (by simp) | exact fun h_ => absurd (Ny125.out.symm.trans h_) (by simp) | exact fun h_ => absurd (Ny129.out.symm.trans h_) (by simp) | exact fun h_ => absurd (Ny132.out.symm.trans h_) (by simp) | exact fun h_ => absurd (Ny136.out.symm.trans h_) (by simp) | exact fun h_ => absurd (Ny139.out.symm.trans h_) (by simp) | exact fun h_ => absurd (Ny142.out.symm.trans h_) (by simp) | exact fun h_ => absurd (Ny145.out.symm.trans h_) (by simp) | exact fun h_ => absurd (Ny148.out.symm.trans h_) (by simp)⟩⟩
     ·rw [if_neg c11] at H
      have c11b0 : ((wrap64 (Int.tdiv (wrap64 (a0 - 8192)) 512)) == 1) = false := beq_eq_false_iff_ne.mpr c11
      have c11b1 : ((wrap64 (Int.tdiv (wrap64 (a0 - 8192)) 512)) != 1) = true := bne_iff_ne.mpr c11
      obtain ⟨y110, hy110⟩ : ∃ y_ : List Int, y_ = (([wrap64 (8704 + (Int.tmod (wrap64 (a0 - 8192)) 512)), 4096] : List Int)) := ⟨_, rfl⟩
      replace H : (some y110) = some r := by first | (rw [hy110]; with_reducible exact H) | (have H2_ := (Option.bind_some _ _).symm.trans H; rw [hy110]; with_reducible exact H2_) | (have H2_ := (Option.bind_some _ _).symm.trans H; with_reducible exact H2_) | with_reducible exact H | (rw [hy110]; exact H) | exact H
      have Ny110 := Aside0.mk hy110
      clear hy110
      obtain rfl := Option.some.inj H
      go_wp2_with (first | ((with_reducible refine gate_dst (N := 43) rfl ?_); refine Kd.R_lit (Kd.int .i64) _ 2 ?hg (N := 43) ?hd (xs := ([wrap64 (8704 + (Int.tmod (wrap64 (a0 - 8192)) 512)), 4096] : List Int)) (inner := [.int .i64 (wrap64 (8704 + (Int.tmod (wrap64 (a0 - 8192)) 512))), .int .i64 4096]) (ok := fun _ => True) (okp := fun _ => True) ?hr ?hp (fun _ hk => hk) trivial (Below.refl _ _) (Nat.le_refl _) (by simp) ?_; (case hd => rfl); (case hg => rfl); (case hr => first | (go_simp; done) | (go_simp; rfl)); (case hp => exact (Reps.one (show Kd.M (Kd.int .i64) _ _ _ (wrap64 (8704 + (Int.tmod (wrap64 (a0 - 8192)) 512))) [.int .i64 (wrap64 (8704 + (Int.tmod (wrap64 (a0 - 8192)) 512)))] from rfl) (Reps.one (show Kd.M (Kd.int .i64) _ _ _ 4096 [.int .i64 4096] from rfl) (Reps.none _ _)))); intro v111 w15 ho16 hb hg_ hnew_; clear hg_ hnew_; (first | rw [← Ny110.out] at ho16 | (simp only [Int.reduceToNat] at ho16; rw [← Ny110.out] at ho16)); have n0_ := Aside0.mk (Kd.R_lower (Kd.R_newM (M := fun k_ => (w.heap.size ≤ k_)) ho16 (below_size (by repeat (first | (with_reducible first | exact HB.out | apply below_alloc | apply pw_below_drewN | apply below_drew1) | exact HB.out))) (fun k_ h_ => h_)) (below_size (by repeat (first | (with_reducible first | exact HB.out | apply below_alloc | apply pw_below_drewN | apply below_drew1) | exact HB.out)))); have n1_ := Aside0.mk (below_step (by repeat (first | (with_reducible first | exact HB.out | apply below_alloc | apply pw_below_drewN | apply below_drew1) | exact HB.out)) hb); clear HB; have HO112 := n0_; have HB := n1_; clear n0_ n1_; clear hb ho16))
      go_ret
      exact ⟨_, by first | rfl | (simp [errW_none, errW_some] <;> rfl) | (simp [*, errW_none, errW_some] <;> rfl), Kd.R_V (by (with_reducible repeat (first | apply Kd.R_alloc | apply Kd.R_drewN | apply Kd.R_drew)); exact Kd.R_mono HO112.out (fun _ hk => hk.1)), by repeat (first | (with_reducible first | exact HB.out | apply below_alloc | apply pw_below_drewN | apply below_drew1) | exact HB.out), ⟨by first | exact fun _ => rfl | exact fun h_ => absurd (Ny103.out.symm.trans h_) (by simp) | exact fun h_ => absurd (Ny107.out.symm.trans h_) (by simp) | exact fun h_ => absurd (Ny110.out.symm.trans h_) (by simp) | exact fun h_ => absurd (Ny114.out.symm.trans h_) (by simp) | exact fun h_ => absurd (Ny118.out.symm.trans h_) (by simp) | exact fun h_ => absurd (Ny121.out.symm.trans h_) (by simp) | exact fun h_ => absurd (Ny125.out.symm.trans h_) (by simp) | exact fun h_ => absurd (Ny129.out.symm.trans h_) (by simp) | exact fun h_ => absurd (Ny132.out.symm.trans h_) (by simp) | exact fun h_ => absurd (Ny136.out.symm.trans h_) (by simp) | exact fun h_ => absurd (Ny139.out.symm.trans h_) (by simp) | exact fun h_ => absurd (Ny142.out.symm.trans h_) (by simp) | exact fun h_ => absurd (Ny145.out.symm.trans h_) (by simp) | exact fun h_ => absurd (Ny148.out.symm.trans h_) (by simp)⟩⟩
   ·replace c6 := Bool.eq_false_iff.mpr c6
    subst c6
    have H1 : ((impl_in.f a0 9728 9753).bind fun t113 => (if t113 = true then (some (([wrap64 ((wrap64 (65 + a0)) - 9728)] : List Int))) else ((impl_in.f a0 12288 23459).bind fun t117 => (if t117 = true then (if (Int.tmod (wrap64 (a0 - 12288)) 28) > 0 then (some (([wrap64 (a0 - (Int.tmod (wrap64 (a0 - 12288)) 28)), wrap64 (1856 + (Int.tmod (wrap64 (a0 - 12288)) 28))] : List Int))) else (some (([wrap64 (1792 + (wrap64 (Int.tdiv (wrap64 (Int.tdiv (wrap64 (a0 - 12288)) 28)) 21))), wrap64 (1824 + (Int.tmod (wrap64 (Int.tdiv (wrap64 (a0 - 12288)) 28)) 21))] : List Int)))) else (if a1 = true then ((impl_in.f a0 9984 10009).bind fun t124 => (if t124 = true then (some (([wrap64 ((wrap64 (65 + a0)) - 9984)] : List Int))) else ((impl_in.f a0 10016 10025).bind fun t128 => (if t128 = true then (some (([wrap64 ((wrap64 (48 + a0)) - 10016)] : List Int))) else (if a0 = 8064 then (impl_parts.j1 kj2 a0 true) else (impl_parts.j1 kj2 a0 (a0 == 160))))))) else (some ([] : List Int))))))) = some r := by rw [if_neg (show ¬ (false = true) by decide)] at H; exact H
    clear H
    have H := H1
    clear H1
    replace H := Option.bind_eq_some_iff.mp H
    obtain ⟨t113, A170, H⟩ := H
    replace H : (if t113 = true then (some (([wrap64 ((wrap64 (65 + a0)) - 9728)] : List Int))) else ((impl_in.f a0 12288 23459).bind fun t117 => (if t117 = true then (if (Int.tmod (wrap64 (a0 - 12288)) 28) > 0 then (some (([wrap64 (a0 - (Int.tmod (wrap64 (a0 - 12288)) 28)), wrap64 (1856 + (Int.tmod (wrap64 (a0 - 12288)) 28))] : List Int))) else (some (([wrap64 (1792 + (wrap64 (Int.tdiv (wrap64 (Int.tdiv (wrap64 (a0 - 12288)) 28)) 21))), wrap64 (1824 + (Int.tmod (wrap64 (Int.tdiv (wrap64 (a0 - 12288)) 28)) 21))] : List Int)))) else (if a1 = true then ((impl_in.f a0 9984 10009).bind fun t124 => (if t124 = true then (some (([wrap64 ((wrap64 (65 + a0)) - 9984)] : List Int))) else ((impl_in.f a0 10016 10025).bind fun t128 => (if t128 = true then (some (([wrap64 ((wrap64 (48 + a0)) - 10016)] : List Int))) else (if a0 = 8064 then (impl_parts.j1 kj2 a0 true) else (impl_parts.j1 kj2 a0 (a0 == 160))))))) else (some ([] : List Int)))))) = some r := H
    have A17 := Aside0.mk A170
    clear A170
    by_cases c18 : t113 = true
    ·subst c18
     have H1 : (some (([wrap64 ((wrap64 (65 + a0)) - 9728)] : List Int))) = some r := by rw [if_pos rfl] at H; exact H
     clear H
     have H := H1
     clear H1
     obtain ⟨y114, hy114⟩ : ∃ y_ : List Int, y_ = (([wrap64 ((wrap64 (65 + a0)) - 9728)] : List Int)) := ⟨_, rfl⟩
     replace H : (some y114) = some r := by first | (rw [hy114]; with_reducible exact H) | (have H2_ := (Option.bind_some _ _).symm.trans H; rw [hy114]; with_reducible exact H2_) | (have H2_ := (Option.bind_some _ _).symm.trans H; with_reducible exact H2_) | with_reducible exact H | (rw [hy114]; exact H) | exact H
     have Ny114 := Aside0.mk hy114
     clear hy114
     obtain rfl := Option.some.inj H
     go_wp2_with (first | ((with_reducible refine gate_callee (f := 97) rfl ?_); refine goesL_ (some 46) rfl rfl Tryd.func97 (by kernel_rfl) rfl #[.int .i64 a0, .int .i64 9728, .int .i64 9753] rfl (by (try simp only [List.map_toArray, List.map_cons, List.map_nil]); first | done | rfl | (simp only [List.length_drop, List.length_take]; rfl)) ?_; (with_reducible refine (impl_in.calls a0 9728 9753 true _ A17.out).mono ?_); rintro e w' ⟨rfl, ⟨nd, rfl⟩⟩; refine ⟨_, rfl, ?_⟩) | ((with_reducible refine gate_dst (N := 50) rfl ?_); refine Kd.R_lit (Kd.int .i64) _ 2 ?hg (N := 50) ?hd (xs := ([wrap64 ((wrap64 (65 + a0)) - 9728)] : List Int)) (inner := [.int .i64 (wrap64 ((wrap64 (65 + a0)) - 9728))]) (ok := fun _ => True) (okp := fun _ => True) ?hr ?hp (fun _ hk => hk) trivial (Below.refl _ _) (Nat.le_refl _) (by simp) ?_; (case hd => rfl); (case hg => rfl); (case hr => first | (go_simp; done) | (go_simp; rfl)); (case hp => exact (Reps.one (show Kd.M (Kd.int .i64) _ _ _ (wrap64 ((wrap64 (65 + a0)) - 9728)) [.int .i64 (wrap64 ((wrap64 (65 + a0)) - 9728))] from rfl) (Reps.none _ _))); intro v115 w19 ho20 hb hg_ hnew_; clear hg_ hnew_; (first | rw [← Ny114.out] at ho20 | (simp only [Int.reduceToNat] at ho20; rw [← Ny114.out] at ho20)); have n0_ := Aside0.mk (Kd.R_lower (Kd.R_newM (M := fun k_ => (w.heap.size ≤ k_)) ho20 (below_size (by repeat (first | (with_reducible first | exact HB.out | apply below_alloc | apply pw_below_drewN | apply below_drew1) | exact HB.out))) (fun k_ h_ => h_)) (below_size (by repeat (first | (with_reducible first | exact HB.out | apply below_alloc | apply pw_below_drewN | apply below_drew1) | exact HB.out)))); have n1_ := Aside0.mk (below_step (by repeat (first | (with_reducible first | exact HB.out | apply below_alloc | apply pw_below_drewN | apply below_drew1) | exact HB.out)) hb); clear HB; have HO116 := n0_; have HB := n1_; clear n0_ n1_; clear hb ho20))
     go_ret
     exact ⟨_, by first | rfl | (simp [errW_none, errW_some] <;> rfl) | (simp [*, errW_none, errW_some] <;> rfl), Kd.R_V (by (with_reducible repeat (first | apply Kd.R_alloc | apply Kd.R_drewN | apply Kd.R_drew)); exact Kd.R_mono HO116.out (fun _ hk => hk.1)), by repeat (first | (with_reducible first | exact HB.out | apply below_alloc | apply pw_below_drewN | apply below_drew1) | exact HB.out), ⟨by first | exact fun _ => rfl | exact fun h_ => absurd (Ny103.out.symm.trans h_) (by simp) | exact fun h_ => absurd (Ny107.out.symm.trans h_) (by simp) | exact fun h_ => absurd (Ny110.out.symm.trans h_) (by simp) | exact fun h_ => absurd (Ny114.out.symm.trans h_) (by simp) | exact fun h_ => absurd (Ny118.out.symm.trans h_) (by simp) | exact fun h_ => absurd (Ny121.out.symm.trans h_) (by simp) | exact fun h_ => absurd (Ny125.out.symm.trans h_) (by simp) | exact fun h_ => absurd (Ny129.out.symm.trans h_) (by simp) | exact fun h_ => absurd (Ny132.out.symm.trans h_) (by simp) | exact fun h_ => absurd (Ny136.out.symm.trans h_) (by simp) | exact fun h_ => absurd (Ny139.out.symm.trans h_) (by simp) | exact fun h_ => absurd (Ny142.out.symm.trans h_) (by simp) | exact fun h_ => absurd (Ny145.out.symm.trans h_) (by simp) | exact fun h_ => absurd (Ny148.out.symm.trans h_) (by simp)⟩⟩
    ·replace c18 := Bool.eq_false_iff.mpr c18
     subst c18
     have H1 : ((impl_in.f a0 12288 23459).bind fun t117 => (if t117 = true then (if (Int.tmod (wrap64 (a0 - 12288)) 28) > 0 then (some (([wrap64 (a0 - (Int.tmod (wrap64 (a0 - 12288)) 28)), wrap64 (1856 + (Int.tmod (wrap64 (a0 - 12288)) 28))] : List Int))) else (some (([wrap64 (1792 + (wrap64 (Int.tdiv (wrap64 (Int.tdiv (wrap64 (a0 - 12288)) 28)) 21))), wrap64 (1824 + (Int.tmod (wrap64 (Int.tdiv (wrap64 (a0 - 12288)) 28)) 21))] : List Int)))) else (if a1 = true then ((impl_in.f a0 9984 10009).bind fun t124 => (if t124 = true then (some (([wrap64 ((wrap64 (65 + a0)) - 9984)] : List Int))) else ((impl_in.f a0 10016 10025).bind fun t128 => (if t128 = true then (some (([wrap64 ((wrap64 (48 + a0)) - 10016)] : List Int))) else (if a0 = 8064 then (impl_parts.j1 kj2 a0 true) else (impl_parts.j1 kj2 a0 (a0 == 160))))))) else (some ([] : List Int))))) = some r := by rw [if_neg (show ¬ (false = true) by decide)] at H; exact H
     clear H
     have H := H1
     clear H1
     replace H := Option.bind_eq_some_iff.mp H
     obtain ⟨t117, A210, H⟩ := H
     replace H : (if t117 = true then (if (Int.tmod (wrap64 (a0 - 12288)) 28) > 0 then (some (([wrap64 (a0 - (Int.tmod (wrap64 (a0 - 12288)) 28)), wrap64 (1856 + (Int.tmod (wrap64 (a0 - 12288)) 28))] : List Int))) else (some (([wrap64 (1792 + (wrap64 (Int.tdiv (wrap64 (Int.tdiv (wrap64 (a0 - 12288)) 28)) 21))), wrap64 (1824 + (Int.tmod (wrap64 (Int.tdiv (wrap64 (a0 - 12288)) 28)) 21))] : List Int)))) else (if a1 = true then ((impl_in.f a0 9984 10009).bind fun t124 => (if t124 = true then (some (([wrap64 ((wrap64 (65 + a0)) - 9984)] : List Int))) else ((impl_in.f a0 10016 10025).bind fun t128 => (if t128 = true then (some (([wrap64 ((wrap64 (48 + a0)) - 10016)] : List Int))) else (if a0 = 8064 then (impl_parts.j1 kj2 a0 true) else (impl_parts.j1 kj2 a0 (a0 == 160))))))) else (some ([] : List Int)))) = some r := H
     have A21 := Aside0.mk A210
     clear A210
     by_cases c22 : t117 = true
     ·subst c22
      have H1 : (if (Int.tmod (wrap64 (a0 - 12288)) 28) > 0 then (some (([wrap64 (a0 - (Int.tmod (wrap64 (a0 - 12288)) 28)), wrap64 (1856 + (Int.tmod (wrap64 (a0 - 12288)) 28))] : List Int))) else (some (([wrap64 (1792 + (wrap64 (Int.tdiv (wrap64 (Int.tdiv (wrap64 (a0 - 12288)) 28)) 21))), wrap64 (1824 + (Int.tmod (wrap64 (Int.tdiv (wrap64 (a0 - 12288)) 28)) 21))] : List Int)))) = some r := by rw [if_pos rfl] at H; exact H
      clear H
      have H := H1
      clear H1
      by_cases c23 : (Int.tmod (wrap64 (a0 - 12288)) 28) > 0
      ·rw [if_pos c23] at H
       have c23b0 : decide (0 < (Int.tmod (wrap64 (a0 - 12288)) 28)) = true := decide_eq_true c23
       clear c23
       obtain ⟨y118, hy118⟩ : ∃ y_ : List Int, y_ = (([wrap64 (a0 - (Int.tmod (wrap64 (a0 - 12288)) 28)), wrap64 (1856 + (Int.tmod (wrap64 (a0 - 12288)) 28))] : List Int)) := ⟨_, rfl⟩
       replace H : (some y118) = some r := by first | (rw [hy118]; with_reducible exact H) | (have H2_ := (Option.bind_some _ _).symm.trans H; rw [hy118]; with_reducible exact H2_) | (have H2_ := (Option.bind_some _ _).symm.trans H; with_reducible exact H2_) | with_reducible exact H | (rw [hy118]; exact H) | exact H
       have Ny118 := Aside0.mk hy118
       clear hy118
       obtain rfl := Option.some.inj H
       go_wp2_with (first | ((with_reducible refine gate_callee (f := 97) rfl ?_); refine goesL_ (some 46) rfl rfl Tryd.func97 (by kernel_rfl) rfl #[.int .i64 a0, .int .i64 9728, .int .i64 9753] rfl (by (try simp only [List.map_toArray, List.map_cons, List.map_nil]); first | done | rfl | (simp only [List.length_drop, List.length_take]; rfl)) ?_; (with_reducible refine (impl_in.calls a0 9728 9753 false _ A17.out).mono ?_); rintro e w' ⟨rfl, ⟨nd, rfl⟩⟩; refine ⟨_, rfl, ?_⟩) | ((with_reducible refine gate_callee (f := 97) rfl ?_); refine goesL_ (some 53) rfl rfl Tryd.func97 (by kernel_rfl) rfl #[.int .i64 a0, .int .i64 12288, .int .i64 23459] rfl (by (try simp only [List.map_toArray, List.map_cons, List.map_nil]); first | done | rfl | (simp only [List.length_drop, List.length_take]; rfl)) ?_; (with_reducible refine (impl_in.calls a0 12288 23459 true _ A21.out).mono ?_); rintro e w' ⟨rfl, ⟨nd, rfl⟩⟩; refine ⟨_, rfl, ?_⟩) | ((with_reducible refine gate_dst (N := 65) rfl ?_); refine Kd.R_lit (Kd.int .i64) _ 2 ?hg (N := 65) ?hd (xs := ([wrap64 (a0 - (Int.tmod (wrap64 (a0 - 12288)) 28)), wrap64 (1856 + (Int.tmod (wrap64 (a0 - 12288)) 28))] : List Int)) (inner := [.int .i64 (wrap64 (a0 - (Int.tmod (wrap64 (a0 - 12288)) 28))), .int .i64 (wrap64 (1856 + (Int.tmod (wrap64 (a0 - 12288)) 28)))]) (ok := fun _ => True) (okp := fun _ => True) ?hr ?hp (fun _ hk => hk) trivial (Below.refl _ _) (Nat.le_refl _) (by simp) ?_; (case hd => rfl); (case hg => rfl); (case hr => first | (go_simp; done) | (go_simp; rfl)); (case hp => exact (Reps.one (show Kd.M (Kd.int .i64) _ _ _ (wrap64 (a0 - (Int.tmod (wrap64 (a0 - 12288)) 28))) [.int .i64 (wrap64 (a0 - (Int.tmod (wrap64 (a0 - 12288)) 28)))] from rfl) (Reps.one (show Kd.M (Kd.int .i64) _ _ _ (wrap64 (1856 + (Int.tmod (wrap64 (a0 - 12288)) 28))) [.int .i64 (wrap64 (1856 + (Int.tmod (wrap64 (a0 - 12288)) 28)))] from rfl) (Reps.none _ _)))); intro v119 w24 ho25 hb hg_ hnew_; clear hg_ hnew_; (first | rw [← Ny118.out] at ho25 | (simp only [Int.reduceToNat] at ho25; rw [← Ny118.out] at ho25)); have n0_ := Aside0.mk (Kd.R_lower (Kd.R_newM (M := fun k_ => (w.heap.size ≤ k_)) ho25 (below_size (by repeat (first | (with_reducible first | exact HB.out | apply below_alloc | apply pw_below_drewN | apply below_drew1) | exact HB.out))) (fun k_ h_ => h_)) (below_size (by repeat (first | (with_reducible first | exact HB.out | apply below_alloc | apply pw_below_drewN | apply below_drew1) | exact HB.out)))); have n1_ := Aside0.mk (below_step (by repeat (first | (with_reducible first | exact HB.out | apply below_alloc | apply pw_below_drewN | apply below_drew1) | exact HB.out)) hb); clear HB; have HO120 := n0_; have HB := n1_; clear n0_ n1_; clear hb ho25))
       go_ret
       exact ⟨_, by first | rfl | (simp [errW_none, errW_some] <;> rfl) | (simp [*, errW_none, errW_some] <;> rfl), Kd.R_V (by (with_reducible repeat (first | apply Kd.R_alloc | apply Kd.R_drewN | apply Kd.R_drew)); exact Kd.R_mono HO120.out (fun _ hk => hk.1)), by repeat (first | (with_reducible first | exact HB.out | apply below_alloc | apply pw_below_drewN | apply below_drew1) | exact HB.out), ⟨by first | exact fun _ => rfl | exact fun h_ => absurd (Ny103.out.symm.trans h_) (by simp) | exact fun h_ => absurd (Ny107.out.symm.trans h_) (by simp) | exact fun h_ => absurd (Ny110.out.symm.trans h_) (by simp) | exact fun h_ => absurd (Ny114.out.symm.trans h_) (by simp) | exact fun h_ => absurd (Ny118.out.symm.trans h_) (by simp) | exact fun h_ => absurd (Ny121.out.symm.trans h_) (by simp) | exact fun h_ => absurd (Ny125.out.symm.trans h_) (by simp) | exact fun h_ => absurd (Ny129.out.symm.trans h_) (by simp) | exact fun h_ => absurd (Ny132.out.symm.trans h_) (by simp) | exact fun h_ => absurd (Ny136.out.symm.trans h_) (by simp) | exact fun h_ => absurd (Ny139.out.symm.trans h_) (by simp) | exact fun h_ => absurd (Ny142.out.symm.trans h_) (by simp) | exact fun h_ => absurd (Ny145.out.symm.trans h_) (by simp) | exact fun h_ => absurd (Ny148.out.symm.trans h_) (by simp)⟩⟩
      ·rw [if_neg c23] at H
       have c23b0 : decide (0 < (Int.tmod (wrap64 (a0 - 12288)) 28)) = false := decide_eq_false c23
       clear c23
       obtain ⟨y121, hy121⟩ : ∃ y_ : List Int, y_ = (([wrap64 (1792 + (wrap64 (Int.tdiv (wrap64 (Int.tdiv (wrap64 (a0 - 12288)) 28)) 21))), wrap64 (1824 + (Int.tmod (wrap64 (Int.tdiv (wrap64 (a0 - 12288)) 28)) 21))] : List Int)) := ⟨_, rfl⟩
       replace H : (some y121) = some r := by first | (rw [hy121]; with_reducible exact H) | (have H2_ := (Option.bind_some _ _).symm.trans H; rw [hy121]; with_reducible exact H2_) | (have H2_ := (Option.bind_some _ _).symm.trans H; with_reducible exact H2_) | with_reducible exact H | (rw [hy121]; exact H) | exact H
       have Ny121 := Aside0.mk hy121
       clear hy121
       obtain rfl := Option.some.inj H
       go_wp2_with (first | ((with_reducible refine gate_callee (f := 97) rfl ?_); refine goesL_ (some 46) rfl rfl Tryd.func97 (by kernel_rfl) rfl #[.int .i64 a0, .int .i64 9728, .int .i64 9753] rfl (by (try simp only [List.map_toArray, List.map_cons, List.map_nil]); first | done | rfl | (simp only [List.length_drop, List.length_take]; rfl)) ?_; (with_reducible refine (impl_in.calls a0 9728 9753 false _ A17.out).mono ?_); rintro e w' ⟨rfl, ⟨nd, rfl⟩⟩; refine ⟨_, rfl, ?_⟩) | ((with_reducible refine gate_callee (f := 97) rfl ?_); refine goesL_ (some 53) rfl rfl Tryd.func97 (by kernel_rfl) rfl #[.int .i64 a0, .int .i64 12288, .int .i64 23459] rfl (by (try simp only [List.map_toArray, List.map_cons, List.map_nil]); first | done | rfl | (simp only [List.length_drop, List.length_take]; rfl)) ?_; (with_reducible refine (impl_in.calls a0 12288 23459 true _ A21.out).mono ?_); rintro e w' ⟨rfl, ⟨nd, rfl⟩⟩; refine ⟨_, rfl, ?_⟩) | ((with_reducible refine gate_dst (N := 74) rfl ?_); refine Kd.R_lit (Kd.int .i64) _ 2 ?hg (N := 74) ?hd (xs := ([wrap64 (1792 + (wrap64 (Int.tdiv (wrap64 (Int.tdiv (wrap64 (a0 - 12288)) 28)) 21))), wrap64 (1824 + (Int.tmod (wrap64 (Int.tdiv (wrap64 (a0 - 12288)) 28)) 21))] : List Int)) (inner := [.int .i64 (wrap64 (1792 + (wrap64 (Int.tdiv (wrap64 (Int.tdiv (wrap64 (a0 - 12288)) 28)) 21)))), .int .i64 (wrap64 (1824 + (Int.tmod (wrap64 (Int.tdiv (wrap64 (a0 - 12288)) 28)) 21)))]) (ok := fun _ => True) (okp := fun _ => True) ?hr ?hp (fun _ hk => hk) trivial (Below.refl _ _) (Nat.le_refl _) (by simp) ?_; (case hd => rfl); (case hg => rfl); (case hr => first | (go_simp; done) | (go_simp; rfl)); (case hp => exact (Reps.one (show Kd.M (Kd.int .i64) _ _ _ (wrap64 (1792 + (wrap64 (Int.tdiv (wrap64 (Int.tdiv (wrap64 (a0 - 12288)) 28)) 21)))) [.int .i64 (wrap64 (1792 + (wrap64 (Int.tdiv (wrap64 (Int.tdiv (wrap64 (a0 - 12288)) 28)) 21))))] from rfl) (Reps.one (show Kd.M (Kd.int .i64) _ _ _ (wrap64 (1824 + (Int.tmod (wrap64 (Int.tdiv (wrap64 (a0 - 12288)) 28)) 21))) [.int .i64 (wrap64 (1824 + (Int.tmod (wrap64 (Int.tdiv (wrap64 (a0 - 12288)) 28)) 21)))] from rfl) (Reps.none _ _)))); intro v122 w26 ho27 hb hg_ hnew_; clear hg_ hnew_; (first | rw [← Ny121.out] at ho27 | (simp only [Int.reduceToNat] at ho27; rw [← Ny121.out] at ho27)); have n0_ := Aside0.mk (Kd.R_lower (Kd.R_newM (M := fun k_ => (w.heap.size ≤ k_)) ho27 (below_size (by repeat (first | (with_reducible first | exact HB.out | apply below_alloc | apply pw_below_drewN | apply below_drew1) | exact HB.out))) (fun k_ h_ => h_)) (below_size (by repeat (first | (with_reducible first | exact HB.out | apply below_alloc | apply pw_below_drewN | apply below_drew1) | exact HB.out)))); have n1_ := Aside0.mk (below_step (by repeat (first | (with_reducible first | exact HB.out | apply below_alloc | apply pw_below_drewN | apply below_drew1) | exact HB.out)) hb); clear HB; have HO123 := n0_; have HB := n1_; clear n0_ n1_; clear hb ho27))
       go_ret
       exact ⟨_, by first | rfl | (simp [errW_none, errW_some] <;> rfl) | (simp [*, errW_none, errW_some] <;> rfl), Kd.R_V (by (with_reducible repeat (first | apply Kd.R_alloc | apply Kd.R_drewN | apply Kd.R_drew)); exact Kd.R_mono HO123.out (fun _ hk => hk.1)), by repeat (first | (with_reducible first | exact HB.out | apply below_alloc | apply pw_below_drewN | apply below_drew1) | exact HB.out), ⟨by first | exact fun _ => rfl | exact fun h_ => absurd (Ny103.out.symm.trans h_) (by simp) | exact fun h_ => absurd (Ny107.out.symm.trans h_) (by simp) | exact fun h_ => absurd (Ny110.out.symm.trans h_) (by simp) | exact fun h_ => absurd (Ny114.out.symm.trans h_) (by simp) | exact fun h_ => absurd (Ny118.out.symm.trans h_) (by simp) | exact fun h_ => absurd (Ny121.out.symm.trans h_) (by simp) | exact fun h_ => absurd (Ny125.out.symm.trans h_) (by simp) | exact fun h_ => absurd (Ny129.out.symm.trans h_) (by simp) | exact fun h_ => absurd (Ny132.out.symm.trans h_) (by simp) | exact fun h_ => absurd (Ny136.out.symm.trans h_) (by simp) | exact fun h_ => absurd (Ny139.out.symm.trans h_) (by simp) | exact fun h_ => absurd (Ny142.out.symm.trans h_) (by simp) | exact fun h_ => absurd (Ny145.out.symm.trans h_) (by simp) | exact fun h_ => absurd (Ny148.out.symm.trans h_) (by simp)⟩⟩
     ·replace c22 := Bool.eq_false_iff.mpr c22
      subst c22
      have H1 : (if a1 = true then ((impl_in.f a0 9984 10009).bind fun t124 => (if t124 = true then (some (([wrap64 ((wrap64 (65 + a0)) - 9984)] : List Int))) else ((impl_in.f a0 10016 10025).bind fun t128 => (if t128 = true then (some (([wrap64 ((wrap64 (48 + a0)) - 10016)] : List Int))) else (if a0 = 8064 then (impl_parts.j1 kj2 a0 true) else (impl_parts.j1 kj2 a0 (a0 == 160))))))) else (some ([] : List Int))) = some r := by rw [if_neg (show ¬ (false = true) by decide)] at H; exact H
      clear H
      have H := H1
      clear H1
      by_cases c28 : a1 = true
      ·subst c28
       have H1 : ((impl_in.f a0 9984 10009).bind fun t124 => (if t124 = true then (some (([wrap64 ((wrap64 (65 + a0)) - 9984)] : List Int))) else ((impl_in.f a0 10016 10025).bind fun t128 => (if t128 = true then (some (([wrap64 ((wrap64 (48 + a0)) - 10016)] : List Int))) else (if a0 = 8064 then (impl_parts.j1 kj2 a0 true) else (impl_parts.j1 kj2 a0 (a0 == 160))))))) = some r := by rw [if_pos rfl] at H; exact H
       clear H
       have H := H1
       clear H1
       replace H := Option.bind_eq_some_iff.mp H
       obtain ⟨t124, A290, H⟩ := H
       replace H : (if t124 = true then (some (([wrap64 ((wrap64 (65 + a0)) - 9984)] : List Int))) else ((impl_in.f a0 10016 10025).bind fun t128 => (if t128 = true then (some (([wrap64 ((wrap64 (48 + a0)) - 10016)] : List Int))) else (if a0 = 8064 then (impl_parts.j1 kj2 a0 true) else (impl_parts.j1 kj2 a0 (a0 == 160)))))) = some r := H
       have A29 := Aside0.mk A290
       clear A290
       by_cases c30 : t124 = true
       ·subst c30
        have H1 : (some (([wrap64 ((wrap64 (65 + a0)) - 9984)] : List Int))) = some r := by rw [if_pos rfl] at H; exact H
        clear H
        have H := H1
        clear H1
        obtain ⟨y125, hy125⟩ : ∃ y_ : List Int, y_ = (([wrap64 ((wrap64 (65 + a0)) - 9984)] : List Int)) := ⟨_, rfl⟩
        replace H : (some y125) = some r := by first | (rw [hy125]; with_reducible exact H) | (have H2_ := (Option.bind_some _ _).symm.trans H; rw [hy125]; with_reducible exact H2_) | (have H2_ := (Option.bind_some _ _).symm.trans H; with_reducible exact H2_) | with_reducible exact H | (rw [hy125]; exact H) | exact H
        have Ny125 := Aside0.mk hy125
        clear hy125
        obtain rfl := Option.some.inj H
        go_wp2_with (first | ((with_reducible refine gate_callee (f := 97) rfl ?_); refine goesL_ (some 46) rfl rfl Tryd.func97 (by kernel_rfl) rfl #[.int .i64 a0, .int .i64 9728, .int .i64 9753] rfl (by (try simp only [List.map_toArray, List.map_cons, List.map_nil]); first | done | rfl | (simp only [List.length_drop, List.length_take]; rfl)) ?_; (with_reducible refine (impl_in.calls a0 9728 9753 false _ A17.out).mono ?_); rintro e w' ⟨rfl, ⟨nd, rfl⟩⟩; refine ⟨_, rfl, ?_⟩) | ((with_reducible refine gate_callee (f := 97) rfl ?_); refine goesL_ (some 53) rfl rfl Tryd.func97 (by kernel_rfl) rfl #[.int .i64 a0, .int .i64 12288, .int .i64 23459] rfl (by (try simp only [List.map_toArray, List.map_cons, List.map_nil]); first | done | rfl | (simp only [List.length_drop, List.length_take]; rfl)) ?_; (with_reducible refine (impl_in.calls a0 12288 23459 false _ A21.out).mono ?_); rintro e w' ⟨rfl, ⟨nd, rfl⟩⟩; refine ⟨_, rfl, ?_⟩) | ((with_reducible refine gate_callee (f := 97) rfl ?_); refine goesL_ (some 80) rfl rfl Tryd.func97 (by kernel_rfl) rfl #[.int .i64 a0, .int .i64 9984, .int .i64 10009] rfl (by (try simp only [List.map_toArray, List.map_cons, List.map_nil]); first | done | rfl | (simp only [List.length_drop, List.length_take]; rfl)) ?_; (with_reducible refine (impl_in.calls a0 9984 10009 true _ A29.out).mono ?_); rintro e w' ⟨rfl, ⟨nd, rfl⟩⟩; refine ⟨_, rfl, ?_⟩) | ((with_reducible refine gate_dst (N := 84) rfl ?_); refine Kd.R_lit (Kd.int .i64) _ 2 ?hg (N := 84) ?hd (xs := ([wrap64 ((wrap64 (65 + a0)) - 9984)] : List Int)) (inner := [.int .i64 (wrap64 ((wrap64 (65 + a0)) - 9984))]) (ok := fun _ => True) (okp := fun _ => True) ?hr ?hp (fun _ hk => hk) trivial (Below.refl _ _) (Nat.le_refl _) (by simp) ?_; (case hd => rfl); (case hg => rfl); (case hr => first | (go_simp; done) | (go_simp; rfl)); (case hp => exact (Reps.one (show Kd.M (Kd.int .i64) _ _ _ (wrap64 ((wrap64 (65 + a0)) - 9984)) [.int .i64 (wrap64 ((wrap64 (65 + a0)) - 9984))] from rfl) (Reps.none _ _))); intro v126 w31 ho32 hb hg_ hnew_; clear hg_ hnew_; (first | rw [← Ny125.out] at ho32 | (simp only [Int.reduceToNat] at ho32; rw [← Ny125.out] at ho32)); have n0_ := Aside0.mk (Kd.R_lower (Kd.R_newM (M := fun k_ => (w.heap.size ≤ k_)) ho32 (below_size (by repeat (first | (with_reducible first | exact HB.out | apply below_alloc | apply pw_below_drewN | apply below_drew1) | exact HB.out))) (fun k_ h_ => h_)) (below_size (by repeat (first | (with_reducible first | exact HB.out | apply below_alloc | apply pw_below_drewN | apply below_drew1) | exact HB.out)))); have n1_ := Aside0.mk (below_step (by repeat (first | (with_reducible first | exact HB.out | apply below_alloc | apply pw_below_drewN | apply below_drew1) | exact HB.out)) hb); clear HB; have HO127 := n0_; have HB := n1_; clear n0_ n1_; clear hb ho32))
        go_ret
        exact ⟨_, by first | rfl | (simp [errW_none, errW_some] <;> rfl) | (simp [*, errW_none, errW_some] <;> rfl), Kd.R_V (by (with_reducible repeat (first | apply Kd.R_alloc | apply Kd.R_drewN | apply Kd.R_drew)); exact Kd.R_mono HO127.out (fun _ hk => hk.1)), by repeat (first | (with_reducible first | exact HB.out | apply below_alloc | apply pw_below_drewN | apply below_drew1) | exact HB.out), ⟨by first | exact fun _ => rfl | exact fun h_ => absurd (Ny103.out.symm.trans h_) (by simp) | exact fun h_ => absurd (Ny107.out.symm.trans h_) (by simp) | exact fun h_ => absurd (Ny110.out.symm.trans h_) (by simp) | exact fun h_ => absurd (Ny114.out.symm.trans h_) (by simp) | exact fun h_ => absurd (Ny118.out.symm.trans h_) (by simp) | exact fun h_ => absurd (Ny121.out.symm.trans h_) (by simp) | exact fun h_ => absurd (Ny125.out.symm.trans h_) (by simp) | exact fun h_ => absurd (Ny129.out.symm.trans h_) (by simp) | exact fun h_ => absurd (Ny132.out.symm.trans h_) (by simp) | exact fun h_ => absurd (Ny136.out.symm.trans h_) (by simp) | exact fun h_ => absurd (Ny139.out.symm.trans h_) (by simp) | exact fun h_ => absurd (Ny142.out.symm.trans h_) (by simp) | exact fun h_ => absurd (Ny145.out.symm.trans h_) (by simp) | exact fun h_ => absurd (Ny148.out.symm.trans h_) (by simp)⟩⟩
       ·replace c30 := Bool.eq_false_iff.mpr c30
        subst c30
        have H1 : ((impl_in.f a0 10016 10025).bind fun t128 => (if t128 = true then (some (([wrap64 ((wrap64 (48 + a0)) - 10016)] : List Int))) else (if a0 = 8064 then (impl_parts.j1 kj2 a0 true) else (impl_parts.j1 kj2 a0 (a0 == 160))))) = some r := by rw [if_neg (show ¬ (false = true) by decide)] at H; exact H
        clear H
        have H := H1
        clear H1
        replace H := Option.bind_eq_some_iff.mp H
        obtain ⟨t128, A330, H⟩ := H
        replace H : (if t128 = true then (some (([wrap64 ((wrap64 (48 + a0)) - 10016)] : List Int))) else (if a0 = 8064 then (impl_parts.j1 kj2 a0 true) else (impl_parts.j1 kj2 a0 (a0 == 160)))) = some r := H
        have A33 := Aside0.mk A330
        clear A330
        by_cases c34 : t128 = true
        ·subst c34
         have H1 : (some (([wrap64 ((wrap64 (48 + a0)) - 10016)] : List Int))) = some r := by rw [if_pos rfl] at H; exact H
         clear H
         have H := H1
         clear H1
         obtain ⟨y129, hy129⟩ : ∃ y_ : List Int, y_ = (([wrap64 ((wrap64 (48 + a0)) - 10016)] : List Int)) := ⟨_, rfl⟩
         replace H : (some y129) = some r := by first | (rw [hy129]; with_reducible exact H) | (have H2_ := (Option.bind_some _ _).symm.trans H; rw [hy129]; with_reducible exact H2_) | (have H2_ := (Option.bind_some _ _).symm.trans H; with_reducible exact H2_) | with_reducible exact H | (rw [hy129]; exact H) | exact H
         have Ny129 := Aside0.mk hy129
         clear hy129
         obtain rfl := Option.some.inj H
         go_wp2_with (first | ((with_reducible refine gate_callee (f := 97) rfl ?_); refine goesL_ (some 46) rfl rfl Tryd.func97 (by kernel_rfl) rfl #[.int .i64 a0, .int .i64 9728, .int .i64 9753] rfl (by (try simp only [List.map_toArray, List.map_cons, List.map_nil]); first | done | rfl | (simp only [List.length_drop, List.length_take]; rfl)) ?_; (with_reducible refine (impl_in.calls a0 9728 9753 false _ A17.out).mono ?_); rintro e w' ⟨rfl, ⟨nd, rfl⟩⟩; refine ⟨_, rfl, ?_⟩) | ((with_reducible refine gate_callee (f := 97) rfl ?_); refine goesL_ (some 53) rfl rfl Tryd.func97 (by kernel_rfl) rfl #[.int .i64 a0, .int .i64 12288, .int .i64 23459] rfl (by (try simp only [List.map_toArray, List.map_cons, List.map_nil]); first | done | rfl | (simp only [List.length_drop, List.length_take]; rfl)) ?_; (with_reducible refine (impl_in.calls a0 12288 23459 false _ A21.out).mono ?_); rintro e w' ⟨rfl, ⟨nd, rfl⟩⟩; refine ⟨_, rfl, ?_⟩) | ((with_reducible refine gate_callee (f := 97) rfl ?_); refine goesL_ (some 80) rfl rfl Tryd.func97 (by kernel_rfl) rfl #[.int .i64 a0, .int .i64 9984, .int .i64 10009] rfl (by (try simp only [List.map_toArray, List.map_cons, List.map_nil]); first | done | rfl | (simp only [List.length_drop, List.length_take]; rfl)) ?_; (with_reducible refine (impl_in.calls a0 9984 10009 false _ A29.out).mono ?_); rintro e w' ⟨rfl, ⟨nd, rfl⟩⟩; refine ⟨_, rfl, ?_⟩) | ((with_reducible refine gate_callee (f := 97) rfl ?_); refine goesL_ (some 87) rfl rfl Tryd.func97 (by kernel_rfl) rfl #[.int .i64 a0, .int .i64 10016, .int .i64 10025] rfl (by (try simp only [List.map_toArray, List.map_cons, List.map_nil]); first | done | rfl | (simp only [List.length_drop, List.length_take]; rfl)) ?_; (with_reducible refine (impl_in.calls a0 10016 10025 true _ A33.out).mono ?_); rintro e w' ⟨rfl, ⟨nd, rfl⟩⟩; refine ⟨_, rfl, ?_⟩) | ((with_reducible refine gate_dst (N := 91) rfl ?_); refine Kd.R_lit (Kd.int .i64) _ 2 ?hg (N := 91) ?hd (xs := ([wrap64 ((wrap64 (48 + a0)) - 10016)] : List Int)) (inner := [.int .i64 (wrap64 ((wrap64 (48 + a0)) - 10016))]) (ok := fun _ => True) (okp := fun _ => True) ?hr ?hp (fun _ hk => hk) trivial (Below.refl _ _) (Nat.le_refl _) (by simp) ?_; (case hd => rfl); (case hg => rfl); (case hr => first | (go_simp; done) | (go_simp; rfl)); (case hp => exact (Reps.one (show Kd.M (Kd.int .i64) _ _ _ (wrap64 ((wrap64 (48 + a0)) - 10016)) [.int .i64 (wrap64 ((wrap64 (48 + a0)) - 10016))] from rfl) (Reps.none _ _))); intro v130 w35 ho36 hb hg_ hnew_; clear hg_ hnew_; (first | rw [← Ny129.out] at ho36 | (simp only [Int.reduceToNat] at ho36; rw [← Ny129.out] at ho36)); have n0_ := Aside0.mk (Kd.R_lower (Kd.R_newM (M := fun k_ => (w.heap.size ≤ k_)) ho36 (below_size (by repeat (first | (with_reducible first | exact HB.out | apply below_alloc | apply pw_below_drewN | apply below_drew1) | exact HB.out))) (fun k_ h_ => h_)) (below_size (by repeat (first | (with_reducible first | exact HB.out | apply below_alloc | apply pw_below_drewN | apply below_drew1) | exact HB.out)))); have n1_ := Aside0.mk (below_step (by repeat (first | (with_reducible first | exact HB.out | apply below_alloc | apply pw_below_drewN | apply below_drew1) | exact HB.out)) hb); clear HB; have HO131 := n0_; have HB := n1_; clear n0_ n1_; clear hb ho36))
         go_ret
         exact ⟨_, by first | rfl | (simp [errW_none, errW_some] <;> rfl) | (simp [*, errW_none, errW_some] <;> rfl), Kd.R_V (by (with_reducible repeat (first | apply Kd.R_alloc | apply Kd.R_drewN | apply Kd.R_drew)); exact Kd.R_mono HO131.out (fun _ hk => hk.1)), by repeat (first | (with_reducible first | exact HB.out | apply below_alloc | apply pw_below_drewN | apply below_drew1) | exact HB.out), ⟨by first | exact fun _ => rfl | exact fun h_ => absurd (Ny103.out.symm.trans h_) (by simp) | exact fun h_ => absurd (Ny107.out.symm.trans h_) (by simp) | exact fun h_ => absurd (Ny110.out.symm.trans h_) (by simp) | exact fun h_ => absurd (Ny114.out.symm.trans h_) (by simp) | exact fun h_ => absurd (Ny118.out.symm.trans h_) (by simp) | exact fun h_ => absurd (Ny121.out.symm.trans h_) (by simp) | exact fun h_ => absurd (Ny125.out.symm.trans h_) (by simp) | exact fun h_ => absurd (Ny129.out.symm.trans h_) (by simp) | exact fun h_ => absurd (Ny132.out.symm.trans h_) (by simp) | exact fun h_ => absurd (Ny136.out.symm.trans h_) (by simp) | exact fun h_ => absurd (Ny139.out.symm.trans h_) (by simp) | exact fun h_ => absurd (Ny142.out.symm.trans h_) (by simp) | exact fun h_ => absurd (Ny145.out.symm.trans h_) (by simp) | exact fun h_ => absurd (Ny148.out.symm.trans h_) (by simp)⟩⟩
        ·replace c34 := Bool.eq_false_iff.mpr c34
         subst c34
         have H1 : (if a0 = 8064 then (impl_parts.j1 kj2 a0 true) else (impl_parts.j1 kj2 a0 (a0 == 160))) = some r := by rw [if_neg (show ¬ (false = true) by decide)] at H; exact H
         clear H
         have H := H1
         clear H1
         have HC37 := Aside0.mk H
         clear H
         go_upto_region 22 with (first | ((with_reducible refine gate_callee (f := 97) rfl ?_); refine goesL_ (some 46) rfl rfl Tryd.func97 (by kernel_rfl) rfl #[.int .i64 a0, .int .i64 9728, .int .i64 9753] rfl (by (try simp only [List.map_toArray, List.map_cons, List.map_nil]); first | done | rfl | (simp only [List.length_drop, List.length_take]; rfl)) ?_; (with_reducible refine (impl_in.calls a0 9728 9753 false _ A17.out).mono ?_); rintro e w' ⟨rfl, ⟨nd, rfl⟩⟩; refine ⟨_, rfl, ?_⟩) | ((with_reducible refine gate_callee (f := 97) rfl ?_); refine goesL_ (some 53) rfl rfl Tryd.func97 (by kernel_rfl) rfl #[.int .i64 a0, .int .i64 12288, .int .i64 23459] rfl (by (try simp only [List.map_toArray, List.map_cons, List.map_nil]); first | done | rfl | (simp only [List.length_drop, List.length_take]; rfl)) ?_; (with_reducible refine (impl_in.calls a0 12288 23459 false _ A21.out).mono ?_); rintro e w' ⟨rfl, ⟨nd, rfl⟩⟩; refine ⟨_, rfl, ?_⟩) | ((with_reducible refine gate_callee (f := 97) rfl ?_); refine goesL_ (some 80) rfl rfl Tryd.func97 (by kernel_rfl) rfl #[.int .i64 a0, .int .i64 9984, .int .i64 10009] rfl (by (try simp only [List.map_toArray, List.map_cons, List.map_nil]); first | done | rfl | (simp only [List.length_drop, List.length_take]; rfl)) ?_; (with_reducible refine (impl_in.calls a0 9984 10009 false _ A29.out).mono ?_); rintro e w' ⟨rfl, ⟨nd, rfl⟩⟩; refine ⟨_, rfl, ?_⟩) | ((with_reducible refine gate_callee (f := 97) rfl ?_); refine goesL_ (some 87) rfl rfl Tryd.func97 (by kernel_rfl) rfl #[.int .i64 a0, .int .i64 10016, .int .i64 10025] rfl (by (try simp only [List.map_toArray, List.map_cons, List.map_nil]); first | done | rfl | (simp only [List.length_drop, List.length_take]; rfl)) ?_; (with_reducible refine (impl_in.calls a0 10016 10025 false _ A33.out).mono ?_); rintro e w' ⟨rfl, ⟨nd, rfl⟩⟩; refine ⟨_, rfl, ?_⟩))
         (try simp only [Act.put, List.setIfInBounds_toArray, List.set_cons_zero, List.set_cons_succ])
         go_cut [92] (fun v92 wc => ∃ (kq : Nat) (x92_36 : Bool), v92 = .bool x92_36 ∧ Aside0 (impl_parts.j1 kq a0 x92_36 = some r) ∧ Aside0 (kq ≤ kj2) ∧ Aside0 (Below w.heap.size w wc))
         case first =>
          have H := HC37.out
          clear HC37
          by_cases c38 : a0 = 8064
          ·rw [if_pos c38] at H
           have c38b0 : (a0 == 8064) = true := beq_iff_eq.mpr c38
           have c38b1 : (a0 != 8064) = false := bne_eq_false_iff_eq.mpr c38
           clear c38
           (first | rw [c38b0] | (simp only [i64_w, i32_w]; rw [c38b0]) | skip)
           have H' := Aside0.mk H
           clear H
           go_wp2
           go_meet
           case rel => exact ⟨_, (true), (by first | rfl | (simp; done) | (simp [*]; done)), H', ⟨by have := HJ2.out; first | omega | exact Nat.le_refl _⟩, ⟨by repeat (first | (with_reducible first | exact HB.out | apply below_alloc | apply pw_below_drewN | apply below_drew1) | exact HB.out)⟩⟩
          ·rw [if_neg c38] at H
           have c38b0 : (a0 == 8064) = false := beq_eq_false_iff_ne.mpr c38
           have c38b1 : (a0 != 8064) = true := bne_iff_ne.mpr c38
           (first | rw [c38b0] | (simp only [i64_w, i32_w]; rw [c38b0]) | skip)
           have H' := Aside0.mk H
           clear H
           go_wp2
           go_meet
           case rel => exact ⟨_, ((a0 == 160)), (by first | rfl | (simp; done) | (simp [*]; done)), H', ⟨by have := HJ2.out; first | omega | exact Nat.le_refl _⟩, ⟨by repeat (first | (with_reducible first | exact HB.out | apply below_alloc | apply pw_below_drewN | apply below_drew1) | exact HB.out)⟩⟩
         case rest =>
          clear HC37
          try clear c1
          try clear c2
          try clear p2
          try clear c3
          try clear c5
          try clear c6
          try clear p6
          try clear c7
          try clear c7b0
          try clear c7b1
          try clear c9
          try clear c11
          try clear c11b0
          try clear c11b1
          try clear c17
          try clear c18
          try clear c21
          try clear c22
          try clear c23
          try clear c23b0
          try clear c28
          try clear c30
          try clear c34
          try clear c38
          try clear c38b0
          try clear c38b1
          try clear p2
          obtain ⟨kq, x92_36, rfl, HA, HJ36, HB⟩ := hcut
          cases kq with
          | zero => exact absurd HA.out (by simp [impl_parts.j1])
          | succ kj36 =>
           have H := HA.out
           clear HA
           simp only [impl_parts.j1] at H
           by_cases c39 : x92_36 = true
           ·subst c39
            have H1 : (some (([32] : List Int))) = some r := by rw [if_pos rfl] at H; exact H
            clear H
            have H := H1
            clear H1
            obtain ⟨y132, hy132⟩ : ∃ y_ : List Int, y_ = (([32] : List Int)) := ⟨_, rfl⟩
            replace H : (some y132) = some r := by first | (rw [hy132]; with_reducible exact H) | (have H2_ := (Option.bind_some _ _).symm.trans H; rw [hy132]; with_reducible exact H2_) | (have H2_ := (Option.bind_some _ _).symm.trans H; with_reducible exact H2_) | with_reducible exact H | (rw [hy132]; exact H) | exact H
            have Ny132 := Aside0.mk hy132
            clear hy132
            obtain rfl := Option.some.inj H
            go_wp2_with (first | ((with_reducible refine gate_dst (N := 99) rfl ?_); refine Kd.R_lit (Kd.int .i64) _ 2 ?hg (N := 99) ?hd (xs := ([32] : List Int)) (inner := [.int .i64 32]) (ok := fun _ => True) (okp := fun _ => True) ?hr ?hp (fun _ hk => hk) trivial (Below.refl _ _) (Nat.le_refl _) (by simp) ?_; (case hd => rfl); (case hg => rfl); (case hr => first | (go_simp; done) | (go_simp; rfl)); (case hp => exact (Reps.one (show Kd.M (Kd.int .i64) _ _ _ 32 [.int .i64 32] from rfl) (Reps.none _ _))); intro v133 w40 ho41 hb hg_ hnew_; clear hg_ hnew_; (first | rw [← Ny132.out] at ho41 | (simp only [Int.reduceToNat] at ho41; rw [← Ny132.out] at ho41)); have n0_ := Aside0.mk (Kd.R_lower (Kd.R_newM (M := fun k_ => (w.heap.size ≤ k_)) ho41 (below_size (by repeat (first | (with_reducible first | exact HB.out | apply below_alloc | apply pw_below_drewN | apply below_drew1) | exact HB.out))) (fun k_ h_ => h_)) (below_size (by repeat (first | (with_reducible first | exact HB.out | apply below_alloc | apply pw_below_drewN | apply below_drew1) | exact HB.out)))); have n1_ := Aside0.mk (below_step (by repeat (first | (with_reducible first | exact HB.out | apply below_alloc | apply pw_below_drewN | apply below_drew1) | exact HB.out)) hb); clear HB; have HO134 := n0_; have HB := n1_; clear n0_ n1_; clear hb ho41))
            go_ret
            exact ⟨_, by first | rfl | (simp [errW_none, errW_some] <;> rfl) | (simp [*, errW_none, errW_some] <;> rfl), Kd.R_V (by (with_reducible repeat (first | apply Kd.R_alloc | apply Kd.R_drewN | apply Kd.R_drew)); exact Kd.R_mono HO134.out (fun _ hk => hk.1)), by repeat (first | (with_reducible first | exact HB.out | apply below_alloc | apply pw_below_drewN | apply below_drew1) | exact HB.out), ⟨by first | exact fun _ => rfl | exact fun h_ => absurd (Ny103.out.symm.trans h_) (by simp) | exact fun h_ => absurd (Ny107.out.symm.trans h_) (by simp) | exact fun h_ => absurd (Ny110.out.symm.trans h_) (by simp) | exact fun h_ => absurd (Ny114.out.symm.trans h_) (by simp) | exact fun h_ => absurd (Ny118.out.symm.trans h_) (by simp) | exact fun h_ => absurd (Ny121.out.symm.trans h_) (by simp) | exact fun h_ => absurd (Ny125.out.symm.trans h_) (by simp) | exact fun h_ => absurd (Ny129.out.symm.trans h_) (by simp) | exact fun h_ => absurd (Ny132.out.symm.trans h_) (by simp) | exact fun h_ => absurd (Ny136.out.symm.trans h_) (by simp) | exact fun h_ => absurd (Ny139.out.symm.trans h_) (by simp) | exact fun h_ => absurd (Ny142.out.symm.trans h_) (by simp) | exact fun h_ => absurd (Ny145.out.symm.trans h_) (by simp) | exact fun h_ => absurd (Ny148.out.symm.trans h_) (by simp)⟩⟩
           ·replace c39 := Bool.eq_false_iff.mpr c39
            subst c39
            have H1 : ((impl_in.f a0 10032 10035).bind fun t135 => (if t135 = true then ((some (([(([102, 102] : List Int)), (([102, 105] : List Int)), (([102, 108] : List Int)), (([115, 116] : List Int))] : List (List Int)) : List (List Int))).bind fun y148 => (if 0 ≤ (wrap64 (a0 - 10032)) then (if (wrap64 (a0 - 10032)) < (y148.length : Int) then (some (rd_L3 y148 (wrap64 (a0 - 10032)))) else (none)) else (none))) else (some ([] : List Int)))) = some r := by rw [if_neg (show ¬ (false = true) by decide)] at H; exact H
            clear H
            have H := H1
            clear H1
            replace H := Option.bind_eq_some_iff.mp H
            obtain ⟨t135, A420, H⟩ := H
            replace H : (if t135 = true then ((some (([(([102, 102] : List Int)), (([102, 105] : List Int)), (([102, 108] : List Int)), (([115, 116] : List Int))] : List (List Int)) : List (List Int))).bind fun y148 => (if 0 ≤ (wrap64 (a0 - 10032)) then (if (wrap64 (a0 - 10032)) < (y148.length : Int) then (some (rd_L3 y148 (wrap64 (a0 - 10032)))) else (none)) else (none))) else (some ([] : List Int))) = some r := H
            have A42 := Aside0.mk A420
            clear A420
            by_cases c43 : t135 = true
            ·subst c43
             have H1 : ((some (([(([102, 102] : List Int)), (([102, 105] : List Int)), (([102, 108] : List Int)), (([115, 116] : List Int))] : List (List Int)) : List (List Int))).bind fun y148 => (if 0 ≤ (wrap64 (a0 - 10032)) then (if (wrap64 (a0 - 10032)) < (y148.length : Int) then (some (rd_L3 y148 (wrap64 (a0 - 10032)))) else (none)) else (none))) = some r := by rw [if_pos rfl] at H; exact H
             clear H
             have H := H1
             clear H1
             obtain ⟨y136, hy136⟩ : ∃ y_ : List Int, y_ = (([102, 102] : List Int)) := ⟨_, rfl⟩
             replace H : ((some (([y136, (([102, 105] : List Int)), (([102, 108] : List Int)), (([115, 116] : List Int))] : List (List Int)) : List (List Int))).bind fun y148 => (if 0 ≤ (wrap64 (a0 - 10032)) then (if (wrap64 (a0 - 10032)) < (y148.length : Int) then (some (rd_L3 y148 (wrap64 (a0 - 10032)))) else (none)) else (none))) = some r := by first | (rw [hy136]; with_reducible exact H) | (have H2_ := (Option.bind_some _ _).symm.trans H; rw [hy136]; with_reducible exact H2_) | (have H2_ := (Option.bind_some _ _).symm.trans H; with_reducible exact H2_) | with_reducible exact H | (rw [hy136]; exact H) | exact H
             have Ny136 := Aside0.mk hy136
             clear hy136
             obtain ⟨y139, hy139⟩ : ∃ y_ : List Int, y_ = (([102, 105] : List Int)) := ⟨_, rfl⟩
             replace H : ((some (([y136, y139, (([102, 108] : List Int)), (([115, 116] : List Int))] : List (List Int)) : List (List Int))).bind fun y148 => (if 0 ≤ (wrap64 (a0 - 10032)) then (if (wrap64 (a0 - 10032)) < (y148.length : Int) then (some (rd_L3 y148 (wrap64 (a0 - 10032)))) else (none)) else (none))) = some r := by first | (rw [hy139]; with_reducible exact H) | (have H2_ := (Option.bind_some _ _).symm.trans H; rw [hy139]; with_reducible exact H2_) | (have H2_ := (Option.bind_some _ _).symm.trans H; with_reducible exact H2_) | with_reducible exact H | (rw [hy139]; exact H) | exact H
             have Ny139 := Aside0.mk hy139
             clear hy139
             obtain ⟨y142, hy142⟩ : ∃ y_ : List Int, y_ = (([102, 108] : List Int)) := ⟨_, rfl⟩
             replace H : ((some (([y136, y139, y142, (([115, 116] : List Int))] : List (List Int)) : List (List Int))).bind fun y148 => (if 0 ≤ (wrap64 (a0 - 10032)) then (if (wrap64 (a0 - 10032)) < (y148.length : Int) then (some (rd_L3 y148 (wrap64 (a0 - 10032)))) else (none)) else (none))) = some r := by first | (rw [hy142]; with_reducible exact H) | (have H2_ := (Option.bind_some _ _).symm.trans H; rw [hy142]; with_reducible exact H2_) | (have H2_ := (Option.bind_some _ _).symm.trans H; with_reducible exact H2_) | with_reducible exact H | (rw [hy142]; exact H) | exact H
             have Ny142 := Aside0.mk hy142
             clear hy142
             obtain ⟨y145, hy145⟩ : ∃ y_ : List Int, y_ = (([115, 116] : List Int)) := ⟨_, rfl⟩
             replace H : ((some (([y136, y139, y142, y145] : List (List Int)) : List (List Int))).bind fun y148 => (if 0 ≤ (wrap64 (a0 - 10032)) then (if (wrap64 (a0 - 10032)) < (y148.length : Int) then (some (rd_L3 y148 (wrap64 (a0 - 10032)))) else (none)) else (none))) = some r := by first | (rw [hy145]; with_reducible exact H) | (have H2_ := (Option.bind_some _ _).symm.trans H; rw [hy145]; with_reducible exact H2_) | (have H2_ := (Option.bind_some _ _).symm.trans H; with_reducible exact H2_) | with_reducible exact H | (rw [hy145]; exact H) | exact H
             have Ny145 := Aside0.mk hy145
             clear hy145
             obtain ⟨y148, hy148⟩ : ∃ y_ : List (List Int), y_ = (([y136, y139, y142, y145] : List (List Int))) := ⟨_, rfl⟩
             replace H : (if 0 ≤ (wrap64 (a0 - 10032)) then (if (wrap64 (a0 - 10032)) < (y148.length : Int) then (some (rd_L3 y148 (wrap64 (a0 - 10032)))) else (none)) else (none)) = some r := by first | (rw [hy148]; with_reducible exact H) | (have H2_ := (Option.bind_some _ _).symm.trans H; rw [hy148]; with_reducible exact H2_) | (have H2_ := (Option.bind_some _ _).symm.trans H; with_reducible exact H2_) | with_reducible exact H | (rw [hy148]; exact H) | exact H
             have Ny148 := Aside0.mk hy148
             clear hy148
             obtain ⟨ji44, hji44⟩ : ∃ j_ : Int, (wrap64 (a0 - 10032)) = j_ := ⟨_, rfl⟩
             replace H : (if 0 ≤ (ji44) then (if (ji44) < (y148.length : Int) then (some (rd_L3 y148 (ji44))) else (none)) else (none)) = some r := by first | (rw [hji44] at H; exact H) | (simp only [hji44] at H ⊢; exact H)
             (try rw [hji44] at A42)
             have hji44w : (IntKind.i64.wrap (a0 - 10032)) = ji44 := (i64_w _).trans hji44
             by_cases c45 : 0 ≤ (ji44)
             ·rw [if_pos c45] at H
              have c45b0 : decide (0 ≤ (ji44)) = true := decide_eq_true c45
              clear c45
              by_cases c46 : (ji44) < (y148.length : Int)
              ·rw [if_pos c46] at H
               have c46b0 : decide ((ji44) < (y148.length : Int)) = true := decide_eq_true c46
               clear c46
               obtain rfl := Option.some.inj H
               go_wp2_with (first | ((with_reducible refine gate_callee (f := 97) rfl ?_); refine goesL_ (some 102) rfl rfl Tryd.func97 (by kernel_rfl) rfl #[.int .i64 a0, .int .i64 10032, .int .i64 10035] rfl (by (try simp only [List.map_toArray, List.map_cons, List.map_nil]); first | done | rfl | (simp only [List.length_drop, List.length_take]; rfl)) ?_; (with_reducible refine (impl_in.calls a0 10032 10035 true _ A42.out).mono ?_); rintro e w' ⟨rfl, ⟨nd, rfl⟩⟩; refine ⟨_, rfl, ?_⟩) | ((with_reducible refine gate_dst (N := 103) rfl ?_); refine Kd.R_lit (Kd.int .i64) _ 2 ?hg (N := 103) ?hd (xs := ([102, 102] : List Int)) (inner := [.int .i64 102, .int .i64 102]) (ok := fun _ => True) (okp := fun _ => True) ?hr ?hp (fun _ hk => hk) trivial (Below.refl _ _) (Nat.le_refl _) (by simp) ?_; (case hd => rfl); (case hg => rfl); (case hr => first | (go_simp; done) | (go_simp; rfl)); (case hp => exact (Reps.one (show Kd.M (Kd.int .i64) _ _ _ 102 [.int .i64 102] from rfl) (Reps.one (show Kd.M (Kd.int .i64) _ _ _ 102 [.int .i64 102] from rfl) (Reps.none _ _)))); intro v137 w47 ho48 hb hg_ hnew_; clear hg_ hnew_; (first | rw [← Ny136.out] at ho48 | (simp only [Int.reduceToNat] at ho48; rw [← Ny136.out] at ho48)); have n0_ := Aside0.mk (Kd.R_lower (Kd.R_newM (M := fun k_ => (w.heap.size ≤ k_)) ho48 (below_size (by repeat (first | (with_reducible first | exact HB.out | apply below_alloc | apply pw_below_drewN | apply below_drew1) | exact HB.out))) (fun k_ h_ => h_)) (below_size (by repeat (first | (with_reducible first | exact HB.out | apply below_alloc | apply pw_below_drewN | apply below_drew1) | exact HB.out)))); have n1_ := Aside0.mk (below_step (by repeat (first | (with_reducible first | exact HB.out | apply below_alloc | apply pw_below_drewN | apply below_drew1) | exact HB.out)) hb); clear HB; have HO138 := n0_; have HB := n1_; clear n0_ n1_; clear hb ho48) | ((with_reducible refine gate_dst (N := 104) rfl ?_); refine Kd.R_lit (Kd.int .i64) _ 2 ?hg (N := 104) ?hd (xs := ([102, 105] : List Int)) (inner := [.int .i64 102, .int .i64 105]) (ok := fun _ => True) (okp := fun _ => True) ?hr ?hp (fun _ hk => hk) trivial (Below.refl _ _) (Nat.le_refl _) (by simp) ?_; (case hd => rfl); (case hg => rfl); (case hr => first | (go_simp; done) | (go_simp; rfl)); (case hp => exact (Reps.one (show Kd.M (Kd.int .i64) _ _ _ 102 [.int .i64 102] from rfl) (Reps.one (show Kd.M (Kd.int .i64) _ _ _ 105 [.int .i64 105] from rfl) (Reps.none _ _)))); intro v140 w49 ho50 hb hg_ hnew_; clear hg_ hnew_; (first | rw [← Ny139.out] at ho50 | (simp only [Int.reduceToNat] at ho50; rw [← Ny139.out] at ho50)); have n0_ := Aside0.mk (Kd.R_elder' (by (with_reducible repeat (first | apply Kd.R_alloc | apply Kd.R_drewN | apply Kd.R_drew)); exact HO138.out) (Kd.R_base ho50) hb); have n1_ := Aside0.mk (Kd.R_lower (Kd.R_new' (Kd.R_newM (M := fun k_ => (w.heap.size ≤ k_)) ho50 (below_size (by repeat (first | (with_reducible first | exact HB.out | apply below_alloc | apply pw_below_drewN | apply below_drew1) | exact HB.out))) (fun k_ h_ => h_)) (Kd.R_lt (by (with_reducible repeat (first | apply Kd.R_alloc | apply Kd.R_drewN | apply Kd.R_drew)); exact HO138.out))) (below_size (by repeat (first | (with_reducible first | exact HB.out | apply below_alloc | apply pw_below_drewN | apply below_drew1) | exact HB.out)))); have n2_ := Aside0.mk (below_step (by repeat (first | (with_reducible first | exact HB.out | apply below_alloc | apply pw_below_drewN | apply below_drew1) | exact HB.out)) hb); clear HO138; clear HB; have HO138 := n0_; have HO141 := n1_; have HB := n2_; clear n0_ n1_ n2_; clear hb ho50) | ((with_reducible refine gate_dst (N := 105) rfl ?_); refine Kd.R_lit (Kd.int .i64) _ 2 ?hg (N := 105) ?hd (xs := ([102, 108] : List Int)) (inner := [.int .i64 102, .int .i64 108]) (ok := fun _ => True) (okp := fun _ => True) ?hr ?hp (fun _ hk => hk) trivial (Below.refl _ _) (Nat.le_refl _) (by simp) ?_; (case hd => rfl); (case hg => rfl); (case hr => first | (go_simp; done) | (go_simp; rfl)); (case hp => exact (Reps.one (show Kd.M (Kd.int .i64) _ _ _ 102 [.int .i64 102] from rfl) (Reps.one (show Kd.M (Kd.int .i64) _ _ _ 108 [.int .i64 108] from rfl) (Reps.none _ _)))); intro v143 w51 ho52 hb hg_ hnew_; clear hg_ hnew_; (first | rw [← Ny142.out] at ho52 | (simp only [Int.reduceToNat] at ho52; rw [← Ny142.out] at ho52)); have n0_ := Aside0.mk (Kd.R_elder' (by (with_reducible repeat (first | apply Kd.R_alloc | apply Kd.R_drewN | apply Kd.R_drew)); exact HO138.out) (Kd.R_base ho52) hb); have n1_ := Aside0.mk (Kd.R_elder' (by (with_reducible repeat (first | apply Kd.R_alloc | apply Kd.R_drewN | apply Kd.R_drew)); exact HO141.out) (Kd.R_base ho52) hb); have n2_ := Aside0.mk (Kd.R_lower (Kd.R_new' (Kd.R_new' (Kd.R_newM (M := fun k_ => (w.heap.size ≤ k_)) ho52 (below_size (by repeat (first | (with_reducible first | exact HB.out | apply below_alloc | apply pw_below_drewN | apply below_drew1) | exact HB.out))) (fun k_ h_ => h_)) (Kd.R_lt (by (with_reducible repeat (first | apply Kd.R_alloc | apply Kd.R_drewN | apply Kd.R_drew)); exact HO138.out))) (Kd.R_lt (by (with_reducible repeat (first | apply Kd.R_alloc | apply Kd.R_drewN | apply Kd.R_drew)); exact HO141.out))) (below_size (by repeat (first | (with_reducible first | exact HB.out | apply below_alloc | apply pw_below_drewN | apply below_drew1) | exact HB.out)))); have n3_ := Aside0.mk (below_step (by repeat (first | (with_reducible first | exact HB.out | apply below_alloc | apply pw_below_drewN | apply below_drew1) | exact HB.out)) hb); clear HO138; clear HO141; clear HB; have HO138 := n0_; have HO141 := n1_; have HO144 := n2_; have HB := n3_; clear n0_ n1_ n2_ n3_; clear hb ho52) | ((with_reducible refine gate_dst (N := 106) rfl ?_); refine Kd.R_lit (Kd.int .i64) _ 2 ?hg (N := 106) ?hd (xs := ([115, 116] : List Int)) (inner := [.int .i64 115, .int .i64 116]) (ok := fun _ => True) (okp := fun _ => True) ?hr ?hp (fun _ hk => hk) trivial (Below.refl _ _) (Nat.le_refl _) (by simp) ?_; (case hd => rfl); (case hg => rfl); (case hr => first | (go_simp; done) | (go_simp; rfl)); (case hp => exact (Reps.one (show Kd.M (Kd.int .i64) _ _ _ 115 [.int .i64 115] from rfl) (Reps.one (show Kd.M (Kd.int .i64) _ _ _ 116 [.int .i64 116] from rfl) (Reps.none _ _)))); intro v146 w53 ho54 hb hg_ hnew_; clear hg_ hnew_; (first | rw [← Ny145.out] at ho54 | (simp only [Int.reduceToNat] at ho54; rw [← Ny145.out] at ho54)); have n0_ := Aside0.mk (Kd.R_elder' (by (with_reducible repeat (first | apply Kd.R_alloc | apply Kd.R_drewN | apply Kd.R_drew)); exact HO138.out) (Kd.R_base ho54) hb); have n1_ := Aside0.mk (Kd.R_elder' (by (with_reducible repeat (first | apply Kd.R_alloc | apply Kd.R_drewN | apply Kd.R_drew)); exact HO141.out) (Kd.R_base ho54) hb); have n2_ := Aside0.mk (Kd.R_elder' (by (with_reducible repeat (first | apply Kd.R_alloc | apply Kd.R_drewN | apply Kd.R_drew)); exact HO144.out) (Kd.R_base ho54) hb); have n3_ := Aside0.mk (Kd.R_lower (Kd.R_new' (Kd.R_new' (Kd.R_new' (Kd.R_newM (M := fun k_ => (w.heap.size ≤ k_)) ho54 (below_size (by repeat (first | (with_reducible first | exact HB.out | apply below_alloc | apply pw_below_drewN | apply below_drew1) | exact HB.out))) (fun k_ h_ => h_)) (Kd.R_lt (by (with_reducible repeat (first | apply Kd.R_alloc | apply Kd.R_drewN | apply Kd.R_drew)); exact HO138.out))) (Kd.R_lt (by (with_reducible repeat (first | apply Kd.R_alloc | apply Kd.R_drewN | apply Kd.R_drew)); exact HO141.out))) (Kd.R_lt (by (with_reducible repeat (first | apply Kd.R_alloc | apply Kd.R_drewN | apply Kd.R_drew)); exact HO144.out))) (below_size (by repeat (first | (with_reducible first | exact HB.out | apply below_alloc | apply pw_below_drewN | apply below_drew1) | exact HB.out)))); have n4_ := Aside0.mk (below_step (by repeat (first | (with_reducible first | exact HB.out | apply below_alloc | apply pw_below_drewN | apply below_drew1) | exact HB.out)) hb); clear HO138; clear HO141; clear HO144; clear HB; have HO138 := n0_; have HO141 := n1_; have HO144 := n2_; have HO147 := n3_; have HB := n4_; clear n0_ n1_ n2_ n3_ n4_; clear hb ho54; obtain ⟨Ao55, co55, eo55⟩ := Kd.R_slice HO138.out; subst eo55; obtain ⟨Ao56, co56, eo56⟩ := Kd.R_slice HO141.out; subst eo56; obtain ⟨Ao57, co57, eo57⟩ := Kd.R_slice HO144.out; subst eo57; obtain ⟨Ao58, co58, eo58⟩ := Kd.R_slice HO147.out; subst eo58) | ((with_reducible refine gate_dst (N := 107) rfl ?_); refine Kd.N_lit (Kd.slice 2 (Kd.int .i64)) _ 35 ?hg (N' := 107) ?hd (xs := ([y136, y139, y142, y145] : List (List Int))) (inner := [.slice Ao55 y136.length co55, .slice Ao56 y139.length co56, .slice Ao57 y142.length co57, .slice Ao58 y145.length co58]) (ok := (fun k_ => (w.heap.size ≤ k_))) (okp := (fun k_ => (w.heap.size ≤ k_))) ?hr ?hp (fun _ hk => hk) ((show ∀ k_, w53.heap.size ≤ k_ → (fun k_ => (w.heap.size ≤ k_)) k_ from fun k_ hk => (Nat.le_trans (below_size (by repeat (first | (with_reducible first | exact HB.out | apply below_alloc | apply pw_below_drewN | apply below_drew1) | exact HB.out))) hk)) _ (Nat.le_refl _)) (Below.refl _ _) (Nat.le_refl _) (by simp) ?_; (case hd => rfl); (case hg => rfl); (case hr => first | (go_simp; done) | (go_simp; rfl)); (case hp => exact (Reps.one (show Kd.FK (Kd.slice 2 (Kd.int .i64)) _ _ y136 [.slice Ao55 y136.length co55] from (Kd.FK_slice_mk (Kd.R_reads' (Kd.R_mono (ok' := (fun k_ => (w.heap.size ≤ k_))) (HO138.out) (fun k_ hk => hk.1.1.1.1))).2.1 (Kd.R_F (Kd.R_mono (ok' := (fun k_ => (w.heap.size ≤ k_))) (HO138.out) (fun k_ hk => hk.1.1.1.1))))) (Reps.one (show Kd.FK (Kd.slice 2 (Kd.int .i64)) _ _ y139 [.slice Ao56 y139.length co56] from (Kd.FK_slice_mk (Kd.R_reads' (Kd.R_mono (ok' := (fun k_ => (w.heap.size ≤ k_))) (HO141.out) (fun k_ hk => hk.1.1.1.1))).2.1 (Kd.R_F (Kd.R_mono (ok' := (fun k_ => (w.heap.size ≤ k_))) (HO141.out) (fun k_ hk => hk.1.1.1.1))))) (Reps.one (show Kd.FK (Kd.slice 2 (Kd.int .i64)) _ _ y142 [.slice Ao57 y142.length co57] from (Kd.FK_slice_mk (Kd.R_reads' (Kd.R_mono (ok' := (fun k_ => (w.heap.size ≤ k_))) (HO144.out) (fun k_ hk => hk.1.1.1.1))).2.1 (Kd.R_F (Kd.R_mono (ok' := (fun k_ => (w.heap.size ≤ k_))) (HO144.out) (fun k_ hk => hk.1.1.1.1))))) (Reps.one (show Kd.FK (Kd.slice 2 (Kd.int .i64)) _ _ y145 [.slice Ao58 y145.length co58] from (Kd.FK_slice_mk (Kd.R_reads' (Kd.R_mono (ok' := (fun k_ => (w.heap.size ≤ k_))) (HO147.out) (fun k_ hk => hk.1.1.1.1))).2.1 (Kd.R_F (Kd.R_mono (ok' := (fun k_ => (w.heap.size ≤ k_))) (HO147.out) (fun k_ hk => hk.1.1.1.1))))) (Reps.none _ _)))))); intro v149 w59 ho60 hb hg_ hnew_; clear hg_ hnew_; (first | rw [← Ny148.out] at ho60 | (simp only [Int.reduceToNat] at ho60; rw [← Ny148.out] at ho60)); have n0_ := Aside0.mk (Kd.N_lower ho60 (below_size (by repeat (first | (with_reducible first | exact HB.out | apply below_alloc | apply pw_below_drewN | apply below_drew1) | exact HB.out)))); have n1_ := Aside0.mk (below_step (by repeat (first | (with_reducible first | exact HB.out | apply below_alloc | apply pw_below_drewN | apply below_drew1) | exact HB.out)) hb); clear HB; clear HO138; clear HO141; clear HO144; clear HO147; have HO150 := n0_; have HB := n1_; clear n0_ n1_; clear hb ho60; obtain ⟨Ao61, co61, eo61⟩ := Kd.N_slice HO150.out; subst eo61; have p151 : 0 ≤ ((ji44) : Int) := of_decide_eq_true (by first | (with_reducible assumption) | assumption); have q151 : (ji44) < (y148.length : Int) := of_decide_eq_true (by first | (with_reducible assumption) | assumption); obtain ⟨ad151, A151_0, c151_0, e151, hx151_0, hl151_0, hi151_0⟩ := at_L3 (Kd.N_reads' HO150.out).2.2 (ji44) p151 q151; cases e151; obtain ⟨ce151, hce151, hMe151, hcc151⟩ := Kd.N_get HO150.out [] (ji44) p151 (by first | exact q151 | exact of_decide_eq_true (by first | (with_reducible assumption) | assumption) | (have e_ := (Kd.N_reads' HO150.out).1; omega)); obtain ⟨ua151_0, uc151_0, rfl, ul151_0, ge151_0⟩ := Kd.FK_slice_open hMe151; have hv151_0 := hcc151 0 _ rfl; rw [Nat.add_zero, show ((Kd.slice 2 (Kd.int .i64))).sz = 1 from rfl, Nat.mul_one] at hv151_0; replace hv151_0 := Option.some.inj (hv151_0.symm.trans hx151_0); injection hv151_0 with hva_ hvn_ hvc_; rw [hva_] at ge151_0; rw [hvc_] at ul151_0; have HL151_0 := Aside0.mk (show Kd.V (Kd.int .i64) 2 _ w.heap.size _ _ (rd_L3 y148 (ji44)) from Kd.V_mk ul151_0 ge151_0); clear hva_ hvn_ hvc_ ge151_0 ul151_0; clear hcc151 hce151; have HR151_0 := Aside0.mk hi151_0; have HC151_0 := Aside0.mk hl151_0; clear hi151_0 hl151_0; replace p151 := eq_true p151; replace q151 := eq_true q151))
               go_ret
               exact ⟨_, by first | rfl | (simp [errW_none, errW_some] <;> rfl) | (simp only [← hji44]; first | rfl | (simp [errW_none, errW_some] <;> rfl)) | (simp [*, errW_none, errW_some] <;> rfl), by (with_reducible repeat (first | apply Kd.V_alloc | apply Kd.V_drewN | apply Kd.V_drew)); exact Kd.V_mono HL151_0.out (fun _ hk => hk.1), by repeat (first | (with_reducible first | exact HB.out | apply below_alloc | apply pw_below_drewN | apply below_drew1) | exact HB.out), ⟨by first | exact fun _ => rfl | exact fun h_ => absurd (Ny103.out.symm.trans h_) (by simp) | exact fun h_ => absurd (Ny107.out.symm.trans h_) (by simp) | exact fun h_ => absurd (Ny110.out.symm.trans h_) (by simp) | exact fun h_ => absurd (Ny114.out.symm.trans h_) (by simp) | exact fun h_ => absurd (Ny118.out.symm.trans h_) (by simp) | exact fun h_ => absurd (Ny121.out.symm.trans h_) (by simp) | exact fun h_ => absurd (Ny125.out.symm.trans h_) (by simp) | exact fun h_ => absurd (Ny129.out.symm.trans h_) (by simp) | exact fun h_ => absurd (Ny132.out.symm.trans h_) (by simp) | exact fun h_ => absurd (Ny136.out.symm.trans h_) (by simp) | exact fun h_ => absurd (Ny139.out.symm.trans h_) (by simp) | exact fun h_ => absurd (Ny142.out.symm.trans h_) (by simp) | exact fun h_ => absurd (Ny145.out.symm.trans h_) (by simp) | exact fun h_ => absurd (Ny148.out.symm.trans h_) (by simp) | exact fun h_ => absurd h_ (rd_four_ne _ ji44 (by rw [Ny148.out, Ny145.out, Ny142.out, Ny139.out, Ny136.out]; simp) (of_decide_eq_true (by assumption)) (of_decide_eq_true (by assumption)))⟩⟩
              ·rw [if_neg c46] at H
               exact absurd H (by simp)
             ·rw [if_neg c45] at H
              exact absurd H (by simp)
            ·replace c43 := Bool.eq_false_iff.mpr c43
             subst c43
             have H1 : (some ([] : List Int)) = some r := by rw [if_neg (show ¬ (false = true) by decide)] at H; exact H
             clear H
             have H := H1
             clear H1
             obtain rfl := Option.some.inj H
             go_wp2_with (first | ((with_reducible refine gate_callee (f := 97) rfl ?_); refine goesL_ (some 102) rfl rfl Tryd.func97 (by kernel_rfl) rfl #[.int .i64 a0, .int .i64 10032, .int .i64 10035] rfl (by (try simp only [List.map_toArray, List.map_cons, List.map_nil]); first | done | rfl | (simp only [List.length_drop, List.length_take]; rfl)) ?_; (with_reducible refine (impl_in.calls a0 10032 10035 false _ A42.out).mono ?_); rintro e w' ⟨rfl, ⟨nd, rfl⟩⟩; refine ⟨_, rfl, ?_⟩))
             go_ret
             exact ⟨(.slice none 0 0), by first | rfl | (simp [errW_none, errW_some] <;> rfl) | (simp [*, errW_none, errW_some] <;> rfl), Kd.V_nil _ _ _ _ _, by repeat (first | (with_reducible first | exact HB.out | apply below_alloc | apply pw_below_drewN | apply below_drew1) | exact HB.out), ⟨by first | exact fun _ => rfl | exact fun h_ => absurd (Ny103.out.symm.trans h_) (by simp) | exact fun h_ => absurd (Ny107.out.symm.trans h_) (by simp) | exact fun h_ => absurd (Ny110.out.symm.trans h_) (by simp) | exact fun h_ => absurd (Ny114.out.symm.trans h_) (by simp) | exact fun h_ => absurd (Ny118.out.symm.trans h_) (by simp) | exact fun h_ => absurd (Ny121.out.symm.trans h_) (by simp) | exact fun h_ => absurd (Ny125.out.symm.trans h_) (by simp) | exact fun h_ => absurd (Ny129.out.symm.trans h_) (by simp) | exact fun h_ => absurd (Ny132.out.symm.trans h_) (by simp) | exact fun h_ => absurd (Ny136.out.symm.trans h_) (by simp) | exact fun h_ => absurd (Ny139.out.symm.trans h_) (by simp) | exact fun h_ => absurd (Ny142.out.symm.trans h_) (by simp) | exact fun h_ => absurd (Ny145.out.symm.trans h_) (by simp) | exact fun h_ => absurd (Ny148.out.symm.trans h_) (by simp)⟩⟩
      ·replace c28 := Bool.eq_false_iff.mpr c28
       subst c28
       have H1 : (some ([] : List Int)) = some r := by rw [if_neg (show ¬ (false = true) by decide)] at H; exact H
       clear H
       have H := H1
       clear H1
       obtain rfl := Option.some.inj H
       go_wp2_with (first | ((with_reducible refine gate_callee (f := 97) rfl ?_); refine goesL_ (some 46) rfl rfl Tryd.func97 (by kernel_rfl) rfl #[.int .i64 a0, .int .i64 9728, .int .i64 9753] rfl (by (try simp only [List.map_toArray, List.map_cons, List.map_nil]); first | done | rfl | (simp only [List.length_drop, List.length_take]; rfl)) ?_; (with_reducible refine (impl_in.calls a0 9728 9753 false _ A17.out).mono ?_); rintro e w' ⟨rfl, ⟨nd, rfl⟩⟩; refine ⟨_, rfl, ?_⟩) | ((with_reducible refine gate_callee (f := 97) rfl ?_); refine goesL_ (some 53) rfl rfl Tryd.func97 (by kernel_rfl) rfl #[.int .i64 a0, .int .i64 12288, .int .i64 23459] rfl (by (try simp only [List.map_toArray, List.map_cons, List.map_nil]); first | done | rfl | (simp only [List.length_drop, List.length_take]; rfl)) ?_; (with_reducible refine (impl_in.calls a0 12288 23459 false _ A21.out).mono ?_); rintro e w' ⟨rfl, ⟨nd, rfl⟩⟩; refine ⟨_, rfl, ?_⟩))
       go_ret
       exact ⟨(.slice none 0 0), by first | rfl | (simp [errW_none, errW_some] <;> rfl) | (simp [*, errW_none, errW_some] <;> rfl), Kd.V_nil _ _ _ _ _, by repeat (first | (with_reducible first | exact HB.out | apply below_alloc | apply pw_below_drewN | apply below_drew1) | exact HB.out), ⟨by first | exact fun _ => rfl | exact fun h_ => absurd (Ny103.out.symm.trans h_) (by simp) | exact fun h_ => absurd (Ny107.out.symm.trans h_) (by simp) | exact fun h_ => absurd (Ny110.out.symm.trans h_) (by simp) | exact fun h_ => absurd (Ny114.out.symm.trans h_) (by simp) | exact fun h_ => absurd (Ny118.out.symm.trans h_) (by simp) | exact fun h_ => absurd (Ny121.out.symm.trans h_) (by simp) | exact fun h_ => absurd (Ny125.out.symm.trans h_) (by simp) | exact fun h_ => absurd (Ny129.out.symm.trans h_) (by simp) | exact fun h_ => absurd (Ny132.out.symm.trans h_) (by simp) | exact fun h_ => absurd (Ny136.out.symm.trans h_) (by simp) | exact fun h_ => absurd (Ny139.out.symm.trans h_) (by simp) | exact fun h_ => absurd (Ny142.out.symm.trans h_) (by simp) | exact fun h_ => absurd (Ny145.out.symm.trans h_) (by simp) | exact fun h_ => absurd (Ny148.out.symm.trans h_) (by simp)⟩⟩
end Go.Proofs.YtepeeahckgpapaaDoor.Q
end
