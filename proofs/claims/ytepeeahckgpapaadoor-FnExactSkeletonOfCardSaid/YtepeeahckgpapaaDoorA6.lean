/- part 5 -/
import Derived.Test.YtepeeahckgpapaaDoorA5
section
namespace Go.Proofs.YtepeeahckgpapaaDoor.Q
open Go.RowKit Go.Proofs.YtepeeahckgpapaaDoorW.PrintWords Go.Proofs.YtepeeahckgpapaaDoorW.PrintLast Go.Proofs.YtepeeahckgpapaaDoorW.PrintMore
set_option linter.unusedSimpArgs false
theorem ckLook_1 : allB ckLook 0 12 = true := by decide +kernel
theorem ckLook_2 : allB ckLook 4096 6 = true := by decide +kernel
theorem ckLook_3 : allB ckLook 7680 9 = true := by decide +kernel
theorem ckLook_4 : allB ckLook 8192 11 = true := by decide +kernel
theorem look_eq {p : Int} (h : PtI p) : ∃ l, (∀ k, 40 ≤ k → impl_looks.f k p = some l) ∧ (∀ k, 80 ≤ k → spec_l19Seen.f k p = some l) ∧
    l.length ≤ 2 ∧ ∀ q ∈ l, PtI q := by
  have key : ∃ l, impl_looks.f 40 p = some l ∧ spec_l19Seen.f 80 p = some l ∧ l.length ≤ 2 ∧ ∀ q ∈ l, PtI q := by
    by_cases hp : (4160 ≤ p ∧ p < 7680) ∨ 10036 ≤ p
    · obtain ⟨h1, h2⟩ := look_high hp
      exact ⟨[p], h1, h2, by simp, by simpa using h⟩
    · have hn : (p.toNat : Int) = p := Int.toNat_of_nonneg h.1
      have : ckLook p.toNat = true := by
        rcases (by omega : (0 ≤ p.toNat ∧ p.toNat < 0 + 2 ^ 12) ∨ (4096 ≤ p.toNat ∧ p.toNat < 4096 + 2 ^ 6) ∨ (7680 ≤ p.toNat ∧ p.toNat < 7680 + 2 ^ 9) ∨ (8192 ≤ p.toNat ∧ p.toNat < 8192 + 2 ^ 11)) with a | a | a | a
        · exact allB_all _ _ _ ckLook_1 _ a.1 a.2
        · exact allB_all _ _ _ ckLook_2 _ a.1 a.2
        · exact allB_all _ _ _ ckLook_3 _ a.1 a.2
        · exact allB_all _ _ _ ckLook_4 _ a.1 a.2
      unfold ckLook at this
      rw [hn] at this
      exact same2_out this
  obtain ⟨l, h1, h2, h3⟩ := key
  exact ⟨l, fun k hk => LeO.le (fun k => impl_looks.mono _ k) h1 hk, fun k hk => LeO.le (fun k => spec_l19Seen.mono _ k) h2 hk, h3⟩
end Go.Proofs.YtepeeahckgpapaaDoor.Q
end
