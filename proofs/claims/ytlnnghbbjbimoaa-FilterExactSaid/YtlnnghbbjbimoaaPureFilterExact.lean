/- The filter of a key matches that key alone: the pure statement behind flashlocklaw15.FilterExact (printed by wip/tools/gen_exact.py). -/
import Derived.Test.YtlnnghbbjbimoaaFilterV
import Derived.Test.YtlnnghbbjbimoaaPFx16
import Derived.Test.YtlnnghbbjbimoaaPFx17
import Derived.Test.YtlnnghbbjbimoaaPFx18
namespace Go.Proofs.Ytlnnghbbjbimoaa.Pure
open Go Go.RowKit Go.Proofs.Ytlnnghbbjbimoaa.PF Go.Proofs.Ytlnnghbbjbimoaa.A128 Go.Proofs.Ytlnnghbbjbimoaa.InetV Go.Proofs.Ytlnnghbbjbimoaa.FilterV Go.Proofs.YtlnnghbbjbimoaaW.PrintWords Go.Proofs.YtlnnghbbjbimoaaW.PrintLast Go.Proofs.YtlnnghbbjbimoaaW.PrintMore
set_option linter.unusedVariables false
set_option linter.unusedSimpArgs false

theorem fol_v (q : Int) : flashlockref12_Follows.f q = some (decide (q = 0 ∨ q = 43 ∨ q = 44 ∨ q = 60)) := by
  unfold flashlockref12_Follows.f
  (repeat' split) <;> (congr 1; rw [Bool.eq_iff_iff]; simp; try omega)
def tl (q s t : Int) : Bool := if q = 6 ∨ q = 17 then decide ((0 ≤ s ∧ s ≤ 65535) ∧ (0 ≤ t ∧ t ≤ 65535)) else decide (s = 0 ∧ t = 0)
theorem tl_fact (q s t : Int) (h : tl q s t = true) : (0 ≤ s ∧ s ≤ 65535) ∧ (0 ≤ t ∧ t ≤ 65535) := by
  unfold tl at h; split at h <;> simp at h <;> omega
theorem r14_j1 (k : Nat) (x : Bool) (w kh kl mh ml q s t : Int) : flashlockref14_Right.j1 (k + 1) x w kh kl mh ml q s t = some (!x && tl q s t) := by
  simp only [flashlockref14_Right.j1]; unfold tl
  cases x
  · by_cases c6 : q = 6
    · simp only [c6, true_or, if_true]
      rw [if_neg (by simp)]
      (repeat' split) <;> (congr 1; rw [Bool.eq_iff_iff]; simp; omega)
    · by_cases c17 : q = 17
      · simp only [c17, or_true, if_true]
        rw [if_neg (by simp), if_neg (by decide)]
        (repeat' split) <;> (congr 1; rw [Bool.eq_iff_iff]; simp; omega)
      · rw [if_neg (by simp), if_neg c6, if_neg c17, if_neg (show ¬ (q = 6 ∨ q = 17) by omega)]
        split <;> (congr 1; rw [Bool.eq_iff_iff]; simp; omega)
  · rfl
theorem r14_j0 (k : Nat) (x : Bool) (w kh kl mh ml q s t : Int) : ∃ b, flashlockref14_Right.j0 (k + 1 + 1) x w kh kl mh ml q s t = some b ∧ (b = true → x = false ∧ (0 ≤ q ∧ q ≤ 255) ∧ (0 ≤ s ∧ s ≤ 65535) ∧ (0 ≤ t ∧ t ≤ 65535)) := by
  rw [flashlockref14_Right.j0]
  simp only [r14_j1, fol_v, Option.bind_some]
  cases x
  · rw [if_neg (by simp)]
    by_cases c1 : q < 0
    · rw [if_pos c1]; exact ⟨_, rfl, fun h => by simp at h⟩
    · by_cases c2 : q > 255
      · rw [if_neg c1, if_pos c2]; exact ⟨_, rfl, fun h => by simp at h⟩
      · rw [if_neg c1, if_neg c2]
        by_cases c3 : w = 6
        · rw [if_pos c3]; exact ⟨_, rfl, fun h => by simp only [Bool.and_eq_true] at h; exact ⟨rfl, by omega, tl_fact q s t h.2⟩⟩
        · rw [if_neg c3]; exact ⟨_, rfl, fun h => by simp only [Bool.and_eq_true] at h; exact ⟨rfl, by omega, tl_fact q s t h.2⟩⟩
  · exact ⟨false, rfl, fun h => by simp at h⟩
theorem r14 (k : Nat) (w kh kl mh ml q s t : Int) (hk : 2 ≤ k) : ∃ b, flashlockref14_Right.f k w kh kl mh ml q s t = some b ∧ (b = true → (w = 4 ∨ w = 6) ∧ rgt w kh kl = true ∧ rgt w mh ml = true ∧ (0 ≤ q ∧ q ≤ 255) ∧ (0 ≤ s ∧ s ≤ 65535) ∧ (0 ≤ t ∧ t ≤ 65535)) := by
  obtain ⟨k, rfl⟩ : ∃ m, k = m + 1 + 1 := ⟨k - 2, by omega⟩
  obtain ⟨bt, et, ht⟩ := r14_j0 k true w kh kl mh ml q s t
  obtain ⟨bn, en, hn⟩ := r14_j0 k (!rgt w mh ml) w kh kl mh ml q s t
  unfold flashlockref14_Right.f
  simp only [InetV.rright_v, Option.bind_some, et, en]
  have d1 : bt = true → False := fun h => by simpa using (ht h).1
  by_cases c4 : w = 4
  · rw [if_pos c4]
    cases h1 : rgt w kh kl
    · exact ⟨bt, rfl, fun h => absurd h d1⟩
    · exact ⟨bn, rfl, fun h => ⟨.inl c4, rfl, by simpa using (hn h).1, (hn h).2⟩⟩
  · by_cases c6 : w = 6
    · rw [if_neg c4, if_pos c6]
      cases h1 : rgt w kh kl
      · exact ⟨bt, rfl, fun h => absurd h d1⟩
      · exact ⟨bn, rfl, fun h => ⟨.inr c6, rfl, by simpa using (hn h).1, (hn h).2⟩⟩
    · rw [if_neg c4, if_neg c6]; exact ⟨bt, rfl, fun h => absurd h d1⟩
theorem of_v (n : Int) (w kh kl mh ml q s t : Int) : filter_Of.f w kh kl mh ml q s t n 5 n = some (n, 5, w, kh, kl, mh, ml, size w, size w, q, s, s, t, t, n) := by
  unfold filter_Of.f; rw [bits_v, Option.bind_some]
theorem keep_all (w : Int) (hw : w = 4 ∨ w = 6) : (128 - keep w (size w)).toNat = 0 := by rcases hw with rfl | rfl <;> decide
theorem exact_right (n : Int) (w kh kl mh ml q s t : Int) (hn : 1 ≤ n ∧ n ≤ 65535) (hw : w = 4 ∨ w = 6) (h1 : rgt w kh kl = true) (h2 : rgt w mh ml = true) (hq : 0 ≤ q ∧ q ≤ 255) (hs : 0 ≤ s ∧ s ≤ 65535) (ht : 0 ≤ t ∧ t ≤ 65535) : rv n 5 w kh kl mh ml (size w) (size w) q s s t t n = 0 := by
  have w0 : ¬ w = 0 := by omega
  have e : 0 ≤ size w := by rcases hw with rfl | rfl <;> decide
  have p1 : pre w kh kl (size w) = true := by unfold pre; rw [if_neg w0, h1]; simp [e]
  have p2 : pre w mh ml (size w) = true := by unfold pre; rw [if_neg w0, h2]; simp [e]
  have p3 : spn s s = true := by unfold spn; simp; omega
  have p4 : spn t t = true := by unfold spn; simp; omega
  unfold rv
  rw [p1, p2, p3, p4, if_pos hn, if_pos (by omega), if_pos (by omega), if_pos (by rfl : (true && true) = true), if_pos (by omega), if_pos (by rfl : (true && true) = true), if_pos hn]
theorem exact_match (n : Int) (w kh kl mh ml q s t : Int) (w' kh' kl' mh' ml' q' s' t' : Int) (hq : U64 kh ∧ U64 kl ∧ U64 mh ∧ U64 ml) (ho : U64 kh' ∧ U64 kl' ∧ U64 mh' ∧ U64 ml') (hw : w = 4 ∨ w = 6) (h1 : rgt w kh kl = true) (h2 : rgt w mh ml = true) (hp : 0 ≤ q) (hr : rv n 5 w kh kl mh ml (size w) (size w) q s s t t n = 0) :
    mv n 5 w kh kl mh ml (size w) (size w) q s s t t n w' kh' kl' mh' ml' q' s' t' = (w' == w && ((kh' == kh && (kl' == kl)) && ((mh' == mh && (ml' == ml)) && (q' == q && (s' == s && (t' == t)))))) := by
  have w0 : ¬ w = 0 := by omega
  have hp1 : ¬ q = -1 := by omega
  unfold mv inn amg
  rw [hr, keep_all w hw]
  simp only [Int.pow_zero, Int.ediv_one, num_inj _ _ _ _ ho.2.1 hq.2.1, num_inj _ _ _ _ ho.2.2.2 hq.2.2.2, h1, h2]
  rw [Bool.eq_iff_iff]
  simp only [Bool.and_eq_true, Bool.or_eq_true, decide_eq_true_eq, beq_iff_eq, w0, hp1, false_or, and_true, true_and]
  constructor
  · rintro ⟨⟨⟨⟨a, ⟨b, c, d⟩, e, f⟩, g⟩, h⟩, i⟩; omega
  · rintro ⟨rfl, ⟨rfl, rfl⟩, ⟨rfl, rfl⟩, rfl, rfl, rfl⟩
    simp [h1, h2, hw]
theorem FilterExact : ∀ (a0_0 : Int) (a0_1 : Int) (a0_2 : Int) (a0_3 : Int) (a0_4 : Int) (a0_5 : Int) (a0_6 : Int) (a0_7 : Int) (a1_0 : Int) (a1_1 : Int) (a1_2 : Int) (a1_3 : Int) (a1_4 : Int) (a1_5 : Int) (a1_6 : Int) (a1_7 : Int) (a2 : Int), (Lit.int .i64 a0_0).wf = true → (Lit.int .u64 a0_1).wf = true → (Lit.int .u64 a0_2).wf = true → (Lit.int .u64 a0_3).wf = true → (Lit.int .u64 a0_4).wf = true → (Lit.int .i64 a0_5).wf = true → (Lit.int .i64 a0_6).wf = true → (Lit.int .i64 a0_7).wf = true → (Lit.int .i64 a1_0).wf = true → (Lit.int .u64 a1_1).wf = true → (Lit.int .u64 a1_2).wf = true → (Lit.int .u64 a1_3).wf = true → (Lit.int .u64 a1_4).wf = true → (Lit.int .i64 a1_5).wf = true → (Lit.int .i64 a1_6).wf = true → (Lit.int .i64 a1_7).wf = true → (Lit.int .u16 a2).wf = true → ∃ k, flashlocklaw15_FilterExact.f k a0_0 a0_1 a0_2 a0_3 a0_4 a0_5 a0_6 a0_7 a1_0 a1_1 a1_2 a1_3 a1_4 a1_5 a1_6 a1_7 a2 = some true := by
  intro w kh kl mh ml q s t w' kh' kl' mh' ml' q' s' t' a2 _ g1 g2 g3 g4 _ _ _ _ g5 g6 g7 g8 _ _ _ g9
  have uv : ∀ x : Int, (Lit.int .u64 x).wf = true → U64 x := by
    intro x hx; simp [Lit.wf, IntKind.min, IntKind.max, IntKind.signed, IntKind.bits] at hx; unfold U64; omega
  have hq : U64 kh ∧ U64 kl ∧ U64 mh ∧ U64 ml := ⟨uv _ g1, uv _ g2, uv _ g3, uv _ g4⟩
  have ho : U64 kh' ∧ U64 kl' ∧ U64 mh' ∧ U64 ml' := ⟨uv _ g5, uv _ g6, uv _ g7, uv _ g8⟩
  have h2 : 0 ≤ a2 ∧ a2 ≤ 65535 := by simp [Lit.wf, IntKind.min, IntKind.max, IntKind.signed, IntKind.bits] at g9; omega
  obtain ⟨n, hn, en⟩ : ∃ n, (1 ≤ n ∧ n ≤ 65535) ∧ wrap64 (1 + Int.tmod (wrap64 a2) 65535) = n := by
    refine ⟨_, ?_, rfl⟩
    have e1 : wrap64 a2 = a2 := by unfold wrap64; omega
    rw [e1, Int.tmod_eq_emod_of_nonneg h2.1]; unfold wrap64; omega
  refine ⟨3, ?_⟩
  unfold flashlocklaw15_FilterExact.f
  simp only [en]
  rw [of_v, Option.bind_some]
  dsimp only
  rw [if_pos rfl, if_pos rfl]
  obtain ⟨b, eb, hb⟩ := r14 2 w kh kl mh ml q s t (by omega)
  have hlast : (n != n) = false := by simp
  rw [hlast]
  simp only [flashlocklaw15_FilterExact.j0, eb, Option.bind_some, lives_v 2 (Nat.le_refl _)]
  rw [if_neg (by simp)]
  cases b
  · rfl
  · obtain ⟨hw, r1, r2, hp, hs, ht⟩ := hb rfl
    have hr := exact_right n w kh kl mh ml q s t hn hw r1 r2 hp hs ht
    rw [if_pos rfl, FilterV.right_v _ _ _ _ _ _ _ _ _ _ _ _ _ _ _ hq, Option.bind_some, if_pos hr, match_v 2 _ _ _ _ _ _ _ _ _ _ _ _ _ _ _ _ _ _ _ _ _ _ _ hq hq (Nat.le_refl _), Option.bind_some, exact_match n w kh kl mh ml q s t w kh kl mh ml q s t hq hq hw r1 r2 hp.1 hr, match_v 2 _ _ _ _ _ _ _ _ _ _ _ _ _ _ _ _ _ _ _ _ _ _ _ hq ho (Nat.le_refl _), Option.bind_some, exact_match n w kh kl mh ml q s t w' kh' kl' mh' ml' q' s' t' hq ho hw r1 r2 hp.1 hr]
    simp
end Go.Proofs.Ytlnnghbbjbimoaa.Pure
