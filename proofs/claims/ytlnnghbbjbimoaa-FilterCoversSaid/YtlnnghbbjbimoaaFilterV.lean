/- The plain values of filter's functions, and of its document's (printed by wip/tools/gen_filter.py). -/
import Derived.Test.YtlnnghbbjbimoaaInetV
import Derived.Test.YtlnnghbbjbimoaaPFx3
import Derived.Test.YtlnnghbbjbimoaaPFx4
import Derived.Test.YtlnnghbbjbimoaaPFx7
import Derived.Test.YtlnnghbbjbimoaaPFx8
import Derived.Test.YtlnnghbbjbimoaaPFx9
namespace Go.Proofs.Ytlnnghbbjbimoaa.FilterV
open Go Go.RowKit Go.Proofs.Ytlnnghbbjbimoaa.PF Go.Proofs.Ytlnnghbbjbimoaa.A128 Go.Proofs.Ytlnnghbbjbimoaa.InetV Go.Proofs.YtlnnghbbjbimoaaW.PrintWords Go.Proofs.YtlnnghbbjbimoaaW.PrintLast Go.Proofs.YtlnnghbbjbimoaaW.PrintMore
set_option linter.unusedVariables false
set_option linter.unusedSimpArgs false

def pre (v h l n : Int) : Bool := decide (0 ≤ n ∧ n ≤ size v) && (if v = 0 then decide (h = 0 ∧ l = 0) else rgt v h l)
def spn (a b : Int) : Bool := decide (0 ≤ a ∧ a ≤ b ∧ b ≤ 65535)
def amg (n a b : Int) : Bool := decide (a ≤ n ∧ n ≤ b)
theorem pre_v (v h l n : Int) (hl : U64 l) : filter_prefix.f v h l n = some (pre v h l n) := by
  unfold filter_prefix.f pre
  rw [bits_v, Option.bind_some, right_v _ _ _ hl, Option.bind_some]
  by_cases c : n < 0
  · rw [if_pos c]; simp; omega
  · by_cases d : n > size v
    · rw [if_neg c, if_pos d]; simp; omega
    · rw [if_neg c, if_neg d]
      have : 0 ≤ n ∧ n ≤ size v := by omega
      simp only [this, and_self, decide_true, Bool.true_and]
      by_cases e : v = 0
      · simp only [e, if_true]
        by_cases x : h = 0 <;> by_cases y : l = 0 <;> simp [x, y]
      · simp only [e, if_false]
theorem spn_v (a b : Int) : filter_span.f a b = some (spn a b) := by
  unfold filter_span.f spn
  by_cases c : a ≥ 0
  · by_cases d : a ≤ b <;> simp [c, d]
  · have : ¬ 0 ≤ a := by omega
    simp [c, this]
theorem amg_v (n a b : Int) : filter_among.f n a b = some (amg n a b) := by
  unfold filter_among.f amg
  by_cases c : n ≥ a
  · simp [c]
  · have : ¬ a ≤ n := by omega
    simp [c, this]
/-- the answer of Right -/
def rv (id pr v sh sl dh dl sn dn p pa pb qa qb lf : Int) : Int :=
  if 1 ≤ id ∧ id ≤ 65535 then if 0 ≤ pr ∧ pr ≤ 65535 then if v = 0 ∨ v = 4 ∨ v = 6 then if (pre v sh sl sn && pre v dh dl dn) = true then if -1 ≤ p ∧ p ≤ 255 then if (spn pa pb && spn qa qb) = true then if 1 ≤ lf ∧ lf ≤ 65535 then 0 else 15 else 6 else 7 else 6 else 22 else 14 else 2
theorem q1 (id pr v sh sl dh dl sn dn p pa pb qa qb lf : Int) : filter_questions_1.f id pr v sh sl dh dl sn dn p pa pb qa qb lf = some (decide (1 ≤ id ∧ id ≤ 65535)) := by
  unfold filter_questions_1.f; split <;> (congr 1; rw [Bool.eq_iff_iff]; simp; omega)
theorem q2 (id pr v sh sl dh dl sn dn p pa pb qa qb lf : Int) : filter_questions_2.f id pr v sh sl dh dl sn dn p pa pb qa qb lf = some (decide (0 ≤ pr ∧ pr ≤ 65535)) := by
  unfold filter_questions_2.f; split <;> (congr 1; rw [Bool.eq_iff_iff]; simp; omega)
theorem q3 (id pr v sh sl dh dl sn dn p pa pb qa qb lf : Int) : filter_questions_3.f id pr v sh sl dh dl sn dn p pa pb qa qb lf = some (decide (v = 0 ∨ v = 4 ∨ v = 6)) := by
  unfold filter_questions_3.f; rw [bits_v, Option.bind_some]; unfold size; split <;> (congr 1; rw [Bool.eq_iff_iff]; simp; first | omega | (split <;> (try split) <;> omega))
theorem q4 (id pr v sh sl dh dl sn dn p pa pb qa qb lf : Int) (h1 : U64 sl) (h2 : U64 dl) : filter_questions_4.f id pr v sh sl dh dl sn dn p pa pb qa qb lf = some (pre v sh sl sn && pre v dh dl dn) := by
  unfold filter_questions_4.f; rw [pre_v _ _ _ _ h1, Option.bind_some, pre_v _ _ _ _ h2, Option.bind_some]; cases pre v sh sl sn <;> rfl
theorem q5 (id pr v sh sl dh dl sn dn p pa pb qa qb lf : Int) : filter_questions_5.f id pr v sh sl dh dl sn dn p pa pb qa qb lf = some (decide (-1 ≤ p ∧ p ≤ 255)) := by
  unfold filter_questions_5.f; split <;> (congr 1; rw [Bool.eq_iff_iff]; simp; omega)
theorem q6 (id pr v sh sl dh dl sn dn p pa pb qa qb lf : Int) : filter_questions_6.f id pr v sh sl dh dl sn dn p pa pb qa qb lf = some (spn pa pb && spn qa qb) := by
  unfold filter_questions_6.f; rw [spn_v, Option.bind_some, spn_v, Option.bind_some]; cases spn pa pb <;> rfl
theorem q7 (id pr v sh sl dh dl sn dn p pa pb qa qb lf : Int) : filter_questions_7.f id pr v sh sl dh dl sn dn p pa pb qa qb lf = some (decide (1 ≤ lf ∧ lf ≤ 65535)) := by
  unfold filter_questions_7.f; split <;> (congr 1; rw [Bool.eq_iff_iff]; simp; omega)
theorem right_v (id pr v sh sl dh dl sn dn p pa pb qa qb lf : Int) (hf : U64 sh ∧ U64 sl ∧ U64 dh ∧ U64 dl) : filter_Right.f id pr v sh sl dh dl sn dn p pa pb qa qb lf = some (rv id pr v sh sl dh dl sn dn p pa pb qa qb lf) := by
  unfold filter_Right.f filter_Right.q0 filter_Right.q1 filter_Right.q2 filter_Right.q3 filter_Right.q4 filter_Right.q5 filter_Right.q6 filter_Right.q7 rv
  rw [q1, q2, q3, q4 _ _ _ _ _ _ _ _ _ _ _ _ _ _ _ hf.2.1 hf.2.2.2, q5, q6, q7]
  simp only [Option.bind_some, decide_eq_true_eq]
  (repeat' split) <;> rfl
/-- the answer of Match -/
def mv (id pr v sh sl dh dl sn dn p pa pb qa qb lf : Int) (w kh kl mh ml q s t : Int) : Bool :=
  decide (rv id pr v sh sl dh dl sn dn p pa pb qa qb lf = 0) && decide (w = 4 ∨ w = 6) && (decide (v = 0) || decide (v = w) && inn v kh kl sh sl sn && inn v mh ml dh dl dn) && (decide (p = -1) || decide (p = q)) && amg s pa pb && amg t qa qb
theorem rv_proto (id pr v sh sl dh dl sn dn p pa pb qa qb lf : Int) (h : rv id pr v sh sl dh dl sn dn p pa pb qa qb lf = 0) : -1 ≤ p := by
  unfold rv at h; (repeat' split at h) <;> omega
theorem rv_id (id pr v sh sl dh dl sn dn p pa pb qa qb lf : Int) (h : rv id pr v sh sl dh dl sn dn p pa pb qa qb lf = 0) : (1 ≤ id ∧ id ≤ 65535) ∧ (0 ≤ pr ∧ pr ≤ 65535) ∧ (v = 0 ∨ v = 4 ∨ v = 6) ∧ pre v sh sl sn = true ∧ pre v dh dl dn = true ∧ (-1 ≤ p ∧ p ≤ 255) ∧ spn pa pb = true ∧ spn qa qb = true ∧ (1 ≤ lf ∧ lf ≤ 65535) := by
  unfold rv at h
  simp only [Bool.and_eq_true] at h
  (repeat' split at h) <;> first | omega | (simp_all; done)
theorem match_v (k : Nat) (id pr v sh sl dh dl sn dn p pa pb qa qb lf : Int) (w kh kl mh ml q s t : Int) (hf : U64 sh ∧ U64 sl ∧ U64 dh ∧ U64 dl) (hq : U64 kh ∧ U64 kl ∧ U64 mh ∧ U64 ml) (hk : 2 ≤ k) : filter_Match.f k id pr v sh sl dh dl sn dn p pa pb qa qb lf w kh kl mh ml q s t = some (mv id pr v sh sl dh dl sn dn p pa pb qa qb lf w kh kl mh ml q s t) := by
  obtain ⟨k, rfl⟩ : ∃ m, k = m + 1 + 1 := ⟨k - 2, by omega⟩
  unfold filter_Match.f mv
  rw [right_v _ _ _ _ _ _ _ _ _ _ _ _ _ _ _ hf, Option.bind_some, bits_v, Option.bind_some]
  simp only [filter_Match.j0, filter_Match.j1, in_v _ _ _ _ _ _ hq.1 hq.2.1 hf.1 hf.2.1, in_v _ _ _ _ _ _ hq.2.2.1 hq.2.2.2 hf.2.2.1 hf.2.2.2, amg_v, Option.bind_some]
  have hp := rv_proto id pr v sh sl dh dl sn dn p pa pb qa qb lf
  generalize rv id pr v sh sl dh dl sn dn p pa pb qa qb lf = r at *
  generalize inn v kh kl sh sl sn = b1; generalize inn v mh ml dh dl dn = b2; generalize amg s pa pb = b3; generalize amg t qa qb = b4
  by_cases c : r = 0
  · subst c
    have hp := hp rfl
    by_cases cw : w = 4 ∨ w = 6
    · have w0 : ¬ w = 0 := by omega
      have hs : (size w == 0) = false := by rcases cw with rfl | rfl <;> rfl
      have hn : (p < 0) ↔ p = -1 := by omega
      simp only [hs, cw, hn]
      by_cases cv : v = 0 <;> by_cases cvw : v = w <;> by_cases c1 : p = -1 <;> by_cases c2 : p = q <;> cases b1 <;> cases b2 <;> cases b3 <;> cases b4 <;> simp [cv, cvw, c1, c2, w0]
    · have hs : (size w == 0) = true := by unfold size; rw [if_neg (by omega), if_neg (by omega)]; rfl
      simp [hs, cw]
  · simp [c]
theorem lives_v (k : Nat) (hk : 2 ≤ k) : flashlocklaw15_lives.f k = some true := by
  have u0 : U64 0 := by unfold U64; omega
  unfold flashlocklaw15_lives.f flashlocklaw15_ports.f
  simp only [Option.bind_some]
  rw [right_v _ _ _ _ _ _ _ _ _ _ _ _ _ _ _ ⟨u0, u0, u0, u0⟩, match_v k _ _ _ _ _ _ _ _ _ _ _ _ _ _ _ _ _ _ _ _ _ _ _ ⟨u0, u0, u0, u0⟩ ⟨u0, u0, u0, u0⟩ hk, match_v k _ _ _ _ _ _ _ _ _ _ _ _ _ _ _ _ _ _ _ _ _ _ _ ⟨u0, u0, u0, u0⟩ ⟨u0, u0, u0, u0⟩ hk]
  rfl
end Go.Proofs.Ytlnnghbbjbimoaa.FilterV
