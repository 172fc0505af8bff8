/- The values of filter.Covers and filter.Less, and what follows (printed by wip/tools/gen_cover.py). -/
import Derived.Test.YtlnnghbbjbimoaaFilterV
import Derived.Test.YtlnnghbbjbimoaaPFx13
import Derived.Test.YtlnnghbbjbimoaaPFx14
namespace Go.Proofs.Ytlnnghbbjbimoaa.FilterV
open Go Go.RowKit Go.Proofs.Ytlnnghbbjbimoaa.PF Go.Proofs.Ytlnnghbbjbimoaa.A128 Go.Proofs.Ytlnnghbbjbimoaa.InetV Go.Proofs.YtlnnghbbjbimoaaW.PrintWords Go.Proofs.YtlnnghbbjbimoaaW.PrintLast Go.Proofs.YtlnnghbbjbimoaaW.PrintMore
set_option linter.unusedVariables false
set_option linter.unusedSimpArgs false

theorem whl_v (a b c d : Int) : filter_wholly.f a b c d = some (amg a c d && amg b c d) := by
  unfold filter_wholly.f
  rw [amg_v, Option.bind_some, amg_v, Option.bind_some]
  cases amg a c d <;> rfl
/-- the answer of Covers -/
def cv (id pr v sh sl dh dl sn dn p pa pb qa qb lf : Int) (id' pr' v' sh' sl' dh' dl' sn' dn' p' pa' pb' qa' qb' lf' : Int) : Bool :=
  decide (rv id pr v sh sl dh dl sn dn p pa pb qa qb lf = 0) && decide (rv id' pr' v' sh' sl' dh' dl' sn' dn' p' pa' pb' qa' qb' lf' = 0) && (decide (p = -1) || decide (p = p')) && (amg pa' pa pb && amg pb' pa pb) && (amg qa' qa qb && amg qb' qa qb) && (decide (v = 0) || decide (v = v') && decide (sn ≤ sn') && decide (dn ≤ dn') && inn v sh' sl' sh sl sn && inn v dh' dl' dh dl dn)
theorem covers_v (k : Nat) (id pr v sh sl dh dl sn dn p pa pb qa qb lf : Int) (id' pr' v' sh' sl' dh' dl' sn' dn' p' pa' pb' qa' qb' lf' : Int) (hf : U64 sh ∧ U64 sl ∧ U64 dh ∧ U64 dl) (hg : U64 sh' ∧ U64 sl' ∧ U64 dh' ∧ U64 dl') (hk : 2 ≤ k) : filter_Covers.f k id pr v sh sl dh dl sn dn p pa pb qa qb lf id' pr' v' sh' sl' dh' dl' sn' dn' p' pa' pb' qa' qb' lf' = some (cv id pr v sh sl dh dl sn dn p pa pb qa qb lf id' pr' v' sh' sl' dh' dl' sn' dn' p' pa' pb' qa' qb' lf') := by
  obtain ⟨k, rfl⟩ : ∃ m, k = m + 1 + 1 := ⟨k - 2, by omega⟩
  unfold filter_Covers.f cv
  rw [right_v _ _ _ _ _ _ _ _ _ _ _ _ _ _ _ hf, Option.bind_some, right_v _ _ _ _ _ _ _ _ _ _ _ _ _ _ _ hg, Option.bind_some]
  simp only [filter_Covers.j0, filter_Covers.j1, in_v _ _ _ _ _ _ hg.1 hg.2.1 hf.1 hf.2.1, in_v _ _ _ _ _ _ hg.2.2.1 hg.2.2.2 hf.2.2.1 hf.2.2.2, whl_v, Option.bind_some]
  have hp := rv_proto id pr v sh sl dh dl sn dn p pa pb qa qb lf
  generalize rv id pr v sh sl dh dl sn dn p pa pb qa qb lf = r at *; generalize rv id' pr' v' sh' sl' dh' dl' sn' dn' p' pa' pb' qa' qb' lf' = r' at *
  generalize inn v sh' sl' sh sl sn = b1; generalize inn v dh' dl' dh dl dn = b2; generalize (amg pa' pa pb && amg pb' pa pb) = b3; generalize (amg qa' qa qb && amg qb' qa qb) = b4
  by_cases c : r = 0
  · subst c
    have hp := hp rfl
    by_cases c' : r' = 0
    · subst c'
      have hn : p ≥ 0 ↔ ¬ p = -1 := by omega
      simp only [hn]
      by_cases cv : v = 0 <;> by_cases cvw : v = v' <;> by_cases c1 : p = -1 <;> by_cases c2 : p = p' <;> by_cases c3 : sn ≤ sn' <;> by_cases c4 : dn ≤ dn' <;> cases b3 <;> cases b4 <;> simp [cv, cvw, c1, c2, c3, c4] <;> (try (cases b1 <;> cases b2 <;> simp_all))
    · simp [c']
  · simp [c]
theorem keep_mono (v n m : Int) (h : n ≤ m) : keep v n ≤ keep v m := by
  unfold keep mx mn; (repeat' split) <;> omega
theorem inn_trans (v kh kl bh bl ah al m n : Int) (hn : n ≤ m) (h1 : inn v kh kl bh bl m = true) (h2 : inn v bh bl ah al n = true) : inn v kh kl ah al n = true := by
  unfold inn at *
  simp only [Bool.and_eq_true, decide_eq_true_eq] at *
  refine ⟨⟨h1.1.1, h2.1.2⟩, ?_⟩
  have := keep_mono v n m hn
  rw [← h2.2]
  exact shrink _ _ _ _ (by omega) h1.2
theorem inn_self (v h l n : Int) (hr : rgt v h l = true) : inn v h l h l n = true := by unfold inn; simp [hr]
theorem amg_trans (n a b c d : Int) (h1 : amg n a b = true) (h2 : amg a c d = true) (h3 : amg b c d = true) : amg n c d = true := by
  unfold amg at *; simp only [decide_eq_true_eq] at *; omega
theorem cov_match (id pr v sh sl dh dl sn dn p pa pb qa qb lf : Int) (id' pr' v' sh' sl' dh' dl' sn' dn' p' pa' pb' qa' qb' lf' : Int) (w kh kl mh ml q s t : Int) (h1 : cv id pr v sh sl dh dl sn dn p pa pb qa qb lf id' pr' v' sh' sl' dh' dl' sn' dn' p' pa' pb' qa' qb' lf' = true) (h2 : mv id' pr' v' sh' sl' dh' dl' sn' dn' p' pa' pb' qa' qb' lf' w kh kl mh ml q s t = true) : mv id pr v sh sl dh dl sn dn p pa pb qa qb lf w kh kl mh ml q s t = true := by
  unfold cv at h1; unfold mv at h2 ⊢
  simp only [Bool.and_eq_true, Bool.or_eq_true, decide_eq_true_eq] at h1 h2 ⊢
  obtain ⟨⟨⟨⟨⟨ra, rb⟩, pp⟩, p1, p2⟩, q1, q2⟩, vv⟩ := h1
  obtain ⟨⟨⟨⟨⟨-, hw⟩, wv⟩, pq⟩, s1⟩, t1⟩ := h2
  refine ⟨⟨⟨⟨⟨ra, hw⟩, ?_⟩, ?_⟩, amg_trans _ _ _ _ _ s1 p1 p2⟩, amg_trans _ _ _ _ _ t1 q1 q2⟩
  · rcases vv with h0 | ⟨⟨⟨⟨e, ns⟩, nd⟩, i1⟩, i2⟩
    · exact .inl h0
    · rcases wv with h0 | ⟨⟨e2, j1⟩, j2⟩
      · exact .inl (by omega)
      · subst e
        exact .inr ⟨⟨e2, inn_trans _ _ _ _ _ _ _ _ _ ns j1 i1⟩, inn_trans _ _ _ _ _ _ _ _ _ nd j2 i2⟩
  · rcases pp with h0 | h0
    · exact .inl h0
    · rcases pq with h1 | h1
      · exact .inl (by omega)
      · exact .inr (by omega)
theorem cov_trans (id pr v sh sl dh dl sn dn p pa pb qa qb lf : Int) (id' pr' v' sh' sl' dh' dl' sn' dn' p' pa' pb' qa' qb' lf' : Int) (id'' pr'' v'' sh'' sl'' dh'' dl'' sn'' dn'' p'' pa'' pb'' qa'' qb'' lf'' : Int) (h1 : cv id pr v sh sl dh dl sn dn p pa pb qa qb lf id' pr' v' sh' sl' dh' dl' sn' dn' p' pa' pb' qa' qb' lf' = true) (h2 : cv id' pr' v' sh' sl' dh' dl' sn' dn' p' pa' pb' qa' qb' lf' id'' pr'' v'' sh'' sl'' dh'' dl'' sn'' dn'' p'' pa'' pb'' qa'' qb'' lf'' = true) : cv id pr v sh sl dh dl sn dn p pa pb qa qb lf id'' pr'' v'' sh'' sl'' dh'' dl'' sn'' dn'' p'' pa'' pb'' qa'' qb'' lf'' = true := by
  unfold cv at h1 h2 ⊢
  simp only [Bool.and_eq_true, Bool.or_eq_true, decide_eq_true_eq] at h1 h2 ⊢
  obtain ⟨⟨⟨⟨⟨ra, rb⟩, pp⟩, p1, p2⟩, q1, q2⟩, vv⟩ := h1
  obtain ⟨⟨⟨⟨⟨-, rc⟩, pp'⟩, p1', p2'⟩, q1', q2'⟩, vv'⟩ := h2
  refine ⟨⟨⟨⟨⟨ra, rc⟩, by omega⟩, amg_trans _ _ _ _ _ p1' p1 p2, amg_trans _ _ _ _ _ p2' p1 p2⟩, amg_trans _ _ _ _ _ q1' q1 q2, amg_trans _ _ _ _ _ q2' q1 q2⟩, ?_⟩
  rcases vv with h0 | ⟨⟨⟨⟨e, ns⟩, nd⟩, i1⟩, i2⟩
  · exact .inl h0
  · rcases vv' with h0 | ⟨⟨⟨⟨e', ns'⟩, nd'⟩, i1'⟩, i2'⟩
    · exact .inl (by omega)
    · subst e
      exact .inr ⟨⟨⟨⟨e', by omega⟩, by omega⟩, inn_trans _ _ _ _ _ _ _ _ _ ns i1' i1⟩, inn_trans _ _ _ _ _ _ _ _ _ nd i2' i2⟩
theorem cov_self (id pr v sh sl dh dl sn dn p pa pb qa qb lf : Int) : cv id pr v sh sl dh dl sn dn p pa pb qa qb lf id pr v sh sl dh dl sn dn p pa pb qa qb lf = decide (rv id pr v sh sl dh dl sn dn p pa pb qa qb lf = 0) := by
  rw [Bool.eq_iff_iff, decide_eq_true_eq]
  constructor
  · intro hc; unfold cv at hc; simp only [Bool.and_eq_true, decide_eq_true_eq] at hc; exact hc.1.1.1.1.1
  · intro hr
    obtain ⟨-, -, hv, pre1, pre2, -, s1, s2, -⟩ := rv_id id pr v sh sl dh dl sn dn p pa pb qa qb lf hr
    unfold spn at s1 s2; simp only [decide_eq_true_eq] at s1 s2
    unfold cv
    have a1 : amg pa pa pb = true := by unfold amg; simp only [decide_eq_true_eq]; omega
    have a2 : amg pb pa pb = true := by unfold amg; simp only [decide_eq_true_eq]; omega
    have a3 : amg qa qa qb = true := by unfold amg; simp only [decide_eq_true_eq]; omega
    have a4 : amg qb qa qb = true := by unfold amg; simp only [decide_eq_true_eq]; omega
    rw [hr, a1, a2, a3, a4]
    by_cases c : v = 0
    · simp [c]
    · unfold pre at pre1 pre2; rw [if_neg c] at pre1 pre2
      simp only [Bool.and_eq_true] at pre1 pre2
      rw [inn_self _ _ _ _ pre1.2, inn_self _ _ _ _ pre2.2]; simp
/-- the answer of Less -/
def lv (id pr id' pr' : Int) : Bool := if pr = pr' then decide (id < id') else decide (pr < pr')
theorem less_v (id pr v sh sl dh dl sn dn p pa pb qa qb lf : Int) (id' pr' v' sh' sl' dh' dl' sn' dn' p' pa' pb' qa' qb' lf' : Int) : filter_Less.f id pr v sh sl dh dl sn dn p pa pb qa qb lf id' pr' v' sh' sl' dh' dl' sn' dn' p' pa' pb' qa' qb' lf' = some (lv id pr id' pr') := by
  unfold filter_Less.f lv; by_cases c : pr = pr' <;> simp [c]
theorem less_eq (id pr id' pr' : Int) : ((pr == pr') && (id == id')) = ((!lv id pr id' pr') && (!lv id' pr' id pr)) := by
  unfold lv
  by_cases c : pr = pr'
  · subst c; rw [Bool.eq_iff_iff]; simp; omega
  · have : ¬ pr' = pr := fun e => c e.symm
    rw [Bool.eq_iff_iff]; simp [c, this]; omega
end Go.Proofs.Ytlnnghbbjbimoaa.FilterV
