/- The document's Match, Covers and Less: their values. -/
import Derived.Test.YtlnnghbbjbimoaaFilterCovV
import Derived.Test.YtlnnghbbjbimoaaInetRefV
import Derived.Test.YtlnnghbbjbimoaaFilterRefV
import Derived.Test.YtlnnghbbjbimoaaPFx12
import Derived.Test.YtlnnghbbjbimoaaPFx15
import Derived.Test.YtlnnghbbjbimoaaPFx13
import Derived.Test.YtlnnghbbjbimoaaPFx11
namespace Go.Proofs.Ytlnnghbbjbimoaa.FilterRM
open Go Go.RowKit Go.Proofs.Ytlnnghbbjbimoaa.PF Go.Proofs.Ytlnnghbbjbimoaa.A128 Go.Proofs.Ytlnnghbbjbimoaa.InetV Go.Proofs.Ytlnnghbbjbimoaa.FilterV Go.Proofs.YtlnnghbbjbimoaaW.PrintWords Go.Proofs.YtlnnghbbjbimoaaW.PrintLast Go.Proofs.YtlnnghbbjbimoaaW.PrintMore
set_option linter.unusedVariables false
set_option linter.unusedSimpArgs false
theorem rv_parts (id pr v sh sl dh dl sn dn p pa pb qa qb lf : Int) (h : rv id pr v sh sl dh dl sn dn p pa pb qa qb lf = 0) : (v = 0 ∨ v = 4 ∨ v = 6) ∧ pre v sh sl sn = true ∧ pre v dh dl dn = true ∧ pa ≤ pb ∧ qa ≤ qb := by
  unfold rv at h
  split at h
  · split at h
    · split at h
      · rename_i hv
        split at h
        · rename_i hp
          rw [Bool.and_eq_true] at hp
          split at h
          · split at h
            · rename_i hs
              rw [Bool.and_eq_true] at hs
              obtain ⟨h1, h2⟩ := hs
              unfold spn at h1 h2
              have h1 := of_decide_eq_true h1; have h2 := of_decide_eq_true h2
              exact ⟨hv, hp.1, hp.2, h1.2.1, h2.2.1⟩
            · omega
          · omega
        · omega
      · omega
    · omega
  · omega
theorem pre_in (v h l n : Int) (hv : v = 4 ∨ v = 6) (h1 : pre v h l n = true) : (0 ≤ n ∧ n ≤ size v) ∧ rgt v h l = true := by
  unfold pre at h1
  rw [Bool.and_eq_true, if_neg (by omega)] at h1
  exact ⟨of_decide_eq_true h1.1, h1.2⟩
/-- in, where the prefix is right -/
theorem rin_pre (k : Nat) (v h l h' l' n : Int) (hv : v = 4 ∨ v = 6) (hh : U64 h) (hl : U64 l) (hh' : U64 h') (hl' : U64 l') (hp : pre v h' l' n = true) (hk : 256 ≤ k) : flashlockref15_in.f k v h l h' l' n = some (inn v h l h' l' n) := by
  obtain ⟨h1, h2⟩ := pre_in v h' l' n hv hp
  exact rin_v k v h l h' l' n hv hh hl hh' hl' h1 h2 hk
theorem m_j1 (k : Nat) (b : Bool) (id pr v sh sl dh dl sn dn p pa pb qa qb lf : Int) (w kh kl mh ml q s t : Int) : flashlockref15_Match.j1 (k + 1) b id pr v sh sl dh dl sn dn p pa pb qa qb lf w kh kl mh ml q s t = some (!b && ((decide (p = -1) || decide (p = q)) && amg s pa pb && amg t qa qb)) := by
  simp only [flashlockref15_Match.j1]
  unfold amg
  cases b <;> by_cases c1 : p = -1 <;> by_cases c2 : p = q <;> by_cases c3 : pa ≤ s <;> by_cases c4 : s ≤ pb <;> by_cases c5 : qa ≤ t <;> by_cases c6 : t ≤ qb <;> simp [c1, c2, c3, c4, c5, c6]
theorem m_j0 (k : Nat) (hk : 256 ≤ k) (b : Bool) (id pr v sh sl dh dl sn dn p pa pb qa qb lf : Int) (w kh kl mh ml q s t : Int) (hf : U64 sh ∧ U64 sl ∧ U64 dh ∧ U64 dl) (hq : U64 kh ∧ U64 kl ∧ U64 mh ∧ U64 ml) (hr : b = false → rv id pr v sh sl dh dl sn dn p pa pb qa qb lf = 0) :
    flashlockref15_Match.j0 (k + 2) b id pr v sh sl dh dl sn dn p pa pb qa qb lf w kh kl mh ml q s t = some (!b && (decide (v = 0) || decide (v = w) && inn v kh kl sh sl sn && inn v mh ml dh dl dn) && ((decide (p = -1) || decide (p = q)) && amg s pa pb && amg t qa qb)) := by
  simp only [flashlockref15_Match.j0]
  cases b with
  | true => simp
  | false =>
    obtain ⟨hv, hp1, hp2, _, _⟩ := rv_parts _ _ _ _ _ _ _ _ _ _ _ _ _ _ _ (hr rfl)
    rw [if_neg (by decide)]
    by_cases c0 : v = 0
    · rw [if_pos c0]
      have := m_j1 k false id pr v sh sl dh dl sn dn p pa pb qa qb lf w kh kl mh ml q s t
      simp only [flashlockref15_Match.j1] at this
      rw [if_neg (by decide)] at this
      rw [this]; simp [c0]
    · rw [if_neg c0]
      by_cases c1 : v = w
      · rw [if_pos c1, rin_pre (k + 1) v kh kl sh sl sn (by omega) hq.1 hq.2.1 hf.1 hf.2.1 hp1 (by omega), Option.bind_some, rin_pre (k + 1) v mh ml dh dl dn (by omega) hq.2.2.1 hq.2.2.2 hf.2.2.1 hf.2.2.2 hp2 (by omega), Option.bind_some, m_j1, m_j1]
        have cw : ¬ w = 0 := by omega
        cases inn v kh kl sh sl sn <;> cases inn v mh ml dh dl dn <;> simp [c0, c1, cw]
      · rw [if_neg c1, m_j1]
        simp [c0, c1]
theorem rmatch_v (k : Nat) (hk : 256 ≤ k) (id pr v sh sl dh dl sn dn p pa pb qa qb lf : Int) (w kh kl mh ml q s t : Int) (hf : U64 sh ∧ U64 sl ∧ U64 dh ∧ U64 dl) (hq : U64 kh ∧ U64 kl ∧ U64 mh ∧ U64 ml) : flashlockref15_Match.f (k + 2) id pr v sh sl dh dl sn dn p pa pb qa qb lf w kh kl mh ml q s t = some (mv id pr v sh sl dh dl sn dn p pa pb qa qb lf w kh kl mh ml q s t) := by
  unfold flashlockref15_Match.f mv
  rw [Go.Proofs.Ytlnnghbbjbimoaa.FilterV.rright_v _ _ _ _ _ _ _ _ _ _ _ _ _ _ _ _ (by omega), Option.bind_some]
  by_cases c : rv id pr v sh sl dh dl sn dn p pa pb qa qb lf = 0
  · rw [if_pos c]
    have e (b : Bool) (hb : b = !decide (w = 4 ∨ w = 6)) := m_j0 k hk b id pr v sh sl dh dl sn dn p pa pb qa qb lf w kh kl mh ml q s t hf hq (fun _ => c)
    by_cases cw : w = 4
    · rw [if_pos cw, e false (by simp [cw])]
      simp [c, cw, Bool.and_assoc]
    · rw [if_neg cw, e (w != 6) (by by_cases c6 : w = 6 <;> simp [cw, c6])]
      by_cases c6 : w = 6 <;> simp [c, cw, c6, Bool.and_assoc]
  · rw [if_neg c, m_j0 k hk true id pr v sh sl dh dl sn dn p pa pb qa qb lf w kh kl mh ml q s t hf hq (fun h => by cases h)]
    simp [c]
theorem c_j2 (k : Nat) (b : Bool) (id pr v sh sl dh dl sn dn p pa pb qa qb lf : Int) (id' pr' v' sh' sl' dh' dl' sn' dn' p' pa' pb' qa' qb' lf' : Int) (h1 : b = false → pa' ≤ pb' ∧ qa' ≤ qb') : flashlockref15_Covers.j2 (k + 1) b id pr v sh sl dh dl sn dn p pa pb qa qb lf id' pr' v' sh' sl' dh' dl' sn' dn' p' pa' pb' qa' qb' lf' = some (!b && ((decide (p = -1) || decide (p = p')) && (amg pa' pa pb && amg pb' pa pb) && (amg qa' qa qb && amg qb' qa qb))) := by
  simp only [flashlockref15_Covers.j2]
  cases b with
  | true => simp
  | false =>
    obtain ⟨h1, h2⟩ := h1 rfl
    have e1 : (amg pa' pa pb && amg pb' pa pb) = (decide (pa ≤ pa') && decide (pb' ≤ pb)) := by unfold amg; rw [Bool.eq_iff_iff]; simp; omega
    have e2 : (amg qa' qa qb && amg qb' qa qb) = (decide (qa ≤ qa') && decide (qb' ≤ qb)) := by unfold amg; rw [Bool.eq_iff_iff]; simp; omega
    rw [e1, e2]
    by_cases c1 : p = -1 <;> by_cases c2 : p = p' <;> by_cases c3 : pa ≤ pa' <;> by_cases c4 : pb' ≤ pb <;> by_cases c5 : qa ≤ qa' <;> by_cases c6 : qb' ≤ qb <;> simp [c1, c2, c3, c4, c5, c6]
theorem rcovers_v (k : Nat) (hk : 256 ≤ k) (id pr v sh sl dh dl sn dn p pa pb qa qb lf : Int) (id' pr' v' sh' sl' dh' dl' sn' dn' p' pa' pb' qa' qb' lf' : Int) (hf : U64 sh ∧ U64 sl ∧ U64 dh ∧ U64 dl) (hg : U64 sh' ∧ U64 sl' ∧ U64 dh' ∧ U64 dl') : flashlockref15_Covers.f (k + 3) id pr v sh sl dh dl sn dn p pa pb qa qb lf id' pr' v' sh' sl' dh' dl' sn' dn' p' pa' pb' qa' qb' lf' = some (cv id pr v sh sl dh dl sn dn p pa pb qa qb lf id' pr' v' sh' sl' dh' dl' sn' dn' p' pa' pb' qa' qb' lf') := by
  unfold flashlockref15_Covers.f cv
  rw [Go.Proofs.Ytlnnghbbjbimoaa.FilterV.rright_v _ _ _ _ _ _ _ _ _ _ _ _ _ _ _ _ (by omega), Option.bind_some]
  by_cases c : rv id pr v sh sl dh dl sn dn p pa pb qa qb lf = 0
  · rw [if_pos c, Go.Proofs.Ytlnnghbbjbimoaa.FilterV.rright_v _ _ _ _ _ _ _ _ _ _ _ _ _ _ _ _ (by omega), Option.bind_some]
    by_cases c' : rv id' pr' v' sh' sl' dh' dl' sn' dn' p' pa' pb' qa' qb' lf' = 0
    · obtain ⟨hv, hp1, hp2, _, _⟩ := rv_parts _ _ _ _ _ _ _ _ _ _ _ _ _ _ _ c
      obtain ⟨_, _, _, q1, q2⟩ := rv_parts _ _ _ _ _ _ _ _ _ _ _ _ _ _ _ c'
      have e (k : Nat) (b : Bool) := c_j2 k b id pr v sh sl dh dl sn dn p pa pb qa qb lf id' pr' v' sh' sl' dh' dl' sn' dn' p' pa' pb' qa' qb' lf' (fun _ => ⟨q1, q2⟩)
      simp only [flashlockref15_Covers.j0]
      rw [c, c', show ((0 : Int) != 0) = false from rfl, if_neg (by decide)]
      by_cases c0 : v = 0
      · rw [if_pos c0]
        simp only [flashlockref15_Covers.j1]
        rw [if_neg (by decide), if_pos c0, e]
        simp [c0, Bool.and_assoc]
      · rw [if_neg c0]
        by_cases c1 : v = v'
        · rw [show (v != v') = false from by simp [c1]]
          simp only [flashlockref15_Covers.j1]
          rw [if_neg (by decide), if_neg c0]
          by_cases c2 : sn > sn'
          · rw [if_pos c2, e]; have : ¬ sn ≤ sn' := by omega
            simp [c0, this]
          · rw [if_neg c2]
            have c2' : sn ≤ sn' := by omega
            by_cases c3 : dn > dn'
            · rw [if_pos c3, e]; have : ¬ dn ≤ dn' := by omega
              simp [c0, this]
            · have c3' : dn ≤ dn' := by omega
              have cw : ¬ v' = 0 := by omega
              rw [if_neg c3, rin_pre (k + 1) v sh' sl' sh sl sn (by omega) hg.1 hg.2.1 hf.1 hf.2.1 hp1 (by omega), Option.bind_some, rin_pre (k + 1) v dh' dl' dh dl dn (by omega) hg.2.2.1 hg.2.2.2 hf.2.2.1 hf.2.2.2 hp2 (by omega), Option.bind_some, e, e]
              cases inn v sh' sl' sh sl sn <;> cases inn v dh' dl' dh dl dn <;> simp [c0, c1, cw, c2', c3', Bool.and_assoc]
        · rw [show (v != v') = true from by simp [c1]]
          simp only [flashlockref15_Covers.j1]
          simp [c0, c1]
    · simp only [flashlockref15_Covers.j0]
      rw [show (rv id' pr' v' sh' sl' dh' dl' sn' dn' p' pa' pb' qa' qb' lf' != 0) = true from by simp [c'], if_pos rfl]
      simp [c']
  · rw [if_neg c]
    simp only [flashlockref15_Covers.j0]
    simp [c]
theorem rless_v (id pr v sh sl dh dl sn dn p pa pb qa qb lf : Int) (id' pr' v' sh' sl' dh' dl' sn' dn' p' pa' pb' qa' qb' lf' : Int) : flashlockref15_Less.f id pr v sh sl dh dl sn dn p pa pb qa qb lf id' pr' v' sh' sl' dh' dl' sn' dn' p' pa' pb' qa' qb' lf' = some (lv id pr id' pr') := by
  unfold flashlockref15_Less.f lv
  by_cases c1 : pr < pr'
  · rw [if_pos c1, if_neg (by omega), decide_eq_true c1]
  · rw [if_neg c1]
    by_cases c2 : pr = pr'
    · rw [if_pos c2, if_pos c2]
    · rw [if_neg c2, if_neg c2, decide_eq_false c1]
end Go.Proofs.Ytlnnghbbjbimoaa.FilterRM
