/- A packet's bits: plain values. -/
import Derived.Test.YtlnnghbbjbimoaaIpv4M
import Derived.Test.YtlnnghbbjbimoaaIpv4R
namespace Go.Proofs.Ytlnnghbbjbimoaa.Ipv4BV
open Go Go.RowKit Go.Proofs.Ytlnnghbbjbimoaa.PV Go.Proofs.Ytlnnghbbjbimoaa.Reader Go.Proofs.Ytlnnghbbjbimoaa.PNum Go.Proofs.Ytlnnghbbjbimoaa.Num Go.Proofs.Ytlnnghbbjbimoaa.Ipv4S Go.Proofs.Ytlnnghbbjbimoaa.Ipv4P Go.Proofs.Ytlnnghbbjbimoaa.Ipv4R Go.Proofs.Ytlnnghbbjbimoaa.Ipv4M Go.Proofs.YtlnnghbbjbimoaaW.PrintWords Go.Proofs.YtlnnghbbjbimoaaW.PrintLast Go.Proofs.YtlnnghbbjbimoaaW.PrintMore
set_option linter.unusedVariables false
set_option linter.unusedSimpArgs false
/-- a place's weight in the sum -/
def wt (i : Nat) : Int := if i % 2 = 0 then 256 else 1
theorem ws_set (n : Nat) : ∀ (l : List Int) (i : Nat) (v : Int), l.length ≤ n → (h : i < l.length) → ws (l.set i v) = ws l + wt i * (v - l[i]) := by
  induction n using Nat.strongRecOn with
  | ind n ih =>
    intro l i v hn h
    match l, i with
    | [], i => simp at h
    | [a], 0 => simp [ws, wt]; omega
    | [a], i + 1 => simp at h
    | a :: c :: l, 0 => simp [ws, wt]; omega
    | a :: c :: l, 1 => simp [ws, wt]; omega
    | a :: c :: l, i + 2 =>
      have := ih (n - 2) (by simp at hn; omega) l i v (by simp at hn; omega) (by simp at h; omega)
      simp only [List.set_cons_succ, ws, this, List.getElem_cons_succ]
      have e : wt (i + 2) = wt i := by unfold wt; rw [show (i + 2) % 2 = i % 2 from by omega]
      rw [e]; omega
theorem ws_app (n : Nat) : ∀ (l m : List Int), l.length = 2 * n → ws (l ++ m) = ws l + ws m := by
  induction n with
  | zero => intro l m h; obtain rfl : l = [] := List.eq_nil_of_length_eq_zero (by omega); simp [ws]
  | succ n ih =>
    intro l m h
    match l with
    | [] => simp at h
    | [a] => simp at h; omega
    | a :: c :: l => simp only [List.cons_append, ws, ih l m (by simp at h; omega)]; omega
theorem bnums_of (xs : List Int) (h : By xs) : bnums (strOfNums xs) = xs := by
  unfold bnums strOfNums
  simp only [List.map_map]
  have : ∀ x ∈ xs, ((fun b : UInt8 => (b.toNat : Int)) ∘ fun n : Int => UInt8.ofNat n.toNat) x = x := by
    intro x hx
    have := h x hx
    simp only [Function.comp]
    rw [UInt8.toNat_ofNat']
    omega
  rw [List.map_congr_left this]
  simp
theorem ext_take (xs : List Int) (n : Nat) : (strOfNums xs).extract 0 n = strOfNums (xs.take n) := by
  apply ByteArray.ext
  apply Array.ext'
  simp [strOfNums, List.map_take]
theorem by_take (xs : List Int) (n : Nat) (h : By xs) : By (xs.take n) := fun x hx => h x (List.mem_of_mem_take hx)
theorem by_set (xs : List Int) (i : Nat) (y : Int) (h : By xs) (hy : 0 ≤ y ∧ y ≤ 255) : By (xs.set i y) := by
  intro x hx
  rcases List.mem_or_eq_of_mem_set hx with h1 | h1
  · exact h x h1
  · rw [h1]; exact hy
/-- the sum of a packet's head -/
theorem ws_pkt (T F p s d : Int) : ∃ k : Int, 0 ≤ k ∧ ws (pkt T F p s d) = 65535 * (k + 1) := by
  have h := ws_range 100 (ha T F p ++ hb s d) (by simp [ha, hb]) (by_app _ _ (by_ha T F p) (by_hb s d))
  have hp : 0 < ws (ha T F p ++ hb s d) := by
    have hr := ws_range 100 ([T / 256 % 256, T % 256, 0, 0, F / 256 % 256, F % 256, 0, p % 256] ++ hb s d) (by simp [hb]) (by intro x hx; simp [hb] at hx; omega)
    have : ws (ha T F p ++ hb s d) = 256 * 69 + 0 + ws ([T / 256 % 256, T % 256, 0, 0, F / 256 % 256, F % 256, 0, p % 256] ++ hb s d) := rfl
    omega
  have e : ws (pkt T F p s d) = ws (ha T F p ++ hb s d) + hsum T F p s d := by
    unfold pkt
    have hr : 0 ≤ hsum T F p s d ∧ hsum T F p s d ≤ 65535 := by unfold hsum; have := fd_range (ws (ha T F p ++ hb s d)); omega
    rw [List.append_assoc, ws_app 5 (ha T F p) _ rfl, ws_app 5 (ha T F p) _ rfl, ws_app 1 [_, _] _ rfl]
    simp only [ws]; omega
  rw [e]
  unfold hsum fd
  rw [if_neg (by omega)]
  exact ⟨(ws (ha T F p ++ hb s d) - 1) / 65535, by omega, by omega⟩
theorem sum_zero (q : ByteArray) (h : sum q = 0) : ws (bnums q) % 65535 = 0 := by
  unfold sum fd at h
  split at h
  · omega
  · omega
/-- one bit more or less -/
theorem xor_bit (x : Int) (e : Nat) (hx : 0 ≤ x ∧ x ≤ 255) (he : e < 8) : (bits .xor .u8 x (2 ^ e) = x + 2 ^ e ∨ bits .xor .u8 x (2 ^ e) = x - 2 ^ e) ∧ 0 ≤ bits .xor .u8 x (2 ^ e) ∧ bits .xor .u8 x (2 ^ e) ≤ 255 := by
  have h : ∀ (n : Fin 256) (e : Fin 8), (bits .xor .u8 (n.val : Int) (2 ^ e.val) = (n.val : Int) + 2 ^ e.val ∨ bits .xor .u8 (n.val : Int) (2 ^ e.val) = (n.val : Int) - 2 ^ e.val) ∧ 0 ≤ bits .xor .u8 (n.val : Int) (2 ^ e.val) ∧ bits .xor .u8 (n.val : Int) (2 ^ e.val) ≤ 255 := by decide +kernel
  obtain ⟨n, rfl⟩ := Int.eq_ofNat_of_zero_le hx.1
  exact h ⟨n, by omega⟩ ⟨e, he⟩
/-- what a bit weighs in the sum -/
def D (f : Nat) : Int := wt (f / 8) * 2 ^ (7 - f % 8)
theorem D_all : ∀ (p : Fin 152) (q : Fin 15), 0 < D (8 + p.val) ∧ D (8 + p.val) ≤ 32768 ∧ 0 < D (8 + p.val + 1 + q.val) ∧ D (8 + p.val) ≠ D (8 + p.val + 1 + q.val) ∧ D (8 + p.val) + D (8 + p.val + 1 + q.val) < 65535 := by decide +kernel
theorem shift_run (n : Int) (h : 0 ≤ n ∧ n < 8) (w : World) : Sem.run Try.prog (Op.shift .shr .u8 128 .i64 n) w = .ok (.int .u8 (2 ^ (7 - n.toNat))) w := by
  have : n = 0 ∨ n = 1 ∨ n = 2 ∨ n = 3 ∨ n = 4 ∨ n = 5 ∨ n = 6 ∨ n = 7 := by omega
  rcases this with rfl | rfl | rfl | rfl | rfl | rfl | rfl | rfl <;> first | rfl | kernel_rfl
/-- a head whose sum was zero, with bits turned, is none -/
theorem pe_turned (X : List Int) (hX : By X) (h20 : 20 ≤ X.length) (h0 : X[0]'(by omega) = 69) (hs : ws (X.take 20) % 65535 ≠ 0) (hz : X.length ≤ 1000) : pe (strOfNums X) ≠ 0 := by
  intro h
  have hsz : (strOfNums X).size = X.length := strOfNums_size X
  have b0 : nm (strOfNums X) 0 1 = 69 := by
    rw [nm1]
    have := bt_nums X 0 69 (by rw [List.getElem?_eq_getElem (by omega), h0]) (by omega)
    simpa using this
  have hst : pst (strOfNums X) = 20 := by unfold pst; rw [b0]; rfl
  unfold pe at h
  split at h
  · omega
  · split at h
    · omega
    · split at h
      · omega
      · split at h
        · omega
        · split at h
          · omega
          · rename_i h6
            have h6 := Decidable.not_not.1 h6
            have := sum_zero _ h6
            rw [hst, show ((20 : Int)).toNat = 20 from rfl, ext_take, bnums_of _ (by_take _ _ hX)] at this
            exact hs this
/-- a packet -/
def P (t : ByteArray) (F p s d : Int) : List Int := pkt (20 + (t.size : Int)) F p s d ++ bnums t
theorem P_by (t : ByteArray) (F p s d : Int) : By (P t F p s d) := by
  refine by_app _ _ ?_ (bn_by t)
  have hr : 0 ≤ hsum (20 + (t.size : Int)) F p s d ∧ hsum (20 + (t.size : Int)) F p s d ≤ 65535 := by unfold hsum; have := fd_range (ws (ha (20 + (t.size : Int)) F p ++ hb s d)); omega
  unfold pkt
  refine by_app _ _ (by_app _ _ (by_ha _ _ _) ?_) (by_hb _ _)
  intro x hx; simp at hx; omega
theorem P_len (t : ByteArray) (F p s d : Int) : (P t F p s d).length = 20 + t.size := by
  unfold P; rw [List.length_append, bn_length]; rfl
theorem P_take (t : ByteArray) (F p s d : Int) : (P t F p s d).take 20 = pkt (20 + (t.size : Int)) F p s d := by
  unfold P
  have : (pkt (20 + (t.size : Int)) F p s d).length = 20 := rfl
  rw [List.take_append_of_le_length (by omega), List.take_of_length_le (by omega)]
theorem P_at (t : ByteArray) (F p s d : Int) (i : Nat) (hi : i < 20) : bt (strOfNums (P t F p s d)) (i : Int) = (pkt (20 + (t.size : Int)) F p s d).getD i 0 := by
  have hl : (pkt (20 + (t.size : Int)) F p s d).length = 20 := rfl
  have h : (P t F p s d)[i]? = some ((pkt (20 + (t.size : Int)) F p s d).getD i 0) := by
    unfold P; rw [List.getElem?_append_left (by omega), List.getD_eq_getElem?_getD, List.getElem?_eq_getElem (by omega)]; rfl
  have hm : (pkt (20 + (t.size : Int)) F p s d).getD i 0 ∈ P t F p s d := List.mem_of_getElem? h
  exact bt_nums _ i _ h (P_by t F p s d _ hm)
theorem nm4 (s : ByteArray) (i : Int) : nm s i 4 = ((bt s i * 256 + bt s (i + 1)) * 256 + bt s (i + 2)) * 256 + bt s (i + 3) := by
  simp only [nm]
  rw [show i + ((0 : Nat) : Int) = i from by omega, show i + ((0 + 1 : Nat) : Int) = i + 1 from by omega, show i + ((0 + 1 + 1 : Nat) : Int) = i + 2 from by omega, show i + ((0 + 1 + 1 + 1 : Nat) : Int) = i + 3 from by omega]
  omega
/-- what a packet tells -/
theorem P_tells (t : ByteArray) (ht : t.size ≤ 200) (b : Bool) (off p s d : Int) (ho : 0 ≤ off ∧ off ≤ 8191) (hp : 0 ≤ p ∧ p ≤ 255) (hs : 0 ≤ s ∧ s ≤ 4294967295) (hd : 0 ≤ d ∧ d ≤ 4294967295) (F : Int) (hF : F = if b = true then off + 8192 else off) :
    pe (strOfNums (P t F p s d)) = 0 ∧ pv (strOfNums (P t F p s d)) 0 = 0 ∧ pv (strOfNums (P t F p s d)) 1 = s ∧ pv (strOfNums (P t F p s d)) 2 = 0 ∧ pv (strOfNums (P t F p s d)) 3 = d ∧ pv (strOfNums (P t F p s d)) 4 = p ∧ pv (strOfNums (P t F p s d)) 5 = 20 ∧ pv (strOfNums (P t F p s d)) 6 = 20 + (t.size : Int) ∧ pv (strOfNums (P t F p s d)) 7 = off ∧ pm (strOfNums (P t F p s d)) = b := by
  have hz : (strOfNums (P t F p s d)).size = 20 + t.size := by rw [strOfNums_size, P_len]
  have B := P_at t F p s d
  have x0 : bt (strOfNums (P t F p s d)) 0 = (pkt (20 + (t.size : Int)) F p s d).getD 0 0 := B 0 (by decide); have x2 : bt (strOfNums (P t F p s d)) 2 = (pkt (20 + (t.size : Int)) F p s d).getD 2 0 := B 2 (by decide); have x3 : bt (strOfNums (P t F p s d)) 3 = (pkt (20 + (t.size : Int)) F p s d).getD 3 0 := B 3 (by decide); have x6 : bt (strOfNums (P t F p s d)) 6 = (pkt (20 + (t.size : Int)) F p s d).getD 6 0 := B 6 (by decide); have x7 : bt (strOfNums (P t F p s d)) 7 = (pkt (20 + (t.size : Int)) F p s d).getD 7 0 := B 7 (by decide); have x9 : bt (strOfNums (P t F p s d)) 9 = (pkt (20 + (t.size : Int)) F p s d).getD 9 0 := B 9 (by decide)
  have x12 : bt (strOfNums (P t F p s d)) 12 = (pkt (20 + (t.size : Int)) F p s d).getD 12 0 := B 12 (by decide); have x13 : bt (strOfNums (P t F p s d)) 13 = (pkt (20 + (t.size : Int)) F p s d).getD 13 0 := B 13 (by decide); have x14 : bt (strOfNums (P t F p s d)) 14 = (pkt (20 + (t.size : Int)) F p s d).getD 14 0 := B 14 (by decide); have x15 : bt (strOfNums (P t F p s d)) 15 = (pkt (20 + (t.size : Int)) F p s d).getD 15 0 := B 15 (by decide); have x16 : bt (strOfNums (P t F p s d)) 16 = (pkt (20 + (t.size : Int)) F p s d).getD 16 0 := B 16 (by decide); have x17 : bt (strOfNums (P t F p s d)) 17 = (pkt (20 + (t.size : Int)) F p s d).getD 17 0 := B 17 (by decide); have x18 : bt (strOfNums (P t F p s d)) 18 = (pkt (20 + (t.size : Int)) F p s d).getD 18 0 := B 18 (by decide); have x19 : bt (strOfNums (P t F p s d)) 19 = (pkt (20 + (t.size : Int)) F p s d).getD 19 0 := B 19 (by decide)
  clear B
  simp only [pkt, ha, hb, List.cons_append, List.nil_append, List.getD_cons_succ, List.getD_cons_zero] at x0 x2 x3 x6 x7 x9 x12 x13 x14 x15 x16 x17 x18 x19
  have n0 : nm (strOfNums (P t F p s d)) 0 1 = 69 := by rw [nm1]; exact x0
  have n2 : nm (strOfNums (P t F p s d)) 2 2 = 20 + (t.size : Int) := by rw [nm2, show (2 : Int) + 1 = 3 from rfl, x2, x3]; omega
  have hF2 : 0 ≤ F ∧ F ≤ 16383 := by rw [hF]; split <;> omega
  have n6 : nm (strOfNums (P t F p s d)) 6 2 = F := by rw [nm2, show (6 : Int) + 1 = 7 from rfl, x6, x7]; omega
  have n9 : nm (strOfNums (P t F p s d)) 9 1 = p := by rw [nm1, x9]; omega
  have n12 : nm (strOfNums (P t F p s d)) 12 4 = s := by rw [nm4, show (12 : Int) + 1 = 13 from rfl, show (12 : Int) + 2 = 14 from rfl, show (12 : Int) + 3 = 15 from rfl, x12, x13, x14, x15]; omega
  have n16 : nm (strOfNums (P t F p s d)) 16 4 = d := by rw [nm4, show (16 : Int) + 1 = 17 from rfl, show (16 : Int) + 2 = 18 from rfl, show (16 : Int) + 3 = 19 from rfl, x16, x17, x18, x19]; omega
  have hst : pst (strOfNums (P t F p s d)) = 20 := by unfold pst; rw [n0]; rfl
  obtain ⟨k, hk0, hk⟩ := ws_pkt (20 + (t.size : Int)) F p s d
  have hsum : sum ((strOfNums (P t F p s d)).extract 0 ((20 : Int)).toNat) = 0 := by
    unfold sum
    rw [show ((20 : Int)).toNat = 20 from rfl, ext_take, P_take, bnums_of _ (by rw [← P_take]; exact by_take _ _ (P_by t F p s d)), hk]
    unfold fd
    rw [if_neg (by omega)]; omega
  have h0 : pe (strOfNums (P t F p s d)) = 0 := by
    unfold pe
    rw [if_neg (by omega), if_neg (by rw [n0]; decide), hst, if_neg (by omega), n2, if_neg (by omega), if_neg (by rw [hsum]; decide)]
  have hv : ∀ i, pv (strOfNums (P t F p s d)) i = (match i with | 1 => nm (strOfNums (P t F p s d)) 12 4 | 3 => nm (strOfNums (P t F p s d)) 16 4 | 4 => nm (strOfNums (P t F p s d)) 9 1 | 5 => pst (strOfNums (P t F p s d)) | 6 => nm (strOfNums (P t F p s d)) 2 2 | 7 => nm (strOfNums (P t F p s d)) 6 2 % 8192 | _ => 0) := fun i => by unfold pv; rw [if_pos h0]; rfl
  refine ⟨h0, hv 0, (hv 1).trans n12, hv 2, (hv 3).trans n16, (hv 4).trans n9, (hv 5).trans hst, (hv 6).trans n2, (hv 7).trans ?_, ?_⟩
  · show nm _ 6 2 % 8192 = off
    rw [n6, hF]; split <;> omega
  · unfold pm
    rw [if_pos h0, n6, hF]
    cases b with
    | true => rw [if_pos rfl]; exact beq_iff_eq.2 (by omega)
    | false => rw [if_neg (by decide)]; exact beq_eq_false_iff_ne.2 (by omega)
/-- a byte less, and there is no packet -/
theorem P_less (t : ByteArray) (ht : t.size ≤ 200) (F p s d : Int) : pe ((strOfNums (P t F p s d)).extract 0 ((strOfNums (P t F p s d)).size - 1)) ≠ 0 := by
  have hz : (strOfNums (P t F p s d)).size = 20 + t.size := by rw [strOfNums_size, P_len]
  rw [hz]
  have hq : ((strOfNums (P t F p s d)).extract 0 (20 + t.size - 1)).size = 19 + t.size := by rw [ByteArray.size_extract, hz]; omega
  by_cases h5 : t.size = 0
  · unfold pe; rw [if_pos (by omega)]; decide
  · have e1 : nm ((strOfNums (P t F p s d)).extract 0 (20 + t.size - 1)) 0 1 = 69 := by
      rw [nm1]
      have := bt_ext (strOfNums (P t F p s d)) 0 (20 + t.size - 1) 0 (by omega) (by omega)
      have h0 := P_at t F p s d 0 (by decide)
      simp only [Int.natCast_zero, Int.add_zero] at this h0
      rw [this, h0]; rfl
    have e2 : nm ((strOfNums (P t F p s d)).extract 0 (20 + t.size - 1)) 2 2 = 20 + (t.size : Int) := by
      rw [nm2]
      have a2 := bt_ext (strOfNums (P t F p s d)) 0 (20 + t.size - 1) 2 (by omega) (by omega)
      have a3 := bt_ext (strOfNums (P t F p s d)) 0 (20 + t.size - 1) 3 (by omega) (by omega)
      have h2 := P_at t F p s d 2 (by decide); have h3 := P_at t F p s d 3 (by decide)
      have z2 : ((2 : Nat) : Int) = 2 := rfl
      have z3 : ((3 : Nat) : Int) = 3 := rfl
      rw [z2] at a2 h2; rw [z3] at a3 h3
      simp only [Int.natCast_zero, Int.zero_add] at a2 a3
      rw [show (2 : Int) + 1 = 3 from rfl, a2, a3, h2, h3]
      simp only [pkt, ha, List.cons_append, List.nil_append, List.getD_cons_succ, List.getD_cons_zero]
      omega
    have hst : pst ((strOfNums (P t F p s d)).extract 0 (20 + t.size - 1)) = 20 := by unfold pst; rw [e1]; rfl
    unfold pe
    rw [if_neg (by omega), if_neg (by rw [e1]; decide), hst, if_neg (by omega), e2, if_pos (by omega)]
    decide
/-- one bit turned -/
theorem turn_one (t : ByteArray) (ht : t.size ≤ 200) (F p s d : Int) (f : Nat) (hf : 8 ≤ f ∧ f < 160) (hD : 0 < D f ∧ D f < 65535) : let X := (P t F p s d).set (f / 8) (bits .xor .u8 ((P t F p s d).getD (f / 8) 0) (2 ^ (7 - f % 8)))
    pe (strOfNums X) ≠ 0 ∧ By X ∧ X.length = 20 + t.size ∧ (∃ u : Int, (u = D f ∨ u = - D f) ∧ ws (X.take 20) = ws (pkt (20 + (t.size : Int)) F p s d) + u) ∧ X[0]? = some 69 := by
  intro X
  have hl : (P t F p s d).length = 20 + t.size := P_len t F p s d
  have hi : f / 8 < (P t F p s d).length := by omega
  have hg : (P t F p s d).getD (f / 8) 0 = (P t F p s d)[f / 8] := by rw [List.getD_eq_getElem?_getD, List.getElem?_eq_getElem hi]; rfl
  have hx := P_by t F p s d _ (List.getElem_mem hi)
  obtain ⟨h1, h2⟩ := xor_bit ((P t F p s d)[f / 8]) (7 - f % 8) hx (by omega)
  have hXb : By X := by show By ((P t F p s d).set _ _); rw [hg]; exact by_set _ _ _ (P_by t F p s d) h2
  have hXl : X.length = 20 + t.size := by show ((P t F p s d).set _ _).length = _; rw [List.length_set, hl]
  have h0 : X[0]? = some 69 := by
    show ((P t F p s d).set _ _)[0]? = _
    rw [List.getElem?_set_ne (by omega)]; rfl
  have hu : ∃ u : Int, (u = D f ∨ u = - D f) ∧ ws (X.take 20) = ws (pkt (20 + (t.size : Int)) F p s d) + u := by
    have e : X.take 20 = (pkt (20 + (t.size : Int)) F p s d).set (f / 8) (bits .xor .u8 ((P t F p s d)[f / 8]) (2 ^ (7 - f % 8))) := by
      show ((P t F p s d).set _ _).take 20 = _
      rw [hg, List.take_set, P_take]
    have hi' : f / 8 < (pkt (20 + (t.size : Int)) F p s d).length := by show f / 8 < 20; omega
    have hs := ws_set 20 (pkt (20 + (t.size : Int)) F p s d) (f / 8) (bits .xor .u8 ((P t F p s d)[f / 8]) (2 ^ (7 - f % 8))) (Nat.le_refl _) hi'
    have hq : (pkt (20 + (t.size : Int)) F p s d)[f / 8] = (P t F p s d)[f / 8] := by
      have : (P t F p s d)[f / 8]? = (pkt (20 + (t.size : Int)) F p s d)[f / 8]? := by unfold P; rw [List.getElem?_append_left hi']
      rw [List.getElem?_eq_getElem hi, List.getElem?_eq_getElem hi'] at this
      exact (Option.some.inj this).symm
    rw [e, hs, hq]
    refine ⟨_, ?_, rfl⟩
    unfold D
    rcases h1 with h1 | h1
    · left; rw [h1]; congr 1; omega
    · right; rw [h1, ← Int.mul_neg]; congr 1; omega
  refine ⟨?_, hXb, hXl, hu, h0⟩
  obtain ⟨u, hu1, hu2⟩ := hu
  obtain ⟨k, hk0, hk⟩ := ws_pkt (20 + (t.size : Int)) F p s d
  refine pe_turned X hXb (by omega) ?_ (by rw [hu2, hk]; omega) (by omega)
  rw [List.getElem?_eq_getElem (by omega)] at h0
  exact Option.some.inj h0
/-- two bits turned -/
theorem turn_two (t : ByteArray) (ht : t.size ≤ 200) (F p s d : Int) (f g : Nat) (hf : 8 ≤ f ∧ f < 160) (hg : 8 ≤ g ∧ g < 160) (hD : 0 < D f ∧ 0 < D g ∧ D f ≠ D g ∧ D f + D g < 65535) : let X := (P t F p s d).set (f / 8) (bits .xor .u8 ((P t F p s d).getD (f / 8) 0) (2 ^ (7 - f % 8)))
    pe (strOfNums (X.set (g / 8) (bits .xor .u8 (X.getD (g / 8) 0) (2 ^ (7 - g % 8))))) ≠ 0 ∧ (X.set (g / 8) (bits .xor .u8 (X.getD (g / 8) 0) (2 ^ (7 - g % 8)))).length = 20 + t.size := by
  intro X
  obtain ⟨_, hXb, hXl, ⟨u, hu1, hu2⟩, h0⟩ := turn_one t ht F p s d f hf (by omega)
  change By X at hXb
  change X.length = 20 + t.size at hXl
  change ws (X.take 20) = _ at hu2
  change X[0]? = some 69 at h0
  have hi : g / 8 < X.length := by omega
  have hgd : X.getD (g / 8) 0 = X[g / 8] := by rw [List.getD_eq_getElem?_getD, List.getElem?_eq_getElem hi]; rfl
  have hx := hXb _ (List.getElem_mem hi)
  obtain ⟨h1, h2⟩ := xor_bit (X[g / 8]) (7 - g % 8) hx (by omega)
  rw [hgd]
  refine ⟨?_, by rw [List.length_set, hXl]⟩
  have hi' : g / 8 < (X.take 20).length := by rw [List.length_take]; omega
  have hs := ws_set 20 (X.take 20) (g / 8) (bits .xor .u8 (X[g / 8]) (2 ^ (7 - g % 8))) (by rw [List.length_take]; omega) hi'
  have hq : (X.take 20)[g / 8] = X[g / 8] := List.getElem_take
  obtain ⟨k, hk0, hk⟩ := ws_pkt (20 + (t.size : Int)) F p s d
  have hv : ∃ v : Int, (v = D g ∨ v = - D g) ∧ wt (g / 8) * (bits .xor .u8 (X[g / 8]) (2 ^ (7 - g % 8)) - X[g / 8]) = v := by
    refine ⟨_, ?_, rfl⟩
    unfold D
    rcases h1 with h1 | h1
    · left; rw [h1]; congr 1; omega
    · right; rw [h1, ← Int.mul_neg]; congr 1; omega
  obtain ⟨v, hv1, hv2⟩ := hv
  refine pe_turned _ (by_set _ _ _ hXb h2) (by rw [List.length_set]; omega) ?_ (by rw [List.take_set, hs, hq, hv2, hu2, hk]; omega) (by rw [List.length_set]; omega)
  have : (X.set (g / 8) (bits .xor .u8 (X[g / 8]) (2 ^ (7 - g % 8))))[0]? = some 69 := by rw [List.getElem?_set_ne (by omega)]; exact h0
  rw [List.getElem?_eq_getElem (by rw [List.length_set]; omega)] at this
  exact Option.some.inj this
end Go.Proofs.Ytlnnghbbjbimoaa.Ipv4BV
