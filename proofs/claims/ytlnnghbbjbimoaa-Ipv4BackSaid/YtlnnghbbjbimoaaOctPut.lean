/- octets.PutU16 and PutBool, PutVar: bytes appended to a slice whose capacity was cut: always in new memory. -/
import Derived.Test.YtlnnghbbjbimoaaProg
import Derived.Test.YtlnnghbbjbimoaaWWords
import Derived.Test.YtlnnghbbjbimoaaWMore
import Derived.WalkKit
import Derived.Outline
import Derived.ArgAppend
import Derived.Deep.Onto
import Derived.OwnWalk
import Derived.RowKit3
import Derived.WalkLawsBesides
import Derived.WalkSpells
import Derived.Deep.LoopGhost
import Derived.Lib.Hide
import Derived.Laws.BitsLemmas
import Derived.Laws.Bits64
namespace Go.Proofs.Ytlnnghbbjbimoaa.OctPut
open Go.RowKit Go.Proofs.YtlnnghbbjbimoaaW.PrintWords Go.Proofs.YtlnnghbbjbimoaaW.PrintLast Go.Proofs.YtlnnghbbjbimoaaW.PrintMore
set_option linter.unusedVariables false
set_option linter.unusedSimpArgs false

theorem infoB : (Try.prog.info? 5).map (fun i => (i.zero, i.size, i.bytes)) = some (some (.int .u8 0), 1, 1) := by kernel_rfl

/-- What the append law asks of a row that is read. -/
theorem row_facts {A0 : Option Addr} {l0 : List Int} {w : World} (h : Kd.C (Kd.int .u8) w A0 l0.length l0) :
    l0.length ≤ 9223372036854775807 ∧ (A0 = none → l0.length = 0 ∧ l0.length = 0) ∧ ∀ b, A0 = some b → ∀ j u, (l0.map (Value.int .u8))[j]? = some u → w.cell? (b.add j) = some u := by
  refine ⟨h.2.1, fun e => ?_, fun b e j u hj => ?_⟩
  · rcases Nat.eq_zero_or_pos l0.length with h0 | h0
    · exact ⟨h0, h0⟩
    · obtain ⟨ad, he, _⟩ := h.2.2 h0
      rw [e] at he; cases he
  · have hlt : j < l0.length := by
      rcases Nat.lt_or_ge j l0.length with h0 | h0
      · exact h0
      · rw [List.getElem?_eq_none (by simpa using h0)] at hj; cases hj
    obtain ⟨ad, he, hc⟩ := h.2.2 (by omega)
    rw [e] at he; obtain rfl := Option.some.inj he
    obtain ⟨c, hl, hk, hcell⟩ := hc j _ (List.getElem?_eq_getElem hlt)
    have hk' : c = [Value.int .u8 l0[j]] := hk
    subst hk'
    have := hcell 0 _ rfl
    rw [List.getElem?_map, List.getElem?_eq_getElem hlt] at hj
    rw [← Option.some.inj hj]
    have e2 : j * (Kd.int .u8).sz + 0 = j := by show j * 1 + 0 = j; omega
    rw [e2] at this
    exact this
theorem R_of_u8 {w : World} {base : Nat} {v : Value} {xs : List Int} {vs : List Value} {n : Nat} (ho : w.ownsRow base 5 1 v n vs) (hv : vs = xs.map (Value.int .u8)) (hn : n = xs.length) : Kd.R (Kd.int .u8) 5 w base (fun _ => True) v xs := by
  subst hv hn
  exact Kd.R_of_own ho (fun _ _ => trivial)

set_option maxRecDepth 100000 in
set_option maxHeartbeats 400000 in
theorem putU16_calls (A0 : Option Addr) (c0 : Nat) (l0 : List Int) (n : Int) (w : World) (hr0 : Kd.C (Kd.int .u8) w A0 l0.length l0) (hc0 : l0.length ≤ c0) (hb : l0.length + 2 ≤ 140737488355328) :
    Calls Try.prog 20 #[.slice A0 l0.length c0, .int .i64 n] w fun e w' => ∃ v0_ : Value, e = .returned v0_ ∧ Kd.R (Kd.int .u8) 5 w' w.heap.size (fun _ => True) v0_ (l0 ++ [n / 256 % 256, n % 256]) ∧ Below w.heap.size w w' := by
  obtain ⟨i0, hi, hz0, hz1, hz2⟩ := info_parts infoB
  obtain ⟨hm, hnone, hcells⟩ := row_facts hr0
  have HN := Lib.hid hnone; clear hnone
  have HC := Lib.hid hcells; clear hcells hr0
  go_enter Try.func20, Try.ntmps20
  go_wp2_with (at_builtin; refine wpList_append_grows _ rfl (.tmp 10) (.tmp 16) 22 rfl 5 i0 (.int .u8 0) 1 1 Try.underlying22 hi hz0 hz1 hz2 rfl (by decide) A0 l0.length l0.length (l0.map (Value.int .u8)) rfl ?c1 ?c2 ?c3 ⟨w.heap.size, 0, none⟩ 2 2 [.int .u8 (n / 256 % 256), .int .u8 (n % 256)] rfl rfl ?c4 ?c5 (by omega) (by unfold maxLen; omega) (by omega) ?grow)
  case c1 => exact HN.out
  case c2 => simp
  case c3 => intro b hb' j u hj; exact (World.cell?_alloc_lt _ _ _ (World.block_lt_of_cell? _ _ (HC.out b hb' j u hj))).trans (HC.out b hb' j u hj)
  case c4 => intro j u hj; match j, hj with | 0, hj => simp at hj; subst hj; simp [Addr.add] | 1, hj => simp at hj; subst hj; simp [Addr.add]
  case c5 => intro u hu; simp at hu; rcases hu with rfl | rfl <;> rfl
  case grow =>
    intro v' w' hown hgrow
    have HO := Lib.hid hown; clear hown
    have HG := Lib.hid hgrow; clear hgrow
    go_wp2
    go_ret
    refine ⟨v', rfl, ?_, ?_⟩
    · exact R_of_u8 (HO.out.mono (by simp)) (by simp) (by simp)
    · exact ((Below.refl _ _).alloc (Nat.le_refl _) _).grown HG.out (by simp) (fun k h => by cases h)

/-- A slice that was read and whose capacity ends at its length, or a row of the call's own. -/
def Part (w : World) (base : Nat) (v : Value) (n : Nat) (xs : List Value) : Prop :=
  (∃ ao, v = .slice ao n n ∧ (ao = none → n = 0 ∧ n = 0) ∧ xs.length = n * 1 ∧ ∀ b, ao = some b → ∀ j u, xs[j]? = some u → w.cell? (b.add j) = some u) ∨ w.ownsRow base 5 1 v n xs
theorem Part.below {w w1 : World} {base : Nat} {v : Value} {n : Nat} {xs : List Value} (h : Part w base v n xs) (hb : Below w.heap.size w w1) : Part w1 base v n xs := by
  rcases h with ⟨ao, h1, h2, h3, h4⟩ | h
  · exact .inl ⟨ao, h1, h2, h3, fun b hb' j u hj => pw_cell_below hb (h4 b hb' j u hj)⟩
  · exact .inr (pw_own_below h hb)
theorem wpList_append_part {P : Program} (w : World) {ops : Array Oper} {rest : List Oper} {o : Oper} {a : Act} {Q : Exit → Act → World → Prop}
    (hg : o.guard = none) (s x : Operand) (t : TypeId) (hop : o.op = Op.call { callee := Callee.builtin Builtin.append, args := #[s, x], argTypes := #[t, t] })
    (i : TypeInfo) (h1 : P.underlying t = some (.slice 5)) (h2 : P.info? 5 = some i) (h3 : i.zero = some (.int .u8 0)) (h4 : i.size = 1) (h5 : i.bytes = 1)
    (v : Value) (n base : Nat) (xs : List Value) (hs : a.eval s = v) (hp : Part w base v n xs)
    (ad : Addr) (m c : Nat) (news : List Value) (hx : a.eval x = .slice (some ad) m c) (hn : news.length = m * 1) (hc : ∀ j u, news[j]? = some u → w.cell? (ad.add j) = some u) (h1c : ∀ u ∈ news, u.oneCell' = true)
    (hm : 0 < m) (b1 : n + m ≤ maxLen) (b2 : (n + m) * 1 ≤ 140737488355328) (w0 : World) (hB : Below w0.heap.size w0 w) (hbase : base = w0.heap.size)
    (hK : ∀ v' w', w'.ownsRow base 5 1 v' (n + m) (xs ++ news) → Below w0.heap.size w0 w' → wpList P ops Q rest (a.put o.dst v') w') :
    wpList P ops Q (o :: rest) a w := by
  subst hbase
  rcases hp with ⟨ao, rfl, hnone, hlo, hcell⟩ | hown
  · refine wpList_append_grows w hg s x t hop 5 i (.int .u8 0) 1 1 h1 h2 h3 h4 h5 rfl (by decide) ao n n xs hs hnone hlo hcell ad m c news hx hn hc h1c (by omega) b1 b2 ?_
    intro v' w' ho hgr
    exact hK v' w' (ho.mono hB.size) (hB.grown hgr hB.size (fun k h => by cases h))
  · refine wpList_append_own w hg s x t hop w0.heap.size 5 i (.int .u8 0) 1 1 h1 h2 h3 h4 h5 rfl (by decide) v n xs hs hown ad m c news hx hn hc h1c b1 b2 hB.size ?_
    intro v' w' ho hgr _
    exact hK v' w' ho (hB.grown hgr hB.size (fun k hk => own_base hown k hk))
theorem part_of_C {A0 : Option Addr} {l0 : List Int} {w : World} (base : Nat) (h : Kd.C (Kd.int .u8) w A0 l0.length l0) : Part w base (.slice A0 l0.length l0.length) l0.length (l0.map (Value.int .u8)) := by
  obtain ⟨hm, hnone, hcells⟩ := row_facts h
  exact .inl ⟨A0, rfl, hnone, by simp, hcells⟩

/-- A number's code without its sign, and the bytes of a code. -/
def zig (n : Int) : Int := if 0 ≤ n then 2 * n else -2 * n - 1
def vb : Nat → Int → List Int
  | 0, x => [x]
  | k + 1, x => if x < 128 then [x] else (x % 128 + 128) :: vb k (x / 128)
theorem zig_range {n : Int} (h : -9223372036854775808 ≤ n ∧ n ≤ 9223372036854775807) : 0 ≤ zig n ∧ zig n < 18446744073709551616 := by unfold zig; split <;> omega
theorem xor_all (m : Nat) (h : m < 18446744073709551616) : m ^^^ 18446744073709551615 = 18446744073709551615 - m := by
  have h' : m < 2 ^ 64 := h
  show m ^^^ (2 ^ 64 - 1) = 2 ^ 64 - 1 - m
  apply Nat.eq_of_testBit_eq
  intro i
  rw [Nat.testBit_xor, Nat.testBit_two_pow_sub_one, show 2 ^ 64 - 1 - m = 2 ^ 64 - (m + 1) by omega, Nat.testBit_two_pow_sub_succ h']
  by_cases hi : i < 64
  · simp [hi]
  · have : m.testBit i = false := Nat.testBit_lt_two_pow (Nat.lt_of_lt_of_le h' (Nat.pow_le_pow_right (by decide) (by omega)))
    simp [hi, this]
theorem zig_walk {n : Int} (h : -9223372036854775808 ≤ n ∧ n ≤ 9223372036854775807) : bits .xor .u64 (IntKind.u64.wrap (wrap64 (n * 2))) (IntKind.u64.wrap (n / 9223372036854775808)) = zig n := by
  have e1 : IntKind.u64.wrap (wrap64 (n * 2)) = if 0 ≤ n then 2 * n else 2 * n + 18446744073709551616 := by
    rw [IntKind.wrap_u64]; unfold wrap64; split <;> omega
  have e2 : IntKind.u64.wrap (n / 9223372036854775808) = if 0 ≤ n then 0 else 18446744073709551615 := by
    rw [IntKind.wrap_u64]; split <;> omega
  rw [e1, e2]
  unfold zig
  by_cases hn : 0 ≤ n
  · simp only [if_pos hn]
    obtain ⟨m, hm⟩ := Int.eq_ofNat_of_zero_le (show 0 ≤ 2 * n by omega)
    rw [hm, show (0 : Int) = ((0 : Nat) : Int) from rfl, bits_xor_u64_nat m 0 (by omega) (by omega), Nat.xor_zero]
  · simp only [if_neg hn]
    obtain ⟨m, hm⟩ := Int.eq_ofNat_of_zero_le (show 0 ≤ 2 * n + 18446744073709551616 by omega)
    rw [hm, show (18446744073709551615 : Int) = ((18446744073709551615 : Nat) : Int) from rfl, bits_xor_u64_nat m 18446744073709551615 (by omega) (by omega)]
    rw [xor_all m (by omega)]; omega
theorem code_byte {x : Int} (h0 : 0 ≤ x) (h1 : x < 18446744073709551616) : bits .or .u64 (bits .and .u64 x 127) 128 = x % 128 + 128 := by
  have e1 : bits .and .u64 x 127 = x % 128 := bits_mask .u64 64 (by decide) (fun n h0 h1 => by rw [IntKind.wrap_u64]; omega) 7 (by decide) x h0 (by omega)
  rw [e1]
  have e2 : bits .or .u64 (x % 128) 128 = bits .or .u64 128 (x % 128) := by
    obtain ⟨m, hm⟩ := Int.eq_ofNat_of_zero_le (show 0 ≤ x % 128 by omega)
    rw [hm, show (128 : Int) = ((128 : Nat) : Int) from rfl]
    rw [(bits_nat .u64 64 (by decide) (fun n h0 h1 => by rw [IntKind.wrap_u64]; omega) m 128 (by omega) (by omega)).2, (bits_nat .u64 64 (by decide) (fun n h0 h1 => by rw [IntKind.wrap_u64]; omega) 128 m (by omega) (by omega)).2, Nat.or_comm]
  rw [e2, bits_join .u64 64 (by decide) (fun n h0 h1 => by rw [IntKind.wrap_u64]; omega) 7 128 (x % 128) (by decide) (by decide) (by decide) (by omega) (by omega) (by omega)]
  omega
theorem vb_small (k : Nat) {x : Int} (h : x < 128) : vb k x = [x] := by
  cases k with
  | zero => rfl
  | succ k => simp only [vb]; rw [if_pos h]
theorem vb_big (k : Nat) {x : Int} (h : ¬ x < 128) : vb (k + 1) x = (x % 128 + 128) :: vb k (x / 128) := by simp only [vb]; rw [if_neg h]

set_option maxRecDepth 100000 in
set_option maxHeartbeats 800000 in
theorem putVar_calls (A0 : Option Addr) (c0 : Nat) (l0 : List Int) (n : Int) (w : World) (hr0 : Kd.C (Kd.int .u8) w A0 l0.length l0) (hc0 : l0.length ≤ c0) (hb : l0.length + 10 ≤ 140737488355328) (hn : -9223372036854775808 ≤ n ∧ n ≤ 9223372036854775807) :
    Calls Try.prog 24 #[.slice A0 l0.length c0, .int .i64 n] w fun e w' => ∃ v0_ : Value, e = .returned v0_ ∧ Kd.R (Kd.int .u8) 5 w' w.heap.size (fun _ => True) v0_ (l0 ++ vb 9 (zig n)) ∧ Below w.heap.size w w' := by
  obtain ⟨i0, hi, hz0, hz1, hz2⟩ := info_parts infoB
  have hl := hr0.2.1
  have HP := Lib.hid (part_of_C w.heap.size hr0); clear hr0
  have hz := zig_walk hn
  obtain ⟨z0, z1⟩ := zig_range hn
  generalize zig n = z at *
  go_enter Try.func24, Try.ntmps24
  have hz' : z < 2 ^ (7 * 9 + 1) := z1
  go_wp2_with fail
  have HZ := Lib.hid hz; clear hz
  have HZ' := Lib.hid hz'; clear hz'
  go_loopg [0, 5] 9 (fun k v x wr => ∃ (x' : Int) (pre : List Int), 0 ≤ x' ∧ x' < 18446744073709551616 ∧ k ≤ 9 ∧ Hid (pre.length + k = 9) ∧ Hid (x' < 2 ^ (7 * k + 1)) ∧ x = .int .u64 x' ∧ Hid (pre ++ vb k x' = vb 9 z) ∧ Hid (Part wr w.heap.size v (l0.length + pre.length) ((l0 ++ pre).map (Value.int .u8))) ∧ Hid (Below w.heap.size w wr))
  case atStart => exact ⟨z, [], z0, z1, by omega, Lib.hid rfl, HZ', rfl, Lib.hid rfl, by simpa using HP, Lib.hid (Below.refl _ _)⟩
  case round =>
    obtain ⟨x', pre, hx0, hx1, hk9, HL, HX, rfl, HV, HPP, HB⟩ := hrel
    have hpl : pre.length ≤ 9 := by have := HL.out; omega
    have hbyte := code_byte hx0 hx1
    by_cases hge : 128 ≤ x'
    · have hf : decide (128 ≤ x') = true := decide_eq_true hge
      obtain ⟨k, HK⟩ : ∃ k, Hid (gk = k + 1) := by
        refine ⟨gk - 1, Lib.hid ?_⟩
        rcases Nat.eq_zero_or_pos gk with h0 | h0
        · have := HX.out; rw [h0] at this; simp at this; omega
        · omega
      go_wp2_with (at_builtin; refine wpList_append_part _ rfl (.tmp 23) (.tmp 28) 22 rfl i0 Try.underlying22 hi hz0 hz1 hz2 _ (l0.length + pre.length) w.heap.size ((l0 ++ pre).map (Value.int .u8)) rfl ?c1 ⟨wr.heap.size, 0, none⟩ 1 1 [.int .u8 (x' % 128 + 128)] rfl rfl ?c2 ?c3 (by decide) (by unfold maxLen; omega) (by omega) w ?c4 rfl ?c5)
      case c1 => exact HPP.out.below ((Below.refl _ _).alloc (Nat.le_refl _) _)
      case c2 => intro j u hj; match j, hj with | 0, hj => simp at hj; subst hj; simp [Addr.add]
      case c3 => first | rfl | (intro u hu; simp at hu; subst hu; rfl)
      case c4 => exact HB.out.alloc HB.out.size _
      case c5 =>
        intro v' w' hown hbel
        have HO := Lib.hid hown; clear hown
        have HB' := Lib.hid hbel; clear hbel
        go_wp2
        go_roundg k
        case measure => have := HK.out; omega
        case rel =>
          have hk := HK.out
          refine ⟨x' / 128, pre ++ [x' % 128 + 128], by omega, by omega, by omega, Lib.hid ?_, Lib.hid ?_, rfl, Lib.hid ?_, Lib.hid (.inr ?_), HB'⟩
          · have := HL.out; simp; omega
          · have := HX.out
            rw [hk, show 7 * (k + 1) + 1 = 7 * k + 1 + 7 from by omega, Int.pow_add] at this
            have h2 : (2 : Int) ^ 7 = 128 := by decide
            rw [h2] at this; omega
          · rw [← HV.out, hk, vb_big k (by omega)]; simp
          · have := HO.out
            simpa [List.map_append, Nat.add_assoc] using this
    · have hf : decide (128 ≤ x') = false := decide_eq_false hge
      go_wp2_with (at_builtin; refine wpList_append_part _ rfl (.tmp 30) (.tmp 33) 22 rfl i0 Try.underlying22 hi hz0 hz1 hz2 _ (l0.length + pre.length) w.heap.size ((l0 ++ pre).map (Value.int .u8)) rfl ?c1 ⟨wr.heap.size, 0, none⟩ 1 1 [.int .u8 x'] rfl rfl ?c2 ?c3 (by decide) (by unfold maxLen; omega) (by omega) w ?c4 rfl ?c5)
      case c1 => have := HPP.out.below ((Below.refl _ _).alloc (Nat.le_refl _) (Obj.cells #[Value.int IntKind.u8 x'] 5)); simpa [List.map_append] using this
      case c3 => first | rfl | (intro u hu; simp at hu; subst hu; rfl)
      case c4 => exact HB.out.alloc HB.out.size _
      case c5 =>
        intro v' w' hown hbel
        have HO := Lib.hid hown; clear hown
        have HB' := Lib.hid hbel; clear hbel
        go_wp2
        go_ret
        refine ⟨v', rfl, ?_, HB'.out⟩
        rw [← HV.out, vb_small gk (by omega), ← List.append_assoc]
        exact R_of_u8 HO.out (by simp) (by simp [Nat.add_assoc])

end Go.Proofs.Ytlnnghbbjbimoaa.OctPut
