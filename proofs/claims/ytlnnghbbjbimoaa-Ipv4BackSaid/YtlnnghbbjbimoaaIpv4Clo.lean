/- ipv4.Parse's closure, walked way by way. -/
import Derived.Test.YtlnnghbbjbimoaaIpv4Addr
import Derived.Test.YtlnnghbbjbimoaaTry
import Derived.Laws.EntriesVeiled
namespace Go.Proofs.Ytlnnghbbjbimoaa.Ipv4Clo
open Go Go.RowKit Go.Proofs.Ytlnnghbbjbimoaa.Reader Go.Proofs.Ytlnnghbbjbimoaa.Ipv4Addr Go.Proofs.Ytlnnghbbjbimoaa.Tries Go.Proofs.YtlnnghbbjbimoaaW.PrintWords Go.Proofs.YtlnnghbbjbimoaaW.PrintLast Go.Proofs.YtlnnghbbjbimoaaW.PrintMore
set_option linter.unusedVariables false
set_option linter.unusedSimpArgs false
theorem rd_of {w : World} {g : Nat} {s : ByteArray} {a : Int} (h : w.heap[g]? = some (.cells #[.string s, .int .i64 a] 141 (0, 0))) : Rd w g s a := h
def PostBad (er : Int) (n0 be : Nat) (w : World) (e : Ending) (w' : World) : Prop := e = .panicked (up er) ∧ Blk w' be (.int .i64 0) 47 ∧ Below n0 w w'
structure Env (s : ByteArray) (n0 g be bs bx bf : Nat) (w : World) : Prop where
  kr : w.heap[g]? = some (.cells #[.string s, .int .i64 0] 141 (0, 0))
  ke : w.heap[be]? = some (.cells #[.int .i64 0] 47 (0, 0))
  ks : w.heap[bs]? = some (.cells #[.string s] 9 (0, 0))
  kx : w.heap[bx]? = some (.cells #[.int .u64 0, .int .u64 0, .int .u64 0, .int .u64 0, .int .i64 0, .int .i64 0, .int .i64 0, .int .i64 0, .bool false] 112 (0, 0))
  kf : w.heap[bf]? = some (.cells #[.func (Fn.func 91) #[] #[]] 135 (0, 0))
  nre : g ≠ be
  nrs : g ≠ bs
  nrx : g ≠ bx
  nrf : g ≠ bf
  ner : be ≠ g
  nes : be ≠ bs
  nex : be ≠ bx
  nef : be ≠ bf
  nsr : bs ≠ g
  nse : bs ≠ be
  nsx : bs ≠ bx
  nsf : bs ≠ bf
  nxr : bx ≠ g
  nxe : bx ≠ be
  nxs : bx ≠ bs
  nxf : bx ≠ bf
  nfr : bf ≠ g
  nfe : bf ≠ be
  nfs : bf ≠ bs
  nfx : bf ≠ bx
  lr : n0 ≤ g
  lx : n0 ≤ bx
  hn : n0 ≤ w.heap.size
set_option maxRecDepth 100000 in
set_option maxHeartbeats 2000000 in
theorem bad0 (s : ByteArray) (n0 g be bs bx bf : Nat)  (w : World) (E : Env s n0 g be bs bx bf w) (hs : s.size < 4611686018427387904) (c0 : decide (20 ≤ (s.size : Int)) = false) :
    Calls Try.prog 127 #[.pointer (some ⟨g, 0, none⟩), .pointer (some ⟨bs, 0, none⟩), .pointer (some ⟨bx, 0, none⟩), .pointer (some ⟨bf, 0, none⟩)] w fun e w' => PostBad (5) n0 be w e w' := by
  have Kr0 := Lib.hid E.kr
  have Ke0 := Lib.hid E.ke
  have Ks0 := Lib.hid E.ks
  have Kx0 := Lib.hid E.kx
  have Kf0 := Lib.hid E.kf
  have Nre := Lib.hid E.nre
  have Nrs := Lib.hid E.nrs
  have Nrx := Lib.hid E.nrx
  have Nrf := Lib.hid E.nrf
  have Ner := Lib.hid E.ner
  have Nes := Lib.hid E.nes
  have Nex := Lib.hid E.nex
  have Nef := Lib.hid E.nef
  have Nsr := Lib.hid E.nsr
  have Nse := Lib.hid E.nse
  have Nsx := Lib.hid E.nsx
  have Nsf := Lib.hid E.nsf
  have Nxr := Lib.hid E.nxr
  have Nxe := Lib.hid E.nxe
  have Nxs := Lib.hid E.nxs
  have Nxf := Lib.hid E.nxf
  have Nfr := Lib.hid E.nfr
  have Nfe := Lib.hid E.nfe
  have Nfs := Lib.hid E.nfs
  have Nfx := Lib.hid E.nfx
  have Lr := Lib.hid E.lr
  have Lx := Lib.hid E.lx
  have HN := Lib.hid E.hn
  clear E
  have HB0 := Lib.hid (Below.refl n0 w)
  have HS := Lib.hid hs; clear hs
  have cs0 : w.cell? ⟨bs, 0, none⟩ = some (.string s) := (blk_cell Ks0.out 0).trans rfl; have fs0 := blk_frozen Ks0.out 0; skip
  go_enter Try.func127, Try.ntmps127
  go_wp2_with fail
  (with_reducible refine (need_no _ (5) _ rfl).mono ?_); rintro e wq ⟨rfl, hb⟩
  exact And.intro rfl (show PostBad (5) n0 be w (.panicked (up (5))) wq from ⟨rfl, blk_below (by exact Ke0.out) hb, Below.trans (by exact HB0.out) (hb.mono (by have := HB0.out.size; have := HN.out; simp; omega))⟩)
set_option maxRecDepth 100000 in
set_option maxHeartbeats 2000000 in
theorem bad1 (s : ByteArray) (n0 g be bs bx bf : Nat)  (w : World) (E : Env s n0 g be bs bx bf w) (hs : s.size < 4611686018427387904) (c0 : decide (20 ≤ (s.size : Int)) = true) (c1 : (nm s 0 1 / 16 == 4) = false) :
    Calls Try.prog 127 #[.pointer (some ⟨g, 0, none⟩), .pointer (some ⟨bs, 0, none⟩), .pointer (some ⟨bx, 0, none⟩), .pointer (some ⟨bf, 0, none⟩)] w fun e w' => PostBad (22) n0 be w e w' := by
  have Kr0 := Lib.hid E.kr
  have Ke0 := Lib.hid E.ke
  have Ks0 := Lib.hid E.ks
  have Kx0 := Lib.hid E.kx
  have Kf0 := Lib.hid E.kf
  have Nre := Lib.hid E.nre
  have Nrs := Lib.hid E.nrs
  have Nrx := Lib.hid E.nrx
  have Nrf := Lib.hid E.nrf
  have Ner := Lib.hid E.ner
  have Nes := Lib.hid E.nes
  have Nex := Lib.hid E.nex
  have Nef := Lib.hid E.nef
  have Nsr := Lib.hid E.nsr
  have Nse := Lib.hid E.nse
  have Nsx := Lib.hid E.nsx
  have Nsf := Lib.hid E.nsf
  have Nxr := Lib.hid E.nxr
  have Nxe := Lib.hid E.nxe
  have Nxs := Lib.hid E.nxs
  have Nxf := Lib.hid E.nxf
  have Nfr := Lib.hid E.nfr
  have Nfe := Lib.hid E.nfe
  have Nfs := Lib.hid E.nfs
  have Nfx := Lib.hid E.nfx
  have Lr := Lib.hid E.lr
  have Lx := Lib.hid E.lx
  have HN := Lib.hid E.hn
  clear E
  have HB0 := Lib.hid (Below.refl n0 w)
  have HS := Lib.hid hs; clear hs
  have cs0 : w.cell? ⟨bs, 0, none⟩ = some (.string s) := (blk_cell Ks0.out 0).trans rfl; have fs0 := blk_frozen Ks0.out 0; skip
  have HL := Lib.hid (of_decide_eq_true c0)
  go_enter Try.func127, Try.ntmps127
  go_wp2_with fail
  (with_reducible refine (need_ok _ _ _).mono ?_); rintro e w_ ⟨rfl, rfl⟩
  go_wp2_with fail
  (with_reducible refine (u8_ok g s (0) _ (rd_of Kr0.out) HS.out (by have := HL.out; omega)).mono ?_); rintro e w1 ⟨rfl, hr, hg⟩
  have Ke1 : Hid (w1.heap[be]? = some (.cells #[.int .i64 0] 47 (0, 0))) := Lib.hid (blk_grown (by exact Ke0.out) hg (by simpa using Ner.out))
  have Ks1 : Hid (w1.heap[bs]? = some (.cells #[.string s] 9 (0, 0))) := Lib.hid (blk_grown (by exact Ks0.out) hg (by simpa using Nsr.out))
  have Kx1 : Hid (w1.heap[bx]? = some (.cells #[.int .u64 0, .int .u64 0, .int .u64 0, .int .u64 0, .int .i64 0, .int .i64 0, .int .i64 0, .int .i64 0, .bool false] 112 (0, 0))) := Lib.hid (blk_grown (by exact Kx0.out) hg (by simpa using Nxr.out))
  have Kf1 : Hid (w1.heap[bf]? = some (.cells #[.func (Fn.func 91) #[] #[]] 135 (0, 0))) := Lib.hid (blk_grown (by exact Kf0.out) hg (by simpa using Nfr.out))
  have HB1 : Hid (Below n0 w w1) := Lib.hid (grown_lo (by exact HB0.out) hg Lr.out HN.out)
  have Kr1 : Hid (w1.heap[g]? = some (.cells #[.string s, .int .i64 1] 141 (0, 0))) := Lib.hid (by have := hr; simpa only [Rd, show ((0 : Int) + 1) = 1 from rfl] using this)
  clear cs0 fs0; clear hr hg
  have cs0 : w1.cell? ⟨bs, 0, none⟩ = some (.string s) := (blk_cell Ks1.out 0).trans rfl; have fs0 := blk_frozen Ks1.out 0; have cx5 : w1.cell? ⟨bx, 5, none⟩ = some (.int .i64 0) := (blk_cell Kx1.out 5).trans rfl; have fx5 := blk_frozen Kx1.out 5; skip
  go_wp2_with fail
  (with_reducible refine (need_no _ (22) _ rfl).mono ?_); rintro e wq ⟨rfl, hb⟩
  exact And.intro rfl (show PostBad (22) n0 be w (.panicked (up (22))) wq from ⟨rfl, blk_below (by exact Ke1.out) hb, Below.trans (by exact HB1.out) (hb.mono (by have := HB1.out.size; have := HN.out; simp; omega))⟩)
set_option maxRecDepth 100000 in
set_option maxHeartbeats 2000000 in
theorem bad2 (s : ByteArray) (n0 g be bs bx bf : Nat)  (st : Int) (w : World) (E : Env s n0 g be bs bx bf w) (hs : s.size < 4611686018427387904) (c0 : decide (20 ≤ (s.size : Int)) = true) (c1 : (nm s 0 1 / 16 == 4) = true) (c2 : decide (20 ≤ st) = false) (hst : wrap64 (bits .and .i64 (nm s 0 1) 15 * 4) = st) :
    Calls Try.prog 127 #[.pointer (some ⟨g, 0, none⟩), .pointer (some ⟨bs, 0, none⟩), .pointer (some ⟨bx, 0, none⟩), .pointer (some ⟨bf, 0, none⟩)] w fun e w' => PostBad (23) n0 be w e w' := by
  have Kr0 := Lib.hid E.kr
  have Ke0 := Lib.hid E.ke
  have Ks0 := Lib.hid E.ks
  have Kx0 := Lib.hid E.kx
  have Kf0 := Lib.hid E.kf
  have Nre := Lib.hid E.nre
  have Nrs := Lib.hid E.nrs
  have Nrx := Lib.hid E.nrx
  have Nrf := Lib.hid E.nrf
  have Ner := Lib.hid E.ner
  have Nes := Lib.hid E.nes
  have Nex := Lib.hid E.nex
  have Nef := Lib.hid E.nef
  have Nsr := Lib.hid E.nsr
  have Nse := Lib.hid E.nse
  have Nsx := Lib.hid E.nsx
  have Nsf := Lib.hid E.nsf
  have Nxr := Lib.hid E.nxr
  have Nxe := Lib.hid E.nxe
  have Nxs := Lib.hid E.nxs
  have Nxf := Lib.hid E.nxf
  have Nfr := Lib.hid E.nfr
  have Nfe := Lib.hid E.nfe
  have Nfs := Lib.hid E.nfs
  have Nfx := Lib.hid E.nfx
  have Lr := Lib.hid E.lr
  have Lx := Lib.hid E.lx
  have HN := Lib.hid E.hn
  clear E
  have HB0 := Lib.hid (Below.refl n0 w)
  have HS := Lib.hid hs; clear hs
  have cs0 : w.cell? ⟨bs, 0, none⟩ = some (.string s) := (blk_cell Ks0.out 0).trans rfl; have fs0 := blk_frozen Ks0.out 0; skip
  have HL := Lib.hid (of_decide_eq_true c0)
  go_enter Try.func127, Try.ntmps127
  go_wp2_with fail
  (with_reducible refine (need_ok _ _ _).mono ?_); rintro e w_ ⟨rfl, rfl⟩
  go_wp2_with fail
  (with_reducible refine (u8_ok g s (0) _ (rd_of Kr0.out) HS.out (by have := HL.out; omega)).mono ?_); rintro e w1 ⟨rfl, hr, hg⟩
  have Ke1 : Hid (w1.heap[be]? = some (.cells #[.int .i64 0] 47 (0, 0))) := Lib.hid (blk_grown (by exact Ke0.out) hg (by simpa using Ner.out))
  have Ks1 : Hid (w1.heap[bs]? = some (.cells #[.string s] 9 (0, 0))) := Lib.hid (blk_grown (by exact Ks0.out) hg (by simpa using Nsr.out))
  have Kx1 : Hid (w1.heap[bx]? = some (.cells #[.int .u64 0, .int .u64 0, .int .u64 0, .int .u64 0, .int .i64 0, .int .i64 0, .int .i64 0, .int .i64 0, .bool false] 112 (0, 0))) := Lib.hid (blk_grown (by exact Kx0.out) hg (by simpa using Nxr.out))
  have Kf1 : Hid (w1.heap[bf]? = some (.cells #[.func (Fn.func 91) #[] #[]] 135 (0, 0))) := Lib.hid (blk_grown (by exact Kf0.out) hg (by simpa using Nfr.out))
  have HB1 : Hid (Below n0 w w1) := Lib.hid (grown_lo (by exact HB0.out) hg Lr.out HN.out)
  have Kr1 : Hid (w1.heap[g]? = some (.cells #[.string s, .int .i64 1] 141 (0, 0))) := Lib.hid (by have := hr; simpa only [Rd, show ((0 : Int) + 1) = 1 from rfl] using this)
  clear cs0 fs0; clear hr hg
  have cs0 : w1.cell? ⟨bs, 0, none⟩ = some (.string s) := (blk_cell Ks1.out 0).trans rfl; have fs0 := blk_frozen Ks1.out 0; have cx5 : w1.cell? ⟨bx, 5, none⟩ = some (.int .i64 0) := (blk_cell Kx1.out 5).trans rfl; have fx5 := blk_frozen Kx1.out 5; skip
  go_wp2_with fail
  (with_reducible refine (need_ok _ _ _).mono ?_); rintro e w_ ⟨rfl, rfl⟩
  go_wp2_with fail
  (with_reducible refine (need_no _ (23) _ rfl).mono ?_); rintro e wq ⟨rfl, hb⟩
  exact And.intro rfl (show PostBad (23) n0 be w (.panicked (up (23))) wq from ⟨rfl, blk_below (by exact (blk_far Ke1.out (p := ⟨bx, 5, none⟩) (Nex.out) _)) hb, Below.trans (by exact ((HB1.out).setCell (p := ⟨bx, 5, none⟩) Lx.out (.int .i64 st))) (hb.mono (by have := HB1.out.size; have := HN.out; simp; omega))⟩)
set_option maxRecDepth 100000 in
set_option maxHeartbeats 2000000 in
theorem bad3 (s : ByteArray) (n0 g be bs bx bf : Nat)  (st : Int) (w : World) (E : Env s n0 g be bs bx bf w) (hs : s.size < 4611686018427387904) (c0 : decide (20 ≤ (s.size : Int)) = true) (c1 : (nm s 0 1 / 16 == 4) = true) (c2 : decide (20 ≤ st) = true) (c3 : decide (st ≤ (s.size : Int)) = false) (hst : wrap64 (bits .and .i64 (nm s 0 1) 15 * 4) = st) :
    Calls Try.prog 127 #[.pointer (some ⟨g, 0, none⟩), .pointer (some ⟨bs, 0, none⟩), .pointer (some ⟨bx, 0, none⟩), .pointer (some ⟨bf, 0, none⟩)] w fun e w' => PostBad (23) n0 be w e w' := by
  have Kr0 := Lib.hid E.kr
  have Ke0 := Lib.hid E.ke
  have Ks0 := Lib.hid E.ks
  have Kx0 := Lib.hid E.kx
  have Kf0 := Lib.hid E.kf
  have Nre := Lib.hid E.nre
  have Nrs := Lib.hid E.nrs
  have Nrx := Lib.hid E.nrx
  have Nrf := Lib.hid E.nrf
  have Ner := Lib.hid E.ner
  have Nes := Lib.hid E.nes
  have Nex := Lib.hid E.nex
  have Nef := Lib.hid E.nef
  have Nsr := Lib.hid E.nsr
  have Nse := Lib.hid E.nse
  have Nsx := Lib.hid E.nsx
  have Nsf := Lib.hid E.nsf
  have Nxr := Lib.hid E.nxr
  have Nxe := Lib.hid E.nxe
  have Nxs := Lib.hid E.nxs
  have Nxf := Lib.hid E.nxf
  have Nfr := Lib.hid E.nfr
  have Nfe := Lib.hid E.nfe
  have Nfs := Lib.hid E.nfs
  have Nfx := Lib.hid E.nfx
  have Lr := Lib.hid E.lr
  have Lx := Lib.hid E.lx
  have HN := Lib.hid E.hn
  clear E
  have HB0 := Lib.hid (Below.refl n0 w)
  have HS := Lib.hid hs; clear hs
  have cs0 : w.cell? ⟨bs, 0, none⟩ = some (.string s) := (blk_cell Ks0.out 0).trans rfl; have fs0 := blk_frozen Ks0.out 0; skip
  have HL := Lib.hid (of_decide_eq_true c0)
  go_enter Try.func127, Try.ntmps127
  go_wp2_with fail
  (with_reducible refine (need_ok _ _ _).mono ?_); rintro e w_ ⟨rfl, rfl⟩
  go_wp2_with fail
  (with_reducible refine (u8_ok g s (0) _ (rd_of Kr0.out) HS.out (by have := HL.out; omega)).mono ?_); rintro e w1 ⟨rfl, hr, hg⟩
  have Ke1 : Hid (w1.heap[be]? = some (.cells #[.int .i64 0] 47 (0, 0))) := Lib.hid (blk_grown (by exact Ke0.out) hg (by simpa using Ner.out))
  have Ks1 : Hid (w1.heap[bs]? = some (.cells #[.string s] 9 (0, 0))) := Lib.hid (blk_grown (by exact Ks0.out) hg (by simpa using Nsr.out))
  have Kx1 : Hid (w1.heap[bx]? = some (.cells #[.int .u64 0, .int .u64 0, .int .u64 0, .int .u64 0, .int .i64 0, .int .i64 0, .int .i64 0, .int .i64 0, .bool false] 112 (0, 0))) := Lib.hid (blk_grown (by exact Kx0.out) hg (by simpa using Nxr.out))
  have Kf1 : Hid (w1.heap[bf]? = some (.cells #[.func (Fn.func 91) #[] #[]] 135 (0, 0))) := Lib.hid (blk_grown (by exact Kf0.out) hg (by simpa using Nfr.out))
  have HB1 : Hid (Below n0 w w1) := Lib.hid (grown_lo (by exact HB0.out) hg Lr.out HN.out)
  have Kr1 : Hid (w1.heap[g]? = some (.cells #[.string s, .int .i64 1] 141 (0, 0))) := Lib.hid (by have := hr; simpa only [Rd, show ((0 : Int) + 1) = 1 from rfl] using this)
  clear cs0 fs0; clear hr hg
  have cs0 : w1.cell? ⟨bs, 0, none⟩ = some (.string s) := (blk_cell Ks1.out 0).trans rfl; have fs0 := blk_frozen Ks1.out 0; have cx5 : w1.cell? ⟨bx, 5, none⟩ = some (.int .i64 0) := (blk_cell Kx1.out 5).trans rfl; have fx5 := blk_frozen Kx1.out 5; skip
  go_wp2_with fail
  (with_reducible refine (need_ok _ _ _).mono ?_); rintro e w_ ⟨rfl, rfl⟩
  go_wp2_with fail
  (with_reducible refine (need_no _ (23) _ rfl).mono ?_); rintro e wq ⟨rfl, hb⟩
  exact And.intro rfl (show PostBad (23) n0 be w (.panicked (up (23))) wq from ⟨rfl, blk_below (by exact (blk_far Ke1.out (p := ⟨bx, 5, none⟩) (Nex.out) _)) hb, Below.trans (by exact ((HB1.out).setCell (p := ⟨bx, 5, none⟩) Lx.out (.int .i64 st))) (hb.mono (by have := HB1.out.size; have := HN.out; simp; omega))⟩)
set_option maxRecDepth 100000 in
set_option maxHeartbeats 2000000 in
theorem bad4 (s : ByteArray) (n0 g be bs bx bf : Nat)  (st : Int) (w : World) (E : Env s n0 g be bs bx bf w) (hs : s.size < 4611686018427387904) (c0 : decide (20 ≤ (s.size : Int)) = true) (c1 : (nm s 0 1 / 16 == 4) = true) (c2 : decide (20 ≤ st) = true) (c3 : decide (st ≤ (s.size : Int)) = true) (c4 : decide (st ≤ nm s 2 2) = false) (hst : wrap64 (bits .and .i64 (nm s 0 1) 15 * 4) = st) :
    Calls Try.prog 127 #[.pointer (some ⟨g, 0, none⟩), .pointer (some ⟨bs, 0, none⟩), .pointer (some ⟨bx, 0, none⟩), .pointer (some ⟨bf, 0, none⟩)] w fun e w' => PostBad (6) n0 be w e w' := by
  have Kr0 := Lib.hid E.kr
  have Ke0 := Lib.hid E.ke
  have Ks0 := Lib.hid E.ks
  have Kx0 := Lib.hid E.kx
  have Kf0 := Lib.hid E.kf
  have Nre := Lib.hid E.nre
  have Nrs := Lib.hid E.nrs
  have Nrx := Lib.hid E.nrx
  have Nrf := Lib.hid E.nrf
  have Ner := Lib.hid E.ner
  have Nes := Lib.hid E.nes
  have Nex := Lib.hid E.nex
  have Nef := Lib.hid E.nef
  have Nsr := Lib.hid E.nsr
  have Nse := Lib.hid E.nse
  have Nsx := Lib.hid E.nsx
  have Nsf := Lib.hid E.nsf
  have Nxr := Lib.hid E.nxr
  have Nxe := Lib.hid E.nxe
  have Nxs := Lib.hid E.nxs
  have Nxf := Lib.hid E.nxf
  have Nfr := Lib.hid E.nfr
  have Nfe := Lib.hid E.nfe
  have Nfs := Lib.hid E.nfs
  have Nfx := Lib.hid E.nfx
  have Lr := Lib.hid E.lr
  have Lx := Lib.hid E.lx
  have HN := Lib.hid E.hn
  clear E
  have HB0 := Lib.hid (Below.refl n0 w)
  have HS := Lib.hid hs; clear hs
  have cs0 : w.cell? ⟨bs, 0, none⟩ = some (.string s) := (blk_cell Ks0.out 0).trans rfl; have fs0 := blk_frozen Ks0.out 0; skip
  have HL := Lib.hid (of_decide_eq_true c0)
  go_enter Try.func127, Try.ntmps127
  go_wp2_with fail
  (with_reducible refine (need_ok _ _ _).mono ?_); rintro e w_ ⟨rfl, rfl⟩
  go_wp2_with fail
  (with_reducible refine (u8_ok g s (0) _ (rd_of Kr0.out) HS.out (by have := HL.out; omega)).mono ?_); rintro e w1 ⟨rfl, hr, hg⟩
  have Ke1 : Hid (w1.heap[be]? = some (.cells #[.int .i64 0] 47 (0, 0))) := Lib.hid (blk_grown (by exact Ke0.out) hg (by simpa using Ner.out))
  have Ks1 : Hid (w1.heap[bs]? = some (.cells #[.string s] 9 (0, 0))) := Lib.hid (blk_grown (by exact Ks0.out) hg (by simpa using Nsr.out))
  have Kx1 : Hid (w1.heap[bx]? = some (.cells #[.int .u64 0, .int .u64 0, .int .u64 0, .int .u64 0, .int .i64 0, .int .i64 0, .int .i64 0, .int .i64 0, .bool false] 112 (0, 0))) := Lib.hid (blk_grown (by exact Kx0.out) hg (by simpa using Nxr.out))
  have Kf1 : Hid (w1.heap[bf]? = some (.cells #[.func (Fn.func 91) #[] #[]] 135 (0, 0))) := Lib.hid (blk_grown (by exact Kf0.out) hg (by simpa using Nfr.out))
  have HB1 : Hid (Below n0 w w1) := Lib.hid (grown_lo (by exact HB0.out) hg Lr.out HN.out)
  have Kr1 : Hid (w1.heap[g]? = some (.cells #[.string s, .int .i64 1] 141 (0, 0))) := Lib.hid (by have := hr; simpa only [Rd, show ((0 : Int) + 1) = 1 from rfl] using this)
  clear cs0 fs0; clear hr hg
  have cs0 : w1.cell? ⟨bs, 0, none⟩ = some (.string s) := (blk_cell Ks1.out 0).trans rfl; have fs0 := blk_frozen Ks1.out 0; have cx5 : w1.cell? ⟨bx, 5, none⟩ = some (.int .i64 0) := (blk_cell Kx1.out 5).trans rfl; have fx5 := blk_frozen Kx1.out 5; skip
  go_wp2_with fail
  (with_reducible refine (need_ok _ _ _).mono ?_); rintro e w_ ⟨rfl, rfl⟩
  go_wp2_with fail
  (with_reducible refine (need_ok _ _ _).mono ?_); rintro e w_ ⟨rfl, rfl⟩
  go_wp2_with fail
  (with_reducible refine (take_ok g s (1) 1 _ (rd_of (blk_far Kr1.out (p := ⟨bx, 5, none⟩) (Nrx.out) _)) (by have := HL.out; omega) HS.out (by have := HL.out; omega)).mono ?_); rintro e w2 ⟨rfl, hr, hg⟩
  have Ke2 : Hid (w2.heap[be]? = some (.cells #[.int .i64 0] 47 (0, 0))) := Lib.hid (blk_grown (by exact (blk_far Ke1.out (p := ⟨bx, 5, none⟩) (Nex.out) _)) hg (by simpa using Ner.out))
  have Ks2 : Hid (w2.heap[bs]? = some (.cells #[.string s] 9 (0, 0))) := Lib.hid (blk_grown (by exact (blk_far Ks1.out (p := ⟨bx, 5, none⟩) (Nsx.out) _)) hg (by simpa using Nsr.out))
  have Kx2 : Hid (w2.heap[bx]? = some (.cells #[.int .u64 0, .int .u64 0, .int .u64 0, .int .u64 0, .int .i64 0, .int .i64 st, .int .i64 0, .int .i64 0, .bool false] 112 (0, 0))) := Lib.hid (blk_grown (by exact (blk_put (cs' := #[.int .u64 0, .int .u64 0, .int .u64 0, .int .u64 0, .int .i64 0, .int .i64 st, .int .i64 0, .int .i64 0, .bool false]) Kx1.out 5 (.int .i64 st) rfl)) hg (by simpa using Nxr.out))
  have Kf2 : Hid (w2.heap[bf]? = some (.cells #[.func (Fn.func 91) #[] #[]] 135 (0, 0))) := Lib.hid (blk_grown (by exact (blk_far Kf1.out (p := ⟨bx, 5, none⟩) (Nfx.out) _)) hg (by simpa using Nfr.out))
  have HB2 : Hid (Below n0 w w2) := Lib.hid (grown_lo (by exact ((HB1.out).setCell (p := ⟨bx, 5, none⟩) Lx.out (.int .i64 st))) hg Lr.out HN.out)
  have Kr2 : Hid (w2.heap[g]? = some (.cells #[.string s, .int .i64 2] 141 (0, 0))) := Lib.hid (by have := hr; simpa only [Rd, show ((1 : Int) + 1) = 2 from rfl] using this)
  clear cs0 fs0 cx5 fx5; clear hr hg
  have cs0 : w2.cell? ⟨bs, 0, none⟩ = some (.string s) := (blk_cell Ks2.out 0).trans rfl; have fs0 := blk_frozen Ks2.out 0; have cx5 : w2.cell? ⟨bx, 5, none⟩ = some (.int .i64 st) := (blk_cell Kx2.out 5).trans rfl; have fx5 := blk_frozen Kx2.out 5; have cx6 : w2.cell? ⟨bx, 6, none⟩ = some (.int .i64 0) := (blk_cell Kx2.out 6).trans rfl; have fx6 := blk_frozen Kx2.out 6; have cf0 : w2.cell? ⟨bf, 0, none⟩ = some (.func (Fn.func 91) #[] #[]) := (blk_cell Kf2.out 0).trans rfl; have ff0 := blk_frozen Kf2.out 0; skip
  go_wp2_with fail
  (with_reducible refine (u16_ok g s (2) _ (rd_of Kr2.out) HS.out (by have := HL.out; omega)).mono ?_); rintro e w3 ⟨rfl, hr, hg⟩
  have Ke3 : Hid (w3.heap[be]? = some (.cells #[.int .i64 0] 47 (0, 0))) := Lib.hid (blk_grown (by exact Ke2.out) hg (by simpa using Ner.out))
  have Ks3 : Hid (w3.heap[bs]? = some (.cells #[.string s] 9 (0, 0))) := Lib.hid (blk_grown (by exact Ks2.out) hg (by simpa using Nsr.out))
  have Kx3 : Hid (w3.heap[bx]? = some (.cells #[.int .u64 0, .int .u64 0, .int .u64 0, .int .u64 0, .int .i64 0, .int .i64 st, .int .i64 0, .int .i64 0, .bool false] 112 (0, 0))) := Lib.hid (blk_grown (by exact Kx2.out) hg (by simpa using Nxr.out))
  have Kf3 : Hid (w3.heap[bf]? = some (.cells #[.func (Fn.func 91) #[] #[]] 135 (0, 0))) := Lib.hid (blk_grown (by exact Kf2.out) hg (by simpa using Nfr.out))
  have HB3 : Hid (Below n0 w w3) := Lib.hid (grown_lo (by exact HB2.out) hg Lr.out HN.out)
  have Kr3 : Hid (w3.heap[g]? = some (.cells #[.string s, .int .i64 4] 141 (0, 0))) := Lib.hid (by have := hr; simpa only [Rd, show ((2 : Int) + 2) = 4 from rfl] using this)
  clear cs0 fs0 cx5 fx5 cx6 fx6 cf0 ff0; clear hr hg
  have cs0 : w3.cell? ⟨bs, 0, none⟩ = some (.string s) := (blk_cell Ks3.out 0).trans rfl; have fs0 := blk_frozen Ks3.out 0; have cx5 : w3.cell? ⟨bx, 5, none⟩ = some (.int .i64 st) := (blk_cell Kx3.out 5).trans rfl; have fx5 := blk_frozen Kx3.out 5; have cx6 : w3.cell? ⟨bx, 6, none⟩ = some (.int .i64 0) := (blk_cell Kx3.out 6).trans rfl; have fx6 := blk_frozen Kx3.out 6; skip
  go_wp2_with fail
  (with_reducible refine (need_no _ (6) _ rfl).mono ?_); rintro e wq ⟨rfl, hb⟩
  exact And.intro rfl (show PostBad (6) n0 be w (.panicked (up (6))) wq from ⟨rfl, blk_below (by exact (blk_far Ke3.out (p := ⟨bx, 6, none⟩) (Nex.out) _)) hb, Below.trans (by exact ((HB3.out).setCell (p := ⟨bx, 6, none⟩) Lx.out (.int .i64 (nm s 2 2)))) (hb.mono (by have := HB3.out.size; have := HN.out; simp; omega))⟩)
set_option maxRecDepth 100000 in
set_option maxHeartbeats 2000000 in
theorem bad5 (s : ByteArray) (n0 g be bs bx bf : Nat)  (st : Int) (w : World) (E : Env s n0 g be bs bx bf w) (hs : s.size < 4611686018427387904) (c0 : decide (20 ≤ (s.size : Int)) = true) (c1 : (nm s 0 1 / 16 == 4) = true) (c2 : decide (20 ≤ st) = true) (c3 : decide (st ≤ (s.size : Int)) = true) (c4 : decide (st ≤ nm s 2 2) = true) (c5 : decide (nm s 2 2 ≤ (s.size : Int)) = false) (hst : wrap64 (bits .and .i64 (nm s 0 1) 15 * 4) = st) (p0 : 0 ≤ st) (p1 : st ≤ s.size) :
    Calls Try.prog 127 #[.pointer (some ⟨g, 0, none⟩), .pointer (some ⟨bs, 0, none⟩), .pointer (some ⟨bx, 0, none⟩), .pointer (some ⟨bf, 0, none⟩)] w fun e w' => PostBad (6) n0 be w e w' := by
  have Kr0 := Lib.hid E.kr
  have Ke0 := Lib.hid E.ke
  have Ks0 := Lib.hid E.ks
  have Kx0 := Lib.hid E.kx
  have Kf0 := Lib.hid E.kf
  have Nre := Lib.hid E.nre
  have Nrs := Lib.hid E.nrs
  have Nrx := Lib.hid E.nrx
  have Nrf := Lib.hid E.nrf
  have Ner := Lib.hid E.ner
  have Nes := Lib.hid E.nes
  have Nex := Lib.hid E.nex
  have Nef := Lib.hid E.nef
  have Nsr := Lib.hid E.nsr
  have Nse := Lib.hid E.nse
  have Nsx := Lib.hid E.nsx
  have Nsf := Lib.hid E.nsf
  have Nxr := Lib.hid E.nxr
  have Nxe := Lib.hid E.nxe
  have Nxs := Lib.hid E.nxs
  have Nxf := Lib.hid E.nxf
  have Nfr := Lib.hid E.nfr
  have Nfe := Lib.hid E.nfe
  have Nfs := Lib.hid E.nfs
  have Nfx := Lib.hid E.nfx
  have Lr := Lib.hid E.lr
  have Lx := Lib.hid E.lx
  have HN := Lib.hid E.hn
  clear E
  have HB0 := Lib.hid (Below.refl n0 w)
  have HS := Lib.hid hs; clear hs
  have cs0 : w.cell? ⟨bs, 0, none⟩ = some (.string s) := (blk_cell Ks0.out 0).trans rfl; have fs0 := blk_frozen Ks0.out 0; skip
  have HL := Lib.hid (of_decide_eq_true c0)
  go_enter Try.func127, Try.ntmps127
  go_wp2_with fail
  (with_reducible refine (need_ok _ _ _).mono ?_); rintro e w_ ⟨rfl, rfl⟩
  go_wp2_with fail
  (with_reducible refine (u8_ok g s (0) _ (rd_of Kr0.out) HS.out (by have := HL.out; omega)).mono ?_); rintro e w1 ⟨rfl, hr, hg⟩
  have Ke1 : Hid (w1.heap[be]? = some (.cells #[.int .i64 0] 47 (0, 0))) := Lib.hid (blk_grown (by exact Ke0.out) hg (by simpa using Ner.out))
  have Ks1 : Hid (w1.heap[bs]? = some (.cells #[.string s] 9 (0, 0))) := Lib.hid (blk_grown (by exact Ks0.out) hg (by simpa using Nsr.out))
  have Kx1 : Hid (w1.heap[bx]? = some (.cells #[.int .u64 0, .int .u64 0, .int .u64 0, .int .u64 0, .int .i64 0, .int .i64 0, .int .i64 0, .int .i64 0, .bool false] 112 (0, 0))) := Lib.hid (blk_grown (by exact Kx0.out) hg (by simpa using Nxr.out))
  have Kf1 : Hid (w1.heap[bf]? = some (.cells #[.func (Fn.func 91) #[] #[]] 135 (0, 0))) := Lib.hid (blk_grown (by exact Kf0.out) hg (by simpa using Nfr.out))
  have HB1 : Hid (Below n0 w w1) := Lib.hid (grown_lo (by exact HB0.out) hg Lr.out HN.out)
  have Kr1 : Hid (w1.heap[g]? = some (.cells #[.string s, .int .i64 1] 141 (0, 0))) := Lib.hid (by have := hr; simpa only [Rd, show ((0 : Int) + 1) = 1 from rfl] using this)
  clear cs0 fs0; clear hr hg
  have cs0 : w1.cell? ⟨bs, 0, none⟩ = some (.string s) := (blk_cell Ks1.out 0).trans rfl; have fs0 := blk_frozen Ks1.out 0; have cx5 : w1.cell? ⟨bx, 5, none⟩ = some (.int .i64 0) := (blk_cell Kx1.out 5).trans rfl; have fx5 := blk_frozen Kx1.out 5; skip
  go_wp2_with fail
  (with_reducible refine (need_ok _ _ _).mono ?_); rintro e w_ ⟨rfl, rfl⟩
  go_wp2_with fail
  (with_reducible refine (need_ok _ _ _).mono ?_); rintro e w_ ⟨rfl, rfl⟩
  go_wp2_with fail
  (with_reducible refine (take_ok g s (1) 1 _ (rd_of (blk_far Kr1.out (p := ⟨bx, 5, none⟩) (Nrx.out) _)) (by have := HL.out; omega) HS.out (by have := HL.out; omega)).mono ?_); rintro e w2 ⟨rfl, hr, hg⟩
  have Ke2 : Hid (w2.heap[be]? = some (.cells #[.int .i64 0] 47 (0, 0))) := Lib.hid (blk_grown (by exact (blk_far Ke1.out (p := ⟨bx, 5, none⟩) (Nex.out) _)) hg (by simpa using Ner.out))
  have Ks2 : Hid (w2.heap[bs]? = some (.cells #[.string s] 9 (0, 0))) := Lib.hid (blk_grown (by exact (blk_far Ks1.out (p := ⟨bx, 5, none⟩) (Nsx.out) _)) hg (by simpa using Nsr.out))
  have Kx2 : Hid (w2.heap[bx]? = some (.cells #[.int .u64 0, .int .u64 0, .int .u64 0, .int .u64 0, .int .i64 0, .int .i64 st, .int .i64 0, .int .i64 0, .bool false] 112 (0, 0))) := Lib.hid (blk_grown (by exact (blk_put (cs' := #[.int .u64 0, .int .u64 0, .int .u64 0, .int .u64 0, .int .i64 0, .int .i64 st, .int .i64 0, .int .i64 0, .bool false]) Kx1.out 5 (.int .i64 st) rfl)) hg (by simpa using Nxr.out))
  have Kf2 : Hid (w2.heap[bf]? = some (.cells #[.func (Fn.func 91) #[] #[]] 135 (0, 0))) := Lib.hid (blk_grown (by exact (blk_far Kf1.out (p := ⟨bx, 5, none⟩) (Nfx.out) _)) hg (by simpa using Nfr.out))
  have HB2 : Hid (Below n0 w w2) := Lib.hid (grown_lo (by exact ((HB1.out).setCell (p := ⟨bx, 5, none⟩) Lx.out (.int .i64 st))) hg Lr.out HN.out)
  have Kr2 : Hid (w2.heap[g]? = some (.cells #[.string s, .int .i64 2] 141 (0, 0))) := Lib.hid (by have := hr; simpa only [Rd, show ((1 : Int) + 1) = 2 from rfl] using this)
  clear cs0 fs0 cx5 fx5; clear hr hg
  have cs0 : w2.cell? ⟨bs, 0, none⟩ = some (.string s) := (blk_cell Ks2.out 0).trans rfl; have fs0 := blk_frozen Ks2.out 0; have cx5 : w2.cell? ⟨bx, 5, none⟩ = some (.int .i64 st) := (blk_cell Kx2.out 5).trans rfl; have fx5 := blk_frozen Kx2.out 5; have cx6 : w2.cell? ⟨bx, 6, none⟩ = some (.int .i64 0) := (blk_cell Kx2.out 6).trans rfl; have fx6 := blk_frozen Kx2.out 6; have cf0 : w2.cell? ⟨bf, 0, none⟩ = some (.func (Fn.func 91) #[] #[]) := (blk_cell Kf2.out 0).trans rfl; have ff0 := blk_frozen Kf2.out 0; skip
  go_wp2_with fail
  (with_reducible refine (u16_ok g s (2) _ (rd_of Kr2.out) HS.out (by have := HL.out; omega)).mono ?_); rintro e w3 ⟨rfl, hr, hg⟩
  have Ke3 : Hid (w3.heap[be]? = some (.cells #[.int .i64 0] 47 (0, 0))) := Lib.hid (blk_grown (by exact Ke2.out) hg (by simpa using Ner.out))
  have Ks3 : Hid (w3.heap[bs]? = some (.cells #[.string s] 9 (0, 0))) := Lib.hid (blk_grown (by exact Ks2.out) hg (by simpa using Nsr.out))
  have Kx3 : Hid (w3.heap[bx]? = some (.cells #[.int .u64 0, .int .u64 0, .int .u64 0, .int .u64 0, .int .i64 0, .int .i64 st, .int .i64 0, .int .i64 0, .bool false] 112 (0, 0))) := Lib.hid (blk_grown (by exact Kx2.out) hg (by simpa using Nxr.out))
  have Kf3 : Hid (w3.heap[bf]? = some (.cells #[.func (Fn.func 91) #[] #[]] 135 (0, 0))) := Lib.hid (blk_grown (by exact Kf2.out) hg (by simpa using Nfr.out))
  have HB3 : Hid (Below n0 w w3) := Lib.hid (grown_lo (by exact HB2.out) hg Lr.out HN.out)
  have Kr3 : Hid (w3.heap[g]? = some (.cells #[.string s, .int .i64 4] 141 (0, 0))) := Lib.hid (by have := hr; simpa only [Rd, show ((2 : Int) + 2) = 4 from rfl] using this)
  clear cs0 fs0 cx5 fx5 cx6 fx6 cf0 ff0; clear hr hg
  have cs0 : w3.cell? ⟨bs, 0, none⟩ = some (.string s) := (blk_cell Ks3.out 0).trans rfl; have fs0 := blk_frozen Ks3.out 0; have cx5 : w3.cell? ⟨bx, 5, none⟩ = some (.int .i64 st) := (blk_cell Kx3.out 5).trans rfl; have fx5 := blk_frozen Kx3.out 5; have cx6 : w3.cell? ⟨bx, 6, none⟩ = some (.int .i64 0) := (blk_cell Kx3.out 6).trans rfl; have fx6 := blk_frozen Kx3.out 6; skip
  go_wp2_with fail
  (with_reducible refine (need_no _ (6) _ rfl).mono ?_); rintro e wq ⟨rfl, hb⟩
  exact And.intro rfl (show PostBad (6) n0 be w (.panicked (up (6))) wq from ⟨rfl, blk_below (by exact (blk_far Ke3.out (p := ⟨bx, 6, none⟩) (Nex.out) _)) hb, Below.trans (by exact ((HB3.out).setCell (p := ⟨bx, 6, none⟩) Lx.out (.int .i64 (nm s 2 2)))) (hb.mono (by have := HB3.out.size; have := HN.out; simp; omega))⟩)
set_option maxRecDepth 100000 in
set_option maxHeartbeats 2000000 in
theorem bad6 (s : ByteArray) (n0 g be bs bx bf : Nat)  (st : Int) (sm : Int) (w : World) (E : Env s n0 g be bs bx bf w) (hs : s.size < 4611686018427387904) (c0 : decide (20 ≤ (s.size : Int)) = true) (c1 : (nm s 0 1 / 16 == 4) = true) (c2 : decide (20 ≤ st) = true) (c3 : decide (st ≤ (s.size : Int)) = true) (c4 : decide (st ≤ nm s 2 2) = true) (c5 : decide (nm s 2 2 ≤ (s.size : Int)) = true) (c6 : (sm == 0) = false) (hst : wrap64 (bits .and .i64 (nm s 0 1) 15 * 4) = st) (p0 : 0 ≤ st) (p1 : st ≤ s.size) (hsum : ∀ w, Calls Try.prog 87 #[.string (s.extract 0 st.toNat)] w fun e w' => e = .returned (.int .i64 sm) ∧ Below w.heap.size w w') :
    Calls Try.prog 127 #[.pointer (some ⟨g, 0, none⟩), .pointer (some ⟨bs, 0, none⟩), .pointer (some ⟨bx, 0, none⟩), .pointer (some ⟨bf, 0, none⟩)] w fun e w' => PostBad (24) n0 be w e w' := by
  have Kr0 := Lib.hid E.kr
  have Ke0 := Lib.hid E.ke
  have Ks0 := Lib.hid E.ks
  have Kx0 := Lib.hid E.kx
  have Kf0 := Lib.hid E.kf
  have Nre := Lib.hid E.nre
  have Nrs := Lib.hid E.nrs
  have Nrx := Lib.hid E.nrx
  have Nrf := Lib.hid E.nrf
  have Ner := Lib.hid E.ner
  have Nes := Lib.hid E.nes
  have Nex := Lib.hid E.nex
  have Nef := Lib.hid E.nef
  have Nsr := Lib.hid E.nsr
  have Nse := Lib.hid E.nse
  have Nsx := Lib.hid E.nsx
  have Nsf := Lib.hid E.nsf
  have Nxr := Lib.hid E.nxr
  have Nxe := Lib.hid E.nxe
  have Nxs := Lib.hid E.nxs
  have Nxf := Lib.hid E.nxf
  have Nfr := Lib.hid E.nfr
  have Nfe := Lib.hid E.nfe
  have Nfs := Lib.hid E.nfs
  have Nfx := Lib.hid E.nfx
  have Lr := Lib.hid E.lr
  have Lx := Lib.hid E.lx
  have HN := Lib.hid E.hn
  clear E
  have HB0 := Lib.hid (Below.refl n0 w)
  have HS := Lib.hid hs; clear hs
  have HSUM := Lib.hid hsum; clear hsum
  have cs0 : w.cell? ⟨bs, 0, none⟩ = some (.string s) := (blk_cell Ks0.out 0).trans rfl; have fs0 := blk_frozen Ks0.out 0; skip
  have HL := Lib.hid (of_decide_eq_true c0)
  go_enter Try.func127, Try.ntmps127
  go_wp2_with fail
  (with_reducible refine (need_ok _ _ _).mono ?_); rintro e w_ ⟨rfl, rfl⟩
  go_wp2_with fail
  (with_reducible refine (u8_ok g s (0) _ (rd_of Kr0.out) HS.out (by have := HL.out; omega)).mono ?_); rintro e w1 ⟨rfl, hr, hg⟩
  have Ke1 : Hid (w1.heap[be]? = some (.cells #[.int .i64 0] 47 (0, 0))) := Lib.hid (blk_grown (by exact Ke0.out) hg (by simpa using Ner.out))
  have Ks1 : Hid (w1.heap[bs]? = some (.cells #[.string s] 9 (0, 0))) := Lib.hid (blk_grown (by exact Ks0.out) hg (by simpa using Nsr.out))
  have Kx1 : Hid (w1.heap[bx]? = some (.cells #[.int .u64 0, .int .u64 0, .int .u64 0, .int .u64 0, .int .i64 0, .int .i64 0, .int .i64 0, .int .i64 0, .bool false] 112 (0, 0))) := Lib.hid (blk_grown (by exact Kx0.out) hg (by simpa using Nxr.out))
  have Kf1 : Hid (w1.heap[bf]? = some (.cells #[.func (Fn.func 91) #[] #[]] 135 (0, 0))) := Lib.hid (blk_grown (by exact Kf0.out) hg (by simpa using Nfr.out))
  have HB1 : Hid (Below n0 w w1) := Lib.hid (grown_lo (by exact HB0.out) hg Lr.out HN.out)
  have Kr1 : Hid (w1.heap[g]? = some (.cells #[.string s, .int .i64 1] 141 (0, 0))) := Lib.hid (by have := hr; simpa only [Rd, show ((0 : Int) + 1) = 1 from rfl] using this)
  clear cs0 fs0; clear hr hg
  have cs0 : w1.cell? ⟨bs, 0, none⟩ = some (.string s) := (blk_cell Ks1.out 0).trans rfl; have fs0 := blk_frozen Ks1.out 0; have cx5 : w1.cell? ⟨bx, 5, none⟩ = some (.int .i64 0) := (blk_cell Kx1.out 5).trans rfl; have fx5 := blk_frozen Kx1.out 5; skip
  go_wp2_with fail
  (with_reducible refine (need_ok _ _ _).mono ?_); rintro e w_ ⟨rfl, rfl⟩
  go_wp2_with fail
  (with_reducible refine (need_ok _ _ _).mono ?_); rintro e w_ ⟨rfl, rfl⟩
  go_wp2_with fail
  (with_reducible refine (take_ok g s (1) 1 _ (rd_of (blk_far Kr1.out (p := ⟨bx, 5, none⟩) (Nrx.out) _)) (by have := HL.out; omega) HS.out (by have := HL.out; omega)).mono ?_); rintro e w2 ⟨rfl, hr, hg⟩
  have Ke2 : Hid (w2.heap[be]? = some (.cells #[.int .i64 0] 47 (0, 0))) := Lib.hid (blk_grown (by exact (blk_far Ke1.out (p := ⟨bx, 5, none⟩) (Nex.out) _)) hg (by simpa using Ner.out))
  have Ks2 : Hid (w2.heap[bs]? = some (.cells #[.string s] 9 (0, 0))) := Lib.hid (blk_grown (by exact (blk_far Ks1.out (p := ⟨bx, 5, none⟩) (Nsx.out) _)) hg (by simpa using Nsr.out))
  have Kx2 : Hid (w2.heap[bx]? = some (.cells #[.int .u64 0, .int .u64 0, .int .u64 0, .int .u64 0, .int .i64 0, .int .i64 st, .int .i64 0, .int .i64 0, .bool false] 112 (0, 0))) := Lib.hid (blk_grown (by exact (blk_put (cs' := #[.int .u64 0, .int .u64 0, .int .u64 0, .int .u64 0, .int .i64 0, .int .i64 st, .int .i64 0, .int .i64 0, .bool false]) Kx1.out 5 (.int .i64 st) rfl)) hg (by simpa using Nxr.out))
  have Kf2 : Hid (w2.heap[bf]? = some (.cells #[.func (Fn.func 91) #[] #[]] 135 (0, 0))) := Lib.hid (blk_grown (by exact (blk_far Kf1.out (p := ⟨bx, 5, none⟩) (Nfx.out) _)) hg (by simpa using Nfr.out))
  have HB2 : Hid (Below n0 w w2) := Lib.hid (grown_lo (by exact ((HB1.out).setCell (p := ⟨bx, 5, none⟩) Lx.out (.int .i64 st))) hg Lr.out HN.out)
  have Kr2 : Hid (w2.heap[g]? = some (.cells #[.string s, .int .i64 2] 141 (0, 0))) := Lib.hid (by have := hr; simpa only [Rd, show ((1 : Int) + 1) = 2 from rfl] using this)
  clear cs0 fs0 cx5 fx5; clear hr hg
  have cs0 : w2.cell? ⟨bs, 0, none⟩ = some (.string s) := (blk_cell Ks2.out 0).trans rfl; have fs0 := blk_frozen Ks2.out 0; have cx5 : w2.cell? ⟨bx, 5, none⟩ = some (.int .i64 st) := (blk_cell Kx2.out 5).trans rfl; have fx5 := blk_frozen Kx2.out 5; have cx6 : w2.cell? ⟨bx, 6, none⟩ = some (.int .i64 0) := (blk_cell Kx2.out 6).trans rfl; have fx6 := blk_frozen Kx2.out 6; have cf0 : w2.cell? ⟨bf, 0, none⟩ = some (.func (Fn.func 91) #[] #[]) := (blk_cell Kf2.out 0).trans rfl; have ff0 := blk_frozen Kf2.out 0; skip
  go_wp2_with fail
  (with_reducible refine (u16_ok g s (2) _ (rd_of Kr2.out) HS.out (by have := HL.out; omega)).mono ?_); rintro e w3 ⟨rfl, hr, hg⟩
  have Ke3 : Hid (w3.heap[be]? = some (.cells #[.int .i64 0] 47 (0, 0))) := Lib.hid (blk_grown (by exact Ke2.out) hg (by simpa using Ner.out))
  have Ks3 : Hid (w3.heap[bs]? = some (.cells #[.string s] 9 (0, 0))) := Lib.hid (blk_grown (by exact Ks2.out) hg (by simpa using Nsr.out))
  have Kx3 : Hid (w3.heap[bx]? = some (.cells #[.int .u64 0, .int .u64 0, .int .u64 0, .int .u64 0, .int .i64 0, .int .i64 st, .int .i64 0, .int .i64 0, .bool false] 112 (0, 0))) := Lib.hid (blk_grown (by exact Kx2.out) hg (by simpa using Nxr.out))
  have Kf3 : Hid (w3.heap[bf]? = some (.cells #[.func (Fn.func 91) #[] #[]] 135 (0, 0))) := Lib.hid (blk_grown (by exact Kf2.out) hg (by simpa using Nfr.out))
  have HB3 : Hid (Below n0 w w3) := Lib.hid (grown_lo (by exact HB2.out) hg Lr.out HN.out)
  have Kr3 : Hid (w3.heap[g]? = some (.cells #[.string s, .int .i64 4] 141 (0, 0))) := Lib.hid (by have := hr; simpa only [Rd, show ((2 : Int) + 2) = 4 from rfl] using this)
  clear cs0 fs0 cx5 fx5 cx6 fx6 cf0 ff0; clear hr hg
  have cs0 : w3.cell? ⟨bs, 0, none⟩ = some (.string s) := (blk_cell Ks3.out 0).trans rfl; have fs0 := blk_frozen Ks3.out 0; have cx5 : w3.cell? ⟨bx, 5, none⟩ = some (.int .i64 st) := (blk_cell Kx3.out 5).trans rfl; have fx5 := blk_frozen Kx3.out 5; have cx6 : w3.cell? ⟨bx, 6, none⟩ = some (.int .i64 0) := (blk_cell Kx3.out 6).trans rfl; have fx6 := blk_frozen Kx3.out 6; skip
  go_wp2_with fail
  (with_reducible refine (need_ok _ _ _).mono ?_); rintro e w_ ⟨rfl, rfl⟩
  go_wp2_with fail
  (with_reducible refine (HSUM.out _).mono ?_); rintro e w4 ⟨rfl, hb⟩
  have Kr4 : Hid (w4.heap[g]? = some (.cells #[.string s, .int .i64 4] 141 (0, 0))) := Lib.hid (blk_below (by exact (blk_far Kr3.out (p := ⟨bx, 6, none⟩) (Nrx.out) _)) hb)
  have Ke4 : Hid (w4.heap[be]? = some (.cells #[.int .i64 0] 47 (0, 0))) := Lib.hid (blk_below (by exact (blk_far Ke3.out (p := ⟨bx, 6, none⟩) (Nex.out) _)) hb)
  have Ks4 : Hid (w4.heap[bs]? = some (.cells #[.string s] 9 (0, 0))) := Lib.hid (blk_below (by exact (blk_far Ks3.out (p := ⟨bx, 6, none⟩) (Nsx.out) _)) hb)
  have Kx4 : Hid (w4.heap[bx]? = some (.cells #[.int .u64 0, .int .u64 0, .int .u64 0, .int .u64 0, .int .i64 0, .int .i64 st, .int .i64 (nm s 2 2), .int .i64 0, .bool false] 112 (0, 0))) := Lib.hid (blk_below (by exact (blk_put (cs' := #[.int .u64 0, .int .u64 0, .int .u64 0, .int .u64 0, .int .i64 0, .int .i64 st, .int .i64 (nm s 2 2), .int .i64 0, .bool false]) Kx3.out 6 (.int .i64 (nm s 2 2)) rfl)) hb)
  have Kf4 : Hid (w4.heap[bf]? = some (.cells #[.func (Fn.func 91) #[] #[]] 135 (0, 0))) := Lib.hid (blk_below (by exact (blk_far Kf3.out (p := ⟨bx, 6, none⟩) (Nfx.out) _)) hb)
  have HB4 : Hid (Below n0 w w4) := Lib.hid (Below.trans (by exact ((HB3.out).setCell (p := ⟨bx, 6, none⟩) Lx.out (.int .i64 (nm s 2 2)))) (hb.mono (by have := HB3.out.size; have := HN.out; simp; omega)))
  clear cs0 fs0 cx5 fx5 cx6 fx6; clear hb
  have cf0 : w4.cell? ⟨bf, 0, none⟩ = some (.func (Fn.func 91) #[] #[]) := (blk_cell Kf4.out 0).trans rfl; have ff0 := blk_frozen Kf4.out 0; have cx7 : w4.cell? ⟨bx, 7, none⟩ = some (.int .i64 0) := (blk_cell Kx4.out 7).trans rfl; have fx7 := blk_frozen Kx4.out 7; have cx8 : w4.cell? ⟨bx, 8, none⟩ = some (.bool false) := (blk_cell Kx4.out 8).trans rfl; have fx8 := blk_frozen Kx4.out 8; skip
  go_wp2_with fail
  (with_reducible refine (need_no _ (24) _ rfl).mono ?_); rintro e wq ⟨rfl, hb⟩
  exact And.intro rfl (show PostBad (24) n0 be w (.panicked (up (24))) wq from ⟨rfl, blk_below (by exact Ke4.out) hb, Below.trans (by exact HB4.out) (hb.mono (by have := HB4.out.size; have := HN.out; simp; omega))⟩)
set_option maxRecDepth 100000 in
set_option maxHeartbeats 2000000 in
theorem good (s : ByteArray) (n0 g be bs bx bf : Nat)  (st : Int) (sm : Int) (off : Int) (mo : Bool) (w : World) (E : Env s n0 g be bs bx bf w) (hs : s.size < 4611686018427387904) (c0 : decide (20 ≤ (s.size : Int)) = true) (c1 : (nm s 0 1 / 16 == 4) = true) (c2 : decide (20 ≤ st) = true) (c3 : decide (st ≤ (s.size : Int)) = true) (c4 : decide (st ≤ nm s 2 2) = true) (c5 : decide (nm s 2 2 ≤ (s.size : Int)) = true) (c6 : (sm == 0) = true) (hst : wrap64 (bits .and .i64 (nm s 0 1) 15 * 4) = st) (p0 : 0 ≤ st) (p1 : st ≤ s.size) (hsum : ∀ w, Calls Try.prog 87 #[.string (s.extract 0 st.toNat)] w fun e w' => e = .returned (.int .i64 sm) ∧ Below w.heap.size w w') (hoff : bits .and .i64 (nm s 6 2) 8191 = off) (hmo : (bits .and .i64 (nm s 6 2) 8192 != 0) = mo) :
    Calls Try.prog 127 #[.pointer (some ⟨g, 0, none⟩), .pointer (some ⟨bs, 0, none⟩), .pointer (some ⟨bx, 0, none⟩), .pointer (some ⟨bf, 0, none⟩)] w fun e w' => e = .returned (.tuple #[]) ∧ w'.heap[bx]? = some (.cells #[.int .u64 0, .int .u64 (nm s 12 4), .int .u64 0, .int .u64 (nm s 16 4), .int .i64 (nm s 9 1), .int .i64 st, .int .i64 (nm s 2 2), .int .i64 off, .bool mo] 112 (0, 0)) ∧ Blk w' be (.int .i64 0) 47 ∧ Below n0 w w' := by
  have Kr0 := Lib.hid E.kr
  have Ke0 := Lib.hid E.ke
  have Ks0 := Lib.hid E.ks
  have Kx0 := Lib.hid E.kx
  have Kf0 := Lib.hid E.kf
  have Nre := Lib.hid E.nre
  have Nrs := Lib.hid E.nrs
  have Nrx := Lib.hid E.nrx
  have Nrf := Lib.hid E.nrf
  have Ner := Lib.hid E.ner
  have Nes := Lib.hid E.nes
  have Nex := Lib.hid E.nex
  have Nef := Lib.hid E.nef
  have Nsr := Lib.hid E.nsr
  have Nse := Lib.hid E.nse
  have Nsx := Lib.hid E.nsx
  have Nsf := Lib.hid E.nsf
  have Nxr := Lib.hid E.nxr
  have Nxe := Lib.hid E.nxe
  have Nxs := Lib.hid E.nxs
  have Nxf := Lib.hid E.nxf
  have Nfr := Lib.hid E.nfr
  have Nfe := Lib.hid E.nfe
  have Nfs := Lib.hid E.nfs
  have Nfx := Lib.hid E.nfx
  have Lr := Lib.hid E.lr
  have Lx := Lib.hid E.lx
  have HN := Lib.hid E.hn
  clear E
  have HB0 := Lib.hid (Below.refl n0 w)
  have HS := Lib.hid hs; clear hs
  have HSUM := Lib.hid hsum; clear hsum
  have cs0 : w.cell? ⟨bs, 0, none⟩ = some (.string s) := (blk_cell Ks0.out 0).trans rfl; have fs0 := blk_frozen Ks0.out 0; skip
  have HL := Lib.hid (of_decide_eq_true c0)
  go_enter Try.func127, Try.ntmps127
  go_wp2_with fail
  (with_reducible refine (need_ok _ _ _).mono ?_); rintro e w_ ⟨rfl, rfl⟩
  go_wp2_with fail
  (with_reducible refine (u8_ok g s (0) _ (rd_of Kr0.out) HS.out (by have := HL.out; omega)).mono ?_); rintro e w1 ⟨rfl, hr, hg⟩
  have Ke1 : Hid (w1.heap[be]? = some (.cells #[.int .i64 0] 47 (0, 0))) := Lib.hid (blk_grown (by exact Ke0.out) hg (by simpa using Ner.out))
  have Ks1 : Hid (w1.heap[bs]? = some (.cells #[.string s] 9 (0, 0))) := Lib.hid (blk_grown (by exact Ks0.out) hg (by simpa using Nsr.out))
  have Kx1 : Hid (w1.heap[bx]? = some (.cells #[.int .u64 0, .int .u64 0, .int .u64 0, .int .u64 0, .int .i64 0, .int .i64 0, .int .i64 0, .int .i64 0, .bool false] 112 (0, 0))) := Lib.hid (blk_grown (by exact Kx0.out) hg (by simpa using Nxr.out))
  have Kf1 : Hid (w1.heap[bf]? = some (.cells #[.func (Fn.func 91) #[] #[]] 135 (0, 0))) := Lib.hid (blk_grown (by exact Kf0.out) hg (by simpa using Nfr.out))
  have HB1 : Hid (Below n0 w w1) := Lib.hid (grown_lo (by exact HB0.out) hg Lr.out HN.out)
  have Kr1 : Hid (w1.heap[g]? = some (.cells #[.string s, .int .i64 1] 141 (0, 0))) := Lib.hid (by have := hr; simpa only [Rd, show ((0 : Int) + 1) = 1 from rfl] using this)
  clear cs0 fs0; clear hr hg
  have cs0 : w1.cell? ⟨bs, 0, none⟩ = some (.string s) := (blk_cell Ks1.out 0).trans rfl; have fs0 := blk_frozen Ks1.out 0; have cx5 : w1.cell? ⟨bx, 5, none⟩ = some (.int .i64 0) := (blk_cell Kx1.out 5).trans rfl; have fx5 := blk_frozen Kx1.out 5; skip
  go_wp2_with fail
  (with_reducible refine (need_ok _ _ _).mono ?_); rintro e w_ ⟨rfl, rfl⟩
  go_wp2_with fail
  (with_reducible refine (need_ok _ _ _).mono ?_); rintro e w_ ⟨rfl, rfl⟩
  go_wp2_with fail
  (with_reducible refine (take_ok g s (1) 1 _ (rd_of (blk_far Kr1.out (p := ⟨bx, 5, none⟩) (Nrx.out) _)) (by have := HL.out; omega) HS.out (by have := HL.out; omega)).mono ?_); rintro e w2 ⟨rfl, hr, hg⟩
  have Ke2 : Hid (w2.heap[be]? = some (.cells #[.int .i64 0] 47 (0, 0))) := Lib.hid (blk_grown (by exact (blk_far Ke1.out (p := ⟨bx, 5, none⟩) (Nex.out) _)) hg (by simpa using Ner.out))
  have Ks2 : Hid (w2.heap[bs]? = some (.cells #[.string s] 9 (0, 0))) := Lib.hid (blk_grown (by exact (blk_far Ks1.out (p := ⟨bx, 5, none⟩) (Nsx.out) _)) hg (by simpa using Nsr.out))
  have Kx2 : Hid (w2.heap[bx]? = some (.cells #[.int .u64 0, .int .u64 0, .int .u64 0, .int .u64 0, .int .i64 0, .int .i64 st, .int .i64 0, .int .i64 0, .bool false] 112 (0, 0))) := Lib.hid (blk_grown (by exact (blk_put (cs' := #[.int .u64 0, .int .u64 0, .int .u64 0, .int .u64 0, .int .i64 0, .int .i64 st, .int .i64 0, .int .i64 0, .bool false]) Kx1.out 5 (.int .i64 st) rfl)) hg (by simpa using Nxr.out))
  have Kf2 : Hid (w2.heap[bf]? = some (.cells #[.func (Fn.func 91) #[] #[]] 135 (0, 0))) := Lib.hid (blk_grown (by exact (blk_far Kf1.out (p := ⟨bx, 5, none⟩) (Nfx.out) _)) hg (by simpa using Nfr.out))
  have HB2 : Hid (Below n0 w w2) := Lib.hid (grown_lo (by exact ((HB1.out).setCell (p := ⟨bx, 5, none⟩) Lx.out (.int .i64 st))) hg Lr.out HN.out)
  have Kr2 : Hid (w2.heap[g]? = some (.cells #[.string s, .int .i64 2] 141 (0, 0))) := Lib.hid (by have := hr; simpa only [Rd, show ((1 : Int) + 1) = 2 from rfl] using this)
  clear cs0 fs0 cx5 fx5; clear hr hg
  have cs0 : w2.cell? ⟨bs, 0, none⟩ = some (.string s) := (blk_cell Ks2.out 0).trans rfl; have fs0 := blk_frozen Ks2.out 0; have cx5 : w2.cell? ⟨bx, 5, none⟩ = some (.int .i64 st) := (blk_cell Kx2.out 5).trans rfl; have fx5 := blk_frozen Kx2.out 5; have cx6 : w2.cell? ⟨bx, 6, none⟩ = some (.int .i64 0) := (blk_cell Kx2.out 6).trans rfl; have fx6 := blk_frozen Kx2.out 6; have cf0 : w2.cell? ⟨bf, 0, none⟩ = some (.func (Fn.func 91) #[] #[]) := (blk_cell Kf2.out 0).trans rfl; have ff0 := blk_frozen Kf2.out 0; skip
  go_wp2_with fail
  (with_reducible refine (u16_ok g s (2) _ (rd_of Kr2.out) HS.out (by have := HL.out; omega)).mono ?_); rintro e w3 ⟨rfl, hr, hg⟩
  have Ke3 : Hid (w3.heap[be]? = some (.cells #[.int .i64 0] 47 (0, 0))) := Lib.hid (blk_grown (by exact Ke2.out) hg (by simpa using Ner.out))
  have Ks3 : Hid (w3.heap[bs]? = some (.cells #[.string s] 9 (0, 0))) := Lib.hid (blk_grown (by exact Ks2.out) hg (by simpa using Nsr.out))
  have Kx3 : Hid (w3.heap[bx]? = some (.cells #[.int .u64 0, .int .u64 0, .int .u64 0, .int .u64 0, .int .i64 0, .int .i64 st, .int .i64 0, .int .i64 0, .bool false] 112 (0, 0))) := Lib.hid (blk_grown (by exact Kx2.out) hg (by simpa using Nxr.out))
  have Kf3 : Hid (w3.heap[bf]? = some (.cells #[.func (Fn.func 91) #[] #[]] 135 (0, 0))) := Lib.hid (blk_grown (by exact Kf2.out) hg (by simpa using Nfr.out))
  have HB3 : Hid (Below n0 w w3) := Lib.hid (grown_lo (by exact HB2.out) hg Lr.out HN.out)
  have Kr3 : Hid (w3.heap[g]? = some (.cells #[.string s, .int .i64 4] 141 (0, 0))) := Lib.hid (by have := hr; simpa only [Rd, show ((2 : Int) + 2) = 4 from rfl] using this)
  clear cs0 fs0 cx5 fx5 cx6 fx6 cf0 ff0; clear hr hg
  have cs0 : w3.cell? ⟨bs, 0, none⟩ = some (.string s) := (blk_cell Ks3.out 0).trans rfl; have fs0 := blk_frozen Ks3.out 0; have cx5 : w3.cell? ⟨bx, 5, none⟩ = some (.int .i64 st) := (blk_cell Kx3.out 5).trans rfl; have fx5 := blk_frozen Kx3.out 5; have cx6 : w3.cell? ⟨bx, 6, none⟩ = some (.int .i64 0) := (blk_cell Kx3.out 6).trans rfl; have fx6 := blk_frozen Kx3.out 6; skip
  go_wp2_with fail
  (with_reducible refine (need_ok _ _ _).mono ?_); rintro e w_ ⟨rfl, rfl⟩
  go_wp2_with fail
  (with_reducible refine (HSUM.out _).mono ?_); rintro e w4 ⟨rfl, hb⟩
  have Kr4 : Hid (w4.heap[g]? = some (.cells #[.string s, .int .i64 4] 141 (0, 0))) := Lib.hid (blk_below (by exact (blk_far Kr3.out (p := ⟨bx, 6, none⟩) (Nrx.out) _)) hb)
  have Ke4 : Hid (w4.heap[be]? = some (.cells #[.int .i64 0] 47 (0, 0))) := Lib.hid (blk_below (by exact (blk_far Ke3.out (p := ⟨bx, 6, none⟩) (Nex.out) _)) hb)
  have Ks4 : Hid (w4.heap[bs]? = some (.cells #[.string s] 9 (0, 0))) := Lib.hid (blk_below (by exact (blk_far Ks3.out (p := ⟨bx, 6, none⟩) (Nsx.out) _)) hb)
  have Kx4 : Hid (w4.heap[bx]? = some (.cells #[.int .u64 0, .int .u64 0, .int .u64 0, .int .u64 0, .int .i64 0, .int .i64 st, .int .i64 (nm s 2 2), .int .i64 0, .bool false] 112 (0, 0))) := Lib.hid (blk_below (by exact (blk_put (cs' := #[.int .u64 0, .int .u64 0, .int .u64 0, .int .u64 0, .int .i64 0, .int .i64 st, .int .i64 (nm s 2 2), .int .i64 0, .bool false]) Kx3.out 6 (.int .i64 (nm s 2 2)) rfl)) hb)
  have Kf4 : Hid (w4.heap[bf]? = some (.cells #[.func (Fn.func 91) #[] #[]] 135 (0, 0))) := Lib.hid (blk_below (by exact (blk_far Kf3.out (p := ⟨bx, 6, none⟩) (Nfx.out) _)) hb)
  have HB4 : Hid (Below n0 w w4) := Lib.hid (Below.trans (by exact ((HB3.out).setCell (p := ⟨bx, 6, none⟩) Lx.out (.int .i64 (nm s 2 2)))) (hb.mono (by have := HB3.out.size; have := HN.out; simp; omega)))
  clear cs0 fs0 cx5 fx5 cx6 fx6; clear hb
  have cf0 : w4.cell? ⟨bf, 0, none⟩ = some (.func (Fn.func 91) #[] #[]) := (blk_cell Kf4.out 0).trans rfl; have ff0 := blk_frozen Kf4.out 0; have cx7 : w4.cell? ⟨bx, 7, none⟩ = some (.int .i64 0) := (blk_cell Kx4.out 7).trans rfl; have fx7 := blk_frozen Kx4.out 7; have cx8 : w4.cell? ⟨bx, 8, none⟩ = some (.bool false) := (blk_cell Kx4.out 8).trans rfl; have fx8 := blk_frozen Kx4.out 8; skip
  go_wp2_with fail
  (with_reducible refine (need_ok _ _ _).mono ?_); rintro e w_ ⟨rfl, rfl⟩
  go_wp2_with fail
  (with_reducible refine (take_ok g s (4) 2 _ (rd_of Kr4.out) (by have := HL.out; omega) HS.out (by have := HL.out; omega)).mono ?_); rintro e w5 ⟨rfl, hr, hg⟩
  have Ke5 : Hid (w5.heap[be]? = some (.cells #[.int .i64 0] 47 (0, 0))) := Lib.hid (blk_grown (by exact Ke4.out) hg (by simpa using Ner.out))
  have Ks5 : Hid (w5.heap[bs]? = some (.cells #[.string s] 9 (0, 0))) := Lib.hid (blk_grown (by exact Ks4.out) hg (by simpa using Nsr.out))
  have Kx5 : Hid (w5.heap[bx]? = some (.cells #[.int .u64 0, .int .u64 0, .int .u64 0, .int .u64 0, .int .i64 0, .int .i64 st, .int .i64 (nm s 2 2), .int .i64 0, .bool false] 112 (0, 0))) := Lib.hid (blk_grown (by exact Kx4.out) hg (by simpa using Nxr.out))
  have Kf5 : Hid (w5.heap[bf]? = some (.cells #[.func (Fn.func 91) #[] #[]] 135 (0, 0))) := Lib.hid (blk_grown (by exact Kf4.out) hg (by simpa using Nfr.out))
  have HB5 : Hid (Below n0 w w5) := Lib.hid (grown_lo (by exact HB4.out) hg Lr.out HN.out)
  have Kr5 : Hid (w5.heap[g]? = some (.cells #[.string s, .int .i64 6] 141 (0, 0))) := Lib.hid (by have := hr; simpa only [Rd, show ((4 : Int) + 2) = 6 from rfl] using this)
  clear cf0 ff0 cx7 fx7 cx8 fx8; clear hr hg
  have cf0 : w5.cell? ⟨bf, 0, none⟩ = some (.func (Fn.func 91) #[] #[]) := (blk_cell Kf5.out 0).trans rfl; have ff0 := blk_frozen Kf5.out 0; skip
  go_wp2_with fail
  (with_reducible refine (u16_ok g s (6) _ (rd_of Kr5.out) HS.out (by have := HL.out; omega)).mono ?_); rintro e w6 ⟨rfl, hr, hg⟩
  have Ke6 : Hid (w6.heap[be]? = some (.cells #[.int .i64 0] 47 (0, 0))) := Lib.hid (blk_grown (by exact Ke5.out) hg (by simpa using Ner.out))
  have Ks6 : Hid (w6.heap[bs]? = some (.cells #[.string s] 9 (0, 0))) := Lib.hid (blk_grown (by exact Ks5.out) hg (by simpa using Nsr.out))
  have Kx6 : Hid (w6.heap[bx]? = some (.cells #[.int .u64 0, .int .u64 0, .int .u64 0, .int .u64 0, .int .i64 0, .int .i64 st, .int .i64 (nm s 2 2), .int .i64 0, .bool false] 112 (0, 0))) := Lib.hid (blk_grown (by exact Kx5.out) hg (by simpa using Nxr.out))
  have Kf6 : Hid (w6.heap[bf]? = some (.cells #[.func (Fn.func 91) #[] #[]] 135 (0, 0))) := Lib.hid (blk_grown (by exact Kf5.out) hg (by simpa using Nfr.out))
  have HB6 : Hid (Below n0 w w6) := Lib.hid (grown_lo (by exact HB5.out) hg Lr.out HN.out)
  have Kr6 : Hid (w6.heap[g]? = some (.cells #[.string s, .int .i64 8] 141 (0, 0))) := Lib.hid (by have := hr; simpa only [Rd, show ((6 : Int) + 2) = 8 from rfl] using this)
  clear cf0 ff0; clear hr hg
  have cx7 : w6.cell? ⟨bx, 7, none⟩ = some (.int .i64 0) := (blk_cell Kx6.out 7).trans rfl; have fx7 := blk_frozen Kx6.out 7; have cx8 : w6.cell? ⟨bx, 8, none⟩ = some (.bool false) := (blk_cell Kx6.out 8).trans rfl; have fx8 := blk_frozen Kx6.out 8; skip
  go_wp2_with fail
  (with_reducible refine (take_ok g s (8) 1 _ (rd_of (blk_far (blk_far Kr6.out (p := ⟨bx, 7, none⟩) (Nrx.out) _) (p := ⟨bx, 8, none⟩) (Nrx.out) _)) (by have := HL.out; omega) HS.out (by have := HL.out; omega)).mono ?_); rintro e w7 ⟨rfl, hr, hg⟩
  have Ke7 : Hid (w7.heap[be]? = some (.cells #[.int .i64 0] 47 (0, 0))) := Lib.hid (blk_grown (by exact (blk_far (blk_far Ke6.out (p := ⟨bx, 7, none⟩) (Nex.out) _) (p := ⟨bx, 8, none⟩) (Nex.out) _)) hg (by simpa using Ner.out))
  have Ks7 : Hid (w7.heap[bs]? = some (.cells #[.string s] 9 (0, 0))) := Lib.hid (blk_grown (by exact (blk_far (blk_far Ks6.out (p := ⟨bx, 7, none⟩) (Nsx.out) _) (p := ⟨bx, 8, none⟩) (Nsx.out) _)) hg (by simpa using Nsr.out))
  have Kx7 : Hid (w7.heap[bx]? = some (.cells #[.int .u64 0, .int .u64 0, .int .u64 0, .int .u64 0, .int .i64 0, .int .i64 st, .int .i64 (nm s 2 2), .int .i64 off, .bool mo] 112 (0, 0))) := Lib.hid (blk_grown (by exact (blk_put (cs' := #[.int .u64 0, .int .u64 0, .int .u64 0, .int .u64 0, .int .i64 0, .int .i64 st, .int .i64 (nm s 2 2), .int .i64 off, .bool mo]) (blk_put (cs' := #[.int .u64 0, .int .u64 0, .int .u64 0, .int .u64 0, .int .i64 0, .int .i64 st, .int .i64 (nm s 2 2), .int .i64 off, .bool false]) Kx6.out 7 (.int .i64 off) rfl) 8 (.bool mo) rfl)) hg (by simpa using Nxr.out))
  have Kf7 : Hid (w7.heap[bf]? = some (.cells #[.func (Fn.func 91) #[] #[]] 135 (0, 0))) := Lib.hid (blk_grown (by exact (blk_far (blk_far Kf6.out (p := ⟨bx, 7, none⟩) (Nfx.out) _) (p := ⟨bx, 8, none⟩) (Nfx.out) _)) hg (by simpa using Nfr.out))
  have HB7 : Hid (Below n0 w w7) := Lib.hid (grown_lo (by exact ((((HB6.out).setCell (p := ⟨bx, 7, none⟩) Lx.out (.int .i64 off))).setCell (p := ⟨bx, 8, none⟩) Lx.out (.bool mo))) hg Lr.out HN.out)
  have Kr7 : Hid (w7.heap[g]? = some (.cells #[.string s, .int .i64 9] 141 (0, 0))) := Lib.hid (by have := hr; simpa only [Rd, show ((8 : Int) + 1) = 9 from rfl] using this)
  clear cx7 fx7 cx8 fx8; clear hr hg
  skip
  go_wp2_with fail
  (with_reducible refine (u8_ok g s (9) _ (rd_of Kr7.out) HS.out (by have := HL.out; omega)).mono ?_); rintro e w8 ⟨rfl, hr, hg⟩
  have Ke8 : Hid (w8.heap[be]? = some (.cells #[.int .i64 0] 47 (0, 0))) := Lib.hid (blk_grown (by exact Ke7.out) hg (by simpa using Ner.out))
  have Ks8 : Hid (w8.heap[bs]? = some (.cells #[.string s] 9 (0, 0))) := Lib.hid (blk_grown (by exact Ks7.out) hg (by simpa using Nsr.out))
  have Kx8 : Hid (w8.heap[bx]? = some (.cells #[.int .u64 0, .int .u64 0, .int .u64 0, .int .u64 0, .int .i64 0, .int .i64 st, .int .i64 (nm s 2 2), .int .i64 off, .bool mo] 112 (0, 0))) := Lib.hid (blk_grown (by exact Kx7.out) hg (by simpa using Nxr.out))
  have Kf8 : Hid (w8.heap[bf]? = some (.cells #[.func (Fn.func 91) #[] #[]] 135 (0, 0))) := Lib.hid (blk_grown (by exact Kf7.out) hg (by simpa using Nfr.out))
  have HB8 : Hid (Below n0 w w8) := Lib.hid (grown_lo (by exact HB7.out) hg Lr.out HN.out)
  have Kr8 : Hid (w8.heap[g]? = some (.cells #[.string s, .int .i64 10] 141 (0, 0))) := Lib.hid (by have := hr; simpa only [Rd, show ((9 : Int) + 1) = 10 from rfl] using this)
  clear hr hg
  have cx4 : w8.cell? ⟨bx, 4, none⟩ = some (.int .i64 0) := (blk_cell Kx8.out 4).trans rfl; have fx4 := blk_frozen Kx8.out 4; skip
  go_wp2_with fail
  (with_reducible refine (take_ok g s (10) 2 _ (rd_of (blk_far Kr8.out (p := ⟨bx, 4, none⟩) (Nrx.out) _)) (by have := HL.out; omega) HS.out (by have := HL.out; omega)).mono ?_); rintro e w9 ⟨rfl, hr, hg⟩
  have Ke9 : Hid (w9.heap[be]? = some (.cells #[.int .i64 0] 47 (0, 0))) := Lib.hid (blk_grown (by exact (blk_far Ke8.out (p := ⟨bx, 4, none⟩) (Nex.out) _)) hg (by simpa using Ner.out))
  have Ks9 : Hid (w9.heap[bs]? = some (.cells #[.string s] 9 (0, 0))) := Lib.hid (blk_grown (by exact (blk_far Ks8.out (p := ⟨bx, 4, none⟩) (Nsx.out) _)) hg (by simpa using Nsr.out))
  have Kx9 : Hid (w9.heap[bx]? = some (.cells #[.int .u64 0, .int .u64 0, .int .u64 0, .int .u64 0, .int .i64 (nm s 9 1), .int .i64 st, .int .i64 (nm s 2 2), .int .i64 off, .bool mo] 112 (0, 0))) := Lib.hid (blk_grown (by exact (blk_put (cs' := #[.int .u64 0, .int .u64 0, .int .u64 0, .int .u64 0, .int .i64 (nm s 9 1), .int .i64 st, .int .i64 (nm s 2 2), .int .i64 off, .bool mo]) Kx8.out 4 (.int .i64 (nm s 9 1)) rfl)) hg (by simpa using Nxr.out))
  have Kf9 : Hid (w9.heap[bf]? = some (.cells #[.func (Fn.func 91) #[] #[]] 135 (0, 0))) := Lib.hid (blk_grown (by exact (blk_far Kf8.out (p := ⟨bx, 4, none⟩) (Nfx.out) _)) hg (by simpa using Nfr.out))
  have HB9 : Hid (Below n0 w w9) := Lib.hid (grown_lo (by exact ((HB8.out).setCell (p := ⟨bx, 4, none⟩) Lx.out (.int .i64 (nm s 9 1)))) hg Lr.out HN.out)
  have Kr9 : Hid (w9.heap[g]? = some (.cells #[.string s, .int .i64 12] 141 (0, 0))) := Lib.hid (by have := hr; simpa only [Rd, show ((10 : Int) + 2) = 12 from rfl] using this)
  clear cx4 fx4; clear hr hg
  skip
  go_wp2_with fail
  (with_reducible refine (addr_ok g s 12 _ (rd_of Kr9.out) HS.out (by have := HL.out; omega)).mono ?_); rintro e w10 ⟨rfl, hr, hg⟩
  have Ke10 : Hid (w10.heap[be]? = some (.cells #[.int .i64 0] 47 (0, 0))) := Lib.hid (blk_grown (by exact Ke9.out) hg (by simpa using Ner.out))
  have Ks10 : Hid (w10.heap[bs]? = some (.cells #[.string s] 9 (0, 0))) := Lib.hid (blk_grown (by exact Ks9.out) hg (by simpa using Nsr.out))
  have Kx10 : Hid (w10.heap[bx]? = some (.cells #[.int .u64 0, .int .u64 0, .int .u64 0, .int .u64 0, .int .i64 (nm s 9 1), .int .i64 st, .int .i64 (nm s 2 2), .int .i64 off, .bool mo] 112 (0, 0))) := Lib.hid (blk_grown (by exact Kx9.out) hg (by simpa using Nxr.out))
  have Kf10 : Hid (w10.heap[bf]? = some (.cells #[.func (Fn.func 91) #[] #[]] 135 (0, 0))) := Lib.hid (blk_grown (by exact Kf9.out) hg (by simpa using Nfr.out))
  have HB10 : Hid (Below n0 w w10) := Lib.hid (grown_lo (by exact HB9.out) hg Lr.out HN.out)
  have Kr10 : Hid (w10.heap[g]? = some (.cells #[.string s, .int .i64 16] 141 (0, 0))) := Lib.hid (by have := hr; simpa only [Rd, show (((12 : Nat) : Int) + 4) = 16 from rfl] using this)
  clear hr hg
  have cx0 : w10.cell? ⟨bx, 0, none⟩ = some (.int .u64 0) := (blk_cell Kx10.out 0).trans rfl; have fx0 := blk_frozen Kx10.out 0; have cx1 : w10.cell? ⟨bx, 1, none⟩ = some (.int .u64 0) := (blk_cell Kx10.out 1).trans rfl; have fx1 := blk_frozen Kx10.out 1; skip
  go_wp2_with fail
  (with_reducible refine (addr_ok g s 16 _ (rd_of (blk_far (blk_far Kr10.out (p := ⟨bx, 0, none⟩) (Nrx.out) _) (p := ⟨bx, 1, none⟩) (Nrx.out) _)) HS.out (by have := HL.out; omega)).mono ?_); rintro e w11 ⟨rfl, hr, hg⟩
  have Ke11 : Hid (w11.heap[be]? = some (.cells #[.int .i64 0] 47 (0, 0))) := Lib.hid (blk_grown (by exact (blk_far (blk_far Ke10.out (p := ⟨bx, 0, none⟩) (Nex.out) _) (p := ⟨bx, 1, none⟩) (Nex.out) _)) hg (by simpa using Ner.out))
  have Ks11 : Hid (w11.heap[bs]? = some (.cells #[.string s] 9 (0, 0))) := Lib.hid (blk_grown (by exact (blk_far (blk_far Ks10.out (p := ⟨bx, 0, none⟩) (Nsx.out) _) (p := ⟨bx, 1, none⟩) (Nsx.out) _)) hg (by simpa using Nsr.out))
  have Kx11 : Hid (w11.heap[bx]? = some (.cells #[.int .u64 0, .int .u64 (nm s 12 4), .int .u64 0, .int .u64 0, .int .i64 (nm s 9 1), .int .i64 st, .int .i64 (nm s 2 2), .int .i64 off, .bool mo] 112 (0, 0))) := Lib.hid (blk_grown (by exact (blk_put (cs' := #[.int .u64 0, .int .u64 (nm s 12 4), .int .u64 0, .int .u64 0, .int .i64 (nm s 9 1), .int .i64 st, .int .i64 (nm s 2 2), .int .i64 off, .bool mo]) (blk_put (cs' := #[.int .u64 0, .int .u64 0, .int .u64 0, .int .u64 0, .int .i64 (nm s 9 1), .int .i64 st, .int .i64 (nm s 2 2), .int .i64 off, .bool mo]) Kx10.out 0 (.int .u64 0) rfl) 1 (.int .u64 (nm s 12 4)) rfl)) hg (by simpa using Nxr.out))
  have Kf11 : Hid (w11.heap[bf]? = some (.cells #[.func (Fn.func 91) #[] #[]] 135 (0, 0))) := Lib.hid (blk_grown (by exact (blk_far (blk_far Kf10.out (p := ⟨bx, 0, none⟩) (Nfx.out) _) (p := ⟨bx, 1, none⟩) (Nfx.out) _)) hg (by simpa using Nfr.out))
  have HB11 : Hid (Below n0 w w11) := Lib.hid (grown_lo (by exact ((((HB10.out).setCell (p := ⟨bx, 0, none⟩) Lx.out (.int .u64 0))).setCell (p := ⟨bx, 1, none⟩) Lx.out (.int .u64 (nm s 12 4)))) hg Lr.out HN.out)
  have Kr11 : Hid (w11.heap[g]? = some (.cells #[.string s, .int .i64 20] 141 (0, 0))) := Lib.hid (by have := hr; simpa only [Rd, show (((16 : Nat) : Int) + 4) = 20 from rfl] using this)
  clear cx0 fx0 cx1 fx1; clear hr hg
  have cx2 : w11.cell? ⟨bx, 2, none⟩ = some (.int .u64 0) := (blk_cell Kx11.out 2).trans rfl; have fx2 := blk_frozen Kx11.out 2; have cx3 : w11.cell? ⟨bx, 3, none⟩ = some (.int .u64 0) := (blk_cell Kx11.out 3).trans rfl; have fx3 := blk_frozen Kx11.out 3; skip
  go_wp2_with fail
  go_end0
  exact ⟨rfl, (blk_put (cs' := #[.int .u64 0, .int .u64 (nm s 12 4), .int .u64 0, .int .u64 (nm s 16 4), .int .i64 (nm s 9 1), .int .i64 st, .int .i64 (nm s 2 2), .int .i64 off, .bool mo]) (blk_put (cs' := #[.int .u64 0, .int .u64 (nm s 12 4), .int .u64 0, .int .u64 0, .int .i64 (nm s 9 1), .int .i64 st, .int .i64 (nm s 2 2), .int .i64 off, .bool mo]) Kx11.out 2 (.int .u64 0) rfl) 3 (.int .u64 (nm s 16 4)) rfl), (blk_far (blk_far Ke11.out (p := ⟨bx, 2, none⟩) (Nex.out) _) (p := ⟨bx, 3, none⟩) (Nex.out) _), ((((HB11.out).setCell (p := ⟨bx, 2, none⟩) Lx.out (.int .u64 0))).setCell (p := ⟨bx, 3, none⟩) Lx.out (.int .u64 (nm s 16 4)))⟩
theorem new_at (w : World) (o : Obj) (n : Nat) (h : w.heap.size = n) : (w.alloc o).heap[n]? = some o := h ▸ blk_new w o
theorem lay (s : ByteArray) (w : World) : ((((w.alloc (.cells #[.string s] 9 (0, 0))).alloc (.cells #[.int .u64 0, .int .u64 0, .int .u64 0, .int .u64 0, .int .i64 0, .int .i64 0, .int .i64 0, .int .i64 0, .bool false] 112 (0, 0))).alloc (.cells #[.int .u64 0, .int .u64 0, .int .u64 0, .int .u64 0, .int .i64 0, .int .i64 0, .int .i64 0, .int .i64 0, .bool false] 112 (0, 0))).alloc (.cells #[.func (Fn.func 91) #[] #[]] 135 (0, 0))).heap[w.heap.size]? = some (.cells #[.string s] 9 (0, 0)) ∧ ((((w.alloc (.cells #[.string s] 9 (0, 0))).alloc (.cells #[.int .u64 0, .int .u64 0, .int .u64 0, .int .u64 0, .int .i64 0, .int .i64 0, .int .i64 0, .int .i64 0, .bool false] 112 (0, 0))).alloc (.cells #[.int .u64 0, .int .u64 0, .int .u64 0, .int .u64 0, .int .i64 0, .int .i64 0, .int .i64 0, .int .i64 0, .bool false] 112 (0, 0))).alloc (.cells #[.func (Fn.func 91) #[] #[]] 135 (0, 0))).heap[w.heap.size + 1]? = some (.cells #[.int .u64 0, .int .u64 0, .int .u64 0, .int .u64 0, .int .i64 0, .int .i64 0, .int .i64 0, .int .i64 0, .bool false] 112 (0, 0)) ∧ ((((w.alloc (.cells #[.string s] 9 (0, 0))).alloc (.cells #[.int .u64 0, .int .u64 0, .int .u64 0, .int .u64 0, .int .i64 0, .int .i64 0, .int .i64 0, .int .i64 0, .bool false] 112 (0, 0))).alloc (.cells #[.int .u64 0, .int .u64 0, .int .u64 0, .int .u64 0, .int .i64 0, .int .i64 0, .int .i64 0, .int .i64 0, .bool false] 112 (0, 0))).alloc (.cells #[.func (Fn.func 91) #[] #[]] 135 (0, 0))).heap[w.heap.size + 2]? = some (.cells #[.int .u64 0, .int .u64 0, .int .u64 0, .int .u64 0, .int .i64 0, .int .i64 0, .int .i64 0, .int .i64 0, .bool false] 112 (0, 0)) ∧ ((((w.alloc (.cells #[.string s] 9 (0, 0))).alloc (.cells #[.int .u64 0, .int .u64 0, .int .u64 0, .int .u64 0, .int .i64 0, .int .i64 0, .int .i64 0, .int .i64 0, .bool false] 112 (0, 0))).alloc (.cells #[.int .u64 0, .int .u64 0, .int .u64 0, .int .u64 0, .int .i64 0, .int .i64 0, .int .i64 0, .int .i64 0, .bool false] 112 (0, 0))).alloc (.cells #[.func (Fn.func 91) #[] #[]] 135 (0, 0))).heap[w.heap.size + 3]? = some (.cells #[.func (Fn.func 91) #[] #[]] 135 (0, 0)) ∧ Below w.heap.size w ((((w.alloc (.cells #[.string s] 9 (0, 0))).alloc (.cells #[.int .u64 0, .int .u64 0, .int .u64 0, .int .u64 0, .int .i64 0, .int .i64 0, .int .i64 0, .int .i64 0, .bool false] 112 (0, 0))).alloc (.cells #[.int .u64 0, .int .u64 0, .int .u64 0, .int .u64 0, .int .i64 0, .int .i64 0, .int .i64 0, .int .i64 0, .bool false] 112 (0, 0))).alloc (.cells #[.func (Fn.func 91) #[] #[]] 135 (0, 0))) ∧ ((((w.alloc (.cells #[.string s] 9 (0, 0))).alloc (.cells #[.int .u64 0, .int .u64 0, .int .u64 0, .int .u64 0, .int .i64 0, .int .i64 0, .int .i64 0, .int .i64 0, .bool false] 112 (0, 0))).alloc (.cells #[.int .u64 0, .int .u64 0, .int .u64 0, .int .u64 0, .int .i64 0, .int .i64 0, .int .i64 0, .int .i64 0, .bool false] 112 (0, 0))).alloc (.cells #[.func (Fn.func 91) #[] #[]] 135 (0, 0))).heap.size = w.heap.size + 4 := by
  refine ⟨blk_alloc (blk_alloc (blk_alloc (new_at _ _ _ (by simp)) _) _) _, blk_alloc (blk_alloc (new_at _ _ _ (by simp)) _) _, blk_alloc (new_at _ _ _ (by simp)) _, new_at _ _ _ (by simp), (((((Below.refl w.heap.size w).alloc (by first | (simp; done) | (simp; omega)) _).alloc (by first | (simp; done) | (simp; omega)) _).alloc (by first | (simp; done) | (simp; omega)) _).alloc (by first | (simp; done) | (simp; omega)) _), by simp⟩
theorem env_of (s : ByteArray) (w wl : World) (hz : wl.heap.size = w.heap.size + 4) (k0 : wl.heap[w.heap.size]? = some (.cells #[.string s] 9 (0, 0))) (k1 : wl.heap[w.heap.size + 1]? = some (.cells #[.int .u64 0, .int .u64 0, .int .u64 0, .int .u64 0, .int .i64 0, .int .i64 0, .int .i64 0, .int .i64 0, .bool false] 112 (0, 0))) (k2 : wl.heap[w.heap.size + 2]? = some (.cells #[.int .u64 0, .int .u64 0, .int .u64 0, .int .u64 0, .int .i64 0, .int .i64 0, .int .i64 0, .int .i64 0, .bool false] 112 (0, 0))) (k3 : wl.heap[w.heap.size + 3]? = some (.cells #[.func (Fn.func 91) #[] #[]] 135 (0, 0))) :
    Env s (w.heap.size + 2) (wl.heap.size + 1) wl.heap.size (w.heap.size) (w.heap.size + 2) (w.heap.size + 3) ((wl.alloc (.cells #[.int .i64 0] 47 (0, 0))).alloc (.cells #[.string s, .int .i64 0] 141 (0, 0))) := by
  refine ⟨new_at _ _ _ (by simp), blk_alloc (blk_new _ _) _, blk_alloc (blk_alloc k0 _) _, blk_alloc (blk_alloc k2 _) _, blk_alloc (blk_alloc k3 _) _, ?_, ?_, ?_, ?_, ?_, ?_, ?_, ?_, ?_, ?_, ?_, ?_, ?_, ?_, ?_, ?_, ?_, ?_, ?_, ?_, ?_, ?_, by simp; omega⟩ <;> omega
set_option maxRecDepth 100000 in
theorem hent (args : Array Value) (w : World) : Sem.run Try.prog (callFunc 127 args) w = .ok (.enter 127 args) w := by first | rfl | kernel_rfl
set_option maxRecDepth 100000 in
set_option maxHeartbeats 2000000 in
theorem get_good (s : ByteArray) (w : World) (h0 h1 h2 h3 h4 h5 h6 h7 : Int) (h8 : Bool) (hclo : ∀ (n0 g be bs bx bf : Nat) (w : World), Env s n0 g be bs bx bf w → Calls Try.prog 127 #[.pointer (some ⟨g, 0, none⟩), .pointer (some ⟨bs, 0, none⟩), .pointer (some ⟨bx, 0, none⟩), .pointer (some ⟨bf, 0, none⟩)] w fun e w' => e = .returned (.tuple #[]) ∧ w'.heap[bx]? = some (.cells #[.int .u64 h0, .int .u64 h1, .int .u64 h2, .int .u64 h3, .int .i64 h4, .int .i64 h5, .int .i64 h6, .int .i64 h7, .bool h8] 112 (0, 0)) ∧ Blk w' be (.int .i64 0) 47 ∧ Below n0 w w') :
    Calls Try.prog 85 #[.string s] w fun e w' => e = .returned (.tuple #[.agg #[.int .u64 h0, .int .u64 h1, .int .u64 h2, .int .u64 h3, .int .i64 h4, .int .i64 h5, .int .i64 h6, .int .i64 h7, .bool h8], .int .i64 0]) ∧ Below w.heap.size w w' := by
  have hmf := hmf
  obtain ⟨k0, k1, k2, k3, hb, hz⟩ := lay s w
  have K0 := Lib.hid k0
  have K1 := Lib.hid k1
  have K2 := Lib.hid k2
  have K3 := Lib.hid k3
  have HB := Lib.hid hb; have HZ := Lib.hid hz; clear k0 k1 k2 k3 hb hz
  have HC := Lib.hid hclo; clear hclo
  go_enter Try.func85, Try.ntmps85
  go_wp2_with (fail)
  revert K0 K1 K2 K3 HB HZ
  generalize ((((w.alloc (.cells #[.string s] 9 (0, 0))).alloc (.cells #[.int .u64 0, .int .u64 0, .int .u64 0, .int .u64 0, .int .i64 0, .int .i64 0, .int .i64 0, .int .i64 0, .bool false] 112 (0, 0))).alloc (.cells #[.int .u64 0, .int .u64 0, .int .u64 0, .int .u64 0, .int .i64 0, .int .i64 0, .int .i64 0, .int .i64 0, .bool false] 112 (0, 0))).alloc (.cells #[.func (Fn.func 91) #[] #[]] 135 (0, 0))) = wl
  intro K0 K1 K2 K3 HB HZ
  have E := Lib.hid (env_of s w wl HZ.out K0.out K1.out K2.out K3.out)
  refine (try_ok s 127 _ wl (fun w' => w'.heap[w.heap.size + 2]? = some (.cells #[.int .u64 h0, .int .u64 h1, .int .u64 h2, .int .u64 h3, .int .i64 h4, .int .i64 h5, .int .i64 h6, .int .i64 h7, .bool h8] 112 (0, 0)) ∧ Blk w' wl.heap.size (.int .i64 0) 47 ∧ Below (w.heap.size + 2) wl w') hent ?hc).mono ?_
  case hc =>
    refine (HC.out _ _ _ _ _ _ _ E.out).mono ?_
    intro e w2 h
    obtain ⟨rfl, hx, he, hB⟩ := h
    have hB := ((((Below.refl (w.heap.size + 2) wl).alloc (by have := HZ.out; omega) (.cells #[.int .i64 0] 47 (0, 0))).alloc (by have := HZ.out; simp; omega) (.cells #[.string s, .int .i64 0] 141 (0, 0))).trans hB)
    exact ⟨rfl, ⟨hx, he, hB⟩, he.c, he.f⟩
  rintro e w' ⟨rfl, w2, ⟨hx, he, hB⟩, rfl⟩
  dsimp only
  have hQ : w2.heap[w.heap.size + 1]? = some (.cells #[.int .u64 0, .int .u64 0, .int .u64 0, .int .u64 0, .int .i64 0, .int .i64 0, .int .i64 0, .int .i64 0, .bool false] 112 (0, 0)) := (hB.block _ (by have := HZ.out; omega)).trans K1.out
  have k0 : (w2.setCell ⟨wl.heap.size, 0, none⟩ (.int .i64 0)).heap[w.heap.size + 1]? = some (.cells #[.int .u64 0, .int .u64 0, .int .u64 0, .int .u64 0, .int .i64 0, .int .i64 0, .int .i64 0, .int .i64 0, .bool false] 112 (0, 0)) := blk_far hQ (p := ⟨wl.heap.size, 0, none⟩) (by show w.heap.size + 1 ≠ wl.heap.size; have := HZ.out; omega) _
  have kx : (w2.setCell ⟨wl.heap.size, 0, none⟩ (.int .i64 0)).heap[w.heap.size + 2]? = some (.cells #[.int .u64 h0, .int .u64 h1, .int .u64 h2, .int .u64 h3, .int .i64 h4, .int .i64 h5, .int .i64 h6, .int .i64 h7, .bool h8] 112 (0, 0)) := blk_far hx (p := ⟨wl.heap.size, 0, none⟩) (by show w.heap.size + 2 ≠ wl.heap.size; have := HZ.out; omega) _
  have kb := (HB.out.trans (hB.mono (by omega))).setCell (p := ⟨wl.heap.size, 0, none⟩) (show w.heap.size ≤ wl.heap.size by have := HZ.out; omega) (.int .i64 0)
  revert k0 kx kb
  generalize w2.setCell ⟨wl.heap.size, 0, none⟩ (.int .i64 0) = wq
  intro k0 kx kb
  have e0 : wq.cell? ⟨w.heap.size + 1, 0, none⟩ = some (.int .u64 0) := (blk_cell k0 0).trans rfl
  have f0 := blk_frozen k0 0
  have e1 : wq.cell? ⟨w.heap.size + 1, 1, none⟩ = some (.int .u64 0) := (blk_cell k0 1).trans rfl
  have f1 := blk_frozen k0 1
  have e2 : wq.cell? ⟨w.heap.size + 1, 2, none⟩ = some (.int .u64 0) := (blk_cell k0 2).trans rfl
  have f2 := blk_frozen k0 2
  have e3 : wq.cell? ⟨w.heap.size + 1, 3, none⟩ = some (.int .u64 0) := (blk_cell k0 3).trans rfl
  have f3 := blk_frozen k0 3
  have e4 : wq.cell? ⟨w.heap.size + 1, 4, none⟩ = some (.int .i64 0) := (blk_cell k0 4).trans rfl
  have f4 := blk_frozen k0 4
  have e5 : wq.cell? ⟨w.heap.size + 1, 5, none⟩ = some (.int .i64 0) := (blk_cell k0 5).trans rfl
  have f5 := blk_frozen k0 5
  have e6 : wq.cell? ⟨w.heap.size + 1, 6, none⟩ = some (.int .i64 0) := (blk_cell k0 6).trans rfl
  have f6 := blk_frozen k0 6
  have e7 : wq.cell? ⟨w.heap.size + 1, 7, none⟩ = some (.int .i64 0) := (blk_cell k0 7).trans rfl
  have f7 := blk_frozen k0 7
  have e8 : wq.cell? ⟨w.heap.size + 1, 8, none⟩ = some (.bool false) := (blk_cell k0 8).trans rfl
  have f8 := blk_frozen k0 8
  have d0 : wq.cell? ⟨w.heap.size + 2, 0, none⟩ = some (.int .u64 h0) := (blk_cell kx 0).trans rfl
  have d1 : wq.cell? ⟨w.heap.size + 2, 1, none⟩ = some (.int .u64 h1) := (blk_cell kx 1).trans rfl
  have d2 : wq.cell? ⟨w.heap.size + 2, 2, none⟩ = some (.int .u64 h2) := (blk_cell kx 2).trans rfl
  have d3 : wq.cell? ⟨w.heap.size + 2, 3, none⟩ = some (.int .u64 h3) := (blk_cell kx 3).trans rfl
  have d4 : wq.cell? ⟨w.heap.size + 2, 4, none⟩ = some (.int .i64 h4) := (blk_cell kx 4).trans rfl
  have d5 : wq.cell? ⟨w.heap.size + 2, 5, none⟩ = some (.int .i64 h5) := (blk_cell kx 5).trans rfl
  have d6 : wq.cell? ⟨w.heap.size + 2, 6, none⟩ = some (.int .i64 h6) := (blk_cell kx 6).trans rfl
  have d7 : wq.cell? ⟨w.heap.size + 2, 7, none⟩ = some (.int .i64 h7) := (blk_cell kx 7).trans rfl
  have d8 : wq.cell? ⟨w.heap.size + 2, 8, none⟩ = some (.bool h8) := (blk_cell kx 8).trans rfl
  have KB := Lib.hid kb; have K00 := Lib.hid k0; have KX := Lib.hid kx
  clear k0 kx kb hQ he hB E HC HB HZ K0 K1 K2 K3 hx
  go_wp2
  have hrow := Lib.hid (blk_put (cs := #[.int .u64 h0, .int .u64 h1, .int .u64 h2, .int .u64 h3, .int .i64 h4, .int .i64 h5, .int .i64 h6, .int .i64 h7, .bool false]) (cs' := #[.int .u64 h0, .int .u64 h1, .int .u64 h2, .int .u64 h3, .int .i64 h4, .int .i64 h5, .int .i64 h6, .int .i64 h7, .bool h8]) (blk_put (cs := #[.int .u64 h0, .int .u64 h1, .int .u64 h2, .int .u64 h3, .int .i64 h4, .int .i64 h5, .int .i64 h6, .int .i64 0, .bool false]) (cs' := #[.int .u64 h0, .int .u64 h1, .int .u64 h2, .int .u64 h3, .int .i64 h4, .int .i64 h5, .int .i64 h6, .int .i64 h7, .bool false]) (blk_put (cs := #[.int .u64 h0, .int .u64 h1, .int .u64 h2, .int .u64 h3, .int .i64 h4, .int .i64 h5, .int .i64 0, .int .i64 0, .bool false]) (cs' := #[.int .u64 h0, .int .u64 h1, .int .u64 h2, .int .u64 h3, .int .i64 h4, .int .i64 h5, .int .i64 h6, .int .i64 0, .bool false]) (blk_put (cs := #[.int .u64 h0, .int .u64 h1, .int .u64 h2, .int .u64 h3, .int .i64 h4, .int .i64 0, .int .i64 0, .int .i64 0, .bool false]) (cs' := #[.int .u64 h0, .int .u64 h1, .int .u64 h2, .int .u64 h3, .int .i64 h4, .int .i64 h5, .int .i64 0, .int .i64 0, .bool false]) (blk_put (cs := #[.int .u64 h0, .int .u64 h1, .int .u64 h2, .int .u64 h3, .int .i64 0, .int .i64 0, .int .i64 0, .int .i64 0, .bool false]) (cs' := #[.int .u64 h0, .int .u64 h1, .int .u64 h2, .int .u64 h3, .int .i64 h4, .int .i64 0, .int .i64 0, .int .i64 0, .bool false]) (blk_put (cs := #[.int .u64 h0, .int .u64 h1, .int .u64 h2, .int .u64 0, .int .i64 0, .int .i64 0, .int .i64 0, .int .i64 0, .bool false]) (cs' := #[.int .u64 h0, .int .u64 h1, .int .u64 h2, .int .u64 h3, .int .i64 0, .int .i64 0, .int .i64 0, .int .i64 0, .bool false]) (blk_put (cs := #[.int .u64 h0, .int .u64 h1, .int .u64 0, .int .u64 0, .int .i64 0, .int .i64 0, .int .i64 0, .int .i64 0, .bool false]) (cs' := #[.int .u64 h0, .int .u64 h1, .int .u64 h2, .int .u64 0, .int .i64 0, .int .i64 0, .int .i64 0, .int .i64 0, .bool false]) (blk_put (cs := #[.int .u64 h0, .int .u64 0, .int .u64 0, .int .u64 0, .int .i64 0, .int .i64 0, .int .i64 0, .int .i64 0, .bool false]) (cs' := #[.int .u64 h0, .int .u64 h1, .int .u64 0, .int .u64 0, .int .i64 0, .int .i64 0, .int .i64 0, .int .i64 0, .bool false]) (blk_put (cs := #[.int .u64 0, .int .u64 0, .int .u64 0, .int .u64 0, .int .i64 0, .int .i64 0, .int .i64 0, .int .i64 0, .bool false]) (cs' := #[.int .u64 h0, .int .u64 0, .int .u64 0, .int .u64 0, .int .i64 0, .int .i64 0, .int .i64 0, .int .i64 0, .bool false]) K00.out 0 (.int .u64 h0) rfl) 1 (.int .u64 h1) rfl) 2 (.int .u64 h2) rfl) 3 (.int .u64 h3) rfl) 4 (.int .i64 h4) rfl) 5 (.int .i64 h5) rfl) 6 (.int .i64 h6) rfl) 7 (.int .i64 h7) rfl) 8 (.bool h8) rfl)
  have hbz := Lib.hid (show Below w.heap.size w (((((((((wq.setCell ⟨w.heap.size + 1, 0, none⟩ (.int .u64 h0)).setCell ⟨w.heap.size + 1, 1, none⟩ (.int .u64 h1)).setCell ⟨w.heap.size + 1, 2, none⟩ (.int .u64 h2)).setCell ⟨w.heap.size + 1, 3, none⟩ (.int .u64 h3)).setCell ⟨w.heap.size + 1, 4, none⟩ (.int .i64 h4)).setCell ⟨w.heap.size + 1, 5, none⟩ (.int .i64 h5)).setCell ⟨w.heap.size + 1, 6, none⟩ (.int .i64 h6)).setCell ⟨w.heap.size + 1, 7, none⟩ (.int .i64 h7)).setCell ⟨w.heap.size + 1, 8, none⟩ (.bool h8)) from (((((((((KB.out).setCell (p := ⟨w.heap.size + 1, 0, none⟩) (by show w.heap.size ≤ w.heap.size + 1; omega) _).setCell (p := ⟨w.heap.size + 1, 1, none⟩) (by show w.heap.size ≤ w.heap.size + 1; omega) _).setCell (p := ⟨w.heap.size + 1, 2, none⟩) (by show w.heap.size ≤ w.heap.size + 1; omega) _).setCell (p := ⟨w.heap.size + 1, 3, none⟩) (by show w.heap.size ≤ w.heap.size + 1; omega) _).setCell (p := ⟨w.heap.size + 1, 4, none⟩) (by show w.heap.size ≤ w.heap.size + 1; omega) _).setCell (p := ⟨w.heap.size + 1, 5, none⟩) (by show w.heap.size ≤ w.heap.size + 1; omega) _).setCell (p := ⟨w.heap.size + 1, 6, none⟩) (by show w.heap.size ≤ w.heap.size + 1; omega) _).setCell (p := ⟨w.heap.size + 1, 7, none⟩) (by show w.heap.size ≤ w.heap.size + 1; omega) _).setCell (p := ⟨w.heap.size + 1, 8, none⟩) (by show w.heap.size ≤ w.heap.size + 1; omega) _)
  revert hrow hbz
  generalize (((((((((wq.setCell ⟨w.heap.size + 1, 0, none⟩ (.int .u64 h0)).setCell ⟨w.heap.size + 1, 1, none⟩ (.int .u64 h1)).setCell ⟨w.heap.size + 1, 2, none⟩ (.int .u64 h2)).setCell ⟨w.heap.size + 1, 3, none⟩ (.int .u64 h3)).setCell ⟨w.heap.size + 1, 4, none⟩ (.int .i64 h4)).setCell ⟨w.heap.size + 1, 5, none⟩ (.int .i64 h5)).setCell ⟨w.heap.size + 1, 6, none⟩ (.int .i64 h6)).setCell ⟨w.heap.size + 1, 7, none⟩ (.int .i64 h7)).setCell ⟨w.heap.size + 1, 8, none⟩ (.bool h8)) = wz
  intro hrow hbz
  have hld := run_loadVar_row (P := Try.prog) wz (w.heap.size + 1) 112 112 #[.int .u64 h0, .int .u64 h1, .int .u64 h2, .int .u64 h3, .int .i64 h4, .int .i64 h5, .int .i64 h6, .int .i64 h7, .bool h8] (0, 0) _ hrow.out Try.underlying112 rfl (by kernel_rfl)
  exact bodyPost_ret (v := .tuple #[.agg #[.int .u64 h0, .int .u64 h1, .int .u64 h2, .int .u64 h3, .int .i64 h4, .int .i64 h5, .int .i64 h6, .int .i64 h7, .bool h8], .int .i64 0]) (by simp [results, Try.results85, asAddr, hld]) rfl ⟨rfl, hbz.out⟩
set_option maxRecDepth 100000 in
set_option maxHeartbeats 2000000 in
theorem get_bad (s : ByteArray) (w : World) (er : Int) (her : (er == 0) = false) (hclo : ∀ (n0 g be bs bx bf : Nat) (w : World), Env s n0 g be bs bx bf w → Calls Try.prog 127 #[.pointer (some ⟨g, 0, none⟩), .pointer (some ⟨bs, 0, none⟩), .pointer (some ⟨bx, 0, none⟩), .pointer (some ⟨bf, 0, none⟩)] w fun e w' => PostBad er n0 be w e w') :
    Calls Try.prog 85 #[.string s] w fun e w' => e = .returned (.tuple #[.agg #[.int .u64 0, .int .u64 0, .int .u64 0, .int .u64 0, .int .i64 0, .int .i64 0, .int .i64 0, .int .i64 0, .bool false], .int .i64 er]) ∧ Below w.heap.size w w' := by
  have hmf := hmf
  obtain ⟨k0, k1, k2, k3, hb, hz⟩ := lay s w
  have K0 := Lib.hid k0
  have K1 := Lib.hid k1
  have K2 := Lib.hid k2
  have K3 := Lib.hid k3
  have HB := Lib.hid hb; have HZ := Lib.hid hz; clear k0 k1 k2 k3 hb hz
  have HC := Lib.hid hclo; clear hclo
  have her' : (er != 0) = true := by simpa using her
  go_enter Try.func85, Try.ntmps85
  go_wp2_with (fail)
  revert K0 K1 K2 K3 HB HZ
  generalize ((((w.alloc (.cells #[.string s] 9 (0, 0))).alloc (.cells #[.int .u64 0, .int .u64 0, .int .u64 0, .int .u64 0, .int .i64 0, .int .i64 0, .int .i64 0, .int .i64 0, .bool false] 112 (0, 0))).alloc (.cells #[.int .u64 0, .int .u64 0, .int .u64 0, .int .u64 0, .int .i64 0, .int .i64 0, .int .i64 0, .int .i64 0, .bool false] 112 (0, 0))).alloc (.cells #[.func (Fn.func 91) #[] #[]] 135 (0, 0))) = wl
  intro K0 K1 K2 K3 HB HZ
  have E := Lib.hid (env_of s w wl HZ.out K0.out K1.out K2.out K3.out)
  refine (try_up s 127 _ er wl (fun w' => Blk w' wl.heap.size (.int .i64 0) 47 ∧ Below (w.heap.size + 2) wl w') hent ?hc).mono ?_
  case hc =>
    refine (HC.out _ _ _ _ _ _ _ E.out).mono ?_
    intro e w2 h
    obtain ⟨rfl, he, hB⟩ := h
    have hB := ((((Below.refl (w.heap.size + 2) wl).alloc (by have := HZ.out; omega) (.cells #[.int .i64 0] 47 (0, 0))).alloc (by have := HZ.out; simp; omega) (.cells #[.string s, .int .i64 0] 141 (0, 0))).trans hB)
    exact ⟨rfl, ⟨he, hB⟩, he.c, he.f⟩
  rintro e w' ⟨rfl, w2, ⟨he, hB⟩, rfl⟩
  dsimp only
  have hQ : w2.heap[w.heap.size + 1]? = some (.cells #[.int .u64 0, .int .u64 0, .int .u64 0, .int .u64 0, .int .i64 0, .int .i64 0, .int .i64 0, .int .i64 0, .bool false] 112 (0, 0)) := (hB.block _ (by have := HZ.out; omega)).trans K1.out
  have k0 : ((w2.setCell ⟨wl.heap.size, 0, none⟩ (.int .i64 er)).alloc (.cells #[.int .i64 er] 139 (0, 0))).heap[w.heap.size + 1]? = some (.cells #[.int .u64 0, .int .u64 0, .int .u64 0, .int .u64 0, .int .i64 0, .int .i64 0, .int .i64 0, .int .i64 0, .bool false] 112 (0, 0)) := blk_alloc (blk_far hQ (p := ⟨wl.heap.size, 0, none⟩) (by show w.heap.size + 1 ≠ wl.heap.size; have := HZ.out; omega) _) _
  have kb := ((HB.out.trans (hB.mono (by omega))).setCell (p := ⟨wl.heap.size, 0, none⟩) (show w.heap.size ≤ wl.heap.size by have := HZ.out; omega) (.int .i64 er)).alloc (by have := hB.size; have := HZ.out; simp; omega) (.cells #[.int .i64 er] 139 (0, 0))
  revert k0 kb
  generalize (w2.setCell ⟨wl.heap.size, 0, none⟩ (.int .i64 er)).alloc (.cells #[.int .i64 er] 139 (0, 0)) = wq
  intro k0 kb
  have e0 : wq.cell? ⟨w.heap.size + 1, 0, none⟩ = some (.int .u64 0) := (blk_cell k0 0).trans rfl
  have f0 := blk_frozen k0 0
  have e1 : wq.cell? ⟨w.heap.size + 1, 1, none⟩ = some (.int .u64 0) := (blk_cell k0 1).trans rfl
  have f1 := blk_frozen k0 1
  have e2 : wq.cell? ⟨w.heap.size + 1, 2, none⟩ = some (.int .u64 0) := (blk_cell k0 2).trans rfl
  have f2 := blk_frozen k0 2
  have e3 : wq.cell? ⟨w.heap.size + 1, 3, none⟩ = some (.int .u64 0) := (blk_cell k0 3).trans rfl
  have f3 := blk_frozen k0 3
  have e4 : wq.cell? ⟨w.heap.size + 1, 4, none⟩ = some (.int .i64 0) := (blk_cell k0 4).trans rfl
  have f4 := blk_frozen k0 4
  have e5 : wq.cell? ⟨w.heap.size + 1, 5, none⟩ = some (.int .i64 0) := (blk_cell k0 5).trans rfl
  have f5 := blk_frozen k0 5
  have e6 : wq.cell? ⟨w.heap.size + 1, 6, none⟩ = some (.int .i64 0) := (blk_cell k0 6).trans rfl
  have f6 := blk_frozen k0 6
  have e7 : wq.cell? ⟨w.heap.size + 1, 7, none⟩ = some (.int .i64 0) := (blk_cell k0 7).trans rfl
  have f7 := blk_frozen k0 7
  have e8 : wq.cell? ⟨w.heap.size + 1, 8, none⟩ = some (.bool false) := (blk_cell k0 8).trans rfl
  have f8 := blk_frozen k0 8
  have KB := Lib.hid kb; have K00 := Lib.hid k0
  clear k0 kb hQ he hB E HC HB HZ K0 K1 K2 K3
  go_wp2
  have hrow := Lib.hid (blk_put (cs := #[.int .u64 0, .int .u64 0, .int .u64 0, .int .u64 0, .int .i64 0, .int .i64 0, .int .i64 0, .int .i64 0, .bool false]) (cs' := #[.int .u64 0, .int .u64 0, .int .u64 0, .int .u64 0, .int .i64 0, .int .i64 0, .int .i64 0, .int .i64 0, .bool false]) (blk_put (cs := #[.int .u64 0, .int .u64 0, .int .u64 0, .int .u64 0, .int .i64 0, .int .i64 0, .int .i64 0, .int .i64 0, .bool false]) (cs' := #[.int .u64 0, .int .u64 0, .int .u64 0, .int .u64 0, .int .i64 0, .int .i64 0, .int .i64 0, .int .i64 0, .bool false]) (blk_put (cs := #[.int .u64 0, .int .u64 0, .int .u64 0, .int .u64 0, .int .i64 0, .int .i64 0, .int .i64 0, .int .i64 0, .bool false]) (cs' := #[.int .u64 0, .int .u64 0, .int .u64 0, .int .u64 0, .int .i64 0, .int .i64 0, .int .i64 0, .int .i64 0, .bool false]) (blk_put (cs := #[.int .u64 0, .int .u64 0, .int .u64 0, .int .u64 0, .int .i64 0, .int .i64 0, .int .i64 0, .int .i64 0, .bool false]) (cs' := #[.int .u64 0, .int .u64 0, .int .u64 0, .int .u64 0, .int .i64 0, .int .i64 0, .int .i64 0, .int .i64 0, .bool false]) (blk_put (cs := #[.int .u64 0, .int .u64 0, .int .u64 0, .int .u64 0, .int .i64 0, .int .i64 0, .int .i64 0, .int .i64 0, .bool false]) (cs' := #[.int .u64 0, .int .u64 0, .int .u64 0, .int .u64 0, .int .i64 0, .int .i64 0, .int .i64 0, .int .i64 0, .bool false]) (blk_put (cs := #[.int .u64 0, .int .u64 0, .int .u64 0, .int .u64 0, .int .i64 0, .int .i64 0, .int .i64 0, .int .i64 0, .bool false]) (cs' := #[.int .u64 0, .int .u64 0, .int .u64 0, .int .u64 0, .int .i64 0, .int .i64 0, .int .i64 0, .int .i64 0, .bool false]) (blk_put (cs := #[.int .u64 0, .int .u64 0, .int .u64 0, .int .u64 0, .int .i64 0, .int .i64 0, .int .i64 0, .int .i64 0, .bool false]) (cs' := #[.int .u64 0, .int .u64 0, .int .u64 0, .int .u64 0, .int .i64 0, .int .i64 0, .int .i64 0, .int .i64 0, .bool false]) (blk_put (cs := #[.int .u64 0, .int .u64 0, .int .u64 0, .int .u64 0, .int .i64 0, .int .i64 0, .int .i64 0, .int .i64 0, .bool false]) (cs' := #[.int .u64 0, .int .u64 0, .int .u64 0, .int .u64 0, .int .i64 0, .int .i64 0, .int .i64 0, .int .i64 0, .bool false]) (blk_put (cs := #[.int .u64 0, .int .u64 0, .int .u64 0, .int .u64 0, .int .i64 0, .int .i64 0, .int .i64 0, .int .i64 0, .bool false]) (cs' := #[.int .u64 0, .int .u64 0, .int .u64 0, .int .u64 0, .int .i64 0, .int .i64 0, .int .i64 0, .int .i64 0, .bool false]) K00.out 0 (.int .u64 0) rfl) 1 (.int .u64 0) rfl) 2 (.int .u64 0) rfl) 3 (.int .u64 0) rfl) 4 (.int .i64 0) rfl) 5 (.int .i64 0) rfl) 6 (.int .i64 0) rfl) 7 (.int .i64 0) rfl) 8 (.bool false) rfl)
  have hbz := Lib.hid (show Below w.heap.size w (((((((((wq.setCell ⟨w.heap.size + 1, 0, none⟩ (.int .u64 0)).setCell ⟨w.heap.size + 1, 1, none⟩ (.int .u64 0)).setCell ⟨w.heap.size + 1, 2, none⟩ (.int .u64 0)).setCell ⟨w.heap.size + 1, 3, none⟩ (.int .u64 0)).setCell ⟨w.heap.size + 1, 4, none⟩ (.int .i64 0)).setCell ⟨w.heap.size + 1, 5, none⟩ (.int .i64 0)).setCell ⟨w.heap.size + 1, 6, none⟩ (.int .i64 0)).setCell ⟨w.heap.size + 1, 7, none⟩ (.int .i64 0)).setCell ⟨w.heap.size + 1, 8, none⟩ (.bool false)) from (((((((((KB.out).setCell (p := ⟨w.heap.size + 1, 0, none⟩) (by show w.heap.size ≤ w.heap.size + 1; omega) _).setCell (p := ⟨w.heap.size + 1, 1, none⟩) (by show w.heap.size ≤ w.heap.size + 1; omega) _).setCell (p := ⟨w.heap.size + 1, 2, none⟩) (by show w.heap.size ≤ w.heap.size + 1; omega) _).setCell (p := ⟨w.heap.size + 1, 3, none⟩) (by show w.heap.size ≤ w.heap.size + 1; omega) _).setCell (p := ⟨w.heap.size + 1, 4, none⟩) (by show w.heap.size ≤ w.heap.size + 1; omega) _).setCell (p := ⟨w.heap.size + 1, 5, none⟩) (by show w.heap.size ≤ w.heap.size + 1; omega) _).setCell (p := ⟨w.heap.size + 1, 6, none⟩) (by show w.heap.size ≤ w.heap.size + 1; omega) _).setCell (p := ⟨w.heap.size + 1, 7, none⟩) (by show w.heap.size ≤ w.heap.size + 1; omega) _).setCell (p := ⟨w.heap.size + 1, 8, none⟩) (by show w.heap.size ≤ w.heap.size + 1; omega) _)
  revert hrow hbz
  generalize (((((((((wq.setCell ⟨w.heap.size + 1, 0, none⟩ (.int .u64 0)).setCell ⟨w.heap.size + 1, 1, none⟩ (.int .u64 0)).setCell ⟨w.heap.size + 1, 2, none⟩ (.int .u64 0)).setCell ⟨w.heap.size + 1, 3, none⟩ (.int .u64 0)).setCell ⟨w.heap.size + 1, 4, none⟩ (.int .i64 0)).setCell ⟨w.heap.size + 1, 5, none⟩ (.int .i64 0)).setCell ⟨w.heap.size + 1, 6, none⟩ (.int .i64 0)).setCell ⟨w.heap.size + 1, 7, none⟩ (.int .i64 0)).setCell ⟨w.heap.size + 1, 8, none⟩ (.bool false)) = wz
  intro hrow hbz
  have hld := run_loadVar_row (P := Try.prog) wz (w.heap.size + 1) 112 112 #[.int .u64 0, .int .u64 0, .int .u64 0, .int .u64 0, .int .i64 0, .int .i64 0, .int .i64 0, .int .i64 0, .bool false] (0, 0) _ hrow.out Try.underlying112 rfl (by kernel_rfl)
  exact bodyPost_ret (v := .tuple #[.agg #[.int .u64 0, .int .u64 0, .int .u64 0, .int .u64 0, .int .i64 0, .int .i64 0, .int .i64 0, .int .i64 0, .bool false], .int .i64 er]) (by simp [results, Try.results85, asAddr, hld]) rfl ⟨rfl, hbz.out⟩
end Go.Proofs.Ytlnnghbbjbimoaa.Ipv4Clo
