/- Written by a program of this session out of the translation: pure functions, and that Go's functions come to them. -/
import Derived.Test.YtadighbpjanjbaaPAx0
import Derived.Test.YtadighbpjanjbaaPAxf17
import Derived.Test.YtadighbpjanjbaaPAxf18
import Derived.Test.YtadighbpjanjbaaPAxf20
namespace Go.Proofs.Ytadighbpjanjbaa.PA
open Go.RowKit Go.Proofs.YtadighbpjanjbaaW.PrintWords Go.Proofs.YtadighbpjanjbaaW.PrintLast Go.Proofs.YtadighbpjanjbaaW.PrintMore
attribute [local go_sem] max2_int min2_int max_two min_two max_three min_three max_four min_four   -- for this text's walks alone
set_option linter.unusedVariables false
set_option linter.unusedSimpArgs false

/-! ### impl_FirstBars_1: function 19 -/
def impl_FirstBars_1.f (k : Nat) (x : List Int) (a0 a1 : Int) (l2 : List Int) (a4 : Int) : Option Bool := impl_hasRoom.f k a0 a1 l2 x a4
theorem impl_FirstBars_1.mono : ∀ x a0 a1 l2 a4 k, LeO (impl_FirstBars_1.f k x a0 a1 l2 a4) (impl_FirstBars_1.f (k + 1) x a0 a1 l2 a4) := fun _ _ _ _ _ _ => impl_hasRoom.mono _ _ _ _ _ _
set_option maxHeartbeats 1600000 in
set_option maxRecDepth 100000 in
theorem impl_FirstBars_1.calls (k : Nat) (A : Option Addr) (c : Nat) (x : List Int) (a0 a1 : Int) (A2 : Option Addr) (c2 : Nat) (l2 : List Int) (a4 : Int) (g0 g1 g2 g4 : Nat) (r : Bool) (w : World) (hrx : Kd.C (Kd.int .i64) w A x.length x) (hcx : x.length ≤ c) (hr2 : Kd.C (Kd.int .i64) w A2 l2.length l2) (hc2 : l2.length ≤ c2)
    (h0 : w.heap[g0]? = some (.cells #[.int .i64 a0] 2 (0, 0))) (h1 : w.heap[g1]? = some (.cells #[.int .i64 a1] 2 (0, 0))) (h2 : w.heap[g2]? = some (.cells #[.slice A2 l2.length c2] 22 (0, 0))) (h4 : w.heap[g4]? = some (.cells #[.int .i64 a4] 2 (0, 0))) (h : impl_FirstBars_1.f k x a0 a1 l2 a4 = some r) :
    Calls Try.prog 19 #[.slice A x.length c, .pointer (some ⟨g0, 0, none⟩), .pointer (some ⟨g1, 0, none⟩), .pointer (some ⟨g2, 0, none⟩), .pointer (some ⟨g4, 0, none⟩)] w fun e w' => e = .returned (.bool r) ∧ Below w.heap.size w w' := by
  have A5 := Aside0.mk (show impl_hasRoom.f k a0 a1 l2 x a4 = some r from h)
  have HRx := Aside0.mk hrx
  have HCx := Aside0.mk hcx
  have HR2 := Aside0.mk hr2
  have HC2 := Aside0.mk hc2
  have e0 : w.cell? ⟨g0, 0, none⟩ = some (.int .i64 a0) := (blk_cell h0 0).trans rfl
  have e1 : w.cell? ⟨g1, 0, none⟩ = some (.int .i64 a1) := (blk_cell h1 0).trans rfl
  have e2 : w.cell? ⟨g2, 0, none⟩ = some (.slice A2 l2.length c2) := (blk_cell h2 0).trans rfl
  have e4 : w.cell? ⟨g4, 0, none⟩ = some (.int .i64 a4) := (blk_cell h4 0).trans rfl
  clear h h0 h1 h2 h4 hrx hcx hr2 hc2
  go_enter Try.func19, Try.ntmps19
  go_wp2_with (go_at_call 20; (with_reducible refine (impl_hasRoom.calls k a0 a1 A2 c2 l2 A c x a4 r _ HR2.out HC2.out HRx.out HCx.out A5.out).mono ?_); rintro e w' ⟨rfl, hb'⟩)
  go_ret
  exact ⟨rfl, hb'⟩
/-- The first of several rows that has room: what slices.IndexFunc tells of them. -/
def impl_FirstBars_1.at_ (k : Nat) (l : List (List Int)) (a0 a1 : Int) (l2 : List Int) (a4 : Int) : Option Int := Base.idxO (fun x => impl_FirstBars_1.f k x a0 a1 l2 a4) l 0
theorem impl_FirstBars_1.at_mono : ∀ l a0 a1 l2 a4 k, LeO (impl_FirstBars_1.at_ k l a0 a1 l2 a4) (impl_FirstBars_1.at_ (k + 1) l a0 a1 l2 a4) := fun l _ _ _ _ _ => Base.idxO_mono (fun _ => impl_FirstBars_1.mono _ _ _ _ _ _) l 0
theorem impl_FirstBars_1.at_calls (k : Nat) (A : Option Addr) (c : Nat) (l : List (List Int)) (a0 a1 : Int) (A2 : Option Addr) (c2 : Nat) (l2 : List Int) (a4 : Int) (g0 g1 g2 g4 : Nat) (r : Int) (w : World) (hr : Kd.C (Kd.slice 2 (Kd.int .i64)) w A l.length l) (hc : l.length ≤ c) (hr2 : Kd.C (Kd.int .i64) w A2 l2.length l2) (hc2 : l2.length ≤ c2)
    (h0 : w.heap[g0]? = some (.cells #[.int .i64 a0] 2 (0, 0))) (h1 : w.heap[g1]? = some (.cells #[.int .i64 a1] 2 (0, 0))) (h2 : w.heap[g2]? = some (.cells #[.slice A2 l2.length c2] 22 (0, 0))) (h4 : w.heap[g4]? = some (.cells #[.int .i64 a4] 2 (0, 0))) (h : impl_FirstBars_1.at_ k l a0 a1 l2 a4 = some r) :
    Calls Try.prog 18 #[.slice A l.length c, .func (.func 19) #[] #[.pointer (some ⟨g0, 0, none⟩), .pointer (some ⟨g1, 0, none⟩), .pointer (some ⟨g2, 0, none⟩), .pointer (some ⟨g4, 0, none⟩)]] w fun e w' => e = .returned (.int .i64 r) ∧ Below w.heap.size w w' :=
  slices_IndexFunc_int64_int64_18.anyB 19 #[.pointer (some ⟨g0, 0, none⟩), .pointer (some ⟨g1, 0, none⟩), .pointer (some ⟨g2, 0, none⟩), .pointer (some ⟨g4, 0, none⟩)] (enters_of Try.func19 (by kernel_rfl) rfl) (fun x => impl_FirstBars_1.f k x a0 a1 l2 a4) A c l r w hr hc h
    (fun W x A' c' b hb hx hpx hrx hcx => (impl_FirstBars_1.calls k A' c' x a0 a1 A2 c2 l2 a4 g0 g1 g2 g4 b W hrx hcx (Kd.C_below hr2 hb) hc2 (blk_below h0 hb) (blk_below h1 hb) (blk_below h2 hb) (blk_below h4 hb) hpx).mono fun e w' ⟨he, hw⟩ => ⟨he, below_step hb hw⟩)

end Go.Proofs.Ytadighbpjanjbaa.PA
