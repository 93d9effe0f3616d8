/- Written by a program of this session out of the translation: pure functions, and that Go's functions come to them. -/
import Derived.Test.YthgdpieoodohcaaPAx0
namespace Go.Proofs.Ythgdpieoodohcaa.PA
open Go.RowKit Go.Proofs.YthgdpieoodohcaaW.PrintWords Go.Proofs.YthgdpieoodohcaaW.PrintLast Go.Proofs.YthgdpieoodohcaaW.PrintMore
attribute [local go_sem] max2_int min2_int max_two min_two max_three min_three max_four min_four   -- for this text's walks alone
set_option linter.unusedVariables false
set_option linter.unusedSimpArgs false

/-! ### slices_IndexFunc_int64_int64: function 94 -/
set_option maxHeartbeats 4000000 in
/-- slices.IndexFunc over whole numbers: the predicate is a function of the element and changes nothing. -/
theorem slices_IndexFunc_int64_int64.any (g : Nat) (lb : Array Value) (eg : ∀ args w, (callFunc g args).run Try.prog w = .ok (.enter g args) w) (p : Int → Bool) (A : Option Addr) (c : Nat) (l : List Int) (w : World) (hr : Kd.C (Kd.int .i64) w A l.length l) (hc : l.length ≤ c)
    (hp : ∀ n x, x ∈ l → Calls Try.prog g (#[.int .i64 x] ++ lb) (w.drewN n) fun e w' => e = .returned (.bool (p x)) ∧ Drawn0 (w.drewN n) w') :
    Calls Try.prog 94 #[.slice A l.length c, .func (.func g) #[] lb] w fun e w' => e = .returned (.int .i64 (Base.idx p l)) ∧ Drawn0 w w' := by
  have hn := hr.2.1
  go_enter Try.func94, Try.ntmps94
  go_wp2
  go_loopg [5, 8] l.length (fun gg _ s8 wr => ∃ kk : Nat, kk ≤ l.length ∧ l.length - kk ≤ gg ∧ s8 = .int .i64 kk ∧ Aside0 (∀ x ∈ l.take kk, p x = false) ∧ Drawn0 w wr)
  case atStart => exact ⟨0, Nat.zero_le _, by omega, rfl, ⟨by simp⟩, Drawn0.refl w⟩
  case round =>
    obtain ⟨kk, hkk, hg, rfl, HA, ⟨m, rfl⟩⟩ := hrel
    by_cases hlt : kk < l.length
    · have hltz : (kk : Int) < (l.length : Int) := by omega
      obtain ⟨ad, ea, hx⟩ := Kd.at_int hr (kk : Int) (by omega) hltz
      cases ea
      rw [Int.toNat_natCast] at hx
      have hcall := hp m (rd l (kk : Int)) (Base.rd_mem (by omega) hltz)
      clear hp hr
      cases hq : p (rd l (kk : Int)) with
      | true =>
        rw [hq] at hcall
        have HQ := Aside0.mk hq
        clear hq
        go_wp2_with (go_at_fn g; refine hcall.mono ?_; rintro e w' ⟨rfl, ⟨q, rfl⟩⟩)
        go_ret
        exact ⟨by rw [Base.idx_hit hlt HA.out HQ.out]; rfl, by repeat (first | exact Drawn0.refl _ | apply Drawn0.step)⟩
      | false =>
        rw [hq] at hcall
        have HQ := Aside0.mk hq
        clear hq
        go_wp2_with (go_at_fn g; refine hcall.mono ?_; rintro e w' ⟨rfl, ⟨q, rfl⟩⟩)
        go_roundg (l.length - (kk + 1))
        case measure => omega
        case rel => exact ⟨kk + 1, by omega, by omega, by go_num, ⟨Base.take_miss hlt HA.out HQ.out⟩, by repeat (first | exact Drawn0.refl _ | apply Drawn0.step)⟩
    · have hltz : ¬ (kk : Int) < (l.length : Int) := by omega
      clear hp hr
      go_wp2
      go_ret
      exact ⟨by rw [Base.idx_miss (by rw [List.take_of_length_le (by omega)] at HA; exact HA.out)]; rfl, by repeat (first | exact Drawn0.refl _ | apply Drawn0.step)⟩
set_option maxHeartbeats 4000000 in
/-- The same where the predicate may make memory of its own. -/
theorem slices_IndexFunc_int64_int64.anyB (g : Nat) (lb : Array Value) (eg : ∀ args w, (callFunc g args).run Try.prog w = .ok (.enter g args) w) (p : Int → Bool) (A : Option Addr) (c : Nat) (l : List Int) (w : World) (hr : Kd.C (Kd.int .i64) w A l.length l) (hc : l.length ≤ c)
    (hp : ∀ W x, Below w.heap.size w W → x ∈ l → Calls Try.prog g (#[.int .i64 x] ++ lb) W fun e w' => e = .returned (.bool (p x)) ∧ Below w.heap.size w w') :
    Calls Try.prog 94 #[.slice A l.length c, .func (.func g) #[] lb] w fun e w' => e = .returned (.int .i64 (Base.idx p l)) ∧ Below w.heap.size w w' := by
  have hn := hr.2.1
  go_enter Try.func94, Try.ntmps94
  go_wp2
  go_loopg [5, 8] l.length (fun gg _ s8 wr => ∃ kk : Nat, kk ≤ l.length ∧ l.length - kk ≤ gg ∧ s8 = .int .i64 kk ∧ Aside0 (∀ x ∈ l.take kk, p x = false) ∧ Aside0 (Below w.heap.size w wr))
  case atStart => exact ⟨0, Nat.zero_le _, by omega, rfl, ⟨by simp⟩, ⟨Below.refl _ w⟩⟩
  case round =>
    obtain ⟨kk, hkk, hg, rfl, HA, HB⟩ := hrel
    by_cases hlt : kk < l.length
    · have hltz : (kk : Int) < (l.length : Int) := by omega
      obtain ⟨ad, ea, hx⟩ := Kd.at_int (Kd.C_below hr HB.out) (kk : Int) (by omega) hltz
      cases ea
      rw [Int.toNat_natCast] at hx
      have hcall := hp wr (rd l (kk : Int)) HB.out (Base.rd_mem (by omega) hltz)
      clear hp hr
      cases hq : p (rd l (kk : Int)) with
      | true =>
        rw [hq] at hcall
        have HQ := Aside0.mk hq
        clear hq
        go_wp2_with (go_at_fn g; refine hcall.mono ?_; rintro e w' ⟨rfl, hb'⟩)
        go_ret
        exact ⟨by rw [Base.idx_hit hlt HA.out HQ.out]; rfl, hb'⟩
      | false =>
        rw [hq] at hcall
        have HQ := Aside0.mk hq
        clear hq
        go_wp2_with (go_at_fn g; refine hcall.mono ?_; rintro e w' ⟨rfl, hb'⟩)
        go_roundg (l.length - (kk + 1))
        case measure => omega
        case rel => exact ⟨kk + 1, by omega, by omega, by go_num, ⟨Base.take_miss hlt HA.out HQ.out⟩, ⟨hb'⟩⟩
    · have hltz : ¬ (kk : Int) < (l.length : Int) := by omega
      clear hp hr
      go_wp2
      go_ret
      exact ⟨by rw [Base.idx_miss (by rw [List.take_of_length_le (by omega)] at HA; exact HA.out)]; rfl, HB.out⟩

end Go.Proofs.Ythgdpieoodohcaa.PA
