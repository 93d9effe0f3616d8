/- Written by a program of this session out of the translation: pure functions, and that Go's functions come to them. -/
import Derived.Test.YtgbjpnlmbdjooaaPAx0
namespace Go.Proofs.Ytgbjpnlmbdjooaa.PA
open Go.RowKit Go.Proofs.YtgbjpnlmbdjooaaW.PrintWords Go.Proofs.YtgbjpnlmbdjooaaW.PrintLast Go.Proofs.YtgbjpnlmbdjooaaW.PrintMore
attribute [local go_sem] max2_int min2_int max_two min_two max_three min_three max_four min_four   -- for this text's walks alone
set_option linter.unusedVariables false
set_option linter.unusedSimpArgs false

/-! ### impl_Kind_42: function 42 -/
set_option maxHeartbeats 4000000 in
theorem impl_Kind_42.anyB (g : Nat) (lb : Array Value) (eg : ∀ args w, (callFunc g args).run Try.prog w = .ok (.enter g args) w) (p : S51 → Option Bool) (A : Option Addr) (c : Nat) (l : List (S51)) (r : Int) (w : World) (hr : Kd.C k51 w A l.length l) (hc : l.length ≤ c) (h : Base.idxO p l 0 = some r)
    (hp : ∀ W (x : S51) (b : Bool), Below w.heap.size w W → x ∈ l → p x = some b → Calls Try.prog g (#[.agg #[.int .i8 x.f0, .int .i8 x.f1, .int .i16 x.f2]] ++ lb) W fun e w' => e = .returned (.bool b) ∧ Below w.heap.size w w') :
    Calls Try.prog 42 #[.slice A l.length c, .func (.func g) #[] lb] w fun e w' => e = .returned (.int .i64 r) ∧ Below w.heap.size w w' := by
  have hn := hr.2.1
  have h0 := Aside0.mk h
  clear h
  go_enter Try.func42, Try.ntmps42
  go_wp2
  go_loopg [5, 8] l.length (fun gg _ s8 wr => ∃ kk : Nat, kk ≤ l.length ∧ l.length - kk ≤ gg ∧ s8 = .int .i64 kk ∧ Aside0 (Base.idxO p (l.drop kk) (kk : Int) = some r) ∧ Aside0 (Below w.heap.size w wr))
  case atStart => exact ⟨0, Nat.zero_le _, by omega, rfl, ⟨by rw [List.drop_zero]; exact h0.out⟩, ⟨Below.refl _ w⟩⟩
  case round =>
    clear h0
    obtain ⟨kk, hkk, hg, rfl, HA, HB⟩ := hrel
    by_cases hlt : kk < l.length
    · have hltz : (kk : Int) < (l.length : Int) := by omega
      obtain ⟨ad, ea, hx0, hx1, hx2⟩ := at_T51 (Kd.C_below hr HB.out) (kk : Int) (by omega) hltz
      cases ea
      rw [Int.toNat_natCast] at hx0
      rw [Int.toNat_natCast] at hx1
      rw [Int.toNat_natCast] at hx2
      have hm : rd_T51 l (kk : Int) = l[kk] := Base.getD_nat l _ kk hlt
      obtain ⟨b, hb, ht, hf⟩ := Base.idxO_step hlt HA.out
      have hcall := hp wr (rd_T51 l (kk : Int)) b HB.out (by rw [hm]; exact List.getElem_mem _) (by rw [hm]; exact hb)
      have HT := Aside0.mk ht
      have HF := Aside0.mk hf
      clear hp hr hm hb ht hf HA
      cases b with
      | true =>
        have hT := Aside0.mk (HT.out rfl)
        clear HT HF
        go_wp2_with (go_at_fn g; refine hcall.mono ?_; rintro e w' ⟨rfl, hb'⟩)
        go_ret
        exact ⟨by rw [← hT.out]; rfl, hb'⟩
      | false =>
        have hF := Aside0.mk (HF.out rfl)
        clear HT HF
        go_wp2_with (go_at_fn g; refine hcall.mono ?_; rintro e w' ⟨rfl, hb'⟩)
        go_roundg (l.length - (kk + 1))
        case measure => omega
        case rel => exact ⟨kk + 1, by omega, by omega, by go_num, hF, ⟨hb'⟩⟩
    · have hltz : ¬ (kk : Int) < (l.length : Int) := by omega
      have hE := Aside0.mk (Base.idxO_end hlt HA.out)
      clear hp hr HA
      go_wp2
      go_ret
      exact ⟨by rw [hE.out]; rfl, HB.out⟩

end Go.Proofs.Ytgbjpnlmbdjooaa.PA
