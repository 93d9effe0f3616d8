/- Written by a program of this session out of the translation: pure functions, and that Go's functions come to them. -/
import Derived.Test.YtadighbpjanjbaaPAx0
import Derived.Test.YtadighbpjanjbaaPAxf17
namespace Go.Proofs.Ytadighbpjanjbaa.PA
open Go.RowKit Go.Proofs.YtadighbpjanjbaaW.PrintWords Go.Proofs.YtadighbpjanjbaaW.PrintLast Go.Proofs.YtadighbpjanjbaaW.PrintMore
attribute [local go_sem] max2_int min2_int max_two min_two max_three min_three max_four min_four   -- for this text's walks alone
set_option linter.unusedVariables false
set_option linter.unusedSimpArgs false

/-! ### slices_IndexFunc_int64_int64_18: function 18 -/
set_option maxHeartbeats 4000000 in
theorem slices_IndexFunc_int64_int64_18.anyB (g : Nat) (lb : Array Value) (eg : ∀ args w, (callFunc g args).run Try.prog w = .ok (.enter g args) w) (p : List Int → Option Bool) (A : Option Addr) (c : Nat) (l : List (List Int)) (r : Int) (w : World) (hr : Kd.C (Kd.slice 2 (Kd.int .i64)) w A l.length l) (hc : l.length ≤ c) (h : Base.idxO p l 0 = some r)
    (hp : ∀ W (x : List Int) (A : Option Addr) (c : Nat) (b : Bool), Below w.heap.size w W → x ∈ l → p x = some b → Kd.C (Kd.int .i64) W A x.length x → x.length ≤ c → Calls Try.prog g (#[.slice A x.length c] ++ lb) W fun e w' => e = .returned (.bool b) ∧ Below w.heap.size w w') :
    Calls Try.prog 18 #[.slice A l.length c, .func (.func g) #[] lb] w fun e w' => e = .returned (.int .i64 r) ∧ Below w.heap.size w w' := by
  have hn := hr.2.1
  have h0 := Aside0.mk h
  clear h
  go_enter Try.func18, Try.ntmps18
  go_wp2
  go_loopg [5, 8] l.length (fun gg _ s8 wr => ∃ kk : Nat, kk ≤ l.length ∧ l.length - kk ≤ gg ∧ s8 = .int .i64 kk ∧ Aside0 (Base.idxO p (l.drop kk) (kk : Int) = some r) ∧ Aside0 (Below w.heap.size w wr))
  case atStart => exact ⟨0, Nat.zero_le _, by omega, rfl, ⟨by rw [List.drop_zero]; exact h0.out⟩, ⟨Below.refl _ w⟩⟩
  case round =>
    clear h0
    obtain ⟨kk, hkk, hg, rfl, HA, HB⟩ := hrel
    by_cases hlt : kk < l.length
    · have hltz : (kk : Int) < (l.length : Int) := by omega
      obtain ⟨ad, A1, c1, ea, hx, hl1, hi1⟩ := at_L1 (Kd.C_below hr HB.out) (kk : Int) (by omega) hltz
      cases ea
      rw [Int.toNat_natCast] at hx
      have hm : rd_L1 l (kk : Int) = l[kk] := Base.getD_nat l _ kk hlt
      obtain ⟨b, hb, ht, hf⟩ := Base.idxO_step hlt HA.out
      have hcall := hp wr (rd_L1 l (kk : Int)) A1 c1 b HB.out (by rw [hm]; exact List.getElem_mem _) (by rw [hm]; exact hb) hi1 hl1
      have HT := Aside0.mk ht
      have HF := Aside0.mk hf
      clear hp hr hm hb ht hf HA
      cases b with
      | true =>
        have hT := Aside0.mk (HT.out rfl)
        clear HT HF
        go_wp2_with (go_at_fn g; refine hcall.mono ?_; rintro e w' ⟨rfl, hb'⟩)
        go_ret
        exact ⟨by rw [← hT.out]; rfl, hb'⟩
      | false =>
        have hF := Aside0.mk (HF.out rfl)
        clear HT HF
        go_wp2_with (go_at_fn g; refine hcall.mono ?_; rintro e w' ⟨rfl, hb'⟩)
        go_roundg (l.length - (kk + 1))
        case measure => omega
        case rel => exact ⟨kk + 1, by omega, by omega, by go_num, hF, ⟨hb'⟩⟩
    · have hltz : ¬ (kk : Int) < (l.length : Int) := by omega
      have hE := Aside0.mk (Base.idxO_end hlt HA.out)
      clear hp hr HA
      go_wp2
      go_ret
      exact ⟨by rw [hE.out]; rfl, HB.out⟩

end Go.Proofs.Ytadighbpjanjbaa.PA
