/- The program's CyclesOfLamps and the reference's answer alike for all lamps, and what is handed back is new. No condition. -/
import Derived.Test.YtafkcmohbgcknaaDoorPCycz
namespace Go.Proofs.YtafkcmohbgcknaaDoor.Pure
open Go.RowKit Go.Proofs.YtafkcmohbgcknaaDoor.PCyc Go.Proofs.YtafkcmohbgcknaaDoorW.PrintWords Go.Proofs.YtafkcmohbgcknaaDoorW.PrintLast Go.Proofs.YtafkcmohbgcknaaDoorW.PrintMore
set_option linter.unusedVariables false
set_option linter.unusedSimpArgs false
theorem cyc_small (l : List ByteArray) : (cyclesR l).1.length ≤ 1025 ∧ ∀ y ∈ (cyclesR l).1, y.length = 2 := by
  unfold cyclesR
  split
  · rename_i h
    have h2 := two10 (lamps_facts h).2.1
    refine ⟨?_, fun x hx => ?_⟩
    · have := List.length_filter_le (fun s => decide (0 < (sizesR l).count s)) (List.range (2 ^ l.length + 1))
      rw [List.length_range] at this
      show (List.map _ ((List.range (2 ^ l.length + 1)).filter (fun s => decide (0 < (sizesR l).count s)))).length ≤ 1025
      rw [List.length_map]
      omega
    · obtain ⟨q, _, rfl⟩ := List.mem_map.1 hx
      rfl
  · simp
set_option maxHeartbeats 1000000 in
theorem FnExactCyclesOfLamps_pure (l0_0 : List ByteArray) (y0_0 : l0_0.length ≤ 9223372036854775807) (o0_0 : (∀ a ∈ l0_0, a.size ≤ maxLen)) : ∃ k, laws_FnExactCyclesOfLamps.f k l0_0 = some true := by
  obtain ⟨v, ⟨K1, h1⟩, hv⟩ := szLamps_ev l0_0 y0_0 o0_0
  by_cases c : v < 0
  · refine ⟨K1, ?_⟩
    simp only [laws_FnExactCyclesOfLamps.f]
    simp [h1 K1 (Nat.le_refl _), c]
  · have hx := hv (by omega)
    obtain ⟨hR, hr⟩ := cyc_small l0_0
    obtain ⟨K2, h2⟩ := toLamps_ev l0_0 hx.1
    obtain ⟨K3, h3⟩ := eqLamps_ev l0_0 y0_0
    obtain ⟨K4, h4⟩ := markLamps_ev l0_0 (by omega)
    have i1 := implCycles_eq l0_0
    obtain ⟨K8, h8⟩ := specCycles_ev l0_0
    generalize cyclesR l0_0 = R at i1 h8 hR hr
    obtain ⟨r, b⟩ := R
    simp only at hR hr
    obtain ⟨K5, h5⟩ := eqIntSS_ev r (by omega) (fun y hy => by rw [hr y hy]; omega)
    obtain ⟨K6, h6⟩ := markIntSS_ev r hr (by omega)
    obtain ⟨K7, h7⟩ := heldIntSS_ev r.length (by omega)
    have h1 := h1 (K1 + K2 + K3 + K4 + K5 + K6 + K7 + K8) (by omega)
    have h2 := h2 (K1 + K2 + K3 + K4 + K5 + K6 + K7 + K8) (by omega)
    have h3 := h3 (K1 + K2 + K3 + K4 + K5 + K6 + K7 + K8) (by omega)
    have h4 := h4 (K1 + K2 + K3 + K4 + K5 + K6 + K7 + K8) (by omega)
    have h5 := h5 (K1 + K2 + K3 + K4 + K5 + K6 + K7 + K8) (by omega)
    have h6 := h6 (K1 + K2 + K3 + K4 + K5 + K6 + K7 + K8) (by omega)
    have h7 := h7 (K1 + K2 + K3 + K4 + K5 + K6 + K7 + K8) (by omega)
    have h8 := h8 (K1 + K2 + K3 + K4 + K5 + K6 + K7 + K8) (by omega)
    simp only at h1 h2 h3 h4 h5 h6 h7 h8
    have n4 : ¬ (1 + 1 * (l0_0.length : Int)) < 0 := by omega
    have n7 : ¬ (1 + 2 * (r.length : Int)) < 0 := by omega
    refine ⟨K1 + K2 + K3 + K4 + K5 + K6 + K7 + K8, ?_⟩
    simp only [laws_FnExactCyclesOfLamps.f, h1, h2, h3, h4, h5, h6, h7, h8, i1, Option.bind_some, if_true, if_neg c, if_neg n4, if_neg n7, bne_self_eq_false, Bool.false_eq_true, if_false]
end Go.Proofs.YtafkcmohbgcknaaDoor.Pure
