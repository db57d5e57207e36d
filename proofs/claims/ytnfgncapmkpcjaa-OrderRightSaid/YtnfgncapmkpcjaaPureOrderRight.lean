/- OrderRight: each module comes once, and behind all that it uses; if none can, there is a way from that module that comes back. For all items; no condition. -/
import Derived.Test.YtnfgncapmkpcjaaPx16
import Derived.Test.YtnfgncapmkpcjaaPsOrderRight
import Derived.Test.YtnfgncapmkpcjaaQOrder4
namespace Go.Proofs.Ytnfgncapmkpcjaa.Pure
set_option linter.unusedSimpArgs false
set_option linter.unusedVariables false
open Go Go.RowKit Go.Proofs.Ytnfgncapmkpcjaa.P Go.Proofs.Ytnfgncapmkpcjaa.Q Go.Proofs.Ytnfgncapmkpcjaa.C Go.Proofs.YtnfgncapmkpcjaaW.PrintWords
set_option maxRecDepth 100000 in
theorem OrderRight : pascalinelaw25_OrderRight.Pure := by
  intro l _ _
  refine ⟨300000000000, ?_⟩
  unfold pascalinelaw25_OrderRight.f
  rw [od_awake_k 300000000000 (by omega), Option.bind_some, if_pos rfl]
  obtain ⟨b, hb, h⟩ := od_Few l 300000000000 (by omega)
  rw [hb, Option.bind_some]
  cases b with
  | false => rfl
  | true =>
    obtain ⟨h1, h2⟩ := h rfl
    have hu : ∀ i : Nat, i < l.length → (rd_T41 l (i : Int)).f1.length ≤ 1000 := fun i hi => by have := h2 i hi; omega
    rw [if_pos rfl, od_Sort l hu _ (by omega), Option.bind_some]
    unfold od_sort
    by_cases e : (od_chk l).2 = 0
    · have ho := (od_ok l e).1
      have hl := ho.len
      rw [if_pos e]
      rcases og_srt l ho l.length _ _ (og_start l) (by simp) with ⟨D, out, h3, hI, h4⟩ | ⟨D, m, hD, h3, hm, hf, h4⟩
      · rw [h3]
        simp only
        rw [if_neg (by omega), if_pos trivial, if_pos (by omega), if_pos (by omega), if_pos (by omega), Int.toNat_natCast]
        refine og_l0 l hl D out hI h4 (some true) 300000 (fun k at_ hk hA => og_l1 l ho hu D out at_ hI h4 hA l.length k 0 (by omega) (by omega)) out.length _ 0 _ (by omega) (by omega) ⟨List.length_replicate, fun p _ hp => by omega, fun j hj _ => ?_⟩
        unfold rd
        simp [List.getD_eq_getElem?_getD, List.getElem?_replicate, hj]
      · rw [h4]
        simp only
        rw [if_pos trivial, if_pos (by omega), if_pos (by omega), og_cycles l ho hu D hD h3 m hm hf _ (by omega)]
        rfl
    · rw [if_neg e]
      have hc : (od_chk l).2 ≠ 143 := by
        unfold od_chk
        split
        · decide
        · split
          · exact (by decide : (51 : Int) ≠ 143)
          · split
            · exact (by decide : (144 : Int) ≠ 143)
            · exact (by decide : (0 : Int) ≠ 143)
      rw [if_neg hc, if_neg e]
end Go.Proofs.Ytnfgncapmkpcjaa.Pure
