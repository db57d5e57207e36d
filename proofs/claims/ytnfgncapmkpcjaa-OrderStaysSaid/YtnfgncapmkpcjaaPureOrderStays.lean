/- OrderStays: one module more, that uses nothing, behind all others, comes last. For all items; no condition. -/
import Derived.Test.YtnfgncapmkpcjaaPx17
import Derived.Test.YtnfgncapmkpcjaaPsOrderStays
import Derived.Test.YtnfgncapmkpcjaaQOrder5
namespace Go.Proofs.Ytnfgncapmkpcjaa.Pure
set_option linter.unusedSimpArgs false
set_option linter.unusedVariables false
open Go Go.RowKit Go.Proofs.Ytnfgncapmkpcjaa.P Go.Proofs.Ytnfgncapmkpcjaa.Q Go.Proofs.Ytnfgncapmkpcjaa.C Go.Proofs.YtnfgncapmkpcjaaW.PrintWords
theorem OrderStays : pascalinelaw25_OrderStays.Pure := by
  intro l _ _
  refine ⟨500000, ?_⟩
  unfold pascalinelaw25_OrderStays.f
  rw [od_awake_k 500000 (by omega), Option.bind_some, if_pos rfl]
  obtain ⟨b, hb, h⟩ := od_Few l 500000 (by omega)
  rw [hb, Option.bind_some]
  cases b with
  | false => rfl
  | true =>
    rw [if_pos rfl]
    obtain ⟨h1, h2⟩ := h rfl
    have hu : ∀ i : Nat, i < l.length → (rd_T41 l (i : Int)).f1.length ≤ 1000 := fun i hi => by have := h2 i hi; omega
    by_cases h64 : l.length < 64
    · have hsl := od_sort_len l
      rw [if_pos h64, od_Sort l hu _ (by omega), Option.bind_some, if_pos (by omega)]
      by_cases hany : l.any oy_one = true
      · rw [if_pos hany]
      · rw [if_neg hany]
        have hn := om_no l hany
        have hum : ∀ i : Nat, i < (oy_more l).length → (rd_T41 (oy_more l) (i : Int)).f1.length ≤ 1000 := by
          intro i hi
          rw [om_len] at hi
          by_cases hil : i < l.length
          · rw [om_rd l i hil]; exact hu i hil
          · obtain rfl : i = l.length := by omega
            rw [om_rdn]; exact Nat.zero_le _
        rw [od_Sort (oy_more l) hum _ (by omega), Option.bind_some]
        unfold oy_told
        have hchk := om_chk l hn h64
        by_cases e : (od_chk l).2 = 0
        · have ho := (od_ok l e).1
          have hs := om_srt l ho hn l.length (List.replicate l.length false) [] List.length_replicate (by simp) (by simp [List.count_replicate])
          have e1 : od_sort l = od_srt l l.length (List.replicate l.length false) [] := by unfold od_sort; rw [if_pos e]
          have e2 : od_sort (oy_more l) = od_srt (oy_more l) (l.length + 1) (List.replicate l.length false ++ [false]) [] := by
            unfold od_sort
            rw [hchk, if_pos e, om_len, List.replicate_succ']
          rw [← e1, ← e2] at hs
          by_cases z : (od_sort l).2.2 = 0
          · rw [if_pos z, hs.1 z]
            rw [if_pos rfl]
            exact od_Same _ (by rw [List.length_append, List.length_singleton]; omega) _ (by omega)
          · rw [if_neg z, hs.2 z]
            simp
        · have e1 : od_sort l = ([], (od_chk l).1, (od_chk l).2) := by unfold od_sort; rw [if_neg e]
          have e2 : od_sort (oy_more l) = ([], (od_chk l).1, (od_chk l).2) := by unfold od_sort; rw [hchk, if_neg e]
          rw [e1, e2]
          rw [if_neg e]
          simp
    · rw [if_neg h64]
end Go.Proofs.Ytnfgncapmkpcjaa.Pure
