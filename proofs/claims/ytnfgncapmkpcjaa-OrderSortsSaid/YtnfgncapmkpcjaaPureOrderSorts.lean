/- OrderSorts: any modules' order is what the page says, or the first one that can't come is told. For all items; no condition. -/
import Derived.Test.YtnfgncapmkpcjaaPx13
import Derived.Test.YtnfgncapmkpcjaaPsOrderSorts
import Derived.Test.YtnfgncapmkpcjaaQOrder2
namespace Go.Proofs.Ytnfgncapmkpcjaa.Pure
set_option linter.unusedSimpArgs false
set_option linter.unusedVariables false
open Go Go.RowKit Go.Proofs.Ytnfgncapmkpcjaa.P Go.Proofs.Ytnfgncapmkpcjaa.Q Go.Proofs.Ytnfgncapmkpcjaa.C Go.Proofs.YtnfgncapmkpcjaaW.PrintWords
theorem OrderSorts : pascalinelaw25_OrderSorts.Pure := by
  intro l _ _
  refine ⟨500000, ?_⟩
  unfold pascalinelaw25_OrderSorts.f
  rw [od_awake_k 500000 (by omega), Option.bind_some, if_pos rfl]
  obtain ⟨b, hb, h⟩ := od_Few l 500000 (by omega)
  rw [hb, Option.bind_some]
  cases b with
  | false => rfl
  | true =>
    obtain ⟨h1, h2⟩ := h rfl
    have hu : ∀ i : Nat, i < l.length → (rd_T41 l (i : Int)).f1.length ≤ 1000 := fun i hi => by have := h2 i hi; omega
    have hs := od_sort_len l
    rw [if_pos rfl, od_Check l hu _ (by omega), Option.bind_some, od_Ref l (by omega) _ (by omega), Option.bind_some, od_refCheck l hu _ (by omega), Option.bind_some, od_Sort l hu _ (by omega), Option.bind_some, Option.bind_some, od_refSort l hu _ (by omega), Option.bind_some, if_pos rfl, if_pos rfl, od_Same _ (by omega) _ (by omega), Option.bind_some, if_pos rfl, if_pos rfl]
    simp
end Go.Proofs.Ytnfgncapmkpcjaa.Pure
