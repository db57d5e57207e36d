/- OrderReaches: to which modules one comes from any one is what the page says. For all items and names; no condition. -/
import Derived.Test.YtnfgncapmkpcjaaPx19
import Derived.Test.YtnfgncapmkpcjaaPsOrderReaches
import Derived.Test.YtnfgncapmkpcjaaQOrder3
namespace Go.Proofs.Ytnfgncapmkpcjaa.Pure
set_option linter.unusedSimpArgs false
set_option linter.unusedVariables false
open Go Go.RowKit Go.Proofs.Ytnfgncapmkpcjaa.P Go.Proofs.Ytnfgncapmkpcjaa.Q Go.Proofs.Ytnfgncapmkpcjaa.C Go.Proofs.YtnfgncapmkpcjaaW.PrintWords
theorem OrderReaches : pascalinelaw25_OrderReaches.Pure := by
  intro l name _ _ _
  refine ⟨200000000, ?_⟩
  unfold pascalinelaw25_OrderReaches.f
  rw [od_awake_k 200000000 (by omega), Option.bind_some, if_pos rfl]
  obtain ⟨b, hb, h⟩ := od_Few l 200000000 (by omega)
  rw [hb, Option.bind_some]
  cases b with
  | false => rfl
  | true =>
    obtain ⟨h1, h2⟩ := h rfl
    have hu : ∀ i : Nat, i < l.length → (rd_T41 l (i : Int)).f1.length ≤ 1000 := fun i hi => by have := h2 i hi; omega
    have hs := or_out_len l name (or_all l name) l.length 0
    rw [if_pos rfl, or_Reach l h1 h2 name _ (by omega), Option.bind_some, od_Ref l (by omega) _ (by omega), Option.bind_some, or_refReach l h1 hu name _ (by omega), Option.bind_some, od_Same _ (by omega) _ (by omega)]
    rfl
end Go.Proofs.Ytnfgncapmkpcjaa.Pure
