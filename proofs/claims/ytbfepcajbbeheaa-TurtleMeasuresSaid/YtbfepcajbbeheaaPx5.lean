-- Written by a program of this session (wip/tools/hp.py) out of the translation.
import Derived.Test.YtbfepcajbbeheaaPx0
import Derived.Test.YtbfepcajbbeheaaPx4
namespace Go.Proofs.Ytbfepcajbbeheaa.P
open Go.RowKit Go.Proofs.YtbfepcajbbeheaaW.PrintWords Go.Proofs.YtbfepcajbbeheaaW.PrintLast Go.Proofs.YtbfepcajbbeheaaW.PrintMore
attribute [local go_sem] max2_int min2_int max_two min_two max_three min_three max_four min_four   -- for this text's walks alone
set_option linter.unusedVariables false
set_option linter.unusedSimpArgs false

/-! ### turtle_text: function 29 -/
open Go.Proofs.Ytbfepcajbbeheaa.C
def tu_place (t1 t2 : ByteArray) : ByteArray := t1 ++ (⟨#[32]⟩ : ByteArray) ++ t2
set_option maxRecDepth 100000 in
set_option maxHeartbeats 2000000 in
theorem tu_text_calls (a b : Nat) (X Y : Int) (ha : Fl a X) (hb : Fl b Y) (hX : -9223372036854775808 ≤ X ∧ X ≤ 9223372036854775807) (hY : -9223372036854775808 ≤ Y ∧ Y ≤ 9223372036854775807) (t1 t2 : ByteArray)
    (h1 : word_Text.f X = some t1) (h2 : word_Text.f Y = some t2) (s1 : t1.size ≤ 100) (s2 : t2.size ≤ 100) (w : World) :
    Calls Try.prog 29 #[.complex .f64 a b] w fun e w' => e = .returned (.string (tu_place t1 t2)) ∧ Below w.heap.size w w' := by
  have c1 : ∀ w : World, (convert 48 3 (.float .f64 a)).run Try.prog w = .ok (.int .i64 X) w := fun w => run_convert_float_int w _ _ _ _ _ _ (by rw [Try.underlying48]; rfl) Try.underlying3 (fl_toInt ha hX)
  have c2 : ∀ w : World, (convert 48 3 (.float .f64 b)).run Try.prog w = .ok (.int .i64 Y) w := fun w => run_convert_float_int w _ _ _ _ _ _ (by rw [Try.underlying48]; rfl) Try.underlying3 (fl_toInt hb hY)
  have H1 := Aside0.mk h1; have H2 := Aside0.mk h2
  have z1 : (9223372036854775807 < t1.size + 1) = False := eq_false (by omega)
  have z2 : (9223372036854775807 < t1.size + 1 + t2.size) = False := eq_false (by omega)
  clear ha hb h1 h2 hX hY s1 s2
  go_enter Try.func29, Try.ntmps29
  go_wp2_with (first | (go_at_call 37; ((with_reducible refine (word_Text.calls X t1 _ H1.out).mono ?_)); rintro e w1 ⟨rfl, hb⟩; have HB1 := Aside0.mk hb; clear hb) | (go_at_call 37; ((with_reducible refine (word_Text.calls Y t2 _ H2.out).mono ?_)); rintro e w2 ⟨rfl, hb⟩; have HB2 := Aside0.mk (below_step HB1.out hb); clear hb))
  go_ret
  exact ⟨rfl, HB2.out⟩

end Go.Proofs.Ytbfepcajbbeheaa.P
