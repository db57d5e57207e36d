-- Written by a program of this session (wip/tools/hp.py) out of the translation.
import Derived.Test.YtbfepcajbbeheaaPx0
import Derived.Test.YtbfepcajbbeheaaPx1
import Derived.Test.YtbfepcajbbeheaaPx2
import Derived.Test.YtbfepcajbbeheaaPx4
import Derived.Test.YtbfepcajbbeheaaPx6
import Derived.Test.YtbfepcajbbeheaaPx7
namespace Go.Proofs.Ytbfepcajbbeheaa.P
open Go.RowKit Go.Proofs.YtbfepcajbbeheaaW.PrintWords Go.Proofs.YtbfepcajbbeheaaW.PrintLast Go.Proofs.YtbfepcajbbeheaaW.PrintMore
attribute [local go_sem] max2_int min2_int max_two min_two max_three min_three max_four min_four   -- for this text's walks alone
set_option linter.unusedVariables false
set_option linter.unusedSimpArgs false

/-! ### pascalinelaw32_awake: function 8 -/
open Go.Proofs.Ytbfepcajbbeheaa.C
theorem tu_base {base : Nat} {w : World} {g : Nat} {T : Tu} (h : IsT base w g T) : base ≤ w.heap.size := by
  obtain ⟨_, _, _, _, _, _, hb, _, _, hg⟩ := h
  have := blk_lt hb
  omega
theorem tu_aw_row (w : World) : Kd.C k33 (w.alloc (.cells #[.int .i32 1, .int .i32 3, .int .i32 2, .int .i32 1, .int .i32 1, .int .i32 4] 33)) (some ⟨w.heap.size, 0, none⟩) 3 [⟨1, 3⟩, ⟨2, 1⟩, ⟨1, 4⟩] := by
  have hb := blk_new w (.cells #[.int .i32 1, .int .i32 3, .int .i32 2, .int .i32 1, .int .i32 1, .int .i32 4] 33)
  refine ⟨rfl, by decide, fun _ => ⟨_, rfl, fun j p hp => ?_⟩⟩
  match j, hp with
  | 0, hp => 
    cases hp
    refine ⟨[.int .i32 1, .int .i32 3], rfl, ?_, fun i u hu => ?_⟩
    · exact k33_mk _ _
    · match i, hu with
      | 0, hu => cases hu; exact blk_cell hb 0
      | 1, hu => cases hu; exact blk_cell hb 1
  | 1, hp => 
    cases hp
    refine ⟨[.int .i32 2, .int .i32 1], rfl, ?_, fun i u hu => ?_⟩
    · exact k33_mk _ _
    · match i, hu with
      | 0, hu => cases hu; exact blk_cell hb 2
      | 1, hu => cases hu; exact blk_cell hb 3
  | 2, hp => 
    cases hp
    refine ⟨[.int .i32 1, .int .i32 4], rfl, ?_, fun i u hu => ?_⟩
    · exact k33_mk _ _
    · match i, hu with
      | 0, hu => cases hu; exact blk_cell hb 4
      | 1, hu => cases hu; exact blk_cell hb 5
def tu_aw_T : Tu := ⟨3, 4, 0, 1, 1, true, [⟨0, 0, 3, 0⟩, ⟨3, 0, 3, 4⟩]⟩
def tu_aw_L : List S72 := [⟨0, 1⟩, ⟨0, 3⟩, ⟨0, 2⟩, ⟨0, 1⟩, ⟨0, 1⟩, ⟨0, 4⟩]
theorem tu_aw_drawn : tu_drawn tu_aw_L = (tu_aw_T, 3, 0) := by rfl
theorem tu_aw_events : pascalinelaw32_events.f 10 [⟨1, 3⟩, ⟨2, 1⟩, ⟨1, 4⟩] = some tu_aw_L := by kernel_rfl
theorem tu_aw_num (n : Int) (t : ByteArray) (h : word_Text.f n = some t) (h1 : -9223372036854775808 ≤ n ∧ n ≤ 9223372036854775807) (h2 : t.size ≤ 100) : tu_num n t := ⟨h1, h, h2⟩
theorem tu_n0 : tu_num 0 ⟨#[48]⟩ := ⟨by decide, by kernel_rfl, by decide⟩
theorem tu_n3 : tu_num 3 ⟨#[51]⟩ := ⟨by decide, by kernel_rfl, by decide⟩
theorem tu_n4 : tu_num 4 ⟨#[52]⟩ := ⟨by decide, by kernel_rfl, by decide⟩
def tu_aw_LL : List ByteArray := [tu_row ⟨#[48]⟩ ⟨#[48]⟩ ⟨#[51]⟩ ⟨#[48]⟩, tu_row ⟨#[51]⟩ ⟨#[48]⟩ ⟨#[51]⟩ ⟨#[52]⟩]
theorem tu_aw_lines : ∀ (i : Nat) (h1 : i < tu_aw_T.l.length) (h2 : i < tu_aw_LL.length), tu_line tu_aw_T.l[i] tu_aw_LL[i]
  | 0, _, _ => ⟨_, _, _, _, tu_n0, tu_n0, tu_n3, tu_n0, rfl⟩
  | 1, _, _ => ⟨_, _, _, _, tu_n3, tu_n0, tu_n3, tu_n4, rfl⟩
set_option maxRecDepth 100000 in
theorem tu_aw_text : (⟨(tu_bytes tu_aw_LL ++ (tu_last ⟨#[51]⟩ ⟨#[52]⟩).data.toList).toArray⟩ : ByteArray) = ⟨#[48, 32, 48, 32, 51, 32, 48, 10, 51, 32, 48, 32, 51, 32, 52, 10, 97, 116, 32, 51, 32, 52, 10]⟩ := by kernel_rfl
set_option maxRecDepth 100000 in
set_option maxHeartbeats 4000000 in
theorem tu_awake_calls (w : World) : Calls Try.prog 8 #[] w fun e w' => e = .returned (.bool true) ∧ Below w.heap.size w w' := by
  go_enter Try.func8, Try.ntmps8
  go_wp2_with (first | (go_at_call 18; go_loud (refine (pascalinelaw32_events.calls 10 (some ⟨w.heap.size, 0, none⟩) 3 [⟨1, 3⟩, ⟨2, 1⟩, ⟨1, 4⟩] tu_aw_L _ (tu_aw_row w) (by decide) tu_aw_events).mono ?_); rintro e w1 ⟨v1, rfl, hR1, hb1⟩; obtain ⟨A1, c1, rfl, hc1, hC1⟩ := Kd.R_reads hR1; have HC1 := Aside0.mk hC1; have HB1 := Aside0.mk (below_step (below_alloc (Below.refl _ _) _) hb1); clear hR1 hb1 hc1 hC1) | (go_at_call 14; (refine (tu_Draw_calls A1 c1 tu_aw_L w1 HC1.out (by decide)).mono ?_); rintro e w2 ⟨g, b, rfl, hb, hI, hb2⟩; have HI := Aside0.mk hI; have HB2 := Aside0.mk (below_step HB1.out hb2); clear hI hb2) | (go_at_call 16; (refine (tu_Text_calls b g tu_aw_T tu_aw_LL ⟨#[51]⟩ ⟨#[52]⟩ w2 HI.out (tu_base HI.out) (by decide) rfl tu_aw_lines tu_n3 tu_n4).mono ?_); rintro e w3 ⟨rfl, hb3⟩; rw [tu_aw_text]; have HB3 := Aside0.mk (below_step HB2.out hb3); clear hb3))
  go_ret
  exact ⟨rfl, HB3.out⟩

end Go.Proofs.Ytbfepcajbbeheaa.P
