/- TurtleDraws: what any events draw, up to the first pair that can't be done, and its text, is what the page says. For all events; no condition. -/
import Derived.Test.YtbfepcajbbeheaaPx2
import Derived.Test.YtbfepcajbbeheaaPx5
import Derived.Test.YtbfepcajbbeheaaPx6
import Derived.Test.YtbfepcajbbeheaaPx12
import Derived.Test.YtbfepcajbbeheaaPx17
import Derived.Test.YtbfepcajbbeheaaPx18
import Derived.Test.YtbfepcajbbeheaaPx19
import Derived.Test.YtbfepcajbbeheaaPx20
import Derived.Test.YtbfepcajbbeheaaQTx
import Derived.Test.YtbfepcajbbeheaaPsTurtleDraws
namespace Go.Proofs.Ytbfepcajbbeheaa.Pure
set_option linter.unusedSimpArgs false
set_option linter.unusedVariables false
open Go Go.RowKit Go.Proofs.Ytbfepcajbbeheaa.P Go.Proofs.Ytbfepcajbbeheaa.Q Go.Proofs.Ytbfepcajbbeheaa.O Go.Proofs.Ytbfepcajbbeheaa.C Go.Proofs.YtbfepcajbbeheaaW.PrintWords Go.Proofs.YtbfepcajbbeheaaW.PrintLast Go.Proofs.YtbfepcajbbeheaaW.PrintMore
def tx (n : Int) : ByteArray := strOfNums (textOf n)
theorem tx_size (n : Int) : (tx n).size ≤ 100 := by
  unfold tx
  rw [strOfNums_size]
  unfold textOf
  split
  · have := digs_length 10 65 (-n) 1; simp; omega
  · have := digs_length 10 65 n 1; omega
theorem num_eq (n : Int) (h : -1099511627776 ≤ n ∧ n ≤ 1099511627776) : tdr_num n = some (tx n) := by
  unfold tdr_num
  rw [word_text_eq n (by omega), Option.bind_some]
  have := tx_size n
  unfold tx at this ⊢
  rw [if_pos ⟨this, by omega, by omega⟩]
theorem rtx (n : Int) (h : -1099511627776 ≤ n ∧ n ≤ 1099511627776) : pascalineref01_Text.f n = some (tx n) := ref_text_eq n (by omega)
def trow (x : S70) : ByteArray := tu_row (tx x.f0) (tx x.f1) (tx x.f2) (tx x.f3)
theorem lines_eq : ∀ (l : List S70), (∀ x ∈ l, tu_on x) → tdr_lines l = some (l.map trow)
  | [], _ => rfl
  | x :: t, h => by
    obtain ⟨h0, h1, h2, h3⟩ := h x List.mem_cons_self
    unfold tdr_lines
    rw [num_eq _ h0, num_eq _ h1, num_eq _ h2, num_eq _ h3, lines_eq t (fun y hy => h y (List.mem_cons_of_mem _ hy))]
    rfl
def tacc (L : List ByteArray) : ByteArray := ⟨(tu_bytes L).toArray⟩
theorem tacc_size (L : List ByteArray) : (tacc L).size = (tu_bytes L).length := by unfold tacc; simp [ByteArray.size]
theorem tacc_len : ∀ (l : List S70), (tu_bytes (l.map trow)).length ≤ 500 * l.length
  | [] => by simp [tu_bytes]
  | x :: t => by
    have ih := tacc_len t
    have h0 := tx_size x.f0; have h1 := tx_size x.f1; have h2 := tx_size x.f2; have h3 := tx_size x.f3
    have hr : (trow x).size = (tx x.f0).size + 1 + (tx x.f1).size + 1 + ((tx x.f2).size + 1 + (tx x.f3).size) + 1 := tu_row_size (tx x.f0) (tx x.f1) (tx x.f2) (tx x.f3)
    have e : tu_bytes ((x :: t).map trow) = (trow x).data.toList ++ tu_bytes (t.map trow) := by simp [tu_bytes]
    have e2 : (trow x).data.toList.length = (trow x).size := Array.length_toList
    rw [e, List.length_append, e2, List.length_cons]
    omega
theorem tacc_snoc (L : List ByteArray) (t0 t1 t2 t3 : ByteArray) : tacc (L ++ [tu_row t0 t1 t2 t3]) = ((((((((tacc L ++ t0) ++ (⟨#[32]⟩ : ByteArray)) ++ t1) ++ (⟨#[32]⟩ : ByteArray)) ++ t2) ++ (⟨#[32]⟩ : ByteArray)) ++ t3) ++ (⟨#[10]⟩ : ByteArray)) := by
  unfold tacc
  rw [tu_bytes_snoc]
  apply ByteArray.ext
  apply Array.ext'
  simp [ByteArray.data_append, tu_row, tu_place]
theorem tacc_last (L : List ByteArray) (t1 t2 : ByteArray) : (⟨(tu_bytes L ++ (tu_last t1 t2).data.toList).toArray⟩ : ByteArray) = ((((tacc L ++ (⟨#[97, 116, 32]⟩ : ByteArray)) ++ t1) ++ (⟨#[32]⟩ : ByteArray)) ++ t2) ++ (⟨#[10]⟩ : ByteArray) := by
  unfold tacc
  apply ByteArray.ext
  apply Array.ext'
  simp [ByteArray.data_append, tu_last, tu_place]
theorem text_go (x y dx dy st : Int) (dn : Bool) (l : List S70) (hx : -1099511627776 ≤ x ∧ x ≤ 1099511627776) (hy : -1099511627776 ≤ y ∧ y ≤ 1099511627776) (hl : l.length ≤ 1000) (hon : ∀ z ∈ l, tu_on z) : ∀ (d i k : Nat), i + d = l.length → d < k →
    pascalineref32_Text.l0 k (tacc ((l.take i).map trow)) (i : Int) x y dx dy st dn l = some (⟨(tu_bytes (l.map trow) ++ (tu_last (tx x) (tx y)).data.toList).toArray⟩ : ByteArray)
  | _, _, 0, _, hk => absurd hk (Nat.not_lt_zero _)
  | 0, i, k + 1, h, hk => by
    have hs := tacc_size (l.map trow)
    have hn := tacc_len l
    have b1 : (⟨#[97, 116, 32]⟩ : ByteArray).size = 3 := rfl
    have b2 : (⟨#[32]⟩ : ByteArray).size = 1 := rfl
    have q1 := tx_size x
    have q2 := tx_size y
    rw [tacc_last, pascalineref32_Text.l0, if_neg (by omega), show i = l.length from by omega, List.take_length, if_pos (by first | omega | (simp only [ByteArray.size_append]; omega)), rtx x hx]
    simp only [Option.bind_some]
    rw [if_pos (by rw [ByteArray.size_append, b1]; omega), if_pos (by rw [ByteArray.size_append, ByteArray.size_append, b1]; omega), rtx y hy]
    simp only [Option.bind_some]
    rw [if_pos (by rw [ByteArray.size_append, ByteArray.size_append, ByteArray.size_append, b1, b2]; omega), if_pos (by rw [ByteArray.size_append, ByteArray.size_append, ByteArray.size_append, ByteArray.size_append, b1, b2]; omega)]
  | d + 1, i, k + 1, h, hk => by
    have hi : i < l.length := by omega
    have hw : wrap64 ((i : Int) + 1) = ((i + 1 : Nat) : Int) := by unfold wrap64; omega
    have er : rd_T70 l (i : Int) = l[i] := by unfold rd_T70; rw [Int.toNat_natCast]; simp [hi]
    obtain ⟨o0, o1, o2, o3⟩ := hon l[i] (List.getElem_mem hi)
    have hs := tacc_size ((l.take i).map trow)
    have hn := tacc_len (l.take i)
    rw [List.length_take] at hn
    have b2 : (⟨#[32]⟩ : ByteArray).size = 1 := rfl
    have q0 := tx_size l[i].f0; have q1 := tx_size l[i].f1; have q2 := tx_size l[i].f2; have q3 := tx_size l[i].f3
    have e : tacc ((l.take (i + 1)).map trow) = ((((((((tacc ((l.take i).map trow) ++ tx l[i].f0) ++ (⟨#[32]⟩ : ByteArray)) ++ tx l[i].f1) ++ (⟨#[32]⟩ : ByteArray)) ++ tx l[i].f2) ++ (⟨#[32]⟩ : ByteArray)) ++ tx l[i].f3) ++ (⟨#[10]⟩ : ByteArray)) := by
      rw [List.take_succ_eq_append_getElem hi, List.map_append, List.map_singleton]
      exact tacc_snoc _ _ _ _ _
    have ih := text_go x y dx dy st dn l hx hy hl hon d (i + 1) k (by omega) (by omega)
    rw [e] at ih
    rw [pascalineref32_Text.l0, if_pos (by omega), if_pos (by omega), er, rtx _ o0, rtx _ o1, rtx _ o2, rtx _ o3, hw]
    simp only [Option.bind_some]
    rw [if_pos (by omega), if_pos (by first | omega | (simp only [ByteArray.size_append]; omega)), if_pos (by first | omega | (simp only [ByteArray.size_append, b2]; omega)), if_pos (by first | omega | (simp only [ByteArray.size_append, b2]; omega)), if_pos (by first | omega | (simp only [ByteArray.size_append, b2]; omega)), if_pos (by first | omega | (simp only [ByteArray.size_append, b2]; omega)), if_pos (by first | omega | (simp only [ByteArray.size_append, b2]; omega)), if_pos (by first | omega | (simp only [ByteArray.size_append, b2]; omega))]
    exact ih
theorem TurtleDraws : pascalinelaw32_TurtleDraws.Pure := by
  intro l hl _
  unfold pascalinelaw32_TurtleDraws.f
  by_cases h1 : 200 < l.length
  · rw [if_pos h1]
  · have hg : ∀ x ∈ l, -2147483648 ≤ x.f1 ∧ x.f1 ≤ 2147483647 := fun x hx => by
      have := bounds_i32 (hl.2 x hx).2
      omega
    obtain ⟨hO, hlen, hon⟩ := tu_drawn_ok l
    have ht := text_go (tu_drawn l).1.x (tu_drawn l).1.y (tu_drawn l).1.dx (tu_drawn l).1.dy (tu_drawn l).1.st (tu_drawn l).1.dn (tu_drawn l).1.l hO.x hO.y (by omega) hon (tu_drawn l).1.l.length 0 3000 (by omega) (by omega)
    rw [if_neg h1, if_pos hg, num_eq _ hO.x, Option.bind_some, num_eq _ hO.y, Option.bind_some, lines_eq _ hon, Option.bind_some]
    have e : pascalineref32_Text.f 3000 (tu_drawn l).1.x (tu_drawn l).1.y (tu_drawn l).1.dx (tu_drawn l).1.dy (tu_drawn l).1.st (tu_drawn l).1.dn (tu_drawn l).1.l = some _ := ht
    rw [e, if_pos rfl]
end Go.Proofs.Ytbfepcajbbeheaa.Pure
