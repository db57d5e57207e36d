/- Fields of instructions, read from texts: instr.Fill and the reference's Fill answer alike. -/
import Derived.Test.YtmajngcgejkghaaPx38
import Derived.Test.YtmajngcgejkghaaPx42
import Derived.Test.YtmajngcgejkghaaQIFill
namespace Go.Proofs.Ytmajngcgejkghaa.Q
set_option linter.unusedSimpArgs false
set_option linter.unusedVariables false
open Go Go.RowKit Go.Proofs.Ytmajngcgejkghaa.P Go.Proofs.Ytmajngcgejkghaa.C Go.Proofs.YtmajngcgejkghaaW.PrintWords

abbrev Quad := Int × Int × Int × Int
def putq (p : Nat) (n : Int) (q : Quad) : Quad := fi_put p n q.1 q.2.1 q.2.2.1 q.2.2.2
def ends (op : Int) (q : Quad) : Six := (op, q.1, q.2.1, q.2.2.1, q.2.2.2, decide (checkOf op q.1 q.2.1 q.2.2.1 q.2.2.2 = 0))
def q0 : Quad := (0, 0, 0, 0)
theorem code0 (k : Nat) (op : Int) (hk : 50 < k) : instr_Fill.rest k op [] [] = some (ends op q0) := by
  unfold instr_Fill.rest
  rw [if_pos (show ([] : List ByteArray).length = ([] : List Nat).length from rfl), instr_Fill.go]
  simp only [Option.bind_some]
  rw [check_eq k (by omega)]
  rfl
theorem code1 (k : Nat) (op : Int) (x : ByteArray) (p1 : Nat) (hx : x.size + 50 < k) : instr_Fill.rest k op [x] [p1] = some (if fok p1 op x = true then ends op (putq p1 (fv p1 op x).1 q0) else fi_no) := by
  unfold instr_Fill.rest
  rw [if_pos (show ([x] : List ByteArray).length = ([p1] : List Nat).length from rfl), go_step k op _ p1 _ 0 _ _ _ _ x rfl hx]
  cases h1 : fok p1 op x
  · rfl
  · simp only [if_true, instr_Fill.go, Option.bind_some]
    rw [check_eq k (by omega)]
    rfl
theorem code2 (k : Nat) (op : Int) (x y : ByteArray) (p1 p2 : Nat) (hx : x.size + 50 < k) (hy : y.size + 50 < k) :
    instr_Fill.rest k op [x, y] [p1, p2] = some (if (fok p1 op x && fok p2 op y) = true then ends op (putq p2 (fv p2 op y).1 (putq p1 (fv p1 op x).1 q0)) else fi_no) := by
  unfold instr_Fill.rest
  rw [if_pos (show ([x, y] : List ByteArray).length = ([p1, p2] : List Nat).length from rfl), go_step k op _ p1 _ 0 _ _ _ _ x rfl hx]
  cases h1 : fok p1 op x
  · rfl
  · simp only [if_true]
    rw [go_step k op _ p2 _ 1 _ _ _ _ y rfl hy]
    cases h2 : fok p2 op y
    · rfl
    · simp only [if_true, instr_Fill.go, Option.bind_some]
      rw [check_eq k (by omega)]
      rfl
theorem code3 (k : Nat) (op : Int) (x y z : ByteArray) (p1 p2 p3 : Nat) (hx : x.size + 50 < k) (hy : y.size + 50 < k) (hz : z.size + 50 < k) :
    instr_Fill.rest k op [x, y, z] [p1, p2, p3] = some (if (fok p1 op x && fok p2 op y && fok p3 op z) = true then ends op (putq p3 (fv p3 op z).1 (putq p2 (fv p2 op y).1 (putq p1 (fv p1 op x).1 q0))) else fi_no) := by
  unfold instr_Fill.rest
  rw [if_pos (show ([x, y, z] : List ByteArray).length = ([p1, p2, p3] : List Nat).length from rfl), go_step k op _ p1 _ 0 _ _ _ _ x rfl hx]
  cases h1 : fok p1 op x
  · rfl
  · simp only [if_true]
    rw [go_step k op _ p2 _ 1 _ _ _ _ y rfl hy]
    cases h2 : fok p2 op y
    · rfl
    · simp only [if_true]
      rw [go_step k op _ p3 _ 2 _ _ _ _ z rfl hz]
      cases h3 : fok p3 op z
      · rfl
      · simp only [if_true, instr_Fill.go, Option.bind_some]
        rw [check_eq k (by omega)]
        rfl
def fails (op : Int) : Six := (op, 0, 0, 0, 0, false)
theorem ref0 (k : Nat) (op : Int) (f : List Int → Quad) (hk : 50 < k) : rf_rest k op [] [] f = some (ends op (f [0, 0, 0, 0])) := by
  unfold rf_rest
  rw [if_pos (show ([] : List ByteArray).length = ([] : List ByteArray).length from rfl), rf_go]
  simp only [Option.bind_some]
  rw [rcheck_eq k (by omega)]
  rfl
theorem ref1 (k : Nat) (op : Int) (x : ByteArray) (p1 : Nat) (f : List Int → Quad) (hk : 50 < k) : rf_rest k op [x] [hd p1 op] f = some (if (fv p1 op x).2 = true then ends op (f [(fv p1 op x).1, 0, 0, 0]) else fails op) := by
  unfold rf_rest
  rw [if_pos (show ([x] : List ByteArray).length = ([hd p1 op] : List ByteArray).length from rfl), rgo_step k op _ p1 _ 0 _ x rfl hk]
  cases h1 : (fv p1 op x).2
  · rfl
  · simp only [if_true, rf_go, Option.bind_some]
    rw [rcheck_eq k (by omega)]
    rfl
theorem ref2 (k : Nat) (op : Int) (x y : ByteArray) (p1 p2 : Nat) (f : List Int → Quad) (hk : 50 < k) : rf_rest k op [x, y] [hd p1 op, hd p2 op] f = some (if ((fv p1 op x).2 && (fv p2 op y).2) = true then ends op (f [(fv p1 op x).1, (fv p2 op y).1, 0, 0]) else fails op) := by
  unfold rf_rest
  rw [if_pos (show ([x, y] : List ByteArray).length = ([hd p1 op, hd p2 op] : List ByteArray).length from rfl), rgo_step k op _ p1 _ 0 _ x rfl hk]
  cases h1 : (fv p1 op x).2
  · rfl
  · simp only [if_true]
    rw [rgo_step k op _ p2 _ 1 _ y rfl hk]
    cases h2 : (fv p2 op y).2
    · rfl
    · simp only [if_true, rf_go, Option.bind_some]
      rw [rcheck_eq k (by omega)]
      rfl
theorem ref3 (k : Nat) (op : Int) (x y z : ByteArray) (p1 p2 p3 : Nat) (f : List Int → Quad) (hk : 50 < k) : rf_rest k op [x, y, z] [hd p1 op, hd p2 op, hd p3 op] f = some (if ((fv p1 op x).2 && (fv p2 op y).2 && (fv p3 op z).2) = true then ends op (f [(fv p1 op x).1, (fv p2 op y).1, (fv p3 op z).1, 0]) else fails op) := by
  unfold rf_rest
  rw [if_pos (show ([x, y, z] : List ByteArray).length = ([hd p1 op, hd p2 op, hd p3 op] : List ByteArray).length from rfl), rgo_step k op _ p1 _ 0 _ x rfl hk]
  cases h1 : (fv p1 op x).2
  · rfl
  · simp only [if_true]
    rw [rgo_step k op _ p2 _ 1 _ y rfl hk]
    cases h2 : (fv p2 op y).2
    · rfl
    · simp only [if_true]
      rw [rgo_step k op _ p3 _ 2 _ z rfl hk]
      cases h3 : (fv p3 op z).2
      · rfl
      · simp only [if_true, rf_go, Option.bind_some]
        rw [rcheck_eq k (by omega)]
        rfl
theorem rest_no (k : Nat) (op : Int) (l : List ByteArray) (ps : List Nat) (h : ¬ l.length = ps.length) : instr_Fill.rest k op l ps = some fi_no := by
  unfold instr_Fill.rest; rw [if_neg h]
theorem rrest_no (k : Nat) (op : Int) (l hs : List ByteArray) (f : List Int → Quad) (h : ¬ l.length = hs.length) : rf_rest k op l hs f = some (fails op) := by
  unfold rf_rest; rw [if_neg h]; rfl
theorem same_no (op : Int) : same fi_no (fails op) := ⟨rfl, fun h => by cases h⟩
theorem same_ends (op : Int) (q : Quad) (oc orf : Bool) (h1 : oc = true → orf = true) (h2 : orf = true → oc = false → checkOf op q.1 q.2.1 q.2.2.1 q.2.2.2 ≠ 0) :
    same (if oc = true then ends op q else fi_no) (if orf = true then ends op q else fails op) := same_end op q.1 q.2.1 q.2.2.1 q.2.2.2 oc orf h1 h2
def Regs (op : Int) (q : Quad) : Prop := (0 ≤ q.1 ∧ q.1 ≤ 15) ∧ (0 ≤ q.2.1 ∧ q.2.1 ≤ 15) ∧ (0 ≤ q.2.2.1 ∧ q.2.2.1 ≤ 15)
theorem check_regs (op : Int) (q : Quad) (h : checkOf op q.1 q.2.1 q.2.2.1 q.2.2.2 = 0) : Regs op q := by
  have := ((checkOf_ok op _ _ _ _).1 h).2
  unfold okAt at this
  exact ⟨this.1, this.2.1, this.2.2.1⟩
theorem num4 (op : Int) : fi_num 4 op = true := by unfold fi_num; rfl
theorem size_le {l : List ByteArray} {k : Nat} (hk : ∀ x ∈ l, x.size + 50 < k) {x : ByteArray} (h : x ∈ l) : x.size + 50 < k := hk x h
/-- instr.Fill and the reference's Fill: alike. -/
theorem fill_same (k : Nat) (op : Int) (l : List ByteArray) (hk : 50 < k) (hs : ∀ x ∈ l, x.size + 50 < k) :
    ∃ r r', instr_Fill.f k op l = some r ∧ pascalineref02_Fill.f k op l = some r' ∧ same r r' := by
  unfold instr_Fill.f pascalineref02_Fill.f
  rw [shape_eq k op (by omega), rshape_eq k op (by omega)]
  simp only [Option.bind_some]
  generalize hsh : shapeOf op = s
  have hr := shapeOf_range op
  rw [hsh] at hr
  rcases shape_9 s hr with rfl | rfl | rfl | rfl | rfl | rfl | rfl | rfl | rfl | rfl
  · exact ⟨fi_no, fails op, rfl, rfl, same_no op⟩
  · -- none
    show ∃ r r', instr_Fill.rest k op l [] = some r ∧ rf_rest k op l [] (fun _ => (0, 0, 0, 0)) = some r' ∧ same r r'
    match l with
    | [] => exact ⟨_, _, code0 k op hk, ref0 k op _ hk, rfl, fun _ => rfl⟩
    | x :: t => exact ⟨_, _, rest_no k op _ _ (by simp), rrest_no k op _ _ _ (by simp), same_no op⟩
  all_goals first
    | (show ∃ r r', instr_Fill.rest k op l [1, 4] = some r ∧ rf_rest k op l [rf_r, rf_e] (fun ns => (rf_nd ns 0, 0, 0, rf_nd ns 1)) = some r' ∧ same r r'
       by_cases hl : l.length = 2
       · match l, hl with
         | [x, y], _ =>
           rw [hd1 op, hd4 op, code2 k op x y 1 4 (hs x (by simp)) (hs y (by simp)), ref2 k op x y 1 4 _ hk]
           refine ⟨_, _, rfl, rfl, same_ends op (putq 4 (fv 4 op y).1 (putq 1 (fv 1 op x).1 q0)) _ _ ?_ ?_⟩
           · intro h; simp at h ⊢; exact ⟨fok_fv _ _ _ h.1, fok_fv _ _ _ h.2⟩
           · intro h hn hc
             have g := check_regs op _ hc
             simp at h
             have h1 : fok 1 op x = true := by
               cases e : fok 1 op x
               · exact absurd g.1 (fok_no 1 op x e h.1)
               · rfl
             have h2 : fok 4 op y = true := by rw [fok_num 4 op y (num4 op)]; exact h.2
             rw [h1, h2] at hn; cases hn
       · exact ⟨_, _, rest_no k op _ _ hl, rrest_no k op _ _ _ hl, same_no op⟩)
    | (show ∃ r r', instr_Fill.rest k op l [1, 2, 4] = some r ∧ rf_rest k op l [rf_r, rf_b op, rf_e] (fun ns => (rf_nd ns 0, rf_nd ns 1, 0, rf_nd ns 2)) = some r' ∧ same r r'
       by_cases hl : l.length = 3
       · match l, hl with
         | [x, y, z], _ =>
           rw [hd1 op, hd2 op, hd4 op, code3 k op x y z 1 2 4 (hs x (by simp)) (hs y (by simp)) (hs z (by simp)), ref3 k op x y z 1 2 4 _ hk]
           refine ⟨_, _, rfl, rfl, same_ends op (putq 4 (fv 4 op z).1 (putq 2 (fv 2 op y).1 (putq 1 (fv 1 op x).1 q0))) _ _ ?_ ?_⟩
           · intro h; simp at h ⊢; exact ⟨⟨fok_fv _ _ _ h.1.1, fok_fv _ _ _ h.1.2⟩, fok_fv _ _ _ h.2⟩
           · intro h hn hc
             have g := check_regs op _ hc
             simp at h
             have h1 : fok 1 op x = true := by
               cases e : fok 1 op x
               · exact absurd g.1 (fok_no 1 op x e h.1.1)
               · rfl
             have h2 : fok 2 op y = true := by
               cases e : fok 2 op y
               · exact absurd g.2.1 (fok_no 2 op y e h.1.2)
               · rfl
             have h3 : fok 4 op z = true := by rw [fok_num 4 op z (num4 op)]; exact h.2
             rw [h1, h2, h3] at hn; cases hn
       · exact ⟨_, _, rest_no k op _ _ hl, rrest_no k op _ _ _ hl, same_no op⟩)
    | (show ∃ r r', instr_Fill.rest k op l [1, 2, 3] = some r ∧ rf_rest k op l [rf_r, rf_b op, rf_r] (fun ns => (rf_nd ns 0, rf_nd ns 1, rf_nd ns 2, 0)) = some r' ∧ same r r'
       by_cases hl : l.length = 3
       · match l, hl with
         | [x, y, z], _ =>
           rw [show ([rf_r, rf_b op, rf_r] : List ByteArray) = [hd 1 op, hd 2 op, hd 3 op] from by rw [← hd1, ← hd2, ← hd3], code3 k op x y z 1 2 3 (hs x (by simp)) (hs y (by simp)) (hs z (by simp)), ref3 k op x y z 1 2 3 _ hk]
           refine ⟨_, _, rfl, rfl, same_ends op (putq 3 (fv 3 op z).1 (putq 2 (fv 2 op y).1 (putq 1 (fv 1 op x).1 q0))) _ _ ?_ ?_⟩
           · intro h; simp at h ⊢; exact ⟨⟨fok_fv _ _ _ h.1.1, fok_fv _ _ _ h.1.2⟩, fok_fv _ _ _ h.2⟩
           · intro h hn hc
             have g := check_regs op _ hc
             simp at h
             have h1 : fok 1 op x = true := by
               cases e : fok 1 op x
               · exact absurd g.1 (fok_no 1 op x e h.1.1)
               · rfl
             have h2 : fok 2 op y = true := by
               cases e : fok 2 op y
               · exact absurd g.2.1 (fok_no 2 op y e h.1.2)
               · rfl
             have h3 : fok 3 op z = true := by
               cases e : fok 3 op z
               · exact absurd g.2.2 (fok_no 3 op z e h.2)
               · rfl
             rw [h1, h2, h3] at hn; cases hn
       · exact ⟨_, _, rest_no k op _ _ hl, rrest_no k op _ _ _ hl, same_no op⟩)
    | (show ∃ r r', instr_Fill.rest k op l [1] = some r ∧ rf_rest k op l [rf_r] (fun ns => (rf_nd ns 0, 0, 0, 0)) = some r' ∧ same r r'
       by_cases hl : l.length = 1
       · match l, hl with
         | [x], _ =>
           rw [hd1 op, code1 k op x 1 (hs x (by simp)), ref1 k op x 1 _ hk]
           refine ⟨_, _, rfl, rfl, same_ends op (putq 1 (fv 1 op x).1 q0) _ _ ?_ ?_⟩
           · intro h; exact fok_fv _ _ _ h
           · intro h hn hc
             have g := check_regs op _ hc
             exact absurd g.1 (fok_no 1 op x hn h)
       · exact ⟨_, _, rest_no k op _ _ hl, rrest_no k op _ _ _ hl, same_no op⟩)
    | (show ∃ r r', instr_Fill.rest k op l [4] = some r ∧ rf_rest k op l [rf_e] (fun ns => (0, 0, 0, rf_nd ns 0)) = some r' ∧ same r r'
       by_cases hl : l.length = 1
       · match l, hl with
         | [x], _ =>
           rw [hd4 op, code1 k op x 4 (hs x (by simp)), ref1 k op x 4 _ hk]
           refine ⟨_, _, rfl, rfl, same_ends op (putq 4 (fv 4 op x).1 q0) _ _ ?_ ?_⟩
           · intro h; exact fok_fv _ _ _ h
           · intro h hn hc
             rw [fok_num 4 op x (num4 op), h] at hn; cases hn
       · exact ⟨_, _, rest_no k op _ _ hl, rrest_no k op _ _ _ hl, same_no op⟩)
end Go.Proofs.Ytmajngcgejkghaa.Q
