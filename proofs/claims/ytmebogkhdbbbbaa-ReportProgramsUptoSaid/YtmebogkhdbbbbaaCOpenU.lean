/- Arguments opened by their kinds, where what is read is of bulk at most 1048576 (the second form of a statement). No program in sight. -/
import Derived.Test.YtmebogkhdbbbbaaRows
import Derived.Test.YtmebogkhdbbbbaaCWord
import Derived.Test.YtmebogkhdbbbbaaWWords
import Derived.Deep.Slices
import Derived.Deep.Fields
import Derived.ChangeSame
import Derived.ChangeArms
import Derived.SizedLaws
import Derived.OpenShut
namespace Go.Proofs.Ytmebogkhdbbbbaa.C
open Go Go.ChangeShapes Go.WideShapes Go.Deep Go.Proofs.YtmebogkhdbbbbaaW.PrintWords Go.Proofs.Ytmebogkhdbbbbaa.Rows
theorem bulk_pos {H : Type} (d : DataW H) : 1 ≤ uptoBulk d := by
  cases d with
  | lit l => cases l <;> simp [uptoBulk]
  | _ => simp [uptoBulk]
theorem bulk_len {H : Type} : ∀ l : List (DataW H), l.length ≤ uptoBulkAll l
  | [] => by simp [uptoBulkAll]
  | d :: r => by
    have h1 := bulk_pos d
    have h2 := bulk_len r
    simp only [uptoBulkAll, List.length_cons]
    omega
theorem bulk_mem {H : Type} {d : DataW H} : ∀ {l : List (DataW H)}, d ∈ l → uptoBulk d ≤ uptoBulkAll l
  | [], h => by cases h
  | x :: r, h => by
    simp only [uptoBulkAll]
    rcases List.mem_cons.1 h with rfl | h
    · omega
    · have := bulk_mem h; omega
/-- Whatever reads at type t, and is of little bulk, reads as the kind d says; 'good': what more is known of it. -/
structure OpensU {α : Type} (P : Program) (t : TypeId) (d : Kd α) (good : α → Prop) : Prop where
  out : ∀ {H : Type} {enc : TypeId × Value → H} (W : World) (base : Nat) (spare : Nat → Bool) (held : Bool) (fuel : Nat) (cs : List Value) (y : DataW H × List MemPlace),
    DataW.trod enc P W base spare held fuel t cs = some y → uptoBulk y.1 ≤ 1048576 → ∃ x, d.K W x cs ∧ good x
theorem OpensU.int {P : Program} {t : TypeId} {k : IntKind} (h : P.underlying t = some (.int k)) : OpensU P t (Kd.int k) (fun n => (Lit.int k n).wf = true) :=
  ⟨fun W base spare held fuel cs y hy _ => by
    obtain ⟨n, e, _, hw⟩ := DataW.trod_int h hy
    exact ⟨n, e, hw⟩⟩
theorem OpensU.bool {P : Program} {t : TypeId} (h : P.underlying t = some .bool) : OpensU P t Kd.bool (fun _ => True) :=
  ⟨fun W base spare held fuel cs y hy _ => by
    obtain ⟨n, e, _⟩ := DataW.trod_bool h hy
    exact ⟨n, e, trivial⟩⟩
theorem OpensU.string {P : Program} {t : TypeId} (h : P.underlying t = some .string) : OpensU P t Kd.string (fun s => s.size ≤ 1048576) :=
  ⟨fun W base spare held fuel cs y hy hb => by
    obtain ⟨s, e, rfl, hs⟩ := DataW.trod_string h hy
    refine ⟨s, e, ?_⟩
    have h1 : s.data.toList.length + 1 ≤ 1048576 := hb
    rw [data_length] at h1
    omega⟩
theorem listU_of {α : Type} (n : Nat) (Q : Nat → α → Prop) (h : ∀ i, i < n → ∃ x, Q i x) : ∃ xs : List α, xs.length = n ∧ ∀ i x, xs[i]? = some x → Q i x := by
  induction n with
  | zero => exact ⟨[], rfl, fun i x hx => by simp at hx⟩
  | succ n ih =>
    obtain ⟨xs, hl, hq⟩ := ih (fun i hi => h i (by omega))
    obtain ⟨x, hx⟩ := h n (by omega)
    refine ⟨xs ++ [x], by simp [hl], fun i y hy => ?_⟩
    by_cases hi : i < n
    · rw [List.getElem?_append_left (by omega)] at hy; exact hq i y hy
    · have hlt := (List.getElem?_eq_some_iff.1 hy).1
      rw [List.length_append, List.length_singleton] at hlt
      obtain rfl : i = n := by omega
      rw [List.getElem?_append_right (by omega), hl] at hy
      simp at hy
      rw [← hy]; exact hx
theorem OpensU.slice {α : Type} {P : Program} {t e : TypeId} {d : Kd α} {good : α → Prop} (ht : P.underlying t = some (.slice e)) (hC : P.cellsOf e = d.sz) (ho : OpensU P e d good) :
    OpensU P t (Kd.slice e d) (fun xs => xs.length ≤ 1048576 ∧ ∀ x ∈ xs, good x) :=
  ⟨fun W base spare held fuel cs y hy hb => by
    rcases open_slice ht hy with ⟨hcs, _⟩ | ⟨a, len, cap, m, n, D, Pl, hcs, _, hlc, hcm, hm, hx, hi⟩
    · exact ⟨[], ⟨none, 0, hcs, Nat.le_refl _, Kd.C_nil _ _⟩, by simp, by simp⟩
    · subst hx
      have hb2 : uptoBulkAll ((List.range len).map D) + uptoBulkAll ((List.range (m - len)).map fun j => D (len + j)) + 1 ≤ 1048576 := hb
      have hlen := bulk_len ((List.range len).map D)
      rw [List.length_map, List.length_range] at hlen
      have hlm : len ≤ m := by rw [hm]; split <;> omega
      have hmax : cap ≤ 9223372036854775807 := by simpa [maxLen] using hcm
      obtain ⟨xs, hl, hq⟩ := listU_of len (fun i x => good x ∧ ∃ c, c.length = d.sz ∧ d.K W x c ∧ ∀ j u, c[j]? = some u → W.cell? (a.add (i * d.sz + j)) = some u) (fun i hilt => by
        obtain ⟨cs', hc, htr⟩ := hi i (by omega)
        rw [hC] at hc
        obtain ⟨_, hcl, hat⟩ := World.cells?_some hc
        have hbi : uptoBulk (D i) ≤ 1048576 := by
          have := bulk_mem (l := (List.range len).map D) (d := D i) (List.mem_map.2 ⟨i, List.mem_range.2 hilt, rfl⟩)
          omega
        obtain ⟨x, hk, hg⟩ := ho.out W base spare held n cs' _ htr hbi
        refine ⟨x, hg, cs', hcl, hk, fun j u hj => ?_⟩
        have hjl : j < d.sz := by have := (List.getElem?_eq_some_iff.1 hj).1; omega
        rw [← Go.Deep.add_add, hat j hjl, hj])
      refine ⟨xs, ⟨some a, cap, by rw [hcs, hl], by omega, hl ▸ rfl, by omega, fun _ => ⟨a, rfl, fun j p hj => ?_⟩⟩, by omega, fun x hx => ?_⟩
      · exact (hq j p hj).2
      · obtain ⟨i, hi, rfl⟩ := List.getElem_of_mem hx
        exact (hq i _ (List.getElem?_eq_getElem hi)).1⟩
theorem OpensU.arg {α : Type} {P : Program} {t : TypeId} {d : Kd α} {good : α → Prop} (ho : OpensU P t d good) {H : Type} {enc : TypeId × Value → H} {W : World} {base : Nat} {spare : Nat → Bool} {held : Bool} {v : Value} {y : DataW H} {ps : List MemPlace}
    (h : DataW.Trod enc P W base spare held t v y ps) (hb : uptoBulk y ≤ 1048576) : ∃ x, d.K W x v.cells.toList ∧ good x := by
  obtain ⟨fuel, hf⟩ := h
  exact ho.out W base spare held fuel _ _ hf hb
/-- A part of a struct is of no more bulk. -/
theorem bulk_part {H : Type} {xs : List (DataW H × List MemPlace)} {j : Nat} {y : DataW H × List MemPlace} (h : xs[j]? = some y) (hb : uptoBulk (.agg (xs.map (·.1)) : DataW H) ≤ 1048576) : uptoBulk y.1 ≤ 1048576 := by
  have h1 : uptoBulkAll (xs.map (·.1)) + 1 ≤ 1048576 := hb
  have h2 := bulk_mem (l := xs.map (·.1)) (d := y.1) (List.mem_map.2 ⟨y, List.mem_of_getElem? h, rfl⟩)
  omega
theorem bulk_of {H : Type} {l : List (DataW H)} (h : uptoSmall H l = true) {d : DataW H} (hd : d ∈ l) : uptoBulk d ≤ 1048576 := by
  have h1 : uptoBulkAll l ≤ 1048576 := of_decide_eq_true h
  have h2 := bulk_mem hd
  omega
end Go.Proofs.Ytmebogkhdbbbbaa.C
