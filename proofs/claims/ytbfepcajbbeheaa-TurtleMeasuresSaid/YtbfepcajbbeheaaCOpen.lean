/- Arguments opened by their kinds: what can be read as data is told by the print's own words on kinds (Kd). No program in sight. -/
import Derived.Test.YtbfepcajbbeheaaWWords
import Derived.Deep.Slices
import Derived.Deep.Fields
import Derived.ChangeSame
import Derived.ChangeArms
import Derived.SizedLaws
import Derived.OpenShut
namespace Go.Proofs.Ytbfepcajbbeheaa.C
open Go Go.ChangeShapes Go.WideShapes Go.Deep Go.Proofs.YtbfepcajbbeheaaW.PrintWords

/-- Whatever reads at type t reads as the kind d says; 'good': what more is known of it. -/
structure Opens {α : Type} (P : Program) (t : TypeId) (d : Kd α) (good : α → Prop) : Prop where
  out : ∀ {H : Type} {enc : TypeId × Value → H} (W : World) (base : Nat) (spare : Nat → Bool) (held : Bool) (fuel : Nat) (cs : List Value) (y : DataW H × List MemPlace),
    DataW.trod enc P W base spare held fuel t cs = some y → ∃ x, d.K W x cs ∧ good x
theorem Opens.int {P : Program} {t : TypeId} {k : IntKind} (h : P.underlying t = some (.int k)) : Opens P t (Kd.int k) (fun n => (Lit.int k n).wf = true) :=
  ⟨fun W base spare held fuel cs y hy => by
    obtain ⟨n, e, _, hw⟩ := DataW.trod_int h hy
    exact ⟨n, e, hw⟩⟩
theorem Opens.bool {P : Program} {t : TypeId} (h : P.underlying t = some .bool) : Opens P t Kd.bool (fun _ => True) :=
  ⟨fun W base spare held fuel cs y hy => by
    obtain ⟨n, e, _⟩ := DataW.trod_bool h hy
    exact ⟨n, e, trivial⟩⟩
theorem Opens.string {P : Program} {t : TypeId} (h : P.underlying t = some .string) : Opens P t Kd.string (fun s => s.size ≤ 9223372036854775807) :=
  ⟨fun W base spare held fuel cs y hy => by
    obtain ⟨s, e, _, hs⟩ := DataW.trod_string h hy
    exact ⟨s, e, by simpa [maxLen] using hs⟩⟩
theorem list_of {α : Type} (n : Nat) (Q : Nat → α → Prop) (h : ∀ i, i < n → ∃ x, Q i x) : ∃ xs : List α, xs.length = n ∧ ∀ i x, xs[i]? = some x → Q i x := by
  induction n with
  | zero => exact ⟨[], rfl, fun i x hx => by simp at hx⟩
  | succ n ih =>
    obtain ⟨xs, hl, hq⟩ := ih (fun i hi => h i (by omega))
    obtain ⟨x, hx⟩ := h n (by omega)
    refine ⟨xs ++ [x], by simp [hl], fun i y hy => ?_⟩
    by_cases hi : i < n
    · rw [List.getElem?_append_left (by omega)] at hy; exact hq i y hy
    · have hlt := (List.getElem?_eq_some_iff.1 hy).1
      rw [List.length_append, List.length_singleton] at hlt
      obtain rfl : i = n := by omega
      rw [List.getElem?_append_right (by omega), hl] at hy
      simp at hy
      rw [← hy]; exact hx
theorem Opens.slice {α : Type} {P : Program} {t e : TypeId} {d : Kd α} {good : α → Prop} (ht : P.underlying t = some (.slice e)) (hC : P.cellsOf e = d.sz) (ho : Opens P e d good) :
    Opens P t (Kd.slice e d) (fun xs => xs.length ≤ 9223372036854775807 ∧ ∀ x ∈ xs, good x) :=
  ⟨fun W base spare held fuel cs y hy => by
    rcases open_slice ht hy with ⟨hcs, _⟩ | ⟨a, len, cap, m, n, D, Pl, hcs, _, hlc, hcm, hm, _, hi⟩
    · exact ⟨[], ⟨none, 0, hcs, Nat.le_refl _, Kd.C_nil _ _⟩, by simp, by simp⟩
    · have hlm : len ≤ m := by rw [hm]; split <;> omega
      have hmax : cap ≤ 9223372036854775807 := by simpa [maxLen] using hcm
      obtain ⟨xs, hl, hq⟩ := list_of len (fun i x => good x ∧ ∃ c, c.length = d.sz ∧ d.K W x c ∧ ∀ j u, c[j]? = some u → W.cell? (a.add (i * d.sz + j)) = some u) (fun i hilt => by
        obtain ⟨cs', hc, htr⟩ := hi i (by omega)
        rw [hC] at hc
        obtain ⟨_, hcl, hat⟩ := World.cells?_some hc
        obtain ⟨x, hk, hg⟩ := ho.out W base spare held n cs' _ htr
        refine ⟨x, hg, cs', hcl, hk, fun j u hj => ?_⟩
        have hjl : j < d.sz := by have := (List.getElem?_eq_some_iff.1 hj).1; omega
        rw [← Go.Deep.add_add, hat j hjl, hj])
      refine ⟨xs, ⟨some a, cap, by rw [hcs, hl], by omega, hl ▸ rfl, by omega, fun _ => ⟨a, rfl, fun j p hj => ?_⟩⟩, by omega, fun x hx => ?_⟩
      · exact (hq j p hj).2
      · obtain ⟨i, hi, rfl⟩ := List.getElem_of_mem hx
        exact (hq i _ (List.getElem?_eq_getElem hi)).1⟩
theorem pair_of {α β : Type} {a : Kd α} {b : Kd β} {w : World} {x : α} {y : β} {cs : List Value} (n : Nat) (h0 : a.K w x (cs.take n)) (h1 : b.K w y (cs.drop n)) : (Kd.pair a b).K w (x, y) cs :=
  ⟨_, _, (List.take_append_drop n cs).symm, h0, h1⟩
/-- What an argument's value is, by its kind. -/
theorem Opens.arg {α : Type} {P : Program} {t : TypeId} {d : Kd α} {good : α → Prop} (ho : Opens P t d good) {H : Type} {enc : TypeId × Value → H} {W : World} {base : Nat} {spare : Nat → Bool} {held : Bool} {v : Value} {y : DataW H} {ps : List MemPlace}
    (h : DataW.Trod enc P W base spare held t v y ps) : ∃ x, d.K W x v.cells.toList ∧ good x := by
  obtain ⟨fuel, hf⟩ := h
  exact ho.out W base spare held fuel _ _ hf
/-- A slice argument: its length times an element's bytes is within the form's reach. -/
theorem reach_slice {H : Type} {enc : TypeId × Value → H} {P : Program} {W : World} {base : Nat} {spare : Nat → Bool} {held : Bool} {t e : TypeId} {a : Option Addr} {len cap : Nat} {d : DataW H} {ps : List MemPlace} {ts : List TypeId} {ds : List (DataW H)} {j : Nat}
    (hsz : (DataW.weightsEach P ts ds).all (· ≤ reachBytes) = true) (ht : ts[j]? = some t) (hd : ds[j]? = some d) (hu : P.underlying t = some (.slice e)) {B : Nat} (hB : P.bytesOf e = B)
    (h : DataW.Trod enc P W base spare held t (.slice a len cap) d ps) : len * B ≤ 140737488351232 := by
  obtain ⟨fuel, hf⟩ := h
  rcases open_slice hu hf with ⟨hcs, _⟩ | ⟨x, l, c, m, n, D, Pl, hcs, _, hl, _, hm, hx, _⟩
  · simp [Value.cells] at hcs
    obtain ⟨_, rfl, _⟩ := hcs
    omega
  · simp [Value.cells] at hcs
    obtain ⟨_, rfl, _⟩ := hcs
    obtain ⟨hx, _⟩ := Prod.mk.inj hx
    subst hx
    have z := sized_slice hsz ht hd hu
    rw [hB] at z
    refine Nat.le_trans (Nat.mul_le_mul_right _ ?_) z
    simp
end Go.Proofs.Ytbfepcajbbeheaa.C
