-- Written by a program of this session (wip/tools/hp.py) out of the translation.
import Derived.Test.YtmebogkhdbbbbaaPx0
import Derived.Test.YtmebogkhdbbbbaaPx5
import Derived.Test.YtmebogkhdbbbbaaPx6
import Derived.Test.YtmebogkhdbbbbaaPx7
import Derived.Test.YtmebogkhdbbbbaaPx8
namespace Go.Proofs.Ytmebogkhdbbbbaa.P
open Go.RowKit Go.Proofs.YtmebogkhdbbbbaaW.PrintWords Go.Proofs.YtmebogkhdbbbbaaW.PrintLast Go.Proofs.YtmebogkhdbbbbaaW.PrintMore
attribute [local go_sem] max2_int min2_int max_two min_two max_three min_three max_four min_four   -- for this text's walks alone
set_option linter.unusedVariables false
set_option linter.unusedSimpArgs false

/-! ### place_Index_Mark: function 21 -/
theorem row_storeCells (P : Program) (g o : Nat) (t : TypeId) (fz : Nat × Nat) : ∀ (vs : List Value) (i : Nat) (cur : Array Value) (w : World), w.heap[g]? = some (.cells cur t fz) → (fz.2 ≤ o + i ∨ o + i + vs.length ≤ fz.1) → o + i + vs.length ≤ cur.size → (∀ v ∈ vs, v.oneCell' = true) →
    (storeCells ⟨g, o, none⟩ vs i).run P w = .ok () (w.setRow g (cur.toList.take (o + i) ++ vs ++ cur.toList.drop (o + i + vs.length)).toArray)
  | [], i, cur, w, hg, _, _, _ => by
    simp only [storeCells, List.append_nil, List.length_nil, Nat.add_zero, List.take_append_drop, Array.toArray_toList]
    rw [setRow_self w g cur t fz hg]
    rfl
  | v :: rest, i, cur, w, hg, hfz, hl, h1 => by
    have hi : o + i < cur.size := by simp at hl; omega
    have hadd : (⟨g, o, none⟩ : Addr).add i = ⟨g, o + i, none⟩ := by unfold Addr.add; split <;> simp_all
    have hcell : w.cell? ⟨g, o + i, none⟩ = some cur[o + i] := by simp [World.cell?, hg, hi]
    have hfro : w.frozen? ⟨g, o + i, none⟩ = false := by
      obtain ⟨lo, hi'⟩ := fz
      simp only [World.frozen?, hg, Bool.and_eq_false_iff, decide_eq_false_iff_not]
      simp only [List.length_cons] at hfz
      omega
    have hst : (store ((⟨g, o, none⟩ : Addr).add i) v).run P w = .ok () (w.setRow g (cur.setIfInBounds (o + i) v)) := by
      rw [hadd, run_store P w _ v _ (h1 v (by simp)), hcell]
      simp [hfro, setCell_eq_setRow w g (o + i) cur t fz v hg]
    have ih := row_storeCells P g o t fz rest (i + 1) (cur.setIfInBounds (o + i) v) (w.setRow g (cur.setIfInBounds (o + i) v)) (setRow_heap w g cur _ t _ hg) (by simp only [List.length_cons] at hfz; omega) (by simp at hl ⊢; omega) (fun x hx => h1 x (by simp [hx]))
    simp only [storeCells, Sem.run_bind, hst, Result.andThen_ok, ih, setRow_setRow]
    congr 3
    have e := list_seg_step cur.toList (o + i) v rest (by simp at hl ⊢; omega)
    simpa [Array.toList_setIfInBounds, Nat.add_assoc] using e
/-- A row of bytes that is a call's own; it may bear, behind its end, the mark of a conversion. -/
def rowOfBytes (e : TypeId) (w : World) (B : Nat) (v : Value) (xs : List Int) : Prop :=
  ∃ g cap cur fz, v = .slice (some ⟨g, 0, none⟩) xs.length cap ∧ B ≤ g ∧ w.heap[g]? = some (.cells cur e fz) ∧ (fz.2 = 0 ∨ cap ≤ fz.1) ∧ xs.length ≤ cap ∧ cap ≤ maxLen ∧ cur.size = cap ∧ cur.toList.take xs.length = xs.map (Value.int .u8)
theorem rowOfBytes.cell {e : TypeId} {w : World} {B : Nat} {v : Value} {xs : List Int} (h : rowOfBytes e w B v xs) : ∃ g cap, v = .slice (some ⟨g, 0, none⟩) xs.length cap ∧ B ≤ g ∧ g < w.heap.size ∧ ∀ j, j < xs.length → w.cell? ⟨g, j, none⟩ = some (.int .u8 (xs.getD j 0)) := by
  obtain ⟨g, cap, cur, fz, rfl, hB, hg, _, hn, _, hcs, ht⟩ := h
  refine ⟨g, cap, rfl, hB, blk_lt hg, fun j hj => ?_⟩
  rw [cell_of_row w g j cur e fz hg]
  have h1 : (cur.toList.take xs.length)[j]? = (xs.map (Value.int .u8))[j]? := by rw [ht]
  rw [List.getElem?_take, if_pos hj] at h1
  rw [← Array.getElem?_toList, h1]
  simp [List.getD_eq_getElem?_getD, hj]
theorem rowOfBytes.kept {e : TypeId} {w w' : World} {B : Nat} {v : Value} {xs : List Int} (h : rowOfBytes e w B v xs) (hk : ∀ k, k < w.heap.size → w'.heap[k]? = w.heap[k]?) : rowOfBytes e w' B v xs := by
  obtain ⟨g, cap, cur, fz, rfl, hB, hg, r⟩ := h
  exact ⟨g, cap, cur, fz, rfl, hB, (hk g (blk_lt hg)).trans hg, r⟩
theorem rowOfBytes.conv (e : TypeId) (w : World) (B : Nat) (s : ByteArray) (hB : B ≤ w.heap.size) (hs : s.size ≤ 1000000) : rowOfBytes e (Lib.bytesWorld w e s) B (.slice (some ⟨w.heap.size, 0, none⟩) s.size (grownCap w s.size 0 e)) (bytesOf s) := by
  have hl := bytesOf_length s
  have hge := grownCap_ge w s.size 0 e
  have hmx := grownCap_le_maxLen w s.size 0 e (by simp only [maxLen]; omega)
  have hsz : (Lib.bytesCells w e s).size = grownCap w s.size 0 e := by
    unfold Lib.bytesCells
    rw [Array.size_append, Array.size_map, Array.size_replicate]
    have : s.data.size = s.size := rfl
    omega
  refine ⟨w.heap.size, grownCap w s.size 0 e, _, _, by rw [hl], hB, Lib.bytesWorld_at_new w e s, .inr (by omega), by omega, hmx, hsz, ?_⟩
  unfold Lib.bytesCells
  rw [Array.toList_append, hl, List.take_left' (by simp)]
  simp [bytesOf]
theorem rowOfBytes.run_append {P : Program} (w : World) (B : Nat) (t ty e : TypeId) (i : TypeInfo) (ht : P.underlying t = some (.slice e)) (hi : P.info? e = some i) (hz : i.zero = some (.int .u8 0)) (hsize : i.size = 1) (hby : i.bytes = 1)
    (v : Value) (xs : List Int) (b : Int) (h : rowOfBytes e w B v xs) (a : Addr) (c : Nat) (hb : w.cell? a = some (.int .u8 b)) (hl : xs.length + 1 ≤ 1000000) (hB : B ≤ w.heap.size) :
    ∃ v' w', (Builtin.append_ #[t, t] ty #[v, .slice (some a) 1 c]).run P w = .ok v' w' ∧ rowOfBytes e w' B v' (xs ++ [b]) ∧ w.grownBy w' v.ownBlock := by
  have hrow := h
  obtain ⟨g, cap, cur, fz, rfl, hBg, hg, hfz, hnc, hcm, hcs, htk⟩ := h
  have hnews : ∀ (j : Nat) (u : Value), [Value.int .u8 b][j]? = some u → w.cell? (a.add j) = some u := by
    intro j u hu
    match j with
    | 0 =>
      have e0 : a.add 0 = a := by unfold Addr.add; simp
      rw [e0, hb]; simpa using hu
    | j + 1 => simp at hu
  have hone : ∀ u ∈ [Value.int .u8 b], u.oneCell' = true := by simp [Value.oneCell']
  by_cases hroom : xs.length + 1 ≤ cap
  · have hf := run_firstCells_some (P := P) w i.size 1 a 1 c [Value.int .u8 b] (by simp [hsize]) hnews
    have hst := row_storeCells P g xs.length e fz [Value.int .u8 b] 0 cur w hg (by simp; omega) (by simp; omega) hone
    simp only [Nat.add_zero, List.length_singleton] at hst
    have hrun : (Builtin.append_ #[t, t] ty #[.slice (some ⟨g, 0, none⟩) xs.length cap, .slice (some a) 1 c]).run P w = .ok (.slice (some ⟨g, 0, none⟩) (xs.length + 1) cap) (w.setRow g (cur.toList.take xs.length ++ [Value.int .u8 b] ++ cur.toList.drop (xs.length + 1)).toArray) := by
      rw [hsize] at hf
      simp [Builtin.append_, run_underlying ht, sizeOf, typeInfo, hi, hsize, Builtin.lenOf, hroom, hf, Addr.add_lit, hst]
    refine ⟨_, _, hrun, ⟨g, cap, _, fz, by simp, hBg, setRow_heap w g cur _ e _ hg, hfz, by simp; omega, hcm, ?_, ?_⟩, ⟨rfl, rfl, rfl, by simp, fun k _ hk => setRow_other w g k _ (fun e => hk (by simp [Value.ownBlock, e]))⟩⟩
    · simp only [List.size_toArray, List.length_append, List.length_take, List.length_drop, Array.length_toList, List.length_singleton]
      omega
    · rw [htk, show (xs ++ [b]).length = (xs.map (Value.int .u8) ++ [Value.int .u8 b]).length by simp, List.map_append]
      exact List.take_left
  · obtain ⟨g', cap', e', _, _, hcell⟩ := hrow.cell
    injection e' with ea eb ec
    injection ea with ea
    injection ea with ea _ _
    subst ea
    have holds : ∀ (j : Nat) (u : Value), (xs.map (Value.int .u8))[j]? = some u → w.cell? ((⟨g, 0, none⟩ : Addr).add j) = some u := by
      intro j u hu
      have hadd : (⟨g, 0, none⟩ : Addr).add j = ⟨g, j, none⟩ := by unfold Addr.add; split <;> simp_all
      obtain ⟨hj, hju⟩ := List.getElem?_eq_some_iff.1 hu
      have hj' : j < xs.length := by simpa using hj
      rw [hadd, hcell j hj', ← hju]
      simp [List.getD_eq_getElem?_getD, hj']
    have hr := run_append_grow (P := P) w t ty e i (.int .u8 0) ht hi hz ⟨g, 0, none⟩ xs.length cap (xs.map (Value.int .u8)) (by simp [hsize]) holds a 1 c [Value.int .u8 b] (by simp [hsize]) hnews (by omega) (by omega) (by rw [hby]; exact growslice_fits (by omega) (by omega))
    have hge := grownCap_ge w (xs.length + 1) cap e
    have hcm2 : grownCap w (xs.length + 1) cap e ≤ maxLen := grownCap_le_maxLen w (xs.length + 1) cap e (by simp only [maxLen]; omega)
    refine ⟨_, _, hr, ⟨w.heap.size, _, _, (0, 0), by simp, hB, heap_alloc_new w.drew _, .inl rfl, by simp; omega, hcm2, ?_, ?_⟩, ⟨rfl, rfl, rfl, by simp, fun k hk _ => by first | exact heap_alloc_old w.drew _ k hk | exact heap_alloc_old w.drew _ hk⟩⟩
    · have hz1 : (Value.int IntKind.u8 0).cells.size = 1 := rfl
      simp only [Array.size_append, List.size_toArray, size_zeroCells, hz1, List.length_map, List.length_singleton]
      omega
    · rw [show (xs ++ [b]).length = (xs.map (Value.int .u8) ++ [Value.int .u8 b]).length by simp, List.map_append, Array.toList_append, Array.toList_append]
      exact List.take_left
section
variable {P : Program} {ops : Array Oper} {rest : List Oper} {o : Oper} {a : Act} {Q : Exit → Act → World → Prop} {K : Act → World → Prop}
theorem rowOfBytes.wp {w0 W : World} (B : Nat) (hgd : o.guard = none) (s x : Operand) (t e : TypeId) (ho : o.op = .call { callee := .builtin .append, args := #[s, x], argTypes := #[t, t] })
    (ht : P.underlying t = some (.slice e)) (hinfo : (P.info? e).map (fun i => (i.zero, i.size, i.bytes)) = some (some (.int .u8 0), 1, 1))
    (v : Value) (xs : List Int) (b : Int) (hs : a.eval s = v) (hx : a.eval x = .slice (some ⟨W.heap.size, 0, none⟩) 1 1) (HO : rowOfBytes e W B v xs) (HB : Below B w0 W) (hbase : B ≤ W.heap.size) (hl : xs.length + 1 ≤ 1000000)
    (h : ∀ v1 w1, rowOfBytes e w1 B v1 (xs ++ [b]) → Below B w0 w1 → W.grownBy w1 v.ownBlock → wpList P ops Q rest (a.put o.dst v1) w1) :
    wpList P ops Q (o :: rest) a (W.alloc (.cells #[.int .u8 b] e)) := by
  obtain ⟨i0, hi, hzz⟩ := Option.map_eq_some_iff.1 hinfo
  simp only [Prod.mk.injEq] at hzz
  obtain ⟨hz0, hz1, hz2⟩ := hzz
  have hown : ∀ k, v.ownBlock = some k → B ≤ k := by
    obtain ⟨g, cap, _, _, rfl, hg, _⟩ := HO
    intro k hk
    simp [Value.ownBlock] at hk
    omega
  have HO2 := HO.kept (w' := W.alloc (.cells #[.int .u8 b] e)) (fun k hk => by first | exact heap_alloc_old W _ k hk | exact heap_alloc_old W _ hk)
  refine wpList_plain hgd fun K hK => ?_
  obtain ⟨v1, w1, hr, h2, h3⟩ := rowOfBytes.run_append (P := P) (W.alloc (.cells #[.int .u8 b] e)) B t o.type e i0 ht hi hz0 hz1 hz2 v xs b HO2 ⟨W.heap.size, 0, none⟩ 1 ((blk_cell (blk_new W _) 0).trans rfl) hl (by simp; omega)
  unfold Oper.wp execOp
  simp only [ho, resolve, invoke, builtin, Sem.run_bind, Sem.run_pure, Result.andThen_ok, List.map_toArray, List.map_cons, List.map_nil, hs, hx, hr]
  exact hK _ _ (h v1 w1 h2 ((HB.alloc hbase _).grown h3 (by simp; omega) hown) (World.grownBy.trans (World.grownBy_alloc W _ _) h3))
end

def place_padded (B : List Int) : Nat → List Int
  | 0 => B
  | k + 1 => place_padded B k ++ [if B.getD k 0 = 9 then 9 else 32]
theorem place_padded_spec (B : List Int) : ∀ k, (place_padded B k).length = B.length + k ∧ ∀ j, j < B.length → (place_padded B k).getD j 0 = B.getD j 0
  | 0 => ⟨rfl, fun _ _ => rfl⟩
  | k + 1 => by
    obtain ⟨h1, h2⟩ := place_padded_spec B k
    unfold place_padded
    refine ⟨by simp; omega, fun j hj => ?_⟩
    rw [← h2 j hj]; simp only [List.getD_eq_getElem?_getD]; rw [List.getElem?_append_left (by omega)]
def place_marked (l : ByteArray) (c : Nat) : ByteArray := strOfNums (place_padded (bytesOf (l ++ (⟨#[10]⟩ : ByteArray))) c ++ [94])
theorem place_byte_info : (Try.prog.info? 5).map (fun i => (i.zero, i.size, i.bytes)) = some (some (.int .u8 0), 1, 1) := by kernel_rfl
theorem place_conv (s : ByteArray) (W : World) : (convert 9 79 (.string s)).run Try.prog W = .ok (.slice (some ⟨W.heap.size, 0, none⟩) s.size (grownCap W s.size 0 5)) (Lib.bytesWorld W 5 s) :=
  Lib.run_convert_string_bytes W 9 79 5 s Try.underlying9 Try.underlying79 Try.underlying5
theorem place_back {w : World} {B : Nat} {v : Value} {xs : List Int} (h : rowOfBytes 5 w B v xs) : (convert 79 9 v).run Try.prog w = .ok (.string (strOfNums xs)) w := by
  obtain ⟨g, cap, rfl, _, _, hc⟩ := h.cell
  exact run_convert_bytes_arg (P := Try.prog) w 79 5 Try.underlying79 Try.underlying5 g 0 xs.length cap xs rfl (fun i hi => by rw [Nat.zero_add]; exact hc i hi) 9 Try.underlying9
set_option maxHeartbeats 4000000 in
set_option maxRecDepth 100000 in
theorem place_Mark.calls (g : Nat) (s : ByteArray) (L : List Int) (off : Int) (w : World) (hI : place_Is w g s L) (hG : place_Good s L) (hz : rd L 0 = 0) (hs : s.size ≤ 2000) :
    Calls Try.prog 21 #[.pointer (some ⟨g, 0, none⟩), .int .i64 off] w fun e w' => e = .returned (.string (place_marked (place_linef s L ((place_line s L off : Nat) + 1)) (place_held s off - rd L (place_line s L off : Nat)).toNat)) ∧ Below w.heap.size w w' := by
  have HI := Aside0.mk hI
  have hA := fun w' (hb : Below w.heap.size w w') => place_At.calls g s L off w' (HI.out.below hb) hG hz
  have hLn := fun w' (hb : Below w.heap.size w w') => place_Line.calls g s L (((place_line s L off : Nat) : Int) + 1) w' (HI.out.below hb) hG
  obtain ⟨q1, q2, q3⟩ := place_line_spec s L off hG hz
  have hend := place_endf_le s L hG ((place_line s L off : Nat) : Int) (by omega) (by omega)
  have hlow := hG.low ((place_line s L off : Nat) : Int) (by omega) (by omega)
  have hheld : 0 ≤ place_held s off ∧ place_held s off ≤ s.size := by unfold place_held; split <;> (try split) <;> omega
  have hce : place_held s off ≤ place_endf s L ((place_line s L off : Nat) : Int) := by
    unfold place_endf
    split
    · have := q3 (by omega)
      rw [show ((place_line s L off + 1 : Nat) : Int) = ((place_line s L off : Nat) : Int) + 1 by omega] at this
      omega
    · exact hheld.2
  have hl : (place_linef s L (((place_line s L off : Nat) : Int) + 1)).size = (place_endf s L ((place_line s L off : Nat) : Int)).toNat - (rd L ((place_line s L off : Nat) : Int)).toNat := by
    unfold place_linef
    rw [if_neg (by omega), show ((place_line s L off : Nat) : Int) + 1 - 1 = ((place_line s L off : Nat) : Int) by omega, ByteArray.size_extract]
    omega
  have hcn : (place_held s off - rd L ((place_line s L off : Nat) : Int)).toNat ≤ (place_linef s L (((place_line s L off : Nat) : Int) + 1)).size := by rw [hl]; omega
  have hsz : (place_linef s L (((place_line s L off : Nat) : Int) + 1)).size ≤ 2000 := by rw [hl]; omega
  have hcol : place_held s off - rd L ((place_line s L off : Nat) : Int) = (((place_held s off - rd L ((place_line s L off : Nat) : Int)).toNat : Nat) : Int) := by omega
  have hln : ((place_line s L off : Nat) : Int) + 1 ≤ 1000002 := by have := hG.len; omega
  clear hl hce hheld hend hlow q1 q2 q3
  generalize place_linef s L (((place_line s L off : Nat) : Int) + 1) = l at hcn hsz hLn ⊢
  generalize (place_held s off - rd L ((place_line s L off : Nat) : Int)).toNat = c at hcn hcol ⊢
  generalize place_held s off - rd L ((place_line s L off : Nat) : Int) = cz at hcol hA
  subst hcol
  generalize ((place_line s L off : Nat) : Int) + 1 = ln at hA hLn hln
  have HA := Aside0.mk hA
  have HLN := Aside0.mk hLn
  have hc2 : c ≤ 2000 := by omega
  have hw : IntKind.i64.wrap ((c : Int) + 1 - 1) = (c : Int) := by rw [show (c : Int) + 1 - 1 = (c : Int) by omega]; exact IntWalk.i64_in _ (by omega)
  have hsc : (l ++ (⟨#[10]⟩ : ByteArray)).size = l.size + 1 := by rw [ByteArray.size_append]; rfl
  have hcat : (9223372036854775807 < l.size + 1) = False := eq_false (by omega)
  clear hA hLn hI hG
  generalize hcc : (c : Int) + 1 = cc at HA hw
  clear hcc
  have hconv := place_conv
  unfold place_marked
  obtain ⟨B, hB⟩ : ∃ B, B = bytesOf (l ++ (⟨#[10]⟩ : ByteArray)) := ⟨_, rfl⟩
  have hBl : B.length = l.size + 1 := by rw [hB, bytesOf_length, hsc]
  rw [← hB]
  have HP := Aside0.mk (place_padded_spec B)
  have HBB := Aside0.mk hB
  clear hB
  go_enter Try.func21, Try.ntmps21
  go_wp2_with (first
    | (go_at_call 20; ((with_reducible refine (HA.out _ (Below.refl _ _)).mono ?_)); rintro e w1 ⟨rfl, hb⟩; have HB1 := Aside0.mk hb; clear hb)
    | (go_at_call 37; ((with_reducible refine (HLN.out _ HB1.out).mono ?_)); rintro e w2 ⟨rfl, hb⟩; have HB2 := Aside0.mk (below_step HB1.out hb); clear hb HB1))
  have hl1 : l.size + 1 ≤ 2001 := by omega
  go_loopg [7, 23] (c + 1) (fun kx v7 v23 wr => ∃ i : Nat, v23 = .int .i64 (i : Int) ∧ Aside0 (kx + i = c + 1 ∧ i ≤ c ∧ rowOfBytes 5 wr w.heap.size v7 (place_padded B i) ∧ Below w.heap.size w wr))
  case atStart =>
    refine ⟨0, rfl, ⟨rfl, Nat.zero_le _, ?_, bytes_below HB2.out HB2.out.size _ _⟩⟩
    have h := rowOfBytes.conv 5 w2 w.heap.size (l ++ (⟨#[10]⟩ : ByteArray)) HB2.out.size (by rw [hsc]; omega)
    rw [hsc, ← HBB.out] at h
    exact h
  case round =>
    obtain ⟨i, rfl, I⟩ := hrel
    obtain ⟨gr, cap, rfl, hgB, hgs, hcell⟩ := I.out.2.2.1.cell
    have hpl := (HP.out i).1
    by_cases hi : i < c
    · have hx := hcell i (by omega)
      have hx2 : wr.cell? ((⟨gr, 0, none⟩ : Addr).add i) = some (.int .u8 ((place_padded B i).getD i 0)) := by rw [add_plain]; simpa using hx
      have hin : i < (place_padded B i).length := by omega
      have hy : (place_padded B i).getD i 0 = B.getD i 0 := (HP.out i).2 i (by omega)
      rw [hy] at hx hx2
      have hnx : place_padded B (i + 1) = place_padded B i ++ [if B.getD i 0 = 9 then 9 else 32] := rfl
      have hiw : IntKind.i64.wrap ((i : Int) + 1) = ((i + 1 : Nat) : Int) := by rw [IntWalk.i64_in _ (by omega)]; omega
      have hilt : decide ((i : Int) < (c : Int)) = true := decide_eq_true (by omega)
      have HL := Aside0.mk (show (place_padded B i).length + 1 ≤ 1000000 by omega)
      have HR := Aside0.mk I.out.2.2.1
      clear hcell hy
      by_cases hnine : B.getD i 0 = 9
      · rw [if_pos hnine] at hnx
        rw [hnine] at hx hx2
        have HN := Aside0.mk hnx
        clear hnx hnine hpl
        generalize hX : place_padded B i = X at *
        go_wp2_with ((with_reducible refine gate_builtin (b := .append) (xs := #[.tmp 31, .tmp 33]) rfl ?_); at_builtin; refine rowOfBytes.wp (w0 := w) (W := wr) w.heap.size ?b11 (.tmp 31) (.tmp 33) 79 5 ?b12 ?b13 ?b14 ?v1 X 9 ?b15 ?b16 ?b1O ?b1B ?b1S ?b1L ?_; (case b11 => rfl); (case b12 => rfl); (case b13 => exact Try.underlying79); (case b14 => exact place_byte_info); (case b15 => rfl); (case b16 => rfl); (case b1O => exact HR.out); (case b1B => exact I.out.2.2.2); (case b1S => exact I.out.2.2.2.size); (case b1L => exact HL.out); intro v9 w9 ho hb hgr; rw [← HN.out] at ho; have HO := Aside0.mk (And.intro ho hb); clear ho hb hgr)
        go_roundg (gk - 1)
        case measure => have := I.out.1; omega
        case rel => exact ⟨i + 1, rfl, ⟨by have := I.out.1; omega, by omega, HO.out.1, HO.out.2⟩⟩
      · rw [if_neg hnine] at hnx
        generalize B.getD i 0 = y at hnine hx hx2
        have hnb : (y == 9) = false := beq_eq_false_iff_ne.mpr hnine
        have HN := Aside0.mk hnx
        clear hnx hnine hpl
        generalize hX : place_padded B i = X at *
        go_wp2_with ((with_reducible refine gate_builtin (b := .append) (xs := #[.tmp 31, .tmp 33]) rfl ?_); at_builtin; refine rowOfBytes.wp (w0 := w) (W := wr) w.heap.size ?b21 (.tmp 31) (.tmp 33) 79 5 ?b22 ?b23 ?b24 ?v2 X 32 ?b25 ?b26 ?b2O ?b2B ?b2S ?b2L ?_; (case b21 => rfl); (case b22 => rfl); (case b23 => exact Try.underlying79); (case b24 => exact place_byte_info); (case b25 => rfl); (case b26 => rfl); (case b2O => exact HR.out); (case b2B => exact I.out.2.2.2); (case b2S => exact I.out.2.2.2.size); (case b2L => exact HL.out); intro v9 w9 ho hb hgr; rw [← HN.out] at ho; have HO := Aside0.mk (And.intro ho hb); clear ho hb hgr)
        go_roundg (gk - 1)
        case measure => have := I.out.1; omega
        case rel => exact ⟨i + 1, rfl, ⟨by have := I.out.1; omega, by omega, HO.out.1, HO.out.2⟩⟩
    · have hilt : decide ((i : Int) < (c : Int)) = false := decide_eq_false (by omega)
      have hic : i = c := by have := I.out.2.1; omega
      have HL := Aside0.mk (show (place_padded B i).length + 1 ≤ 1000000 by omega)
      have HR := Aside0.mk I.out.2.2.1
      have HC := Aside0.mk hic
      have hilt2 : decide (i < c) = false := decide_eq_false hi
      have hilt3 : c ≤ i := by omega
      clear hcell hpl hic
      generalize hX : place_padded B i = X at *
      go_wp2_with ((with_reducible refine gate_builtin (b := .append) (xs := #[.tmp 36, .tmp 37]) rfl ?_); at_builtin; refine rowOfBytes.wp (w0 := w) (W := wr) w.heap.size ?b31 (.tmp 36) (.tmp 37) 79 5 ?b32 ?b33 ?b34 ?v3 X 94 ?b35 ?b36 ?b3O ?b3B ?b3S ?b3L ?_; (case b31 => rfl); (case b32 => rfl); (case b33 => exact Try.underlying79); (case b34 => exact place_byte_info); (case b35 => rfl); (case b36 => rfl); (case b3O => exact HR.out); (case b3B => exact I.out.2.2.2); (case b3S => exact I.out.2.2.2.size); (case b3L => exact HL.out); intro v9 w9 ho hb hgr; have hcv := place_back ho; have HO := Aside0.mk hb; clear ho hb hgr)
      go_ret
      have hX2 := hX
      rw [HC.out] at hX2
      rw [hX2]
      exact ⟨rfl, HO.out⟩

end Go.Proofs.Ytmebogkhdbbbbaa.P
