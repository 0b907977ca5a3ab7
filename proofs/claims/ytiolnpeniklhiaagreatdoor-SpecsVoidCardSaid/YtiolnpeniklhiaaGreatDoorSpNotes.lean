/- A list of notes that came in.
   Conditions: none. -/
import Derived.Test.YtiolnpeniklhiaaGreatDoorSpCard
namespace Go.Proofs.YtiolnpeniklhiaaGreatDoor
open Go Go.Ab
set_option linter.all false

/-- What may be read of a row of notes. -/
structure RowN (H : AH) (g : Nat) (v : Value) (l : List NV) : Prop where
  len : ∀ t, lenT (.slice t) v H = some (.int .i64 (l.length : Int))
  at0 : ∀ (i : Nat) (n : NV), l[i]? = some n → ixS 7 v (.int .i64 (i : Int)) = some (.pointer (some ⟨g, i * 7, none⟩)) ∧ cellsO 7 (i * 7) (H.get g) = some n.val ∧
    cellO (i * 7 + 3) (H.get g) = some (.int .u32 n.addr) ∧ cellO (i * 7 + 5) (H.get g) = some (.int .u32 n.to)
def NV.fit (n : NV) : Prop := n.kind < 256 ∧ (0 ≤ n.addr ∧ n.addr < 4294967296) ∧ (0 ≤ n.to ∧ n.to < 4294967296) ∧ (-9223372036854775808 ≤ n.step ∧ n.step < 9223372036854775808) ∧ (-9223372036854775808 ≤ n.thread ∧ n.thread < 9223372036854775808) ∧ (-9223372036854775808 ≤ n.other ∧ n.other < 9223372036854775808) ∧ (0 ≤ n.value ∧ n.value < 18446744073709551616)
abbrev noteK : List TypeDesc := [.int .i64, .int .i64, .int .u8, .int .u32, .int .i64, .int .u32, .int .u64]
theorem note_cells {r : List Value} (hr : cellsOK noteK r) : ∃ n : NV, r = n.row ∧ n.fit := by
  obtain ⟨v1, r1, rfl, q1, hr⟩ := cellsOK_cons hr
  obtain ⟨v2, r2, rfl, q2, hr⟩ := cellsOK_cons hr
  obtain ⟨v3, r3, rfl, q3, hr⟩ := cellsOK_cons hr
  obtain ⟨v4, r4, rfl, q4, hr⟩ := cellsOK_cons hr
  obtain ⟨v5, r5, rfl, q5, hr⟩ := cellsOK_cons hr
  obtain ⟨v6, r6, rfl, q6, hr⟩ := cellsOK_cons hr
  obtain ⟨v7, r7, rfl, q7, hr⟩ := cellsOK_cons hr
  obtain rfl := cellsOK_nil hr
  obtain ⟨a1, rfl, w1⟩ := cellOK_int q1
  obtain ⟨a2, rfl, w2⟩ := cellOK_int q2
  obtain ⟨a3, rfl, w3⟩ := cellOK_int q3
  obtain ⟨a4, rfl, w4⟩ := cellOK_int q4
  obtain ⟨a5, rfl, w5⟩ := cellOK_int q5
  obtain ⟨a6, rfl, w6⟩ := cellOK_int q6
  obtain ⟨a7, rfl, w7⟩ := cellOK_int q7
  simp [Lit.wf, IntKind.signed, IntKind.bits, IntKind.min, IntKind.max] at w1 w2 w3 w4 w5 w6 w7
  refine ⟨⟨a1, a2, a3.toNat, a4, a5, a6, a7⟩, ?_, by show a3.toNat < 256; omega, ⟨w4.1, by show a4 < _; omega⟩, ⟨w6.1, by show a6 < _; omega⟩, ⟨by show _ ≤ a1; omega, by show a1 < _; omega⟩, ⟨by show _ ≤ a2; omega, by show a2 < _; omega⟩, ⟨by show _ ≤ a5; omega, by show a5 < _; omega⟩, w7.1, by show a7 < _; omega⟩
  have : ((a3.toNat : Nat) : Int) = a3 := Int.toNat_of_nonneg w3.1
  simp only [NV.row, this]
theorem rows_notes : ∀ {rows : List (List Value)}, (∀ r ∈ rows, cellsOK noteK r) → ∃ l : List NV, rows = l.map (fun n => n.row) ∧ ∀ n ∈ l, n.fit
  | [], _ => ⟨[], rfl, by simp⟩
  | r :: rows, h => by
    obtain ⟨l, h1, h2⟩ := rows_notes (rows := rows) (fun x hx => h x (by simp [hx]))
    obtain ⟨n, rfl, hn⟩ := note_cells (h r (by simp))
    refine ⟨n :: l, by rw [h1]; rfl, fun x hx => ?_⟩
    rcases List.mem_cons.1 hx with rfl | hx
    · exact hn
    · exact h2 x hx
theorem rowN_ro {H : AH} {g cap : Nat} {l : List NV} {T : TypeId} (h : H.get g = some (.cells (l.map fun n => n.row).flatten T .ro)) : RowN H g (.slice (some ⟨g, 0, none⟩) l.length cap) l := by
  have h7 : ∀ r ∈ l.map (fun n => n.row), r.length = 7 := fun r hr => by
    obtain ⟨n, -, rfl⟩ := List.mem_map.1 hr
    rfl
  refine ⟨fun t => rfl, fun i n hn => ?_⟩
  have hi := (List.getElem?_eq_some_iff.1 hn).1
  have hm : (l.map fun n => n.row)[i]? = some n.row := by rw [List.getElem?_map, hn]; rfl
  have hlen := flat_len h7
  rw [List.length_map] at hlen
  refine ⟨by rw [ixS_of 7 g 0 _ _ none .i64 i hi, Nat.zero_add], ?_, ?_, ?_⟩
  · rw [h, cellsO_cells _ _ _ _ _ (by rw [hlen]; omega), flat_cut h7 hm]
  · rw [h, cellO_cells, flat_get h7 (by omega), hm]
    rfl
  · rw [h, cellO_cells, flat_get h7 (by omega), hm]
    rfl
theorem rowN_nil (H : AH) (g : Nat) : RowN H g (.slice none 0 0) [] := ⟨fun t => rfl, fun i p hp => by simp at hp⟩
end Go.Proofs.YtiolnpeniklhiaaGreatDoor
