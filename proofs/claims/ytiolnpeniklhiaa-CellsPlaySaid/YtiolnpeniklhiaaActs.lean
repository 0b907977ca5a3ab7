/- The acts of layer 2, as rows of cells.
   Conditions: none. -/
import Derived.Test.YtiolnpeniklhiaaCellsB
namespace Go.Proofs.Ytiolnpeniklhiaa
open Go Go.Ab
set_option linter.all false
set_option maxRecDepth 100000

structure AP where
  k : Int
  a : Int
  v : Int
  w : Int
  r : Bool
def AP.row (x : AP) : List Value := [.int .u8 x.k, .int .u32 x.a, .int .u64 x.v, .int .u64 x.w, .bool x.r]
def AP.ok (x : AP) : Prop := (0 ≤ x.k ∧ x.k < 256) ∧ (0 ≤ x.a ∧ x.a < 4294967296) ∧ (0 ≤ x.v ∧ x.v < 18446744073709551616) ∧ (0 ≤ x.w ∧ x.w < 18446744073709551616)
def flatA (l : List AP) : List Value := (l.map AP.row).flatten
theorem rows5 (l : List AP) : ∀ r ∈ l.map AP.row, r.length = 5 := by
  intro r hr
  obtain ⟨x, -, rfl⟩ := List.mem_map.1 hr
  rfl
theorem flatA_len (l : List AP) : (flatA l).length = l.length * 5 := by
  have := flat_len (rows5 l)
  simpa [flatA] using this
theorem flatA_get {l : List AP} {i : Nat} {x : AP} (h : l[i]? = some x) {j : Nat} (hj : j < 5) : (flatA l)[i * 5 + j]? = x.row[j]? := by
  unfold flatA
  rw [flat_get (rows5 l) hj, List.getElem?_map, h]; rfl
theorem flatA_cut {l : List AP} {i : Nat} {x : AP} (h : l[i]? = some x) : ((flatA l).drop (i * 5)).take 5 = x.row := by
  unfold flatA
  exact flat_cut (rows5 l) (by rw [List.getElem?_map, h]; rfl)
def wasL (s : CS) (l : List AP) : List Value := l.map fun x => .int .u64 (s.f x.a)

theorem wasL_snoc {s : CS} {l : List AP} {k : Nat} {y : AP} (h : l[k]? = some y) : wasL s (l.take (k + 1)) = wasL s (l.take k) ++ [.int .u64 (s.f y.a)] := by
  obtain ⟨hk, rfl⟩ := List.getElem?_eq_some_iff.1 h
  rw [wasL, List.take_succ_eq_append_getElem hk, List.map_append]
  rfl
theorem acc_other (s : CS) (k a x b : Int) (h : b ≠ a) : (s.acc k a x).f b = s.f b := by simp [CS.acc, upd, h]
theorem acc_f' (s : CS) (k a x : Int) : (s.acc k a x).f a = byteOf a x := by simp [CS.acc, upd]
end Go.Proofs.Ytiolnpeniklhiaa
