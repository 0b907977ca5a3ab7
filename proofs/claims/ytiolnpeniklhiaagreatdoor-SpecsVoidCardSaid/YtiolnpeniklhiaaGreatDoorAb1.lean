/- An abstract memory beside the model of the language: rows of cells and maps under names of their own, the relation between the two, and operations with their soundness.
   Conditions: none. -/
import Derived.Orders
import Derived.Laws.World
import Derived.Laws.Sem
import Derived.Laws.Cells
import Derived.Laws.Entries
import Derived.Laws.StructEq
import Derived.Laws.Slices
import Derived.Laws.CopyRow
import Derived.Laws.Append
set_option linter.all false
namespace Go.Ab
open Go
set_option linter.unusedVariables false

/-- Where a name lies: its block, the cell at which it begins, and how many elements more than is known its row has. -/
structure Loc where
  blk : Nat
  shift : Nat
  extra : Nat

abbrev Ren := Nat → Option Loc
def Ren.le (ρ ρ' : Ren) : Prop := ∀ n l, ρ n = some l → ρ' n = some l
theorem Ren.le_refl (ρ : Ren) : ρ.le ρ := fun _ _ h => h
theorem Ren.le_trans {a b c : Ren} (h : a.le b) (k : b.le c) : a.le c := fun n l x => k n l (h n l x)

mutual
inductive CV (ρ : Ren) : Value → Value → Prop
  | bool (b) : CV ρ (.bool b) (.bool b)
  | int (k n) : CV ρ (.int k n) (.int k n)
  | string (s) : CV ρ (.string s) (.string s)
  | ptrNil : CV ρ (.pointer none) (.pointer none)
  | ptr {n off l} : ρ n = some l → CV ρ (.pointer (some ⟨n, off, none⟩)) (.pointer (some ⟨l.blk, l.shift + off, none⟩))
  | sliceNil (len cap) : CV ρ (.slice none len cap) (.slice none len cap)
  | slice {n off l len cap} : ρ n = some l → CV ρ (.slice (some ⟨n, off, none⟩) len cap) (.slice (some ⟨l.blk, l.shift + off, none⟩) len (cap + l.extra))
  | sliceX {n off l len cap} : ρ n = some l → CV ρ (.slice (some ⟨n, off, some 0⟩) len cap) (.slice (some ⟨l.blk, l.shift + off, none⟩) len cap)
  | mapNil : CV ρ (.map none) (.map none)
  | map {n l} : ρ n = some l → CV ρ (.map (some n)) (.map (some l.blk))
  | nilFunc : CV ρ .nilFunc .nilFunc
  | func {fn xs xs' ys ys'} : CVs ρ xs xs' → CVs ρ ys ys' → CV ρ (.func fn ⟨xs⟩ ⟨ys⟩) (.func fn ⟨xs'⟩ ⟨ys'⟩)
  | nilIface : CV ρ .nilIface .nilIface
  | iface {t v v'} : CV ρ v v' → CV ρ (.iface t v) (.iface t v')
  | agg {xs xs'} : CVs ρ xs xs' → CV ρ (.agg ⟨xs⟩) (.agg ⟨xs'⟩)
  | tuple {xs xs'} : CVs ρ xs xs' → CV ρ (.tuple ⟨xs⟩) (.tuple ⟨xs'⟩)
inductive CVs (ρ : Ren) : List Value → List Value → Prop
  | nil : CVs ρ [] []
  | cons {v v' vs vs'} : CV ρ v v' → CVs ρ vs vs' → CVs ρ (v :: vs) (v' :: vs')
end

mutual
theorem CV.mono {ρ ρ' : Ren} (h : ρ.le ρ') : ∀ {v v'}, CV ρ v v' → CV ρ' v v'
  | _, _, .bool b => .bool b
  | _, _, .int k n => .int k n
  | _, _, .string s => .string s
  | _, _, .ptrNil => .ptrNil
  | _, _, .ptr e => .ptr (h _ _ e)
  | _, _, .sliceNil a b => .sliceNil a b
  | _, _, .slice e => .slice (h _ _ e)
  | _, _, .sliceX e => .sliceX (h _ _ e)
  | _, _, .mapNil => .mapNil
  | _, _, .map e => .map (h _ _ e)
  | _, _, .nilFunc => .nilFunc
  | _, _, .func a b => .func (CVs.mono h a) (CVs.mono h b)
  | _, _, .nilIface => .nilIface
  | _, _, .iface a => .iface (CV.mono h a)
  | _, _, .agg a => .agg (CVs.mono h a)
  | _, _, .tuple a => .tuple (CVs.mono h a)
theorem CVs.mono {ρ ρ' : Ren} (h : ρ.le ρ') : ∀ {v v'}, CVs ρ v v' → CVs ρ' v v'
  | _, _, .nil => .nil
  | _, _, .cons a b => .cons (CV.mono h a) (CVs.mono h b)
end

theorem CVs.length {ρ : Ren} : ∀ {xs ys}, CVs ρ xs ys → xs.length = ys.length
  | _, _, .nil => rfl
  | _, _, .cons _ b => congrArg (· + 1) b.length
theorem CVs.append {ρ : Ren} : ∀ {xs ys xs' ys'}, CVs ρ xs ys → CVs ρ xs' ys' → CVs ρ (xs ++ xs') (ys ++ ys')
  | _, _, _, _, .nil, h => h
  | _, _, _, _, .cons a b, h => .cons a (b.append h)
theorem CVs.get {ρ : Ren} : ∀ {xs ys} (i : Nat) {v}, CVs ρ xs ys → xs[i]? = some v → ∃ v', ys[i]? = some v' ∧ CV ρ v v'
  | _, _, i, v, .nil, h => by simp at h
  | _, _, 0, v, .cons a b, h => by simp at h; subst h; exact ⟨_, by simp, a⟩
  | _, _, i + 1, v, .cons a b, h => by simp at h; obtain ⟨v', e, c⟩ := b.get i h; exact ⟨v', by simpa using e, c⟩
theorem CVs.take {ρ : Ren} : ∀ {xs ys} (i : Nat), CVs ρ xs ys → CVs ρ (xs.take i) (ys.take i)
  | _, _, 0, _ => by simpa using CVs.nil
  | _, _, _ + 1, .nil => .nil
  | _, _, i + 1, .cons a b => .cons a (b.take i)
theorem CVs.drop {ρ : Ren} : ∀ {xs ys} (i : Nat), CVs ρ xs ys → CVs ρ (xs.drop i) (ys.drop i)
  | _, _, 0, h => h
  | _, _, _ + 1, .nil => .nil
  | _, _, i + 1, .cons _ b => by simpa using b.drop i

/-- A value without addresses. -/
def bare : Value → Bool
  | .bool _ | .int _ _ | .string _ | .pointer none | .slice none _ _ | .map none | .nilFunc | .nilIface => true
  | _ => false
theorem CV.of_bare {ρ : Ren} {v : Value} (h : bare v = true) : CV ρ v v := by
  unfold bare at h
  split at h <;> first | constructor | (simp at h)

/-! ### the abstract heap -/
inductive CK | ro | fix | opn
  deriving DecidableEq
def CK.rw : CK → Bool
  | .ro => false
  | _ => true
inductive AObj where
  | cells (c : List Value) (T : TypeId) (k : CK)
  | map (es : List MapEntry) (clock : Nat)
  | iter (m : Option Nat) (since last : Nat) (seen : List Nat)
def AObj.rw : AObj → Bool
  | .cells _ _ k => k.rw
  | .map _ _ => true
  | .iter _ _ _ _ => true

inductive Tr where
  | nil
  | node (v : Option AObj) (a b : Tr)
noncomputable def Tr.get (t : Tr) : Nat → Option AObj :=
  Tr.rec (motive := fun _ => Nat → Option AObj) (fun _ => none)
    (fun v _ _ ia ib n => bif Nat.beq n 0 then v else bif Nat.beq (n % 2) 1 then ia (n / 2) else ib (n / 2 - 1)) t
theorem Tr.get_nil (n : Nat) : Tr.nil.get n = none := rfl
theorem Tr.get_node (v : Option AObj) (a b : Tr) (n : Nat) :
    (Tr.node v a b).get n = bif Nat.beq n 0 then v else bif Nat.beq (n % 2) 1 then a.get (n / 2) else b.get (n / 2 - 1) := rfl
def Tr.val : Tr → Option AObj
  | .nil => none
  | .node v _ _ => v
def Tr.lo : Tr → Tr
  | .nil => .nil
  | .node _ a _ => a
def Tr.hi : Tr → Tr
  | .nil => .nil
  | .node _ _ b => b
theorem Tr.get_eq (t : Tr) (n : Nat) : t.get n = bif Nat.beq n 0 then t.val else bif Nat.beq (n % 2) 1 then t.lo.get (n / 2) else t.hi.get (n / 2 - 1) := by
  cases t with
  | nil => simp only [Tr.get_nil, Tr.val, Tr.lo, Tr.hi]; cases Nat.beq n 0 <;> cases Nat.beq (n % 2) 1 <;> rfl
  | node v a b => rfl
noncomputable def Tr.put (x : Option AObj) (k : Nat) : Tr → Nat → Tr :=
  Nat.rec (motive := fun _ => Tr → Nat → Tr) (fun t _ => t)
    (fun _ ih t n => bif Nat.beq n 0 then .node x t.lo t.hi else bif Nat.beq (n % 2) 1 then .node t.val (ih t.lo (n / 2)) t.hi else .node t.val t.lo (ih t.hi (n / 2 - 1))) k
theorem Tr.put_succ (x : Option AObj) (k : Nat) (t : Tr) (n : Nat) :
    Tr.put x (k + 1) t n = bif Nat.beq n 0 then .node x t.lo t.hi else bif Nat.beq (n % 2) 1 then .node t.val (Tr.put x k t.lo (n / 2)) t.hi else .node t.val t.lo (Tr.put x k t.hi (n / 2 - 1)) := rfl
theorem beq_ite (a b : Nat) {α : Type} (x y : α) : (bif Nat.beq a b then x else y) = if a = b then x else y := by
  cases hb : Nat.beq a b with
  | true => rw [if_pos (Nat.eq_of_beq_eq_true hb)]; rfl
  | false => rw [if_neg (Nat.ne_of_beq_eq_false hb)]; rfl
theorem Tr.get_put (x : Option AObj) : ∀ (k : Nat) (t : Tr) (n m : Nat), n < k → (Tr.put x k t n).get m = if m = n then x else t.get m := by
  intro k
  induction k with
  | zero => intro t n m h; omega
  | succ k ih =>
    intro t n m h
    rw [Tr.put_succ, Tr.get_eq t m]
    simp only [beq_ite]
    by_cases hn : n = 0
    · subst hn
      simp only [if_true, Tr.get_node, beq_ite]
      by_cases hm : m = 0
      · simp [hm]
      · simp [hm]
    · simp only [hn, if_false]
      by_cases ho : n % 2 = 1
      · simp only [ho, if_true, Tr.get_node, beq_ite]
        by_cases hm : m = 0
        · subst hm; simp [Ne.symm hn]
        · simp only [hm, if_false]
          by_cases hmo : m % 2 = 1
          · simp only [hmo, if_true]
            rw [ih _ _ _ (by omega)]
            by_cases hmn : m = n
            · subst hmn; simp
            · rw [if_neg (by omega), if_neg hmn]
          · simp only [hmo, if_false]
            rw [if_neg (by intro e; subst e; exact hmo ho)]
      · simp only [ho, if_false, Tr.get_node, beq_ite]
        by_cases hm : m = 0
        · subst hm; simp [Ne.symm hn]
        · simp only [hm, if_false]
          by_cases hmo : m % 2 = 1
          · simp only [hmo, if_true]
            rw [if_neg (by intro e; subst e; exact ho hmo)]
          · simp only [hmo, if_false]
            rw [ih _ _ _ (by omega)]
            by_cases hmn : m = n
            · subst hmn; simp
            · rw [if_neg (by omega), if_neg hmn]

structure AH where
  tr : Tr
  nx : Nat
noncomputable def AH.get (H : AH) (n : Nat) : Option AObj := H.tr.get n
noncomputable def AH.put (H : AH) (n : Nat) (o : AObj) : AH := ⟨Tr.put (some o) (Nat.succ n) H.tr n, H.nx⟩
noncomputable def AH.del (H : AH) (n : Nat) : AH := ⟨Tr.put none (Nat.succ n) H.tr n, H.nx⟩
noncomputable def AH.new (H : AH) (o : AObj) : AH := ⟨Tr.put (some o) (Nat.succ H.nx) H.tr H.nx, Nat.succ H.nx⟩
theorem AH.get_put (H : AH) (n : Nat) (o : AObj) (m : Nat) : (H.put n o).get m = if m = n then some o else H.get m := Tr.get_put _ _ _ _ _ (Nat.lt_succ_self n)
theorem AH.get_del (H : AH) (n m : Nat) : (H.del n).get m = if m = n then none else H.get m := Tr.get_put _ _ _ _ _ (Nat.lt_succ_self n)
theorem AH.get_new (H : AH) (o : AObj) (m : Nat) : (H.new o).get m = if m = H.nx then some o else H.get m := Tr.get_put _ _ _ _ _ (Nat.lt_succ_self _)
@[simp] theorem AH.nx_put (H : AH) (n : Nat) (o : AObj) : (H.put n o).nx = H.nx := id rfl
@[simp] theorem AH.nx_del (H : AH) (n : Nat) : (H.del n).nx = H.nx := id rfl
@[simp] theorem AH.nx_new (H : AH) (o : AObj) : (H.new o).nx = H.nx + 1 := id rfl

/-! ### the relation to the model's memory -/
/-- What stays the same throughout: the program, blocks that nobody touches, the streams. -/
structure Cx where
  P : Program
  fr : Nat → Option Obj
  ro : Nat → Option Obj
  sub : ∀ b o, ro b = some o → fr b = some o
  os : Os
  tape : Nat → Question → Nat
  output : Array (Nat × ByteArray)
  lo : Nat

inductive CEs (ρ : Ren) : List MapEntry → List MapEntry → Prop
  | nil : CEs ρ [] []
  | cons {e e' es es'} : CV ρ e.key e'.key → CV ρ e.val e'.val → e.born = e'.born → CEs ρ es es' → CEs ρ (e :: es) (e' :: es')
theorem CEs.mono {ρ ρ' : Ren} (h : ρ.le ρ') : ∀ {v v'}, CEs ρ v v' → CEs ρ' v v'
  | _, _, .nil => .nil
  | _, _, .cons a b c d => .cons (a.mono h) (b.mono h) c (d.mono h)
theorem CEs.length {ρ : Ren} : ∀ {xs ys}, CEs ρ xs ys → xs.length = ys.length
  | _, _, .nil => rfl
  | _, _, .cons _ _ _ b => congrArg (· + 1) b.length

def ObjRel (cx : Cx) (ρ : Ren) (l : Loc) (w : World) : AObj → Prop
  | .cells c T .ro => ∃ C T' z, cx.ro l.blk = some (.cells C T' z) ∧ CVs ρ c ((C.toList.drop l.shift).take c.length) ∧ l.extra = 0
  | .cells c T k => cx.fr l.blk = none ∧ ∃ C : List Value, w.heap[l.blk]? = some (.cells ⟨C⟩ T (0, 0)) ∧ (k = .fix → l.extra = 0) ∧
      ∃ pre mid post, C = pre ++ (mid ++ post) ∧ pre.length = l.shift ∧ CVs ρ c mid ∧ post.length = l.extra * cx.P.cellsOf T
  | .map es clock => cx.fr l.blk = none ∧ ∃ es', w.heap[l.blk]? = some (.map ⟨es'⟩ clock) ∧ CEs ρ es es'
  | .iter m since last seen => cx.fr l.blk = none ∧ l.shift = 0 ∧ ∃ m', w.heap[l.blk]? = some (.mapIter m' since ⟨seen⟩ last) ∧ CV ρ (.map m) (.map m')

structure Rel (cx : Cx) (ρ : Ren) (H : AH) (w : World) : Prop where
  os : w.os = cx.os
  tape : w.tape = cx.tape
  output : w.output = cx.output
  lo : cx.lo ≤ w.heap.size ∧ ∀ b C T z, cx.lo ≤ b → w.heap[b]? = some (.cells C T z) → z = (0, 0)
  frame : ∀ b o, cx.fr b = some o → w.heap[b]? = some o
  obj : ∀ n o, H.get n = some o → ∃ l, ρ n = some l ∧ ObjRel cx ρ l w o
  inj : ∀ n m o o' l l', n ≠ m → H.get n = some o → H.get m = some o' → o.rw = true → o'.rw = true → ρ n = some l → ρ m = some l' → l.blk ≠ l'.blk
  fresh : ∀ n, H.nx ≤ n → ρ n = none
  glob : ∀ g, g < cx.P.globals.size → ρ g = some ⟨g, 0, 0⟩

theorem Rel.drew {cx : Cx} {ρ : Ren} {H : AH} {w : World} (h : Rel cx ρ H w) (d : Nat) : Rel cx ρ H { w with drawn := d } :=
  ⟨h.os, h.tape, h.output, h.lo, h.frame, fun n o e => by
    obtain ⟨l, e1, e2⟩ := h.obj n o e
    exact ⟨l, e1, by cases o with
      | cells c T k => cases k <;> exact e2
      | map es c => exact e2
      | iter m a b s => exact e2⟩, h.inj, h.fresh, h.glob⟩

theorem lt_of_some {w : World} {b : Nat} {o : Obj} (h : w.heap[b]? = some o) : b < w.heap.size := by
  rcases Nat.lt_or_ge b w.heap.size with h' | h'
  · exact h'
  · simp [Array.getElem?_eq_none h'] at h

/-- The renaming with one name more. -/
def Ren.add (ρ : Ren) (n : Nat) (l : Loc) : Ren := fun m => if m = n then some l else ρ m
theorem Ren.le_add {ρ : Ren} {n : Nat} (l : Loc) (h : ρ n = none) : ρ.le (ρ.add n l) := by
  intro m l' e
  unfold Ren.add
  rw [if_neg]
  · exact e
  · intro e'; subst e'; rw [h] at e; cases e
theorem Ren.add_self (ρ : Ren) (n : Nat) (l : Loc) : ρ.add n l n = some l := by simp [Ren.add]

theorem ObjRel.mono {cx : Cx} {ρ ρ' : Ren} (h : ρ.le ρ') {l : Loc} {w : World} : ∀ {o}, ObjRel cx ρ l w o → ObjRel cx ρ' l w o
  | .cells _ _ .ro, ⟨C, T', z, e, c, x⟩ => ⟨C, T', z, e, c.mono h, x⟩
  | .cells _ _ .fix, ⟨f, C, e, x, pre, mid, post, a, b, c, d⟩ => ⟨f, C, e, x, pre, mid, post, a, b, c.mono h, d⟩
  | .cells _ _ .opn, ⟨f, C, e, x, pre, mid, post, a, b, c, d⟩ => ⟨f, C, e, x, pre, mid, post, a, b, c.mono h, d⟩
  | .map _ _, ⟨f, es', e, c⟩ => ⟨f, es', e, c.mono h⟩
  | .iter _ _ _ _, ⟨f, z, m', e, c⟩ => ⟨f, z, m', e, c.mono h⟩
/-- Another world in which the block is as it was. -/
theorem ObjRel.world {cx : Cx} {ρ : Ren} {l : Loc} {w w' : World} (h : w'.heap[l.blk]? = w.heap[l.blk]?) : ∀ {o}, ObjRel cx ρ l w o → ObjRel cx ρ l w' o
  | .cells _ _ .ro, ⟨C, T', z, e, c⟩ => ⟨C, T', z, e, c⟩
  | .cells _ _ .fix, ⟨f, C, e, r⟩ => ⟨f, C, h.trans e, r⟩
  | .cells _ _ .opn, ⟨f, C, e, r⟩ => ⟨f, C, h.trans e, r⟩
  | .map _ _, ⟨f, es', e, c⟩ => ⟨f, es', h.trans e, c⟩
  | .iter _ _ _ _, ⟨f, z, m', e, c⟩ => ⟨f, z, m', h.trans e, c⟩
theorem ObjRel.notFr {cx : Cx} {ρ : Ren} {l : Loc} {w : World} : ∀ {o}, AObj.rw o = true → ObjRel cx ρ l w o → cx.fr l.blk = none
  | .cells _ _ .ro, h, _ => by simp [AObj.rw, CK.rw] at h
  | .cells _ _ .fix, _, ⟨f, _⟩ => f
  | .cells _ _ .opn, _, ⟨f, _⟩ => f
  | .map _ _, _, ⟨f, _⟩ => f
  | .iter _ _ _ _, _, ⟨f, _⟩ => f
theorem ObjRel.lt {cx : Cx} {ρ : Ren} {l : Loc} {w : World} : ∀ {o}, AObj.rw o = true → ObjRel cx ρ l w o → l.blk < w.heap.size
  | .cells _ _ .ro, h, _ => by simp [AObj.rw, CK.rw] at h
  | .cells _ _ .fix, _, ⟨_, _, e, _⟩ => lt_of_some e
  | .cells _ _ .opn, _, ⟨_, _, e, _⟩ => lt_of_some e
  | .map _ _, _, ⟨_, _, e, _⟩ => lt_of_some e
  | .iter _ _ _ _, _, ⟨_, _, _, e, _⟩ => lt_of_some e

theorem ObjRel.frz {cx : Cx} {ρ : Ren} {l : Loc} {w : World} : ∀ {o}, AObj.rw o = true → ObjRel cx ρ l w o → ∀ {C T z}, w.heap[l.blk]? = some (.cells C T z) → z = (0, 0)
  | .cells _ _ .ro, h, _, _, _, _, _ => by simp [AObj.rw, CK.rw] at h
  | .cells _ _ .fix, _, ⟨_, _, e, _⟩, _, _, _, e' => by rw [e] at e'; cases e'; rfl
  | .cells _ _ .opn, _, ⟨_, _, e, _⟩, _, _, _, e' => by rw [e] at e'; cases e'; rfl
  | .map _ _, _, ⟨_, _, e, _⟩, _, _, _, e' => by rw [e] at e'; cases e'
  | .iter _ _ _ _, _, ⟨_, _, _, e, _⟩, _, _, _, e' => by rw [e] at e'; cases e'

/-- A new block for a new name. -/
theorem Rel.new {cx : Cx} {ρ : Ren} {H : AH} {w : World} (h : Rel cx ρ H w) (O : Obj) (o : AObj) (ex : Nat) (hrw : o.rw = true)
    (ho : ∀ ρ', ρ.le ρ' → cx.fr w.heap.size = none → (w.alloc O).heap[w.heap.size]? = some O → ObjRel cx ρ' ⟨w.heap.size, 0, ex⟩ (w.alloc O) o) :
    Rel cx (ρ.add H.nx ⟨w.heap.size, 0, ex⟩) (H.new o) (w.alloc O) ∧ ρ.le (ρ.add H.nx ⟨w.heap.size, 0, ex⟩) := by
  have hle : ρ.le (ρ.add H.nx ⟨w.heap.size, 0, ex⟩) := Ren.le_add _ (h.fresh _ (Nat.le_refl _))
  have hfr : cx.fr w.heap.size = none := by
    cases e : cx.fr w.heap.size with
    | none => rfl
    | some o' => have := lt_of_some (h.frame _ _ e); omega
  have hold : ∀ b, b < w.heap.size → (w.alloc O).heap[b]? = w.heap[b]? := fun b hb => by
    show (w.heap.push O)[b]? = _
    rw [Array.getElem?_push, if_neg (by omega)]
  have hnew : (w.alloc O).heap[w.heap.size]? = some O := by
    show (w.heap.push O)[w.heap.size]? = _
    simp
  have hlo : cx.lo ≤ (w.alloc O).heap.size ∧ ∀ b C T z, cx.lo ≤ b → (w.alloc O).heap[b]? = some (.cells C T z) → z = (0, 0) := by
    refine ⟨by simp; exact Nat.le_succ_of_le h.lo.1, fun b C T z hb e => ?_⟩
    by_cases hbn : b = w.heap.size
    · subst hbn; exact (ho _ hle hfr hnew).frz hrw e
    · have hb2 : b < w.heap.size := by
        have := lt_of_some e
        simp at this
        omega
      rw [hold b hb2] at e
      exact h.lo.2 b C T z hb e
  refine ⟨⟨h.os, h.tape, h.output, hlo, fun b o' e => by rw [hold _ (lt_of_some (h.frame _ _ e))]; exact h.frame _ _ e, ?_, ?_, ?_, ?_⟩, hle⟩
  · intro n o' e
    rw [AH.get_new] at e
    by_cases hn : n = H.nx
    · subst hn; simp at e; subst e
      exact ⟨_, Ren.add_self _ _ _, ho _ hle hfr hnew⟩
    · rw [if_neg hn] at e
      obtain ⟨l, e1, e2⟩ := h.obj n o' e
      refine ⟨l, hle _ _ e1, (?_ : ObjRel cx ρ l (w.alloc O) o').mono hle⟩
      cases hr : o'.rw with
      | true => exact e2.world (hold _ (e2.lt hr))
      | false =>
        cases o' with
        | map => simp [AObj.rw] at hr
        | iter => simp [AObj.rw] at hr
        | cells c T k => cases k <;> first | exact e2 | (simp [AObj.rw, CK.rw] at hr)
  · intro n m o1 o2 l l' hne e1 e2 r1 r2 x1 x2
    rw [AH.get_new] at e1 e2
    unfold Ren.add at x1 x2
    by_cases hn : n = H.nx
    · have hm : m ≠ H.nx := fun e => hne (hn.trans e.symm)
      rw [if_pos hn] at x1; rw [if_neg hm] at x2 e2
      obtain ⟨l2, y1, y2⟩ := h.obj m o2 e2
      rw [y1] at x2; cases x2; cases x1
      have := y2.lt r2
      simp; omega
    · rw [if_neg hn] at x1 e1
      obtain ⟨l1, y1, y2⟩ := h.obj n o1 e1
      rw [y1] at x1; cases x1
      by_cases hm : m = H.nx
      · rw [if_pos hm] at x2; cases x2
        have := y2.lt r1
        simp; omega
      · rw [if_neg hm] at x2 e2
        exact h.inj n m o1 o2 l l' hne e1 e2 r1 r2 y1 x2
  · intro n hn
    simp at hn
    unfold Ren.add
    rw [if_neg (by omega)]
    exact h.fresh n (by omega)
  · intro g hg
    exact hle _ _ (h.glob g hg)

/-- One name's block turned, the name being one that may be written. -/
theorem Rel.upd {cx : Cx} {ρ : Ren} {H : AH} {w w' : World} (h : Rel cx ρ H w) {n : Nat} {o o' : AObj} {l : Loc} (hn : H.get n = some o) (hl : ρ n = some l) (hrw : o.rw = true) (hrw' : o'.rw = true)
    (hos : w'.os = w.os) (htape : w'.tape = w.tape) (hout : w'.output = w.output) (hsz : w'.heap.size = w.heap.size)
    (hold : ∀ b, b ≠ l.blk → w'.heap[b]? = w.heap[b]?) (ho : ObjRel cx ρ l w' o') : Rel cx ρ (H.put n o') w' := by
  obtain ⟨l0, e0, e1⟩ := h.obj n o hn
  rw [hl] at e0; cases e0
  have hfr := e1.notFr hrw
  have hlo : cx.lo ≤ w'.heap.size ∧ ∀ b C T z, cx.lo ≤ b → w'.heap[b]? = some (.cells C T z) → z = (0, 0) := by
    refine ⟨by rw [hsz]; exact h.lo.1, fun b C T z hb e => ?_⟩
    by_cases hbn : b = l.blk
    · subst hbn; exact ho.frz hrw' e
    · rw [hold b hbn] at e; exact h.lo.2 b C T z hb e
  refine ⟨hos.trans h.os, htape.trans h.tape, hout.trans h.output, hlo, fun b x e => ?_, ?_, ?_, fun m hm => h.fresh m (by simpa using hm), h.glob⟩
  · rw [hold]
    · exact h.frame _ _ e
    · intro e'; subst e'; rw [hfr] at e; cases e
  · intro m x e
    rw [AH.get_put] at e
    by_cases hm : m = n
    · subst hm; simp at e; subst e
      exact ⟨l, hl, ho⟩
    · rw [if_neg hm] at e
      obtain ⟨lm, y1, y2⟩ := h.obj m x e
      refine ⟨lm, y1, ?_⟩
      cases hr : x.rw with
      | true => exact y2.world (hold _ (h.inj m n x o lm l hm e hn hr hrw y1 hl))
      | false =>
        cases x with
        | map => simp [AObj.rw] at hr
        | iter => simp [AObj.rw] at hr
        | cells c T k => cases k <;> first | exact y2 | (simp [AObj.rw, CK.rw] at hr)
  · intro a b x y la lb hab ea eb ra rb xa xb
    rw [AH.get_put] at ea eb
    have fa : ∃ x', H.get a = some x' ∧ x'.rw = true := by
      by_cases ha : a = n
      · subst ha; exact ⟨o, hn, hrw⟩
      · rw [if_neg ha] at ea; exact ⟨x, ea, ra⟩
    have fb : ∃ x', H.get b = some x' ∧ x'.rw = true := by
      by_cases hb : b = n
      · subst hb; exact ⟨o, hn, hrw⟩
      · rw [if_neg hb] at eb; exact ⟨y, eb, rb⟩
    obtain ⟨x', ea', ra'⟩ := fa
    obtain ⟨y', eb', rb'⟩ := fb
    exact h.inj a b x' y' la lb hab ea' eb' ra' rb' xa xb

/-- A name that is given up. -/
theorem Rel.del {cx : Cx} {ρ : Ren} {H : AH} {w : World} (h : Rel cx ρ H w) (n : Nat) : Rel cx ρ (H.del n) w := by
  have hg : ∀ m o, (H.del n).get m = some o → H.get m = some o := fun m o e => by
    rw [AH.get_del] at e
    by_cases hm : m = n
    · rw [if_pos hm] at e; cases e
    · rwa [if_neg hm] at e
  exact ⟨h.os, h.tape, h.output, h.lo, h.frame, fun m o e => h.obj m o (hg m o e), fun a b x y la lb hab ea eb => h.inj a b x y la lb hab (hg _ _ ea) (hg _ _ eb), fun m hm => h.fresh m (by simpa using hm), h.glob⟩

/-- A name given up for another one over the same block, that has turned. -/
theorem Rel.replace {cx : Cx} {ρ : Ren} {H : AH} {w w' : World} (h : Rel cx ρ H w) {n : Nat} {o o' : AObj} {l l' : Loc} (hn : H.get n = some o) (hl : ρ n = some l) (hrw : o.rw = true) (hrw' : o'.rw = true) (hb : l'.blk = l.blk)
    (hos : w'.os = w.os) (htape : w'.tape = w.tape) (hout : w'.output = w.output) (hsz : w'.heap.size = w.heap.size)
    (hold : ∀ b, b ≠ l.blk → w'.heap[b]? = w.heap[b]?) (ho : ∀ ρ', ρ.le ρ' → cx.fr l.blk = none → ObjRel cx ρ' l' w' o') :
    Rel cx (ρ.add H.nx l') ((H.del n).new o') w' ∧ ρ.le (ρ.add H.nx l') := by
  have hle : ρ.le (ρ.add H.nx l') := Ren.le_add _ (h.fresh _ (Nat.le_refl _))
  obtain ⟨l0, e0, e1⟩ := h.obj n o hn
  rw [hl] at e0; cases e0
  have hfr := e1.notFr hrw
  have hg : ∀ m x, ((H.del n).new o').get m = some x → (m = H.nx ∧ x = o') ∨ (m ≠ H.nx ∧ m ≠ n ∧ H.get m = some x) := by
    intro m x e
    rw [AH.get_new] at e
    by_cases hm : m = H.nx
    · simp [hm] at e; exact .inl ⟨hm, e.symm⟩
    · rw [if_neg (by simpa using hm), AH.get_del] at e
      by_cases hmn : m = n
      · rw [if_pos hmn] at e; cases e
      · rw [if_neg hmn] at e; exact .inr ⟨hm, hmn, e⟩
  have hlo : cx.lo ≤ w'.heap.size ∧ ∀ b C T z, cx.lo ≤ b → w'.heap[b]? = some (.cells C T z) → z = (0, 0) := by
    refine ⟨by rw [hsz]; exact h.lo.1, fun b C T z hb' e => ?_⟩
    by_cases hbn : b = l.blk
    · subst hbn; rw [← hb] at e; exact (ho _ hle hfr).frz hrw' e
    · rw [hold b hbn] at e; exact h.lo.2 b C T z hb' e
  refine ⟨⟨hos.trans h.os, htape.trans h.tape, hout.trans h.output, hlo, fun b x e => ?_, ?_, ?_, fun m hm => ?_, fun g hg => hle _ _ (h.glob g hg)⟩, hle⟩
  · rw [hold]
    · exact h.frame _ _ e
    · intro e'; subst e'; rw [hfr] at e; cases e
  · intro m x e
    rcases hg m x e with ⟨rfl, rfl⟩ | ⟨h1, h2, h3⟩
    · exact ⟨l', Ren.add_self _ _ _, ho _ hle hfr⟩
    · obtain ⟨lm, y1, y2⟩ := h.obj m x h3
      refine ⟨lm, hle _ _ y1, (?_ : ObjRel cx ρ lm w' x).mono hle⟩
      cases hr : x.rw with
      | true => exact y2.world (hold _ (h.inj m n x o lm l h2 h3 hn hr hrw y1 hl))
      | false =>
        cases x with
        | map => simp [AObj.rw] at hr
        | iter => simp [AObj.rw] at hr
        | cells c T k => cases k <;> first | exact y2 | (simp [AObj.rw, CK.rw] at hr)
  · intro a b x y la lb hab ea eb ra rb xa xb
    unfold Ren.add at xa xb
    rcases hg a x ea with ⟨ha, rfl⟩ | ⟨ha1, ha2, ha3⟩
    · rcases hg b y eb with ⟨hb', rfl⟩ | ⟨hb1, hb2, hb3⟩
      · exact absurd (ha.trans hb'.symm) hab
      · rw [if_pos ha] at xa; cases xa
        rw [if_neg hb1] at xb
        rw [hb]
        exact h.inj n b o y l lb (Ne.symm hb2) hn hb3 hrw rb hl xb
    · rw [if_neg ha1] at xa
      rcases hg b y eb with ⟨hb', rfl⟩ | ⟨hb1, hb2, hb3⟩
      · rw [if_pos hb'] at xb; cases xb
        rw [hb]
        exact h.inj a n x o la l ha2 ha3 hn ra hrw xa hl
      · rw [if_neg hb1] at xb
        exact h.inj a b x y la lb hab ha3 hb3 ra rb xa xb
  · simp at hm
    unfold Ren.add
    rw [if_neg (by omega)]
    exact h.fresh m (by omega)

/-- A name more is set aside. -/
def AH.res (H : AH) : AH := ⟨H.tr, Nat.succ H.nx⟩
theorem AH.get_res (H : AH) (n : Nat) : H.res.get n = H.get n := rfl
@[simp] theorem AH.nx_res (H : AH) : H.res.nx = H.nx + 1 := id rfl
theorem AH.new_eq (H : AH) (o : AObj) : H.new o = H.res.put H.nx o := rfl
theorem Rel.res {cx : Cx} {ρ : Ren} {H : AH} {w : World} (h : Rel cx ρ H w) : Rel cx ρ H.res w :=
  ⟨h.os, h.tape, h.output, h.lo, h.frame, h.obj, h.inj, fun n hn => h.fresh n (by simp at hn; omega), h.glob⟩
/-- Another abstract heap that tells the same. -/
theorem Rel.congr {cx : Cx} {ρ : Ren} {H H' : AH} {w : World} (h : Rel cx ρ H w) (hg : ∀ n, H'.get n = H.get n) (hn : H'.nx = H.nx) : Rel cx ρ H' w :=
  ⟨h.os, h.tape, h.output, h.lo, h.frame, fun n o e => h.obj n o (by rw [← hg]; exact e), fun n m o o' l l' a b c => h.inj n m o o' l l' a (by rw [← hg]; exact b) (by rw [← hg]; exact c), fun n hn' => h.fresh n (by rw [← hn]; exact hn'), h.glob⟩

/-- A new block for a name that was set aside. -/
theorem Rel.newAt {cx : Cx} {ρ : Ren} {H : AH} {w : World} (h : Rel cx ρ H w) (n : Nat) (hn : ρ n = none) (hlt : n < H.nx) (O : Obj) (o : AObj) (hrw : o.rw = true)
    (ho : ∀ ρ', ρ.le ρ' → cx.fr w.heap.size = none → (w.alloc O).heap[w.heap.size]? = some O → ObjRel cx ρ' ⟨w.heap.size, 0, 0⟩ (w.alloc O) o) :
    Rel cx (ρ.add n ⟨w.heap.size, 0, 0⟩) (H.put n o) (w.alloc O) ∧ ρ.le (ρ.add n ⟨w.heap.size, 0, 0⟩) := by
  have hle : ρ.le (ρ.add n ⟨w.heap.size, 0, 0⟩) := Ren.le_add _ hn
  have hfr : cx.fr w.heap.size = none := by
    cases e : cx.fr w.heap.size with
    | none => rfl
    | some o' => have := lt_of_some (h.frame _ _ e); omega
  have hold : ∀ b, b < w.heap.size → (w.alloc O).heap[b]? = w.heap[b]? := fun b hb => by
    show (w.heap.push O)[b]? = _
    rw [Array.getElem?_push, if_neg (by omega)]
  have hnew : (w.alloc O).heap[w.heap.size]? = some O := by
    show (w.heap.push O)[w.heap.size]? = _
    simp
  have hlo : cx.lo ≤ (w.alloc O).heap.size ∧ ∀ b C T z, cx.lo ≤ b → (w.alloc O).heap[b]? = some (.cells C T z) → z = (0, 0) := by
    refine ⟨by simp; exact Nat.le_succ_of_le h.lo.1, fun b C T z hb e => ?_⟩
    by_cases hbn : b = w.heap.size
    · subst hbn; exact (ho _ hle hfr hnew).frz hrw e
    · have hb2 : b < w.heap.size := by
        have := lt_of_some e
        simp at this
        omega
      rw [hold b hb2] at e
      exact h.lo.2 b C T z hb e
  refine ⟨⟨h.os, h.tape, h.output, hlo, fun b o' e => by rw [hold _ (lt_of_some (h.frame _ _ e))]; exact h.frame _ _ e, ?_, ?_, ?_, fun g hg => hle _ _ (h.glob g hg)⟩, hle⟩
  · intro m o' e
    rw [AH.get_put] at e
    by_cases hm : m = n
    · subst hm; simp at e; subst e
      exact ⟨_, Ren.add_self _ _ _, ho _ hle hfr hnew⟩
    · rw [if_neg hm] at e
      obtain ⟨l, e1, e2⟩ := h.obj m o' e
      refine ⟨l, hle _ _ e1, (?_ : ObjRel cx ρ l (w.alloc O) o').mono hle⟩
      cases hr : o'.rw with
      | true => exact e2.world (hold _ (e2.lt hr))
      | false =>
        cases o' with
        | map => simp [AObj.rw] at hr
        | iter => simp [AObj.rw] at hr
        | cells c T k => cases k <;> first | exact e2 | (simp [AObj.rw, CK.rw] at hr)
  · intro a b o1 o2 l l' hne e1 e2 r1 r2 x1 x2
    rw [AH.get_put] at e1 e2
    unfold Ren.add at x1 x2
    by_cases ha : a = n
    · have hb : b ≠ n := fun e => hne (ha.trans e.symm)
      rw [if_pos ha] at x1; rw [if_neg hb] at x2 e2
      obtain ⟨l2, y1, y2⟩ := h.obj b o2 e2
      rw [y1] at x2; cases x2; cases x1
      have := y2.lt r2
      simp; omega
    · rw [if_neg ha] at x1 e1
      obtain ⟨l1, y1, y2⟩ := h.obj a o1 e1
      rw [y1] at x1; cases x1
      by_cases hb : b = n
      · rw [if_pos hb] at x2; cases x2
        have := y2.lt r1
        simp; omega
      · rw [if_neg hb] at x2 e2
        exact h.inj a b o1 o2 l l' hne e1 e2 r1 r2 y1 x2
  · intro m hm
    simp at hm
    unfold Ren.add
    rw [if_neg (by omega)]
    exact h.fresh m hm
end Go.Ab

namespace Go.Ab
open Go
set_option linter.unusedVariables false
noncomputable section

abbrev Env := List (Nat × Value)
def eget : Env → Nat → Option Value
  | [], _ => none
  | (i, v) :: r, n => bif Nat.beq i n then some v else eget r n

def evo (P : Program) (e : Env) : Operand → Option Value
  | .tmp t => eget e t
  | .const v => bif bare v then some v else none
  | .global g => bif Nat.blt g P.globals.size then some (.pointer (some ⟨g, 0, none⟩)) else none
  | .func f => some (.func (.func f) #[] #[])

def cellsL : Value → List Value
  | .agg a => a.toList
  | v => [v]
def plain : Value → Bool
  | .agg _ | .tuple _ => false
  | _ => true

/-! ### worldless -/
def pnil : Value → Option Value
  | .pointer (some a) => some (.pointer (some a))
  | .func (.func f) x y => some (.func (.func f) x y)
  | .iface t v => some (.iface t v)
  | _ => none
def fa (n : Nat) : Value → Option Value
  | .pointer (some ⟨m, off, none⟩) => some (.pointer (some ⟨m, off + n, none⟩))
  | _ => none
def fld1 (off : Nat) : Value → Option Value
  | .agg ⟨xs⟩ => xs[off]?
  | _ => none
def fldN (off s : Nat) : Value → Option Value
  | .agg ⟨xs⟩ => some (.agg ⟨(xs.drop off).take s⟩)
  | _ => none
def ixS (es : Nat) (x i : Value) : Option Value :=
  match x, i with
  | .slice (some ⟨n, off, _⟩) len _, .int _ i => bif decide (0 ≤ i) && decide (i < (len : Int)) then some (.pointer (some ⟨n, off + i.toNat * es, none⟩)) else none
  | _, _ => none
def ixA (len es : Nat) (x i : Value) : Option Value :=
  match x, i with
  | .pointer (some ⟨n, off, none⟩), .int _ i => bif decide (0 ≤ i) && decide (i < (len : Int)) then some (.pointer (some ⟨n, off + i.toNat * es, none⟩)) else none
  | _, _ => none
def idA1 (len : Nat) (x i : Value) : Option Value :=
  match x, i with
  | .agg ⟨xs⟩, .int _ i => bif decide (0 ≤ i) && decide (i < (len : Int)) then xs[i.toNat * 1]? else none
  | _, _ => none
def idAN (len es : Nat) (x i : Value) : Option Value :=
  match x, i with
  | .agg ⟨xs⟩, .int _ i => bif decide (0 ≤ i) && decide (i < (len : Int)) then some (.agg ⟨(xs.drop (i.toNat * es)).take es⟩) else none
  | _, _ => none
def idStr (x i : Value) : Option Value :=
  match x, i with
  | .string s, .int _ i => bif decide (0 ≤ i) then (match s[i.toNat]? with | some b => some (.int .u8 b.toNat) | none => none) else none
  | _, _ => none
def pickS (c : Value) (a b : Option Value) : Option Value :=
  match c with
  | .bool t => bif t then a else b
  | _ => none
def extr (i : Nat) : Value → Option Value
  | .tuple ⟨vs⟩ => vs[i]?
  | _ => none

def ibin (op : BinOp) (k : IntKind) (a b : Int) : Option Value :=
  match op with
  | .add => some (.int k (k.wrap (a + b)))
  | .sub => some (.int k (k.wrap (a - b)))
  | .mul => some (.int k (k.wrap (a * b)))
  | .quo => bif decide (b = 0) then none else some (.int k (k.wrap (a.tdiv b)))
  | .rem => bif decide (b = 0) then none else some (.int k (a.tmod b))
  | .and => some (.int k (k.wrap ((BitVec.ofInt k.bits a &&& BitVec.ofInt k.bits b).toNat)))
  | .or => some (.int k (k.wrap ((BitVec.ofInt k.bits a ||| BitVec.ofInt k.bits b).toNat)))
  | .xor => some (.int k (k.wrap ((BitVec.ofInt k.bits a ^^^ BitVec.ofInt k.bits b).toNat)))
  | .andNot => some (.int k (k.wrap ((BitVec.ofInt k.bits a &&& ~~~ BitVec.ofInt k.bits b).toNat)))
  | .eql => some (.bool (a == b))
  | .neq => some (.bool (a != b))
  | .lss => some (.bool (decide (a < b)))
  | .leq => some (.bool (decide (a ≤ b)))
  | .gtr => some (.bool (decide (a > b)))
  | .geq => some (.bool (decide (a ≥ b)))
  | _ => none
def ishift (op : BinOp) (k : IntKind) (a b : Int) : Option Value :=
  bif decide (b < 0) then none else
  match op with
  | .shl => some (.int k (k.wrap (a * 2 ^ (min b.toNat k.bits))))
  | .shr => some (.int k (a.fdiv (2 ^ (min b.toNat k.bits))))
  | _ => none
def isShift : BinOp → Bool
  | .shl | .shr => true
  | _ => false
def sbin (op : BinOp) (a b : ByteArray) : Option Value :=
  match op with
  | .eql => some (.bool (a.data.toList == b.data.toList))
  | .neq => some (.bool (!(a.data.toList == b.data.toList)))
  | .add => bif Nat.ble (a.size + b.size) 9223372036854775807 then some (.string (a ++ b)) else none
  | _ => none

/-- '==' of what has one cell. -/
def eq1 (k : TypeDesc) (x y : Value) : Option Bool :=
  match k, x, y with
  | .bool, .bool a, .bool b => some (a == b)
  | .int _, .int j a, .int k b => bif decide (j = k) then some (a == b) else none
  | .string, .string a, .string b => some (a == b)
  | .pointer _, .pointer none, .pointer b => some b.isNone
  | .pointer _, .pointer (some _), .pointer none => some false
  | .interface _, .nilIface, .nilIface => some true
  | .interface _, .nilIface, .iface _ _ => some false
  | .interface _, .iface _ _, .nilIface => some false
  | .slice _, .slice none _ _, .slice b _ _ => some b.isNone
  | .slice _, .slice (some _) _ _, .slice none _ _ => some false
  | .map _ _, .map none, .map b => some b.isNone
  | .map _ _, .map (some _), .map none => some false
  | .func _ _ _, .nilFunc, .nilFunc => some true
  | .func _ _ _, .nilFunc, .func _ _ _ => some false
  | .func _ _ _, .func _ _ _, .nilFunc => some false
  | _, _, _ => none
/-- Fields of one cell each, compared in order. -/
def eqFs (P : Program) (xs ys : List Value) : List Field → Option Bool
  | [] => some true
  | f :: fs =>
    bif f.name == "_" then none else
    match P.underlying f.type, xs[f.offset]?, ys[f.offset]? with
    | some k, some x, some y =>
      match eq1 k x y with
      | some true => eqFs P xs ys fs
      | r => r
    | _, _, _ => none
def eqS (P : Program) (t : TypeId) (x y : Value) : Option Bool :=
  match x, y with
  | .agg ⟨xs⟩, .agg ⟨ys⟩ =>
    match P.underlying t with
    | some (.struct fs) => bif P.stoodInHeld t || P.eqGuardType P.depth t then none else eqFs P xs ys fs.toList
    | _ => none
  | x, y =>
    match P.underlying t with
    | some k => eq1 k x y
    | none => none
def isConstO : Operand → Bool
  | .const _ => true
  | _ => false
def binS0 (P : Program) (op : BinOp) (t : TypeId) (ox oy : Operand) (x y : Value) : Option Value :=
  match x, y with
  | .int k a, .int k' b =>
    bif isShift op then ishift op k a b
    else bif decide (k = k') then ibin op k a b else none
  | .string a, .string b => sbin op a b
  | .nilIface, .nilIface =>
    bif isConstO ox || isConstO oy then
      match op with
      | .eql => (eqS P t .nilIface .nilIface).map .bool
      | .neq => (eqS P t .nilIface .nilIface).map fun b => .bool (!b)
      | _ => none
    else none
  | x, y =>
    match op with
    | .eql => (eqS P t x y).map .bool
    | .neq => (eqS P t x y).map fun b => .bool (!b)
    | _ => none
/-- What '==' needs to know of a type. -/
inductive EK | bool | int | str | ptr | ifc | slc | map | fn
inductive EqD | one (k : EK) | agg (fs : List (Nat × EK))
def ekOf : TypeDesc → Option EK
  | .bool => some .bool
  | .int _ => some .int
  | .string => some .str
  | .pointer _ => some .ptr
  | .interface _ => some .ifc
  | .slice _ => some .slc
  | .map _ _ => some .map
  | .func _ _ _ => some .fn
  | _ => none
def eqDs (P : Program) : List Field → Option (List (Nat × EK))
  | [] => some []
  | f :: fs =>
    match f.name == "_" with
    | true => none
    | false =>
      match (P.underlying f.type).bind ekOf, eqDs P fs with
      | some k, some r => some ((f.offset, k) :: r)
      | _, _ => none
def eqD (P : Program) (t : TypeId) : Option EqD :=
  match P.underlying t with
  | some (.struct fs) =>
    match P.stoodInHeld t || P.eqGuardType P.depth t with
    | true => none
    | false => (eqDs P fs.toList).map .agg
  | some k => (ekOf k).map .one
  | none => none
def eq1T (k : EK) (x y : Value) : Option Bool :=
  match k, x, y with
  | .bool, .bool a, .bool b => some (a == b)
  | .int, .int j a, .int k b => bif decide (j = k) then some (a == b) else none
  | .str, .string a, .string b => some (a == b)
  | .ptr, .pointer none, .pointer b => some b.isNone
  | .ptr, .pointer (some _), .pointer none => some false
  | .ifc, .nilIface, .nilIface => some true
  | .ifc, .nilIface, .iface _ _ => some false
  | .ifc, .iface _ _, .nilIface => some false
  | .slc, .slice none _ _, .slice b _ _ => some b.isNone
  | .slc, .slice (some _) _ _, .slice none _ _ => some false
  | .map, .map none, .map b => some b.isNone
  | .map, .map (some _), .map none => some false
  | .fn, .nilFunc, .nilFunc => some true
  | .fn, .nilFunc, .func _ _ _ => some false
  | .fn, .func _ _ _, .nilFunc => some false
  | _, _, _ => none
def eqFsT (xs ys : List Value) : List (Nat × EK) → Option Bool
  | [] => some true
  | (o, k) :: fs =>
    match xs[o]?, ys[o]? with
    | some x, some y =>
      match eq1T k x y with
      | some true => eqFsT xs ys fs
      | r => r
    | _, _ => none
def eqT (d : Option EqD) (x y : Value) : Option Bool :=
  match x, y with
  | .agg ⟨xs⟩, .agg ⟨ys⟩ =>
    match d with
    | some (.agg fs) => eqFsT xs ys fs
    | _ => none
  | x, y =>
    match d with
    | some (.one k) => eq1T k x y
    | _ => none
def binT (op : BinOp) (d : Option EqD) (cst : Bool) (x y : Value) : Option Value :=
  match x, y with
  | .int k a, .int k' b =>
    bif isShift op then ishift op k a b
    else bif decide (k = k') then ibin op k a b else none
  | .string a, .string b => sbin op a b
  | .nilIface, .nilIface =>
    bif cst then
      match op with
      | .eql => (eqT d .nilIface .nilIface).map .bool
      | .neq => (eqT d .nilIface .nilIface).map fun b => .bool (!b)
      | _ => none
    else none
  | x, y =>
    match op with
    | .eql => (eqT d x y).map .bool
    | .neq => (eqT d x y).map fun b => .bool (!b)
    | _ => none
def opD (P : Program) (op : BinOp) (t : TypeId) : Option EqD :=
  match op with
  | .eql => eqD P t
  | .neq => eqD P t
  | _ => none
def cstO (op : BinOp) (ox oy : Operand) : Bool :=
  match op with
  | .eql => isConstO ox || isConstO oy
  | .neq => isConstO ox || isConstO oy
  | _ => false
def binS (P : Program) (op : BinOp) (t : TypeId) (ox oy : Operand) (x y : Value) : Option Value := binT op (opD P op t) (cstO op ox oy) x y
theorem eq1_of {k : EK} {d : TypeDesc} {x y : Value} {b : Bool} (hd : ekOf d = some k) (h : eq1T k x y = some b) : eq1 d x y = some b := by
  cases d <;> simp only [ekOf, reduceCtorEq, Option.some.injEq] at hd <;> subst hd <;> (unfold eq1T at h; split at h <;> first | contradiction | exact h | (cases h))
theorem eqFs_of {P : Program} {xs ys : List Value} : ∀ {fs : List Field} {l : List (Nat × EK)} {b : Bool}, eqDs P fs = some l → eqFsT xs ys l = some b → eqFs P xs ys fs = some b
  | [], l, b, h1, h2 => by rw [eqDs] at h1; cases h1; exact h2
  | f :: fs, l, b, h1, h2 => by
    rw [eqDs] at h1
    split at h1
    · cases h1
    · rename_i hn
      split at h1
      · rename_i k r hk hr
        cases h1
        rw [eqFs, hn]
        rw [eqFsT] at h2
        obtain ⟨d, hd, hk⟩ := Option.bind_eq_some_iff.1 hk
        split at h2
        · rename_i x y hx hy
          simp only [cond_false, hd, hx, hy]
          split at h2
          · rename_i he
            rw [eq1_of hk he]
            exact eqFs_of hr h2
          · rename_i r' hne
            rw [eq1_of hk h2]
            cases b with
            | true => exact absurd h2 (by simpa using hne)
            | false => rfl
        · cases h2
      · cases h1
theorem eqS_of {P : Program} {t : TypeId} {x y : Value} {b : Bool} (h : eqT (eqD P t) x y = some b) : eqS P t x y = some b := by
  unfold eqT at h
  split at h
  · rename_i xs ys
    split at h
    · rename_i fs hd
      unfold eqD at hd
      split at hd
      · rename_i f hu
        split at hd
        · cases hd
        · rename_i hg
          obtain ⟨l, hl, e⟩ := Option.map_eq_some_iff.1 hd
          cases e
          simp only [eqS, hu, hg, cond_false]
          exact eqFs_of hl h
      · obtain ⟨l, hl, e⟩ := Option.map_eq_some_iff.1 hd; cases e
      · cases hd
    · cases h
  · rename_i hno
    split at h
    · rename_i k hd
      have : ∃ d, P.underlying t = some d ∧ ekOf d = some k := by
        unfold eqD at hd
        split at hd
        · split at hd
          · cases hd
          · obtain ⟨l, hl, e⟩ := Option.map_eq_some_iff.1 hd; cases e
        · rename_i d _ hu
          obtain ⟨l, hl, e⟩ := Option.map_eq_some_iff.1 hd; cases e
          exact ⟨d, hu, hl⟩
        · cases hd
      obtain ⟨d, hu, hk⟩ := this
      unfold eqS
      split
      · exact absurd rfl (hno _ _ rfl)
      · rw [hu]; exact eq1_of hk h
    · cases h
theorem binS_of {P : Program} {op : BinOp} {t : TypeId} {ox oy : Operand} {x y v : Value} (h : binS P op t ox oy x y = some v) : binS0 P op t ox oy x y = some v := by
  have mp : ∀ {d : Option EqD} {a b : Value} {f : Bool → Value}, d = eqD P t → (eqT d a b).map f = some v → (eqS P t a b).map f = some v := by
    intro d a b f hd h
    subst hd
    obtain ⟨c, h1, h2⟩ := Option.map_eq_some_iff.1 h
    rw [eqS_of h1]; exact congrArg some h2
  unfold binS binT at h
  unfold binS0
  split at h
  · exact h
  · exact h
  · cases op <;> first
      | (cases hc : (isConstO ox || isConstO oy) with
          | false => simp only [cstO, hc, cond_false] at h; cases h
          | true => simp only [cstO, hc, cond_true] at h ⊢; exact mp rfl h)
      | (simp only [cstO, cond_false] at h; cases h)
  · rename_i h1 h2 h3
    split
    · exact mp rfl h
    · exact mp rfl h
    · rename_i q1 q2
      cases op <;> first | cases h | exact (q1 rfl).elim | exact (q2 rfl).elim
def unS (op : UnOp) : Value → Option Value
  | .int k n =>
    match op with
    | .neg => some (.int k (k.wrap (0 - n)))
    | .xor => some (.int k (k.wrap ((BitVec.ofInt k.bits (if k.signed then -1 else k.max) ^^^ BitVec.ofInt k.bits n).toNat)))
    | _ => none
  | .bool b =>
    match op with
    | .not => some (.bool !b)
    | _ => none
  | _ => none
def convS (k : TypeDesc) (x : Value) : Option Value :=
  match k, x with
  | .int k, .int _ n => some (.int k (k.wrap n))
  | .string, .string s => some (.string s)
  | _, _ => none
def bnd3 (lo hi mx : Option Int) (len cap : Nat) : Option (Nat × Nat × Nat) :=
  match mx with
  | some m => bif decide (0 ≤ m) && decide (m ≤ (cap : Int)) then
      match hi with
      | some h => bif decide (0 ≤ h) && decide (h ≤ m) then
          match lo with
          | some l => bif decide (0 ≤ l) && decide (l ≤ h) then some (l.toNat, h.toNat, m.toNat) else none
          | none => some (0, h.toNat, m.toNat)
        else none
      | none => none
    else none
  | none =>
    match hi with
    | some h => bif decide (0 ≤ h) && decide (h ≤ (cap : Int)) then
        match lo with
        | some l => bif decide (0 ≤ l) && decide (l ≤ h) then some (l.toNat, h.toNat, cap) else none
        | none => some (0, h.toNat, cap)
      else none
    | none =>
      match lo with
      | some l => bif decide (0 ≤ l) && decide (l ≤ (len : Int)) then some (l.toNat, len, cap) else none
      | none => some (0, len, cap)
def intO : Option Value → Option (Option Int)
  | none => some none
  | some (.int _ n) => some (some n)
  | _ => none
def exactName (H : AH) (n : Nat) : Bool :=
  match H.get n with
  | some (.cells _ _ .ro) => true
  | some (.cells _ _ .fix) => true
  | _ => false
/-- x[lo:hi:mx] of a slice of elements of 'es' cells. -/
def slcS (es : Nat) (x : Value) (lo hi mx : Option Value) (H : AH) : Option Value :=
  match x, intO lo, intO hi, intO mx with
  | .slice a len cap, some l, some h, some m =>
    match bnd3 l h m len cap with
    | some (l, h, m') =>
      match a with
      | none => some (.slice none (h - l) (m' - l))
      | some ⟨n, off, sp⟩ =>
        bif Nat.ble h m' then
          match mx with
          | some _ => some (.slice (some ⟨n, bif Nat.beq m' l then off else off + l * es, some 0⟩) (h - l) (m' - l))
          | none =>
            bif Nat.beq m' l then (bif Nat.beq l 0 || sp.isSome || exactName H n then some (.slice (some ⟨n, off, sp⟩) (h - l) (m' - l)) else none)
            else some (.slice (some ⟨n, off + l * es, sp⟩) (h - l) (m' - l))
        else none
    | none => none
  | _, _, _, _ => none
def strS (x : Value) (lo hi : Option Value) : Option Value :=
  match x, intO lo, intO hi with
  | .string s, some l, some h =>
    match bnd3 l h none s.size s.size with
    | some (l, h, _) => some (.string (s.extract l h))
    | none => none
  | _, _, _ => none

/-! ### reads -/
def ld1 (v : Value) (H : AH) : Option Value :=
  match v with
  | .pointer (some ⟨n, off, none⟩) =>
    match H.get n with
    | some (.cells c _ _) => c[off]?
    | _ => none
  | _ => none
def ldN (s : Nat) (v : Value) (H : AH) : Option Value :=
  match v with
  | .pointer (some ⟨n, off, none⟩) =>
    match H.get n with
    | some (.cells c _ _) => bif Nat.beq ((c.drop off).take s).length s then some (.agg ⟨(c.drop off).take s⟩) else none
    | _ => none
  | _ => none
def lenS (v : Value) (H : AH) : Option Value :=
  match v with
  | .slice _ n _ => some (.int .i64 n)
  | .string s => some (.int .i64 s.size)
  | .map none => some (.int .i64 (0 : Nat))
  | .map (some r) =>
    match H.get r with
    | some (.map es _) => some (.int .i64 es.length)
    | _ => none
  | _ => none
def capS (v : Value) (H : AH) : Option Value :=
  match v with
  | .slice none _ c => some (.int .i64 c)
  | .slice (some ⟨n, _, sp⟩) _ c => bif sp.isSome || exactName H n then some (.int .i64 c) else none
  | _ => none
/-- A key without addresses: a number, a text, or a row of these. -/
def bareKey : Value → Bool
  | .int _ _ | .string _ | .bool _ => true
  | _ => false
def keyEq (x y : Value) : Option Bool :=
  match x, y with
  | .int j a, .int k b => bif decide (j = k) then some (a == b) else none
  | .string a, .string b => some (a == b)
  | .bool a, .bool b => some (a == b)
  | _, _ => none
def findA (k : Value) : List MapEntry → Nat → Option (Option (Nat × Value))
  | [], _ => some none
  | e :: es, i =>
    match keyEq k e.key with
    | some true => some (some (i, e.val))
    | some false => findA k es (i + 1)
    | none => none
def keyKind : TypeDesc → Bool
  | .int _ | .string | .bool => true
  | _ => false
def keyFits (d : TypeDesc) (k : Value) : Bool :=
  match d, k with
  | .int _, .int _ _ => true
  | .string, .string _ => true
  | .bool, .bool _ => true
  | _, _ => false
def mapOf (v : Value) (H : AH) : Option (List MapEntry) :=
  match v with
  | .map none => some []
  | .map (some r) =>
    match H.get r with
    | some (.map es _) => some es
    | _ => none
  | _ => none
def lkS (zero : Value) (ok : Bool) (m k : Value) (H : AH) : Option Value :=
  match mapOf m H with
  | some es =>
    match findA k es 0 with
    | some (some (_, v)) => some (bif ok then .tuple ⟨[v, .bool true]⟩ else v)
    | some none => some (bif ok then .tuple ⟨[zero, .bool false]⟩ else zero)
    | none => none
  | none => none

/-- The entry that an iterator's last step handed out. -/
def entS (v : Value) (H : AH) : Option Value :=
  match v with
  | .pointer (some ⟨n, 0, none⟩) =>
    match H.get n with
    | some (.iter (some m) _ last seen) =>
      match H.get m with
      | some (.map es clock) =>
        bif Nat.beq clock last then
          match seen.getLast? with
          | some s =>
            match es.find? fun e => Nat.beq e.born s with
            | some e => some (.tuple ⟨[e.key, e.val]⟩)
            | none => none
          | none => none
        else none
      | _ => none
    | _ => none
  | _ => none

/-! ### new memory -/
def fillA (places : List (Nat × Nat)) (cells : List Value) : List (Nat × Value) → Option (List Value)
  | [] => some cells
  | (i, v) :: rest =>
    match places[i]? with
    | none => none
    | some (off, size) =>
      bif Nat.beq (cellsL v).length size && Nat.ble (off + size) cells.length then fillA places (cells.take off ++ (cellsL v ++ cells.drop (off + size))) rest else none
def zrow (zero : List Value) : Nat → List Value
  | 0 => []
  | n + 1 => zero ++ zrow zero n
/-! ### effects -/
def splice (c : List Value) (off : Nat) (xs : List Value) : List Value := c.take off ++ (xs ++ c.drop (off + xs.length))
def stS (s : Nat) (a x : Value) (H : AH) : Option AH :=
  match a with
  | .pointer (some ⟨n, off, none⟩) =>
    match H.get n with
    | some (.cells c T k) =>
      bif k.rw && Nat.beq (cellsL x).length s && (cellsL x).all plain && Nat.ble (off + s) c.length then some (H.put n (.cells (splice c off (cellsL x)) T k)) else none
    | _ => none
  | _ => none
def setVal (es : List MapEntry) (i : Nat) (k v : Value) : List MapEntry := es.modify i fun e => { e with key := k, val := v }
def muS (m k v : Value) (H : AH) : Option AH :=
  match m with
  | .map (some r) =>
    match H.get r with
    | some (.map es clock) =>
      match findA k es 0 with
      | some (some (i, _)) => some (H.put r (.map (setVal es i k v) clock))
      | some none => some (H.put r (.map (es ++ [{ key := k, val := v, born := clock }]) (clock + 1)))
      | none => none
    | _ => none
  | _ => none
def delS (m k : Value) (H : AH) : Option AH :=
  match m with
  | .map none => some H
  | .map (some r) =>
    match H.get r with
    | some (.map es clock) =>
      match findA k es 0 with
      | some (some (i, _)) => some (H.put r (.map (es.eraseIdx i) clock))
      | some none => some (H.put r (.map es clock))
      | none => none
    | _ => none
  | _ => none
/-- The cells of a slice, or of a text. -/
def srcS (es : Nat) (x : Value) (H : AH) : Option (List Value × Nat) :=
  match x with
  | .slice none n _ => bif Nat.beq n 0 then some ([], 0) else none
  | .slice (some ⟨m, off, _⟩) n _ =>
    match H.get m with
    | some (.cells c _ _) => bif Nat.beq ((c.drop off).take (n * es)).length (n * es) then some ((c.drop off).take (n * es), n) else none
    | _ => none
  | .string s => bif Nat.beq es 1 then some (s.data.toList.map fun b => .int .u8 b.toNat, s.size) else none
  | _ => none
def appS (es bytes : Nat) (T : TypeId) (s x : Value) (H : AH) : Option (Value × AH) :=
  match srcS es x H with
  | none => none
  | some (src, n) =>
    bif src.all plain then
    match s with
    | .slice none len cap =>
      bif Nat.beq len 0 && Nat.beq cap 0 then
        bif Nat.beq n 0 then some (.slice none 0 0, H)
        else bif Nat.ble ((2 * n + 1024) * bytes) (2 ^ 48) then some (.slice (some ⟨H.nx, 0, none⟩) n n, H.new (.cells src T .opn)) else none
      else none
    | .slice (some ⟨m, off, sp⟩) len cap =>
      match H.get m with
      | some (.cells c T' k) =>
        bif Nat.ble (len + n) cap then
          bif Nat.beq n 0 then some (.slice (some ⟨m, off, sp⟩) len cap, H)
          else bif k.rw && Nat.ble (off + (len + n) * es) c.length then some (.slice (some ⟨m, off, sp⟩) (len + n) cap, H.put m (.cells (splice c (off + len * es) src) T' k)) else none
        else bif Nat.beq ((c.drop off).take (len * es)).length (len * es) && Nat.ble ((2 * (len + n) + 1024) * bytes) (2 ^ 48) then
          bif sp.isSome || !decide (k = .opn) then some (.slice (some ⟨H.nx, 0, none⟩) (len + n) (len + n), H.new (.cells ((c.drop off).take (len * es) ++ src) T .opn))
          else bif Nat.beq (off + cap * es) c.length && Nat.beq T T' && Nat.ble len cap then some (.slice (some ⟨H.nx, 0, none⟩) (len + n) (len + n), (H.del m).new (.cells ((c.drop off).take (len * es) ++ src) T .opn))
          else none
        else none
      | _ => none
    | _ => none
    else none
def cpyS (es : Nat) (d x : Value) (H : AH) : Option (Value × AH) :=
  match d, srcS es x H with
  | .slice none len _, some (src, n) => some (.int .i64 (min n len : Nat), H)
  | .slice (some ⟨m, off, _⟩) len _, some (src, n) =>
    match H.get m with
    | some (.cells c T k) =>
      bif k.rw && (src.take (min n len * es)).all plain && Nat.ble (off + min n len * es) c.length && Nat.ble (min n len * es) src.length then
        some (.int .i64 (min n len : Nat), H.put m (.cells (splice c off (src.take (min n len * es))) T k))
      else none
    | _ => none
  | _, _ => none

/-- A slice's elements made zero. -/
def clrS (z : List Value) (x : Value) (H : AH) : Option (Value × AH) :=
  match x with
  | .slice none _ _ => some (.tuple ⟨[]⟩, H)
  | .slice (some ⟨m, off, _⟩) n _ =>
    match H.get m with
    | some (.cells c T k) =>
      bif Nat.beq n 0 then some (.tuple ⟨[]⟩, H)
      else bif k.rw && Nat.ble (off + n * z.length) c.length then some (.tuple ⟨[]⟩, H.put m (.cells (splice c off (zrow z n)) T k)) else none
    | _ => none
  | _ => none

/-! ### operations -/
def srcKind : TypeDesc → Bool
  | .slice _ | .string => true
  | _ => false
def evs (ev : Operand → Option Value) : List Operand → Option (List Value)
  | [] => some []
  | x :: xs =>
    match ev x, evs ev xs with
    | some v, some vs => some (v :: vs)
    | _, _ => none
def evp (ev : Operand → Option Value) : List (Nat × Operand) → Option (List (Nat × Value))
  | [] => some []
  | (i, x) :: xs =>
    match ev x, evp ev xs with
    | some v, some vs => some ((i, v) :: vs)
    | _, _ => none
def isAggD : TypeDesc → Bool
  | .struct _ | .array _ _ => true
  | _ => false
def zeroL (i : TypeInfo) : Option (List Value) :=
  match i.zero with
  | some z => bif (cellsL z).all bare then some (cellsL z) else none
  | none => none
def zero1 (i : TypeInfo) : Option Value :=
  match i.zero with
  | some z => bif bare z then some z else (match z with
    | .agg a => bif a.toList.all bare then some z else none
    | _ => none)
  | none => none
def places (P : Program) : List Field → Option (List (Nat × Nat))
  | [] => some []
  | f :: fs =>
    match P.info? f.type, places P fs with
    | some i, some r => some ((f.offset, i.size) :: r)
    | _, _ => none
def plArr (size : Nat) : Nat → Nat → List (Nat × Nat)
  | _, 0 => []
  | i, n + 1 => (i * size, size) :: plArr size (i + 1) n
def optO (ev : Operand → Option Value) : Option Operand → Option (Option Value)
  | none => some none
  | some x =>
    match ev x with
    | some v => some (some v)
    | none => none

/-- What an operation yields that leaves memory alone. -/
def neS (P : Program) (op : Op) (ev : Operand → Option Value) (H : AH) : Option Value :=
  match op with
  | .move x | .assign x => ev x
  | .pick c a b =>
    match ev c with
    | some vc => pickS vc (ev a) (ev b)
    | none => none
  | .nilCheck x => (ev x).bind pnil
  | .binOp op t x y _ =>
    match ev x, ev y with
    | some a, some b => binS P op t x y a b
    | _, _ => none
  | .unOp op _ x => (ev x).bind (unS op)
  | .convert src dst x =>
    match P.underlying src, P.underlying dst with
    | some _, some k => (ev x).bind (convS k)
    | _, _ => none
  | .makeInterface t x =>
    match P.underlying t with
    | some (.interface _) => none
    | some _ =>
      match ev x with
      | some v => some (.iface t v)
      | none => none
    | none => none
  | .makeFunc fn first captured =>
    match evs ev first.toList, evs ev captured.toList with
    | some xs, some ys => some (.func fn ⟨xs⟩ ⟨ys⟩)
    | _, _ => none
  | .fieldAddr s x f =>
    match P.underlying s with
    | some (.struct fs) =>
      match fs[f]? with
      | some fd =>
        match P.info? fd.type with
        | some i => bif Nat.beq i.size 0 then none else (ev x).bind (fa fd.offset)
        | none => none
      | none => none
    | _ => none
  | .field s x f =>
    match P.underlying s with
    | some (.struct fs) =>
      match fs[f]? with
      | some fd =>
        match P.underlying fd.type, P.info? fd.type with
        | some d, some i => bif isAggD d then (ev x).bind (fldN fd.offset i.size) else (ev x).bind (fld1 fd.offset)
        | _, _ => none
      | none => none
    | _ => none
  | .indexAddr t x i =>
    match P.underlying t, ev x, ev i with
    | some (.slice e), some x, some i =>
      match P.info? e with
      | some q => ixS q.size x i
      | none => none
    | some (.array len e), some x, some i =>
      match P.info? e with
      | some q => ixA len q.size x i
      | none => none
    | _, _, _ => none
  | .index t x i =>
    match P.underlying t, ev x, ev i with
    | some .string, some x, some i => idStr x i
    | some (.array len e), some x, some i =>
      match P.underlying e, P.info? e with
      | some d, some q => bif isAggD d then idAN len q.size x i else (bif Nat.beq q.size 1 then idA1 len x i else none)
      | _, _ => none
    | _, _, _ => none
  | .slice t x lo hi mx =>
    match P.underlying t, ev x, optO ev lo, optO ev hi, optO ev mx with
    | some .string, some x, some lo, some hi, some none => strS x lo hi
    | some (.slice e), some x, some lo, some hi, some mx =>
      match P.info? e with
      | some q => slcS q.size x lo hi mx H
      | none => none
    | _, _, _, _, _ => none
  | .extract t i => (ev t).bind (extr i)
  | .build t parts =>
    match P.underlying t, P.info? t, evp ev parts.toList with
    | some (.struct fs), some i, some ps =>
      match zeroL i, places P fs.toList with
      | some z, some pl =>
        match fillA pl z ps with
        | some cs => some (.agg ⟨cs⟩)
        | none => none
      | _, _ => none
    | some (.array n e), some i, some ps =>
      match zeroL i, P.info? e with
      | some z, some q =>
        match fillA (plArr q.size 0 n) z ps with
        | some cs => some (.agg ⟨cs⟩)
        | none => none
      | _, _ => none
    | _, _, _ => none
  | .load t x =>
    match P.underlying t, P.info? t, ev x with
    | some d, some i, some v => bif isAggD d then ldN i.size v H else ld1 v H
    | _, _, _ => none
  | .lookup t m k ok =>
    match P.underlying t, ev m, ev k with
    | some (.map kt et), some m, some k =>
      match P.underlying kt, P.info? et with
      | some d, some i =>
        match zero1 i with
        | some z => bif keyKind d && keyFits d k then lkS z ok m k H else none
        | none => none
      | _, _ => none
    | _, _, _ => none
  | .entry it => (ev it).bind fun v => entS v H
  | .call c =>
    match c.callee, evs ev c.args.toList with
    | .builtin .len, some [x] =>
      match (c.argTypes[0]?).bind P.underlying, x with
      | some .string, .string s => lenS (.string s) H
      | some (.slice _), .slice a n k => lenS (.slice a n k) H
      | some (.map _ _), .map r => lenS (.map r) H
      | _, _ => none
    | .builtin .cap, some [x] =>
      match (c.argTypes[0]?).bind P.underlying, x with
      | some (.slice _), .slice a n k => capS (.slice a n k) H
      | _, _ => none
    | .builtin .min, some [.int k a, .int _ b] => some (.int k (if b < a then b else a))
    | .builtin .max, some [.int k a, .int _ b] => some (.int k (if b > a then b else a))
    | _, _ => none
  | _ => none

def ptrTo (n : Nat) : Value := .pointer (some ⟨n, 0, none⟩)
def rowTo (l c : Nat) (n : Nat) : Value := .slice (some ⟨n, 0, none⟩) l c
def mapTo (n : Nat) : Value := .map (some n)
def mkS (zero : List Value) (T : TypeId) (bytes : Nat) (l c : Value) : Option (AObj × (Nat → Value)) :=
  match l, c with
  | .int _ l, .int _ c =>
    bif decide (0 ≤ l) && decide (l ≤ c) && decide (c ≤ 2 ^ 47) && Nat.ble (bytes * c.toNat) (2 ^ 48) then
      some (.cells (zrow zero c.toNat) T .fix, rowTo l.toNat c.toNat)
    else none
  | _, _ => none
/-- What an operation makes: the object, and what is said of it by its name. -/
def alS (P : Program) (op : Op) (ev : Operand → Option Value) : Option (AObj × (Nat → Value)) :=
  match op with
  | .alloc t =>
    match P.info? t with
    | some i =>
      match zeroL i with
      | some z => some (.cells z t .fix, ptrTo)
      | none => none
    | none => none
  | .box t x =>
    match ev x with
    | some v => bif (cellsL v).all plain then some (.cells (cellsL v) t .fix, ptrTo) else none
    | none => none
  | .buildSlice t len parts =>
    match P.underlying t, evp ev parts.toList with
    | some (.slice e), some ps =>
      match P.info? e with
      | some i =>
        match zeroL i with
        | some z =>
          bif Nat.ble (len * i.size) (2 ^ 24) && Nat.beq z.length i.size then
            match fillA (plArr i.size 0 len) (zrow z len) ps with
            | some cs => some (.cells cs e .fix, rowTo len len)
            | none => none
          else none
        | none => none
      | none => none
    | _, _ => none
  | .makeMap t none => some (.map [] 0, mapTo)
  | .makeMap t (some r) =>
    match P.underlying t, ev r with
    | some (.map _ _), some (.int _ _) => some (.map [] 0, mapTo)
    | _, _ => none
  | .makeSlice t l c =>
    match P.underlying t, ev l, ev c with
    | some (.slice e), some l, some c =>
      match P.info? e with
      | some i =>
        match zeroL i with
        | some z => bif Nat.beq z.length i.size && !(Nat.beq i.size 0) then mkS z e i.bytes l c else none
        | none => none
      | none => none
    | _, _, _ => none
  | _ => none

/-- What an operation yields, and leaves, that writes to memory. -/
def efS (P : Program) (op : Op) (ev : Operand → Option Value) (H : AH) : Option (Value × AH) :=
  match op with
  | .store t a x =>
    match P.info? t, ev a, ev x with
    | some i, some a, some x =>
      match stS i.size a x H with
      | some H' => some (.tuple #[], H')
      | none => none
    | _, _, _ => none
  | .mapUpdate t m k x | .insert t m k x =>
    match P.underlying t, ev m, ev k, ev x with
    | some (.map kt _), some m, some k, some x =>
      match P.underlying kt with
      | some d =>
        bif keyKind d && keyFits d k then
          match muS m k x H with
          | some H' => some (.tuple #[], H')
          | none => none
        else none
      | none => none
    | _, _, _, _ => none
  | .call c =>
    match c.callee, evs ev c.args.toList with
    | .builtin .append, some [s, x] =>
      match (c.argTypes[0]?).bind P.underlying, (c.argTypes[1]?).bind P.underlying with
      | some (.slice e), some d =>
        match P.info? e with
        | some i =>
          match zeroL i with
          | some z => bif srcKind d && !(Nat.beq i.bytes 0) && !(Nat.beq i.size 0) && Nat.beq z.length i.size then appS i.size i.bytes e s x H else none
          | none => none
        | none => none
      | _, _ => none
    | .builtin .copy, some [s, x] =>
      match (c.argTypes[0]?).bind P.underlying with
      | some (.slice e) =>
        match P.info? e with
        | some i => cpyS i.size s x H
        | none => none
      | _ => none
    | .builtin .clear, some [x] =>
      match (c.argTypes[0]?).bind P.underlying with
      | some (.slice e) =>
        match P.info? e with
        | some i =>
          match zeroL i with
          | some z => bif Nat.beq z.length i.size && !(Nat.beq i.size 0) then clrS z x H else none
          | none => none
        | none => none
      | _ => none
    | .builtin .delete, some [m, k] =>
      match (c.argTypes[0]?).bind P.underlying with
      | some (.map kt _) =>
        match P.underlying kt with
        | some d =>
          bif keyKind d && keyFits d k then
            match delS m k H with
            | some H' => some (.tuple #[], H')
            | none => none
          else none
        | none => none
      | _ => none
    | _, _ => none
  | _ => none

/-- Kinds of operations: such as leave memory alone (do they look at it?), such as make memory, such as write to it, calls. -/
inductive Cl | ne (reads : Bool) | al | ef | cl
  deriving DecidableEq
def clOf : Op → Cl
  | .move _ | .assign _ | .pick _ _ _ | .nilCheck _ | .binOp _ _ _ _ _ | .unOp _ _ _ | .convert _ _ _ | .makeInterface _ _ | .makeFunc _ _ _ | .fieldAddr _ _ _ | .field _ _ _
  | .indexAddr _ _ _ | .index _ _ _ | .extract _ _ | .build _ _ => .ne false
  | .slice _ _ _ _ _ | .load _ _ | .lookup _ _ _ _ | .entry _ => .ne true
  | .alloc _ | .box _ _ | .buildSlice _ _ _ | .makeMap _ _ | .makeSlice _ _ _ => .al
  | .call ⟨.builtin .len, _, _⟩ | .call ⟨.builtin .cap, _, _⟩ => .ne true
  | .call ⟨.builtin .min, _, _⟩ | .call ⟨.builtin .max, _, _⟩ => .ne false
  | .call ⟨.value _, _, _⟩ | .call ⟨.invoke _ _, _, _⟩ | .range _ _ | .next _ _ => .cl
  | _ => .ef
end
end Go.Ab

namespace Go.Ab
open Go
set_option linter.unusedVariables false
set_option linter.unusedSimpArgs false

section values
variable {ρ : Ren}
theorem CV.agg_inv {xs : List Value} {v' : Value} (h : CV ρ (.agg ⟨xs⟩) v') : ∃ xs', v' = .agg ⟨xs'⟩ ∧ CVs ρ xs xs' := by
  cases h with | agg h => exact ⟨_, rfl, h⟩
theorem CV.tuple_inv {xs : List Value} {v' : Value} (h : CV ρ (.tuple ⟨xs⟩) v') : ∃ xs', v' = .tuple ⟨xs'⟩ ∧ CVs ρ xs xs' := by
  cases h with | tuple h => exact ⟨_, rfl, h⟩
theorem CV.int_inv {k n} {v' : Value} (h : CV ρ (.int k n) v') : v' = .int k n := by cases h; rfl
theorem CV.bool_inv {b} {v' : Value} (h : CV ρ (.bool b) v') : v' = .bool b := by cases h; rfl
theorem CV.string_inv {b} {v' : Value} (h : CV ρ (.string b) v') : v' = .string b := by cases h; rfl
theorem CV.ptr_inv {n off sp} {v' : Value} (h : CV ρ (.pointer (some ⟨n, off, sp⟩)) v') : sp = none ∧ ∃ l, ρ n = some l ∧ v' = .pointer (some ⟨l.blk, l.shift + off, none⟩) := by
  cases h with | ptr e => exact ⟨rfl, _, e, rfl⟩
theorem CV.slice_inv {n off sp len cap} {v' : Value} (h : CV ρ (.slice (some ⟨n, off, sp⟩) len cap) v') :
    (sp = none ∨ sp = some 0) ∧ ∃ l, ρ n = some l ∧ v' = .slice (some ⟨l.blk, l.shift + off, none⟩) len (cap + if sp = none then l.extra else 0) := by
  cases h with
  | slice e => exact ⟨.inl rfl, _, e, by simp⟩
  | sliceX e => exact ⟨.inr rfl, _, e, by simp⟩
theorem CV.map_inv {n} {v' : Value} (h : CV ρ (.map (some n)) v') : ∃ l, ρ n = some l ∧ v' = .map (some l.blk) := by
  cases h with | map e => exact ⟨_, e, rfl⟩
theorem CV.of_bare_eq {v v' : Value} (hb : bare v = true) (h : CV ρ v v') : v' = v := by
  cases h <;> first | rfl | (simp [bare] at hb)
theorem CV.bareKey_eq {v v' : Value} (hb : bareKey v = true) (h : CV ρ v v') : v' = v := by
  cases h <;> first | rfl | (simp [bareKey] at hb)
theorem CVs.bare_eq : ∀ {xs ys : List Value}, xs.all bare = true → CVs ρ xs ys → ys = xs
  | _, _, _, .nil => rfl
  | _, _, h, .cons a b => by simp at h; rw [a.of_bare_eq h.1, CVs.bare_eq (by simpa using h.2) b]
theorem CVs.of_bare : ∀ {xs : List Value}, xs.all bare = true → CVs ρ xs xs
  | [], _ => .nil
  | x :: xs, h => by simp at h; exact .cons (.of_bare h.1) (.of_bare (by simpa using h.2))
theorem CV.cellsL {v v' : Value} (h : CV ρ v v') : CVs ρ (Ab.cellsL v) v'.cells.toList := by
  cases h with
  | agg h => exact h
  | tuple h => exact .cons (.tuple h) .nil
  | bool b => exact .cons (.bool b) .nil
  | int k n => exact .cons (.int k n) .nil
  | string s => exact .cons (.string s) .nil
  | ptrNil => exact .cons .ptrNil .nil
  | ptr e => exact .cons (.ptr e) .nil
  | sliceNil a b => exact .cons (.sliceNil a b) .nil
  | slice e => exact .cons (.slice e) .nil
  | sliceX e => exact .cons (.sliceX e) .nil
  | mapNil => exact .cons .mapNil .nil
  | map e => exact .cons (.map e) .nil
  | nilFunc => exact .cons .nilFunc .nil
  | func a b => exact .cons (.func a b) .nil
  | nilIface => exact .cons .nilIface .nil
  | iface a => exact .cons (.iface a) .nil
theorem CV.plain {v v' : Value} (h : CV ρ v v') (hp : Ab.plain v = true) : v'.oneCell' = true := by
  cases h <;> first | rfl | (simp [Ab.plain] at hp)
theorem CVs.plain : ∀ {xs ys : List Value}, CVs ρ xs ys → xs.all Ab.plain = true → ∀ v ∈ ys, v.oneCell' = true
  | _, _, .nil, _, v, hv => by simp at hv
  | _, _, .cons a b, h, v, hv => by
    simp at h hv
    rcases hv with rfl | hv
    · exact a.plain h.1
    · exact b.plain (by simpa using h.2) v hv
end values

/-- The run of something of which only the value counts. -/
theorem run_val {P : Program} {w w' : World} {s : Sem Value} {v : Value} (h : s.run P w = .ok v w') :
    ((do pure (Next.value (← s))) : Sem Next).run P w = .ok (.value v) w' := by simp [h]

theorem eq1_sound {ρ : Ren} {P : Program} {w : World} {t : TypeId} {k : TypeDesc} {x y x' y' : Value} {b : Bool} (hk : P.underlying t = some k)
    (h : eq1 k x y = some b) (hx : CV ρ x x') (hy : CV ρ y y') (d : Nat) : (Op.equalIn (d + 1) t x' y').run P w = .ok b w := by
  rw [Op.equalIn]
  simp only [Sem.run_bind, run_underlying hk, Result.andThen_ok]
  unfold eq1 at h
  split at h
  · cases hx; cases hy; cases h; rfl
  · rename_i j a k b
    cases hx; cases hy
    by_cases e : j = k
    · subst e; simp at h; subst h; simp
    · simp [e] at h
  · cases hx; cases hy; cases h; rfl
  · cases hx; cases h; cases hy <;> rfl
  · cases hx; cases hy; cases h; rfl
  · cases hx; cases hy; cases h; rfl
  · cases hx; cases hy; cases h; rfl
  · cases hx; cases hy; cases h; rfl
  · cases hx; cases h; cases hy <;> rfl
  · cases hx <;> cases hy <;> cases h <;> rfl
  · cases hx; cases h; cases hy <;> rfl
  · cases hx; cases hy; cases h; rfl
  · cases hx; cases hy; cases h; rfl
  · cases hx; cases hy; cases h; rfl
  · cases hx; cases hy; cases h; rfl
  · cases h

theorem run_isAgg {P : Program} {w : World} {t : TypeId} {k : TypeDesc} (hk : P.underlying t = some k) : (isAgg t).run P w = .ok (isAggD k) w := by
  simp only [isAgg, Sem.run_bind, run_underlying hk, Result.andThen_ok]
  cases k <;> rfl
theorem run_sizeOf {P : Program} {w : World} {t : TypeId} {i : TypeInfo} (h : P.info? t = some i) : (sizeOf t).run P w = .ok i.size w := by
  simp [sizeOf, typeInfo, h]
theorem run_part1 {P : Program} {w : World} {t : TypeId} {k : TypeDesc} (hk : P.underlying t = some k) (ha : isAggD k = false) {cs : Array Value} {off : Nat} {v : Value}
    (h : cs[off]? = some v) : (part t cs off).run P w = .ok v w := by
  simp only [part, Sem.run_bind, run_isAgg hk, ha, Result.andThen_ok]
  simp [h]
theorem run_partN {P : Program} {w : World} {t : TypeId} {k : TypeDesc} {i : TypeInfo} (hk : P.underlying t = some k) (hi : P.info? t = some i) (ha : isAggD k = true) (cs : Array Value) (off : Nat) :
    (part t cs off).run P w = .ok (.agg (cs.extract off (off + i.size))) w := by
  simp only [part, Sem.run_bind, run_isAgg hk, ha, Result.andThen_ok]
  simp [run_sizeOf hi]
theorem eq1_notAgg {k : TypeDesc} {x y : Value} {b : Bool} (h : eq1 k x y = some b) : isAggD k = false := by
  unfold eq1 at h
  split at h <;> first | rfl | cases h
theorem eqFs_sound {ρ : Ren} {P : Program} {w : World} {xs ys xs' ys' : List Value} (hx : CVs ρ xs xs') (hy : CVs ρ ys ys') (d : Nat) : ∀ (fs : List Field) {b : Bool},
    eqFs P xs ys fs = some b → (Op.eqFields (d + 1) ⟨xs'⟩ ⟨ys'⟩ fs).run P w = .ok b w
  | [], b, h => by simp [eqFs] at h; subst h; rfl
  | f :: fs, b, h => by
    rw [eqFs] at h
    cases hn : (f.name == "_") with
    | true => rw [hn] at h; cases h
    | false =>
      rw [hn] at h
      have hn' : f.name ≠ "_" := by simpa using hn
      simp only [cond_false] at h
      split at h
      · rename_i k x y hk hxo hyo
        obtain ⟨x', ex, cx⟩ := hx.get _ hxo
        obtain ⟨y', ey, cy⟩ := hy.get _ hyo
        cases he : eq1 k x y with
        | none => rw [he] at h; cases h
        | some r =>
          rw [he] at h
          have ha := eq1_notAgg he
          have e1 : (part f.type (⟨xs'⟩ : Array Value) f.offset).run P w = .ok x' w := run_part1 hk ha (by simpa using ex)
          have e2 : (part f.type (⟨ys'⟩ : Array Value) f.offset).run P w = .ok y' w := run_part1 hk ha (by simpa using ey)
          have e3 := eq1_sound (w := w) hk he cx cy d
          rw [Op.eqFields, if_pos hn']
          simp only [Sem.run_bind, e1, e2, e3, Result.andThen_ok, Sem.run_ite]
          cases r with
          | true => simp at h ⊢; exact eqFs_sound hx hy d fs h
          | false => simp at h ⊢; exact h
      · cases h
theorem eqS_sound {ρ : Ren} {P : Program} {w : World} {t : TypeId} {x y x' y' : Value} {b : Bool} (h : eqS P t x y = some b) (hx : CV ρ x x') (hy : CV ρ y y') :
    (Op.equal t x' y').run P w = .ok b w ∧ (∀ xs ys, x = .agg xs → y = .agg ys → P.eqGuardType P.depth t = false) := by
  unfold eqS at h
  split at h
  · rename_i xs ys
    split at h
    · rename_i fs hu
      obtain ⟨xs', rfl, cx⟩ := hx.agg_inv
      obtain ⟨ys', rfl, cy⟩ := hy.agg_inv
      cases hs : P.stoodInHeld t with
      | true => rw [hs] at h; cases h
      | false =>
        cases hg : P.eqGuardType P.depth t with
        | true => rw [hs, hg] at h; cases h
        | false =>
          rw [hs, hg] at h
          simp only [Bool.or_self, cond_false] at h
          refine ⟨?_, fun _ _ _ _ => rfl⟩
          have hf : P.fieldsOf t = fs := by simp [Program.fieldsOf, hu]
          show (Op.equalIn (9999 + 1) t _ _).run P w = _
          rw [run_equalIn_struct w 9999 t _ _ (by rw [hf]; exact hu) hs, hf]
          exact eqFs_sound cx cy 9998 _ h
    · cases h
  · rename_i hno
    split at h
    · rename_i k hk
      refine ⟨eq1_sound hk h hx hy 9999, fun xs ys e1 e2 => ?_⟩
      exact absurd e2 (by cases xs; cases ys; exact hno _ _ e1)
    · cases h
theorem ishift_sound {P : Program} {w : World} {op : BinOp} {k k' : IntKind} {a b : Int} {v : Value} (h : ishift op k a b = some v) :
    (Op.shift op k a k' b).run P w = .ok v w ∧ bare v = true := by
  unfold ishift at h
  by_cases hb : b < 0
  · simp [hb] at h
  · simp only [hb, decide_false, cond_false] at h
    unfold Op.shift
    rw [if_neg hb]
    cases op <;> simp at h <;> subst h <;> exact ⟨rfl, rfl⟩
theorem ibin_sound {P : Program} {w : World} {op : BinOp} {t : TypeId} {k : IntKind} {a b : Int} {v : Value} (hs : isShift op = false) (h : ibin op k a b = some v) :
    (binOp op t (.int k a) (.int k b)).run P w = .ok v w ∧ bare v = true := by
  cases op <;> simp only [isShift, Bool.true_eq_false] at hs <;> simp only [ibin, Option.some.injEq, reduceCtorEq] at h
  case quo => by_cases hb : b = 0 <;> simp [hb] at h; subst h; exact ⟨by simp [binOp, Op.intDiv, hb], rfl⟩
  case rem => by_cases hb : b = 0 <;> simp [hb] at h; subst h; exact ⟨by simp [binOp, Op.intDiv, hb], rfl⟩
  all_goals (subst h; exact ⟨by simp [binOp, Op.intArith, Op.intBits, Op.intCmp], rfl⟩)
theorem eqGuard_plain {P : Program} {w : World} {op : BinOp} {t : TypeId} {ox oy : Operand} {x y : Value}
    (h1 : ¬ (x = .nilIface ∧ y = .nilIface)) (h2 : ∀ xs ys, x = .agg xs → y = .agg ys → False) : (eqGuard op t ox oy x y).run P w = .ok () w := by
  unfold eqGuard
  cases op <;> first
    | rfl
    | (simp only [Bool.not_true, Bool.false_eq_true, if_false, Sem.run_bind, Sem.run_pure, Result.andThen_ok]
       split
       · exact absurd ⟨rfl, rfl⟩ h1
       · exact (h2 _ _ rfl rfl).elim
       · rfl)
theorem eqGuard_const {P : Program} {w : World} {op : BinOp} {t : TypeId} {ox oy : Operand} (h : (isConstO ox || isConstO oy) = true) :
    (eqGuard op t ox oy .nilIface .nilIface).run P w = .ok () w := by
  unfold eqGuard
  cases op <;> first
    | rfl
    | (cases ox <;> cases oy <;> first | rfl | (simp [isConstO] at h))
theorem binOp_eql {P : Program} {w : World} {t : TypeId} {x y : Value} {b : Bool} (hi : ∀ k a, x ≠ .int k a) (hf : ∀ k a, x ≠ .float k a) (hc : ∀ k a c, x ≠ .complex k a c) (hs : ∀ a, x ≠ .string a)
    (h : (Op.equal t x y).run P w = .ok b w) : (binOp .eql t x y).run P w = .ok (.bool b) w ∧ (binOp .neq t x y).run P w = .ok (.bool (!b)) w := by
  cases x <;> simp_all [binOp]
theorem eqS_int {P : Program} {t : TypeId} {k : IntKind} {a : Int} {y : Value} {b : Bool} (h : eqS P t (.int k a) y = some b) : ∃ k' c, y = .int k' c := by
  cases y <;> first
    | exact ⟨_, _, rfl⟩
    | (exfalso
       simp only [eqS] at h
       cases hu : P.underlying t with
       | none => rw [hu] at h; cases h
       | some d => rw [hu] at h; cases d <;> simp [eq1] at h)
theorem eqS_string {P : Program} {t : TypeId} {a : ByteArray} {y : Value} {b : Bool} (h : eqS P t (.string a) y = some b) : ∃ c, y = .string c := by
  cases y <;> first
    | exact ⟨_, rfl⟩
    | (exfalso
       simp only [eqS] at h
       cases hu : P.underlying t with
       | none => rw [hu] at h; cases h
       | some d => rw [hu] at h; cases d <;> simp [eq1] at h)

theorem binS_sound {ρ : Ren} {P : Program} {w : World} {op : BinOp} {t : TypeId} {ox oy : Operand} {x y x' y' v : Value} (h : binS P op t ox oy x y = some v) (hx : CV ρ x x') (hy : CV ρ y y') :
    ((do eqGuard op t ox oy x' y'; binOp op t x' y') : Sem Value).run P w = .ok v w ∧ bare v = true := by
  replace h := binS_of h
  unfold binS0 at h
  split at h
  · rename_i k a k' b
    obtain rfl := hx.int_inv
    obtain rfl := hy.int_inv
    have hg : (eqGuard op t ox oy (.int k a) (.int k' b)).run P w = .ok () w := eqGuard_plain (by simp) (by simp)
    simp only [Sem.run_bind, hg, Result.andThen_ok]
    cases hs : isShift op with
    | true =>
      rw [hs] at h
      have := ishift_sound (P := P) (w := w) (k' := k') (by simpa using h)
      cases op <;> simp only [isShift, Bool.false_eq_true] at hs <;> exact this
    | false =>
      rw [hs] at h
      by_cases hk : k = k'
      · subst hk
        simp at h
        exact ibin_sound hs h
      · simp [hk] at h
  · rename_i a b
    obtain rfl := hx.string_inv
    obtain rfl := hy.string_inv
    have hg : (eqGuard op t ox oy (.string a) (.string b)).run P w = .ok () w := eqGuard_plain (by simp) (by simp)
    simp only [Sem.run_bind, hg, Result.andThen_ok]
    unfold sbin at h
    split at h
    · cases h; exact ⟨by simp [binOp, Op.stringOp, ByteArray.toList_eq], rfl⟩
    · cases h; exact ⟨by simp [binOp, Op.stringOp, ByteArray.toList_eq], rfl⟩
    · cases hb : Nat.ble (a.size + b.size) 9223372036854775807 with
      | false => rw [hb] at h; cases h
      | true =>
        rw [hb] at h; cases h
        have := Nat.le_of_ble_eq_true hb
        refine ⟨?_, rfl⟩
        simp only [binOp, Op.stringOp]
        rw [if_neg (by simp [IntKind.max, IntKind.signed, IntKind.bits]; omega)]
        rfl
    · cases h
  · cases hx; cases hy
    cases hc : (isConstO ox || isConstO oy) with
    | false => rw [hc] at h; cases h
    | true =>
      rw [hc] at h
      simp only [cond_true] at h
      simp only [Sem.run_bind, eqGuard_const hc, Result.andThen_ok]
      split at h
      · obtain ⟨b, e, rfl⟩ := Option.map_eq_some_iff.1 h
        exact ⟨(binOp_eql (by simp) (by simp) (by simp) (by simp) (eqS_sound (ρ := ρ) e .nilIface .nilIface).1).1, rfl⟩
      · obtain ⟨b, e, rfl⟩ := Option.map_eq_some_iff.1 h
        exact ⟨(binOp_eql (by simp) (by simp) (by simp) (by simp) (eqS_sound (ρ := ρ) e .nilIface .nilIface).1).2, rfl⟩
      · cases h
  · rename_i hni hns hnn
    have key : ∀ b, eqS P t x y = some b → ((eqGuard op t ox oy x' y').run P w = .ok () w) ∧ (binOp .eql t x' y').run P w = .ok (.bool b) w ∧ (binOp .neq t x' y').run P w = .ok (.bool (!b)) w := by
      intro b e
      obtain ⟨e1, e2⟩ := eqS_sound (w := w) e hx hy
      have hdir : (∀ k a, x' ≠ .int k a) ∧ (∀ k a, x' ≠ .float k a) ∧ (∀ k a c, x' ≠ .complex k a c) ∧ (∀ a, x' ≠ .string a) := by
        refine ⟨fun k a e' => ?_, fun k a e' => ?_, fun k a c e' => ?_, fun a e' => ?_⟩
        · subst e'; cases hx
          obtain ⟨k', c, rfl⟩ := eqS_int e
          exact hni _ _ _ _ rfl rfl
        · subst e'; cases hx
        · subst e'; cases hx
        · subst e'; cases hx
          obtain ⟨c, rfl⟩ := eqS_string e
          exact hns _ _ rfl rfl
      obtain ⟨b1, b2⟩ := binOp_eql hdir.1 hdir.2.1 hdir.2.2.1 hdir.2.2.2 e1
      refine ⟨?_, b1, b2⟩
      by_cases hag : ∃ xs ys, x' = .agg xs ∧ y' = .agg ys
      · obtain ⟨xs', ys', rfl, rfl⟩ := hag
        refine run_eqGuard_agg w op t ox oy xs' ys' ?_
        cases hx with
        | agg a => cases hy with
          | agg b => exact e2 _ _ rfl rfl
      · refine eqGuard_plain ?_ (fun xs ys e1 e2 => hag ⟨xs, ys, e1, e2⟩)
        rintro ⟨rfl, rfl⟩
        cases hx; cases hy
        exact hnn rfl rfl
    split at h
    · obtain ⟨b, e, rfl⟩ := Option.map_eq_some_iff.1 h
      obtain ⟨k1, k2, k3⟩ := key b e
      simp only [Sem.run_bind, k1, Result.andThen_ok]
      exact ⟨k2, rfl⟩
    · obtain ⟨b, e, rfl⟩ := Option.map_eq_some_iff.1 h
      obtain ⟨k1, k2, k3⟩ := key b e
      simp only [Sem.run_bind, k1, Result.andThen_ok]
      exact ⟨k3, rfl⟩
    · cases h
end Go.Ab

namespace Go.Ab
open Go
set_option linter.unusedVariables false
set_option linter.unusedSimpArgs false
variable {cx : Cx} {ρ : Ren} {H : AH} {w : World}

theorem unS_sound {P : Program} {op : UnOp} {x x' v : Value} (h : unS op x = some v) (hx : CV ρ x x') : (Op.unary op x').run P w = .ok v w ∧ bare v = true := by
  unfold unS at h
  split at h
  · obtain rfl := hx.int_inv
    cases op <;> first | (cases h; exact ⟨rfl, rfl⟩) | cases h
  · obtain rfl := hx.bool_inv
    cases op <;> first | (cases h; exact ⟨rfl, rfl⟩) | cases h
  · cases h
theorem convS_sound {P : Program} {src dst : TypeId} {d k : TypeDesc} {x x' v : Value} (hs : P.underlying src = some d) (hd : P.underlying dst = some k) (h : convS k x = some v) (hx : CV ρ x x') :
    (convert src dst x').run P w = .ok v w ∧ bare v = true := by
  unfold convS at h
  split at h
  · obtain rfl := hx.int_inv
    cases h
    exact ⟨by simp [convert, run_underlying hs, run_underlying hd, Conv.intToInt], rfl⟩
  · obtain rfl := hx.string_inv
    cases h
    exact ⟨by simp [convert, run_underlying hs, run_underlying hd], rfl⟩
  · cases h
theorem pnil_sound {x x' v : Value} (h : pnil x = some v) (hx : CV ρ x x') (dst : Option Nat) (t : TypeId) (pos : String) (after : Array Edge) (guard) (ρc : Operand → Value) (o : Operand) (ho : ρc o = x') (P : Program) :
    (execOp ρc ⟨dst, .nilCheck o, t, pos, after, guard⟩).run P w = .ok (.value x') w ∧ CV ρ v x' := by
  unfold pnil at h
  split at h
  · cases h
    rename_i a
    obtain ⟨m, off, sp⟩ := a
    obtain ⟨rfl, l, e, rfl⟩ := hx.ptr_inv
    simp only [execOp, ho]
    exact ⟨rfl, hx⟩
  · cases h
    cases hx with
    | func a b => simp only [execOp, ho]; exact ⟨rfl, .func a b⟩
  · cases h
    cases hx with
    | iface a => simp only [execOp, ho]; exact ⟨rfl, .iface a⟩
  · cases h

theorem add_eq (b o n : Nat) : (⟨b, o, none⟩ : Addr).add n = ⟨b, o + n, none⟩ := by
  unfold Addr.add; split <;> simp_all
theorem fa_sound {P : Program} {s t : TypeId} {f n : Nat} {fs : Array Field} {fd : Field} {i : TypeInfo} {x x' v : Value} (hs : P.underlying s = some (.struct fs)) (hf : fs[f]? = some fd)
    (hi : P.info? fd.type = some i) (hz : Nat.beq i.size 0 = false) (h : fa fd.offset x = some v) (hx : CV ρ x x') : ∃ v', (Instr.fieldAt s x' f).run P w = .ok v' w ∧ CV ρ v v' := by
  unfold fa at h
  split at h
  · rename_i m off
    cases h
    obtain ⟨-, l, e, rfl⟩ := hx.ptr_inv
    have hz' : i.size ≠ 0 := Nat.ne_of_beq_eq_false hz
    refine ⟨.pointer (some ⟨l.blk, l.shift + (off + fd.offset), none⟩), ?_, .ptr e⟩
    simp [Instr.fieldAt, run_underlying hs, hf, Instr.sureAddr, fieldPlace, run_sizeOf hi, hz', add_eq, Nat.add_assoc]
  · cases h
theorem fld1_sound {P : Program} {s : TypeId} {f : Nat} {fs : Array Field} {fd : Field} {d : TypeDesc} {x x' v : Value} (hs : P.underlying s = some (.struct fs)) (hf : fs[f]? = some fd)
    (hd : P.underlying fd.type = some d) (ha : isAggD d = false) (h : fld1 fd.offset x = some v) (hx : CV ρ x x') : ∃ v', (Instr.field s x' f).run P w = .ok v' w ∧ CV ρ v v' := by
  unfold fld1 at h
  split at h
  · obtain ⟨xs', rfl, c⟩ := hx.agg_inv
    obtain ⟨v', e, cv⟩ := c.get _ h
    exact ⟨v', by simp [Instr.field, run_underlying hs, hf, asAgg, run_part1 hd ha (cs := ⟨xs'⟩) (by simpa using e)], cv⟩
  · cases h
theorem fldN_sound {P : Program} {s : TypeId} {f : Nat} {fs : Array Field} {fd : Field} {d : TypeDesc} {i : TypeInfo} {x x' v : Value} (hs : P.underlying s = some (.struct fs)) (hf : fs[f]? = some fd)
    (hd : P.underlying fd.type = some d) (hi : P.info? fd.type = some i) (ha : isAggD d = true) (h : fldN fd.offset i.size x = some v) (hx : CV ρ x x') : ∃ v', (Instr.field s x' f).run P w = .ok v' w ∧ CV ρ v v' := by
  unfold fldN at h
  split at h
  · cases h
    obtain ⟨xs', rfl, c⟩ := hx.agg_inv
    refine ⟨.agg ⟨(xs'.drop fd.offset).take i.size⟩, ?_, .agg ((c.drop _).take _)⟩
    have : (⟨xs'⟩ : Array Value).extract fd.offset (fd.offset + i.size) = ⟨(xs'.drop fd.offset).take i.size⟩ := by simp [List.extract_eq_take_drop]
    simp [Instr.field, run_underlying hs, hf, asAgg, run_partN hd hi ha, this]
  · cases h
theorem ixS_sound {P : Program} {t e : TypeId} {i : TypeInfo} {x x' j j' v : Value} (ht : P.underlying t = some (.slice e)) (hi : P.info? e = some i) (h : ixS i.size x j = some v)
    (hx : CV ρ x x') (hj : CV ρ j j') : ∃ v', (Instr.indexAt t x' j').run P w = .ok v' w ∧ CV ρ v v' := by
  unfold ixS at h
  split at h
  · rename_i n off sp len cap k q
    obtain rfl := hj.int_inv
    obtain ⟨hsp, l, e', rfl⟩ := hx.slice_inv
    by_cases hb : 0 ≤ q ∧ q < (len : Int)
    · simp [hb] at h
      subst h
      refine ⟨.pointer (some ⟨l.blk, l.shift + (off + q.toNat * i.size), none⟩), ?_, .ptr e'⟩
      simp [Instr.indexAt, asIntOf, run_underlying ht, hb, run_sizeOf hi, add_eq, Nat.add_assoc]
    · by_cases h1 : 0 ≤ q
      · have h2 : ¬ q < (len : Int) := fun h2 => hb ⟨h1, h2⟩
        simp [h2] at h
      · simp [h1] at h
  · cases h
theorem ixA_sound {P : Program} {t e : TypeId} {len : Nat} {i : TypeInfo} {x x' j j' v : Value} (ht : P.underlying t = some (.array len e)) (hi : P.info? e = some i) (h : ixA len i.size x j = some v)
    (hx : CV ρ x x') (hj : CV ρ j j') : ∃ v', (Instr.indexAt t x' j').run P w = .ok v' w ∧ CV ρ v v' := by
  unfold ixA at h
  split at h
  · rename_i n off k q
    obtain rfl := hj.int_inv
    obtain ⟨-, l, e', rfl⟩ := hx.ptr_inv
    by_cases hb : 0 ≤ q ∧ q < (len : Int)
    · simp [hb] at h
      subst h
      refine ⟨.pointer (some ⟨l.blk, l.shift + (off + q.toNat * i.size), none⟩), ?_, .ptr e'⟩
      simp [Instr.indexAt, asIntOf, run_underlying ht, hb, run_sizeOf hi, add_eq, Nat.add_assoc, Instr.sureAddr]
    · by_cases h1 : 0 ≤ q
      · have h2 : ¬ q < (len : Int) := fun h2 => hb ⟨h1, h2⟩
        simp [h2] at h
      · simp [h1] at h
  · cases h

theorem mk_get (L : List Value) (k : Nat) : (⟨L⟩ : Array Value)[k]? = L[k]? := by simp
/-- A row's cells, where they lie. -/
theorem Rel.row (hR : Rel cx ρ H w) {n : Nat} {c : List Value} {T : TypeId} {k : CK} {l : Loc} (hn : H.get n = some (.cells c T k)) (hl : ρ n = some l) :
    ∃ C T' z mid, w.heap[l.blk]? = some (.cells C T' z) ∧ CVs ρ c mid ∧ (∀ j v, mid[j]? = some v → C[l.shift + j]? = some v) := by
  obtain ⟨l', e, o⟩ := hR.obj n _ hn
  rw [hl] at e; cases e
  cases k with
  | ro =>
    obtain ⟨C, T', z, e1, e2, -⟩ := o
    refine ⟨C, T', z, _, hR.frame _ _ (cx.sub _ _ e1), e2, fun j v h => ?_⟩
    have h1 : (C.toList.drop l.shift)[j]? = some v := by
      rw [List.getElem?_take] at h
      split at h
      · exact h
      · cases h
    rw [List.getElem?_drop] at h1
    simpa using h1
  | fix =>
    obtain ⟨-, C, e1, -, pre, mid, post, rfl, e3, e4, -⟩ := o
    refine ⟨⟨_⟩, T, (0, 0), mid, e1, e4, fun j v h => ?_⟩
    rw [mk_get]
    rw [List.getElem?_append_right (by omega), ← e3, Nat.add_sub_cancel_left, List.getElem?_append_left]
    · exact h
    · have := List.getElem?_eq_some_iff.1 h; exact this.1
  | opn =>
    obtain ⟨-, C, e1, -, pre, mid, post, rfl, e3, e4, -⟩ := o
    refine ⟨⟨_⟩, T, (0, 0), mid, e1, e4, fun j v h => ?_⟩
    rw [mk_get]
    rw [List.getElem?_append_right (by omega), ← e3, Nat.add_sub_cancel_left, List.getElem?_append_left]
    · exact h
    · have := List.getElem?_eq_some_iff.1 h; exact this.1
theorem Rel.cell (hR : Rel cx ρ H w) {n : Nat} {c : List Value} {T : TypeId} {k : CK} {l : Loc} (hn : H.get n = some (.cells c T k)) (hl : ρ n = some l) {off : Nat} {v : Value} (hv : c[off]? = some v) :
    ∃ v', w.cell? ⟨l.blk, l.shift + off, none⟩ = some v' ∧ CV ρ v v' := by
  obtain ⟨C, T', z, mid, e1, e2, e3⟩ := hR.row hn hl
  obtain ⟨v', h1, h2⟩ := e2.get _ hv
  exact ⟨v', by simp [World.cell?, e1, e3 _ _ h1], h2⟩
/-- Many cells at once. -/
theorem Rel.cellsAt (hR : Rel cx ρ H w) {n : Nat} {c : List Value} {T : TypeId} {k : CK} {l : Loc} (hn : H.get n = some (.cells c T k)) (hl : ρ n = some l) (off s : Nat) :
    ∃ xs, CVs ρ ((c.drop off).take s) xs ∧ ∀ j v, xs[j]? = some v → w.cell? ((⟨l.blk, l.shift + off, none⟩ : Addr).add j) = some v := by
  obtain ⟨C, T', z, mid, e1, e2, e3⟩ := hR.row hn hl
  refine ⟨(mid.drop off).take s, (e2.drop off).take s, fun j v h => ?_⟩
  rw [List.getElem?_take] at h
  split at h
  · rw [List.getElem?_drop] at h
    rw [add_eq, Nat.add_assoc]
    simp [World.cell?, e1, e3 _ _ h]
  · cases h
theorem ld1_sound (hR : Rel cx ρ H w) {t : TypeId} {d : TypeDesc} {x x' v : Value} (hd : cx.P.underlying t = some d) (ha : isAggD d = false) (h : ld1 x H = some v) (hx : CV ρ x x') :
    ∃ v', (Instr.loadAt t x').run cx.P w = .ok v' w ∧ CV ρ v v' := by
  unfold ld1 at h
  split at h
  · rename_i n off
    split at h
    · rename_i c T k hn
      obtain ⟨-, l, e, rfl⟩ := hx.ptr_inv
      obtain ⟨v', h1, h2⟩ := hR.cell hn e h
      exact ⟨v', by simp [Instr.loadAt, Instr.sureAddr, loadVar, run_isAgg hd, ha, h1], h2⟩
    · cases h
  · cases h
theorem ldN_sound (hR : Rel cx ρ H w) {t : TypeId} {d : TypeDesc} {i : TypeInfo} {x x' v : Value} (hd : cx.P.underlying t = some d) (hi : cx.P.info? t = some i) (ha : isAggD d = true)
    (h : ldN i.size x H = some v) (hx : CV ρ x x') : ∃ v', (Instr.loadAt t x').run cx.P w = .ok v' w ∧ CV ρ v v' := by
  unfold ldN at h
  split at h
  · rename_i n off
    split at h
    · rename_i c T k hn
      obtain ⟨-, l, e, rfl⟩ := hx.ptr_inv
      cases hb : Nat.beq ((c.drop off).take i.size).length i.size with
      | false => rw [hb] at h; cases h
      | true =>
        rw [hb] at h; cases h
        have hlen := Nat.eq_of_beq_eq_true hb
        obtain ⟨xs, h1, h2⟩ := hR.cellsAt hn e off i.size
        have hl := run_loadCells_list (P := cx.P) w _ xs h2
        rw [← h1.length, hlen] at hl
        exact ⟨.agg ⟨xs⟩, by simp [Instr.loadAt, Instr.sureAddr, loadVar, run_isAgg hd, ha, run_sizeOf hi, hl], .agg h1⟩
    · cases h
  · cases h
theorem extr_sound {P : Program} {i : Nat} {x x' v : Value} (h : extr i x = some v) (hx : CV ρ x x') : ∃ v', (Instr.extract x' i).run P w = .ok v' w ∧ CV ρ v v' := by
  unfold extr at h
  split at h
  · obtain ⟨xs', rfl, c⟩ := hx.tuple_inv
    obtain ⟨v', e, cv⟩ := c.get _ h
    exact ⟨v', by simp [Instr.extract, e], cv⟩
  · cases h
theorem idA1_sound {P : Program} {t e : TypeId} {len : Nat} {d : TypeDesc} {i : TypeInfo} {x x' j j' v : Value} (ht : P.underlying t = some (.array len e)) (hd : P.underlying e = some d) (hi : P.info? e = some i)
    (ha : isAggD d = false) (h1 : i.size = 1) (h : idA1 len x j = some v) (hx : CV ρ x x') (hj : CV ρ j j') : ∃ v', (Instr.index t x' j').run P w = .ok v' w ∧ CV ρ v v' := by
  unfold idA1 at h
  split at h
  · rename_i xs k q
    obtain rfl := hj.int_inv
    obtain ⟨xs', rfl, c⟩ := hx.agg_inv
    by_cases hb : 0 ≤ q ∧ q < (len : Int)
    · simp [hb] at h
      obtain ⟨v', e', cv⟩ := c.get _ h
      exact ⟨v', by simp [Instr.index, asIntOf, run_underlying ht, hb, run_sizeOf hi, h1, run_part1 hd ha (cs := ⟨xs'⟩) (by simpa using e')], cv⟩
    · by_cases h1 : 0 ≤ q
      · have h2 : ¬ q < (len : Int) := fun h2 => hb ⟨h1, h2⟩
        simp [h2] at h
      · simp [h1] at h
  · cases h
theorem idAN_sound {P : Program} {t e : TypeId} {len : Nat} {d : TypeDesc} {i : TypeInfo} {x x' j j' v : Value} (ht : P.underlying t = some (.array len e)) (hd : P.underlying e = some d) (hi : P.info? e = some i)
    (ha : isAggD d = true) (h : idAN len i.size x j = some v) (hx : CV ρ x x') (hj : CV ρ j j') : ∃ v', (Instr.index t x' j').run P w = .ok v' w ∧ CV ρ v v' := by
  unfold idAN at h
  split at h
  · rename_i xs k q
    obtain rfl := hj.int_inv
    obtain ⟨xs', rfl, c⟩ := hx.agg_inv
    by_cases hb : 0 ≤ q ∧ q < (len : Int)
    · simp [hb] at h
      subst h
      refine ⟨.agg ⟨(xs'.drop (q.toNat * i.size)).take i.size⟩, ?_, .agg ((c.drop _).take _)⟩
      have : (⟨xs'⟩ : Array Value).extract (q.toNat * i.size) (q.toNat * i.size + i.size) = ⟨(xs'.drop (q.toNat * i.size)).take i.size⟩ := by simp [List.extract_eq_take_drop]
      simp [Instr.index, asIntOf, run_underlying ht, hb, run_sizeOf hi, run_partN hd hi ha, this]
    · by_cases h1 : 0 ≤ q
      · have h2 : ¬ q < (len : Int) := fun h2 => hb ⟨h1, h2⟩
        simp [h2] at h
      · simp [h1] at h
  · cases h
theorem idStr_sound {P : Program} {t : TypeId} {x x' j j' v : Value} (ht : P.underlying t = some .string) (h : idStr x j = some v) (hx : CV ρ x x') (hj : CV ρ j j') :
    ∃ v', (Instr.index t x' j').run P w = .ok v' w ∧ CV ρ v v' := by
  unfold idStr at h
  split at h
  · rename_i s k q
    obtain rfl := hj.int_inv
    obtain rfl := hx.string_inv
    by_cases hb : 0 ≤ q
    · simp only [hb, decide_true, cond_true] at h
      split at h
      · rename_i b hs
        cases h
        exact ⟨_, by simp only [Instr.index, asIntOf, Sem.run_bind, Sem.run_pure, Result.andThen_ok, run_underlying ht, if_pos hb, hs], .int _ _⟩
      · cases h
    · simp [hb] at h
  · cases h

def optCV (ρ : Ren) : Option Value → Option Value → Prop
  | none, none => True
  | some x, some y => CV ρ x y
  | _, _ => False
theorem optCV.int {a b : Option Value} (h : optCV ρ a b) {n : Option Int} (hn : intO a = some n) : b = a := by
  cases a with
  | none => cases b with
    | none => rfl
    | some y => cases h
  | some x => cases b with
    | none => cases h
    | some y =>
      cases x <;> first | (cases hn; done) | (simp only [intO] at hn; cases hn; done) | skip
      simp only [optCV] at h
      rw [h.int_inv]
theorem run_sliceBound {P : Program} {k : IntKind} {n : Int} {y : Nat} {code : BoundsCode} (h : 0 ≤ n ∧ n ≤ (y : Int)) : (Instr.sliceBound (.int k n) y code).run P w = .ok n.toNat w := by
  simp [Instr.sliceBound, asIntOf, h]
theorem bnd3_run {P : Program} {lo hi mx : Option Value} {lo' hi' mx' : Option Int} (h1 : intO lo = some lo') (h2 : intO hi = some hi') (h3 : intO mx = some mx') {len cap cap' l h m : Nat}
    (hb : bnd3 lo' hi' mx' len cap = some (l, h, m)) (hc : cap ≤ cap') (hx : mx = none → lo' = none → True) (sl : Bool) :
    (Instr.sliceBounds sl len cap' lo hi mx).run P w = .ok (l, h, if mx = none then cap' else m) w := by
  have ints : ∀ (o : Option Value) (n : Int), intO o = some (some n) → ∃ k, o = some (.int k n) := by
    intro o n e
    cases o with
    | none => simp [intO] at e
    | some v => cases v <;> simp [intO] at e; exact ⟨_, by rw [e]⟩
  have nones : ∀ (o : Option Value), intO o = some none → o = none := by
    intro o e
    cases o with
    | none => rfl
    | some v => cases v <;> simp [intO] at e
  unfold bnd3 at hb
  split at hb
  · rename_i mq
    obtain ⟨k, rfl⟩ := ints _ _ h3
    by_cases c1 : 0 ≤ mq ∧ mq ≤ (cap : Int)
    · simp only [c1, decide_true, Bool.and_self, cond_true] at hb
      have c1' : 0 ≤ mq ∧ mq ≤ (cap' : Int) := ⟨c1.1, by omega⟩
      split at hb
      · rename_i hq
        obtain ⟨k2, rfl⟩ := ints _ _ h2
        by_cases c2 : 0 ≤ hq ∧ hq ≤ mq
        · simp only [c2, decide_true, Bool.and_self, cond_true] at hb
          have c2' : 0 ≤ hq ∧ hq ≤ (mq.toNat : Int) := ⟨c2.1, by omega⟩
          split at hb
          · rename_i lq
            obtain ⟨k3, rfl⟩ := ints _ _ h1
            by_cases c3 : 0 ≤ lq ∧ lq ≤ hq
            · simp only [c3, decide_true, Bool.and_self, cond_true, Option.some.injEq, Prod.mk.injEq] at hb
              obtain ⟨rfl, rfl, rfl⟩ := hb
              have c3' : 0 ≤ lq ∧ lq ≤ (hq.toNat : Int) := ⟨c3.1, by omega⟩
              simp [Instr.sliceBounds, run_sliceBound c1', run_sliceBound c2', run_sliceBound c3']
            · rcases Classical.not_and_iff_not_or_not.1 c3 with c | c <;> simp [c] at hb
          · obtain rfl := nones _ h1
            simp only [Option.some.injEq, Prod.mk.injEq] at hb
            obtain ⟨rfl, rfl, rfl⟩ := hb
            simp [Instr.sliceBounds, run_sliceBound c1', run_sliceBound c2']
        · rcases Classical.not_and_iff_not_or_not.1 c2 with c | c <;> simp [c] at hb
      · cases hb
    · rcases Classical.not_and_iff_not_or_not.1 c1 with c | c <;> simp [c] at hb
  · obtain rfl := nones _ h3
    split at hb
    · rename_i hq
      obtain ⟨k2, rfl⟩ := ints _ _ h2
      by_cases c2 : 0 ≤ hq ∧ hq ≤ (cap : Int)
      · simp only [c2, decide_true, Bool.and_self, cond_true] at hb
        have c2' : 0 ≤ hq ∧ hq ≤ (cap' : Int) := ⟨c2.1, by omega⟩
        split at hb
        · rename_i lq
          obtain ⟨k3, rfl⟩ := ints _ _ h1
          by_cases c3 : 0 ≤ lq ∧ lq ≤ hq
          · simp only [c3, decide_true, Bool.and_self, cond_true, Option.some.injEq, Prod.mk.injEq] at hb
            obtain ⟨rfl, rfl, rfl⟩ := hb
            have c3' : 0 ≤ lq ∧ lq ≤ (hq.toNat : Int) := ⟨c3.1, by omega⟩
            simp [Instr.sliceBounds, run_sliceBound c2', run_sliceBound c3']
          · rcases Classical.not_and_iff_not_or_not.1 c3 with c | c <;> simp [c] at hb
        · obtain rfl := nones _ h1
          simp only [Option.some.injEq, Prod.mk.injEq] at hb
          obtain ⟨rfl, rfl, rfl⟩ := hb
          simp [Instr.sliceBounds, run_sliceBound c2']
      · rcases Classical.not_and_iff_not_or_not.1 c2 with c | c <;> simp [c] at hb
    · obtain rfl := nones _ h2
      split at hb
      · rename_i lq
        obtain ⟨k3, rfl⟩ := ints _ _ h1
        by_cases c3 : 0 ≤ lq ∧ lq ≤ (len : Int)
        · simp only [c3, decide_true, Bool.and_self, cond_true, Option.some.injEq, Prod.mk.injEq] at hb
          obtain ⟨rfl, rfl, rfl⟩ := hb
          simp [Instr.sliceBounds, run_sliceBound c3]
        · rcases Classical.not_and_iff_not_or_not.1 c3 with c | c <;> simp [c] at hb
      · obtain rfl := nones _ h1
        simp only [Option.some.injEq, Prod.mk.injEq] at hb
        obtain ⟨rfl, rfl, rfl⟩ := hb
        simp [Instr.sliceBounds]

theorem bnd3_le {lo hi mx : Option Int} {len cap l h m : Nat} (hb : bnd3 lo hi mx len cap = some (l, h, m)) : l ≤ h ∧ m ≤ cap ∧ (mx = none → m = cap) ∧ (mx ≠ none → h ≤ m) := by
  unfold bnd3 at hb
  repeat' split at hb
  all_goals (try (cases hb; done))
  all_goals (try simp only [Bool.cond_eq_ite, Bool.and_eq_true, decide_eq_true_eq] at hb)
  all_goals (repeat' split at hb)
  all_goals (try (cases hb; done))
  all_goals (simp only [Option.some.injEq, Prod.mk.injEq] at hb; obtain ⟨rfl, rfl, rfl⟩ := hb)
  all_goals (refine ⟨?_, ?_, ?_, ?_⟩ <;> first | omega | (intro hh; cases hh; done) | (intro _; omega) | (intro hh; exact absurd rfl hh))

theorem Rel.exact (hR : Rel cx ρ H w) {n : Nat} (h : exactName H n = true) {l : Loc} (hl : ρ n = some l) : l.extra = 0 := by
  unfold exactName at h
  split at h
  · rename_i hne
    obtain ⟨l', e, q⟩ := hR.obj n _ hne
    rw [hl] at e; cases e
    obtain ⟨_, _, _, _, _, x⟩ := q; exact x
  · rename_i hne
    obtain ⟨l', e, q⟩ := hR.obj n _ hne
    rw [hl] at e; cases e
    obtain ⟨_, _, _, x, _⟩ := q; exact x rfl
  · cases h
theorem slcS_sound (hR : Rel cx ρ H w) {t e : TypeId} {i : TypeInfo} {x x' v : Value} {lo hi mx lo' hi' mx' : Option Value} (ht : cx.P.underlying t = some (.slice e)) (hinf : cx.P.info? e = some i)
    (h : slcS i.size x lo hi mx H = some v) (hx : CV ρ x x') (h1 : optCV ρ lo lo') (h2 : optCV ρ hi hi') (h3 : optCV ρ mx mx') :
    ∃ v', (Instr.sliceAt t x' lo' hi' mx').run cx.P w = .ok v' w ∧ CV ρ v v' := by
  unfold slcS at h
  split at h
  · rename_i a len cap lq hq mq e1 e2 e3
    obtain rfl := h1.int e1
    obtain rfl := h2.int e2
    obtain rfl := h3.int e3
    split at h
    · rename_i l q m hb
      obtain ⟨b1, b2, b3, b4⟩ := bnd3_le hb
      split at h
      · cases h
        cases hx
        refine ⟨_, ?_, .sliceNil _ _⟩
        have hr := bnd3_run (P := cx.P) (w := w) e1 e2 e3 hb (Nat.le_refl _) (fun _ _ => trivial) true
        simp only [Instr.sliceAt, Instr.slice, Sem.run_bind, run_underlying ht, Result.andThen_ok, hr, run_sizeOf hinf, Sem.run_pure, Option.map_none, ite_self]
        by_cases hm : mx' = none
        · subst hm; cases e3; rw [b3 rfl]; simp
        · simp [hm]
      · rename_i n off sp
        obtain ⟨hsp, l0, e0, rfl⟩ := hx.slice_inv
        cases hle : Nat.ble q m with
        | false => rw [hle] at h; cases h
        | true =>
          rw [hle] at h
          have hhm := Nat.le_of_ble_eq_true hle
          simp only [cond_true] at h
          have hr := bnd3_run (P := cx.P) (w := w) (cap' := cap + if sp = none then l0.extra else 0) e1 e2 e3 hb (Nat.le_add_right _ _) (fun _ _ => trivial) true
          simp only [Instr.sliceAt, Instr.slice, Sem.run_bind, run_underlying ht, Result.andThen_ok, hr, run_sizeOf hinf, Sem.run_pure]
          split at h
          · rename_i mv
            cases h
            simp only [reduceCtorEq, if_false]
            by_cases hml : m = l
            · subst hml
              refine ⟨_, rfl, ?_⟩
              simp only [if_true, Nat.beq_refl, cond_true]
              exact .sliceX e0
            · refine ⟨_, rfl, ?_⟩
              have : Nat.beq m l = false := by
                cases hq : Nat.beq m l with
                | false => rfl
                | true => exact absurd (Nat.eq_of_beq_eq_true hq) hml
              simp only [hml, if_false, this, cond_false, Option.map_some, add_eq, Nat.add_assoc]
              exact .sliceX e0
          · cases e3
            obtain rfl := b3 rfl
            simp only [if_true]
            cases hml : Nat.beq m l with
            | true =>
              obtain rfl := Nat.eq_of_beq_eq_true hml
              rw [hml] at h
              simp only [cond_true] at h
              cases hc : (Nat.beq m 0 || sp.isSome || exactName H n) with
              | false => rw [hc] at h; cases h
              | true =>
                rw [hc] at h; cases h
                have hz : m = 0 ∨ (if sp = none then l0.extra else 0) = 0 := by
                  simp only [Bool.or_eq_true] at hc
                  rcases hc with (hc | hc) | hc
                  · exact .inl (Nat.eq_of_beq_eq_true hc)
                  · right; rw [if_neg]; intro hh; rw [hh] at hc; cases hc
                  · right; rw [hR.exact hc e0]; simp
                refine ⟨.slice (some ⟨l0.blk, l0.shift + off, none⟩) (q - m) (m - m + if sp = none then l0.extra else 0), ?_, ?_⟩
                · rcases hz with rfl | hz
                  · simp [add_eq]
                  · rw [hz]; simp
                · rcases hsp with rfl | rfl
                  · exact .slice e0
                  · exact .sliceX e0
            | false =>
              rw [hml] at h; cases h
              have hne := Nat.ne_of_beq_eq_false hml
              refine ⟨.slice (some ⟨l0.blk, l0.shift + (off + l * i.size), none⟩) (q - l) (m - l + if sp = none then l0.extra else 0), ?_, ?_⟩
              · rw [if_neg (by omega)]
                simp only [Option.map_some, add_eq, Nat.add_assoc]
                rw [show m + (if sp = none then l0.extra else 0) - l = m - l + (if sp = none then l0.extra else 0) from by omega]
              · rcases hsp with rfl | rfl
                · exact .slice e0
                · exact .sliceX e0
    · cases h
  · cases h
end Go.Ab

namespace Go.Ab
open Go
set_option linter.unusedVariables false
set_option linter.unusedSimpArgs false
variable {cx : Cx} {ρ : Ren} {H : AH} {w : World}

theorem strS_sound {P : Program} {t : TypeId} {x x' v : Value} {lo hi lo' hi' : Option Value} (ht : P.underlying t = some .string)
    (h : strS x lo hi = some v) (hx : CV ρ x x') (h1 : optCV ρ lo lo') (h2 : optCV ρ hi hi') :
    ∃ v', (Instr.sliceAt t x' lo' hi' none).run P w = .ok v' w ∧ CV ρ v v' := by
  unfold strS at h
  split at h
  · rename_i s lq hq e1 e2
    obtain rfl := h1.int e1
    obtain rfl := h2.int e2
    obtain rfl := hx.string_inv
    split at h
    · rename_i l q m hb
      cases h
      have hr := bnd3_run (P := P) (w := w) (mx := none) e1 e2 rfl hb (Nat.le_refl _) (fun _ _ => trivial) false
      exact ⟨_, by simp [Instr.sliceAt, Instr.slice, run_underlying ht, hr], .string _⟩
    · cases h
  · cases h

theorem Rel.mapAt (hR : Rel cx ρ H w) {n : Nat} {es : List MapEntry} {c : Nat} {l : Loc} (hn : H.get n = some (.map es c)) (hl : ρ n = some l) :
    ∃ es', w.heap[l.blk]? = some (.map ⟨es'⟩ c) ∧ CEs ρ es es' := by
  obtain ⟨l', e, o⟩ := hR.obj n _ hn
  rw [hl] at e; cases e
  exact o.2
theorem run_getMap {P : Program} {b : Nat} {es : Array MapEntry} {c : Nat} (h : w.heap[b]? = some (.map es c)) : (getObj b).run P w = .ok (.map es c) w := by
  simp [getObj, Sem.run, h]
theorem lenS_sound (hR : Rel cx ρ H w) {t ty : TypeId} {x x' v : Value}
    (hk : (∃ s, x = .string s ∧ cx.P.underlying t = some .string) ∨ (∃ e a n k, x = .slice a n k ∧ cx.P.underlying t = some (.slice e)) ∨ (∃ a b r, x = .map r ∧ cx.P.underlying t = some (.map a b)))
    (h : lenS x H = some v) (hx : CV ρ x x') : ∃ v', (Builtin.len_ #[t] ty #[x']).run cx.P w = .ok v' w ∧ CV ρ v v' := by
  rcases hk with ⟨s, rfl, ht⟩ | ⟨e, a, n, k, rfl, ht⟩ | ⟨a, b, r, rfl, ht⟩
  · cases h
    obtain rfl := hx.string_inv
    exact ⟨_, by simp [Builtin.len_, run_underlying ht, goInt], .int _ _⟩
  · cases h
    cases hx <;> exact ⟨_, by simp [Builtin.len_, run_underlying ht, goInt], .int _ _⟩
  · cases r with
    | none => cases h; cases hx; exact ⟨_, by simp [Builtin.len_, run_underlying ht, goInt], .int _ _⟩
    | some r =>
      unfold lenS at h
      simp only at h
      split at h
      · rename_i es c hn
        cases h
        obtain ⟨l, e, rfl⟩ := hx.map_inv
        obtain ⟨es', h1, h2⟩ := hR.mapAt hn e
        exact ⟨_, by simp [Builtin.len_, run_underlying ht, goInt, run_getMap h1, h2.length], .int _ _⟩
      · cases h
theorem capS_sound (hR : Rel cx ρ H w) {t e ty : TypeId} {a : Option Addr} {n k : Nat} {x' v : Value} (ht : cx.P.underlying t = some (.slice e))
    (h : capS (.slice a n k) H = some v) (hx : CV ρ (.slice a n k) x') : ∃ v', (Builtin.cap_ #[t] ty #[x']).run cx.P w = .ok v' w ∧ CV ρ v v' := by
  unfold capS at h
  split at h
  · cases h; rename_i heq; cases heq; cases hx; exact ⟨_, by simp [Builtin.cap_, run_underlying ht, goInt], .int _ _⟩
  · rename_i m off sp q c heq
    cases heq
    obtain ⟨hsp, l, e0, rfl⟩ := hx.slice_inv
    cases hc : (sp.isSome || exactName H m) with
    | false => rw [hc] at h; cases h
    | true =>
      rw [hc] at h; cases h
      have hz : (if sp = none then l.extra else 0) = 0 := by
        simp only [Bool.or_eq_true] at hc
        rcases hc with hc | hc
        · rw [if_neg]; intro hh; rw [hh] at hc; cases hc
        · rw [hR.exact hc e0]; simp
      exact ⟨_, by simp [Builtin.cap_, run_underlying ht, goInt, hz], .int _ _⟩
  · cases h

theorem keyEq_now {d : TypeDesc} {k x x' : Value} {b : Bool} (hd : keyFits d k = true) (h : keyEq k x = some b) (hx : CV ρ x x') : Instr.sameNow d k x' = some b := by
  unfold keyEq at h
  split at h
  · rename_i j a j' b'
    obtain rfl := hx.int_inv
    cases d <;> simp [keyFits] at hd
    by_cases e : j = j' <;> simp [e] at h ⊢ <;> simp_all [Instr.sameNow]
  · obtain rfl := hx.string_inv
    cases d <;> simp [keyFits] at hd
    simpa [Instr.sameNow] using h
  · obtain rfl := hx.bool_inv
    cases d <;> simp [keyFits] at hd
    simpa [Instr.sameNow] using h
  · cases h
theorem findA_now {d : TypeDesc} {k : Value} (hd : keyFits d k = true) : ∀ {es es' : List MapEntry} (i : Nat) {r}, CEs ρ es es' → findA k es i = some r →
    (r = none ∧ Instr.findNow d k es' i = some none) ∨ ∃ j v v', r = some (j, v) ∧ Instr.findNow d k es' i = some (some (j, v')) ∧ CV ρ v v' ∧ i ≤ j ∧ j < i + es.length ∧ (∃ e', es'[j - i]? = some e' ∧ keyEq k e'.key = some true)
  | _, _, i, r, .nil, h => by simp only [findA, Option.some.injEq] at h; subst h; exact .inl ⟨rfl, rfl⟩
  | e :: es, e' :: es', i, r, .cons a b c t, h => by
    rw [findA] at h
    cases hk : keyEq k e.key with
    | none => rw [hk] at h; cases h
    | some q =>
      rw [hk] at h
      have h2 := keyEq_now hd hk a
      cases q with
      | true =>
        simp only [Option.some.injEq] at h
        subst h
        refine .inr ⟨i, _, e'.val, rfl, by rw [Instr.findNow, h2], b, Nat.le_refl _, by simp, e', by simp, ?_⟩
        unfold keyEq at hk
        split at hk
        · rename_i hh; rw [hh] at a; rw [a.int_inv]; exact hk
        · rename_i hh; rw [hh] at a; rw [a.string_inv]; exact hk
        · rename_i hh; rw [hh] at a; rw [a.bool_inv]; exact hk
        · cases hk
      | false =>
        simp only at h
        rcases findA_now hd (i + 1) t h with ⟨h3, h4⟩ | ⟨j, v, v', h3, h4, h5, h6, h7, e2, h8, h9⟩
        · exact .inl ⟨h3, by rw [Instr.findNow, h2]; exact h4⟩
        · refine .inr ⟨j, v, v', h3, by rw [Instr.findNow, h2]; exact h4, h5, by omega, by simp; omega, e2, ?_, h9⟩
          rw [show j - i = (j - (i + 1)) + 1 from by omega]
          simpa using h8
theorem run_checkKey {P : Program} {kt : TypeId} {d : TypeDesc} {k : Value} {em : Bool} {n : Nat} (hu : P.underlying kt = some d) (hd : keyFits d k = true) : (Instr.checkKey em (n + 1) kt k).run P w = .ok () w := by
  unfold keyFits at hd
  split at hd <;> first
    | (simp only [Instr.checkKey, Sem.run_bind, run_underlying hu, Result.andThen_ok]; rfl)
    | cases hd
theorem run_findKey {P : Program} {kt : TypeId} {d : TypeDesc} {k : Value} {es : List MapEntry} {r} (hu : P.underlying kt = some d) (h : Instr.findNow d k es 0 = some r) : (Instr.findKey kt k es).run P w = .ok r w := by
  simp only [Instr.findKey, Sem.run_bind, run_underlying hu, Result.andThen_ok, h]
  rfl
theorem zero1_spec {P : Program} {t : TypeId} {i : TypeInfo} {z : Value} (hi : P.info? t = some i) (hz : zero1 i = some z) : (zeroValue t).run P w = .ok z w ∧ CV ρ z z := by
  unfold zero1 at hz
  split at hz
  · rename_i z' hz'
    cases hb : bare z' with
    | true => rw [hb] at hz; cases hz; exact ⟨by simp [zeroValue, typeInfo, hi, hz'], .of_bare hb⟩
    | false =>
      rw [hb] at hz
      simp only [cond_false] at hz
      split at hz
      · rename_i a
        cases ha : a.toList.all bare with
        | false => rw [ha] at hz; cases hz
        | true =>
          rw [ha] at hz; cases hz
          exact ⟨by simp [zeroValue, typeInfo, hi, hz'], .agg (.of_bare ha)⟩
      · cases hz
  · cases hz
theorem lkS_sound (hR : Rel cx ρ H w) {t kt et : TypeId} {d : TypeDesc} {i : TypeInfo} {z m m' k k' v : Value} {ok : Bool} (ht : cx.P.underlying t = some (.map kt et)) (hu : cx.P.underlying kt = some d)
    (hi : cx.P.info? et = some i) (hz : zero1 i = some z) (hd : keyFits d k = true) (h : lkS z ok m k H = some v) (hm : CV ρ m m') (hk : CV ρ k k') :
    ∃ v', (Instr.lookup t m' k' ok).run cx.P w = .ok v' w ∧ CV ρ v v' := by
  have hkk : k' = k := by unfold keyFits at hd; split at hd <;> first | exact hk.int_inv | exact hk.string_inv | exact hk.bool_inv | cases hd
  subst hkk
  unfold lkS at h
  split at h
  · rename_i es hes
    have key : ∃ es' : List MapEntry, CEs ρ es es' ∧ ((m' = .map none ∧ es' = []) ∨ ∃ b c, m' = .map (some b) ∧ w.heap[b]? = some (.map ⟨es'⟩ c)) := by
      unfold mapOf at hes
      split at hes
      · cases hes; cases hm; exact ⟨[], .nil, .inl ⟨rfl, rfl⟩⟩
      · split at hes
        · rename_i hn
          cases hes
          obtain ⟨l, e, rfl⟩ := hm.map_inv
          obtain ⟨es', h1, h2⟩ := hR.mapAt hn e
          exact ⟨es', h2, .inr ⟨_, _, rfl, h1⟩⟩
        · cases hes
      · cases hes
    obtain ⟨es', c, hrun⟩ := key
    obtain ⟨z1, z2⟩ := zero1_spec (ρ := ρ) (w := w) hi hz
    have hl : ∀ r, Instr.findNow d k' es' 0 = some r → (Instr.lookup t m' k' ok).run cx.P w = .ok (if ok then .tuple #[(r.map (·.2)).getD z, .bool r.isSome] else (r.map (·.2)).getD z) w := by
      intro r hr
      rcases hrun with ⟨rfl, rfl⟩ | ⟨b, c', rfl, hb⟩
      · simp only [Instr.lookup, Sem.run_bind, run_underlying ht, Result.andThen_ok, Sem.run_pure, run_checkKey hu hd, run_findKey hu hr]
        cases r with
        | none => simp [z1]
        | some p => simp
      · simp only [Instr.lookup, Sem.run_bind, run_underlying ht, Result.andThen_ok, run_getMap hb, Sem.run_pure, run_checkKey hu hd, run_findKey hu hr]
        cases r with
        | none => simp [z1]
        | some p => simp
    split at h
    · rename_i j u hf
      rcases findA_now hd 0 c hf with ⟨h1, -⟩ | ⟨j', v1, v', h1, h2, h3, -⟩
      · cases h1
      · cases h1; cases h
        refine ⟨_, hl _ h2, ?_⟩
        cases ok
        · exact h3
        · exact .tuple (.cons h3 (.cons (.bool _) .nil))
    · rename_i hf
      rcases findA_now hd 0 c hf with ⟨-, h2⟩ | ⟨j', v1, v', h1, h2, h3, -⟩
      · cases h
        refine ⟨_, hl _ h2, ?_⟩
        cases ok
        · exact z2
        · exact .tuple (.cons z2 (.cons (.bool _) .nil))
      · cases h1
    · cases h
  · cases h

section
variable {ev : Operand → Option Value} {ρc : Operand → Value} (hev : ∀ x v, ev x = some v → CV ρ v (ρc x))
include hev
theorem evs_sound : ∀ {xs : List Operand} {vs : List Value}, evs ev xs = some vs → CVs ρ vs (xs.map ρc)
  | [], _, h => by cases h; exact .nil
  | x :: xs, vs, h => by
    rw [evs] at h
    split at h
    · rename_i v us h1 h2
      cases h
      exact .cons (hev _ _ h1) (evs_sound h2)
    · cases h
theorem evp_sound : ∀ {ps : List (Nat × Operand)} {vs : List (Nat × Value)}, evp ev ps = some vs → vs.map (·.1) = ps.map (·.1) ∧ CVs ρ (vs.map (·.2)) (ps.map fun p => ρc p.2)
  | [], _, h => by cases h; exact ⟨rfl, .nil⟩
  | (i, x) :: ps, vs, h => by
    rw [evp] at h
    split at h
    · rename_i v us h1 h2
      cases h
      obtain ⟨e1, e2⟩ := evp_sound h2
      exact ⟨by simp [e1], .cons (hev _ _ h1) e2⟩
    · cases h
theorem optO_sound {x : Option Operand} {v : Option Value} (h : optO ev x = some v) : optCV ρ v (x.map ρc) := by
  cases x with
  | none => cases h; trivial
  | some x =>
    rw [optO] at h
    split at h
    · rename_i u hu
      cases h
      exact hev _ _ hu
    · cases h
end
theorem fold_list (off : Nat) : ∀ (vs : List Value) (i : Nat) (cells : Array Value), off + i + vs.length ≤ cells.size →
    (vs.zipIdx i).foldl (fun (cs : Array Value) (p : Value × Nat) => cs.setIfInBounds (off + p.2) p.1) cells = ⟨cells.toList.take (off + i) ++ (vs ++ cells.toList.drop (off + i + vs.length))⟩
  | [], i, cells, h => by simp
  | v :: vs, i, cells, h => by
    rw [List.zipIdx_cons, List.foldl_cons, fold_list off vs (i + 1) _ (by simp at h ⊢; omega)]
    have e := list_seg_step cells.toList (off + i) v vs (by simp at h ⊢; omega)
    congr 1
    simpa [Array.toList_setIfInBounds, Nat.add_assoc] using e
theorem fill_sound (pl : List (Nat × Nat)) (place : Nat → Option (Nat × Nat)) (hpl : ∀ i p, pl[i]? = some p → place i = some p) : ∀ {ps ps' : List (Nat × Value)} {cells cells' r : List Value}, ps.map (·.1) = ps'.map (·.1) → CVs ρ (ps.map (·.2)) (ps'.map (·.2)) →
    CVs ρ cells cells' → fillA pl cells ps = some r → ∃ r', Instr.fill place ⟨cells'⟩ ps' = some ⟨r'⟩ ∧ CVs ρ r r'
  | [], [], cells, cells', r, _, _, hc, h => by cases h; exact ⟨cells', rfl, hc⟩
  | [], _ :: _, _, _, _, hi, _, _, _ => by simp at hi
  | _ :: _, [], _, _, _, hi, _, _, _ => by simp at hi
  | (i, v) :: ps, (i', v') :: ps', cells, cells', r, hi, hv, hc, h => by
    simp only [List.map_cons, List.cons.injEq] at hi
    obtain ⟨rfl, hi⟩ := hi
    cases hv with
    | cons hv hvs =>
      rw [fillA] at h
      split at h
      · cases h
      · rename_i off size hp
        cases hb : (Nat.beq (cellsL v).length size && Nat.ble (off + size) cells.length) with
        | false => rw [hb] at h; cases h
        | true =>
          rw [hb] at h
          simp only [cond_true] at h
          simp only [Bool.and_eq_true] at hb
          have b1 := Nat.eq_of_beq_eq_true hb.1
          have b2 := Nat.le_of_ble_eq_true hb.2
          have hcl := hv.cellsL
          have hl1 := hcl.length
          have hl2 := hc.length
          have hsz : v'.cells.size = size := by rw [← b1, hl1]; simp
          rw [Instr.fill, hpl _ _ hp]
          simp only [hsz, ne_eq, not_true_eq_false, decide_false, Bool.false_or]
          rw [if_neg (by simp; omega)]
          have hf : v'.cells.zipIdx.foldl (fun cs (x : Value × Nat) => match x with | (c, j) => cs.setIfInBounds (off + j) c) (⟨cells'⟩ : Array Value) = ⟨cells'.take off ++ (v'.cells.toList ++ cells'.drop (off + size))⟩ := by
            rw [← Array.foldl_toList, Array.toList_zipIdx]
            have := fold_list off v'.cells.toList 0 ⟨cells'⟩ (by simp; omega)
            simpa [hsz] using this
          rw [hf]
          exact fill_sound pl place hpl hi hvs ((hc.take off).append (hcl.append (hc.drop _))) h
end Go.Ab

namespace Go.Ab
open Go
set_option linter.unusedVariables false
set_option linter.unusedSimpArgs false
variable {cx : Cx} {ρ : Ren} {H : AH} {w : World}

theorem zeroL_spec {P : Program} {t : TypeId} {i : TypeInfo} {z : List Value} (hi : P.info? t = some i) (hz : zeroL i = some z) :
    ∃ zv, (zeroValue t).run P w = .ok zv w ∧ zv.cells = ⟨z⟩ ∧ CVs ρ z z := by
  unfold zeroL at hz
  split at hz
  · rename_i zv hzv
    cases hb : (cellsL zv).all bare with
    | false => rw [hb] at hz; cases hz
    | true =>
      rw [hb] at hz; cases hz
      refine ⟨zv, by simp [zeroValue, typeInfo, hi, hzv], ?_, .of_bare hb⟩
      cases zv <;> rfl
  · cases hz
theorem places_run {P : Program} : ∀ (fs : List Field) {pl}, places P fs = some pl → (fs.mapM (fun f => do pure (f.offset, ← sizeOf f.type) : Field → Sem (Nat × Nat))).run P w = .ok pl w
  | [], pl, h => by cases h; rfl
  | f :: fs, pl, h => by
    rw [places] at h
    split at h
    · rename_i i r h1 h2
      cases h
      simp only [List.mapM_cons, Sem.run_bind, run_sizeOf h1, places_run fs h2, Result.andThen_ok, Sem.run_pure]
    · cases h
theorem plArr_get (size : Nat) : ∀ (n k i : Nat) (p : Nat × Nat), (plArr size k n)[i]? = some p → p = ((k + i) * size, size)
  | 0, k, i, p, h => by simp [plArr] at h
  | n + 1, k, 0, p, h => by simp [plArr] at h; simp [← h]
  | n + 1, k, i + 1, p, h => by
    simp only [plArr, List.getElem?_cons_succ] at h
    rw [plArr_get size n (k + 1) i p h, show k + 1 + i = k + (i + 1) from by omega]
theorem build_sound {P : Program} {t : TypeId} {i : TypeInfo} {fs : Array Field} {z : List Value} {pl : List (Nat × Nat)} {ps : List (Nat × Value)} {ps' : Array (Nat × Value)} {r : List Value}
    (ht : P.underlying t = some (.struct fs)) (hi : P.info? t = some i) (hz : zeroL i = some z) (hp : places P fs.toList = some pl) (h1 : ps.map (·.1) = ps'.toList.map (·.1)) (h2 : CVs ρ (ps.map (·.2)) (ps'.toList.map (·.2)))
    (h : fillA pl z ps = some r) : ∃ v', (Instr.build t ps').run P w = .ok v' w ∧ CV ρ (.agg ⟨r⟩) v' := by
  obtain ⟨zv, z1, z2, z3⟩ := zeroL_spec (ρ := ρ) (w := w) hi hz
  obtain ⟨r', f1, f2⟩ := fill_sound pl (fun x => (⟨pl⟩ : Array (Nat × Nat))[x]?) (fun i p hh => by simpa using hh) h1 h2 z3 h
  refine ⟨.agg ⟨r'⟩, ?_, .agg f2⟩
  have hm : (fs.mapM (fun f => do pure (f.offset, ← sizeOf f.type) : Field → Sem (Nat × Nat))).run P w = .ok ⟨pl⟩ w := by
    rw [Array.mapM_eq_mapM_toList, Sem.run_map, places_run fs.toList hp]
    rfl
  simp only [Instr.build, Sem.run_bind, z1, run_underlying ht, Result.andThen_ok, z2]
  rw [hm]
  simp only [Result.andThen_ok, f1]
  rfl
theorem buildArr_sound {P : Program} {t e : TypeId} {n : Nat} {i q : TypeInfo} {z : List Value} {ps : List (Nat × Value)} {ps' : Array (Nat × Value)} {r : List Value}
    (ht : P.underlying t = some (.array n e)) (hi : P.info? t = some i) (hq : P.info? e = some q) (hz : zeroL i = some z) (h1 : ps.map (·.1) = ps'.toList.map (·.1)) (h2 : CVs ρ (ps.map (·.2)) (ps'.toList.map (·.2)))
    (h : fillA (plArr q.size 0 n) z ps = some r) : ∃ v', (Instr.build t ps').run P w = .ok v' w ∧ CV ρ (.agg ⟨r⟩) v' := by
  obtain ⟨zv, z1, z2, z3⟩ := zeroL_spec (ρ := ρ) (w := w) hi hz
  obtain ⟨r', f1, f2⟩ := fill_sound _ (fun i => some (i * q.size, q.size)) (fun i p hh => by rw [plArr_get _ _ _ _ _ hh]; simp) h1 h2 z3 h
  refine ⟨.agg ⟨r'⟩, ?_, .agg f2⟩
  simp only [Instr.build, Sem.run_bind, z1, run_underlying ht, Result.andThen_ok, z2, run_sizeOf hq, f1]
  rfl

theorem CEs.find {ρ : Ren} {s : Nat} {es es' : List MapEntry} (h : CEs ρ es es') {e : MapEntry} (he : es.find? (fun e => Nat.beq e.born s) = some e) : ∃ e', es'.find? (fun e => e.born == s) = some e' ∧ CV ρ e.key e'.key ∧ CV ρ e.val e'.val := by
  induction h with
  | nil => cases he
  | @cons x x' xs xs' a b c d ih =>
    rw [List.find?_cons] at he ⊢
    rw [← c]
    have hb : (x.born == s) = Nat.beq x.born s := by rw [Bool.eq_iff_iff]; simp [Nat.beq_eq]
    rw [hb]
    cases hq : Nat.beq x.born s with
    | true => rw [hq] at he; cases he; exact ⟨x', rfl, a, b⟩
    | false => rw [hq] at he; exact ih he
theorem entS_sound {cx : Cx} {ρ : Ren} {H : AH} {w : World} (hR : Rel cx ρ H w) {v v' u : Value} (hv : CV ρ v v') (h : entS v H = some u) : ∃ u', (Instr.entry v').run cx.P w = .ok u' w ∧ CV ρ u u' := by
  unfold entS at h
  split at h
  · rename_i n
    cases hv with
    | ptr e0 =>
    rename_i l
    split at h
    · rename_i m since last seen hn
      obtain ⟨l', e1, f1, f2, m', f3, f4⟩ := hR.obj n _ hn
      rw [e0] at e1; cases e1
      split at h
      · rename_i es clock hm
        obtain ⟨lm, e4, -, es', e5, e6⟩ := hR.obj m _ hm
        cases f4 with
        | map x =>
        rw [e4] at x; cases x
        cases hc : Nat.beq clock last with
        | false => rw [hc] at h; cases h
        | true =>
          rw [hc, cond_true] at h
          have hcl := Nat.eq_of_beq_eq_true hc
          split at h
          · rename_i s hs
            split at h
            · rename_i e he
              cases h
              obtain ⟨e', g1, g2, g3⟩ := e6.find he
              refine ⟨.tuple #[e'.key, e'.val], ?_, .tuple (.cons g2 (.cons g3 .nil))⟩
              have gI : (getObj l.blk).run cx.P w = .ok (.mapIter (some lm.blk) since ⟨seen⟩ last) w := by simp only [getObj, Sem.run, f3]
              have gM : (getObj lm.blk).run cx.P w = .ok (.map ⟨es'⟩ clock) w := by simp only [getObj, Sem.run, e5]
              have hb : (⟨seen⟩ : Array Nat).back? = some s := by rw [List.back?_toArray]; exact hs
              have hf : (⟨es'⟩ : Array MapEntry).find? (fun e => e.born == s) = some e' := by rw [← Array.find?_toList]; exact g1
              simp only [f2, Nat.add_zero, Instr.entry, Sem.run_bind, gI, gM, Result.andThen, hb, hcl, bne_self_eq_false, Bool.false_eq_true, if_false, hf]
              rfl
            · cases h
          · cases h
      · cases h
    · cases h
  · cases h
theorem val_run {P : Program} {s : Sem Value} {v : Value} (h : s.run P w = .ok v w) :
    ((do pure (Next.value (← s))) : Sem Next).run P w = .ok (.value v) w := by simp [h]
theorem map_arr (f : Operand → Value) (xs : Array Operand) : (xs.map f) = ⟨xs.toList.map f⟩ := by
  apply Array.ext'; simp
theorem bindO {α β : Type} {o : Option α} {f : α → Option β} {b : β} (h : o.bind f = some b) : ∃ a, o = some a ∧ f a = some b := by
  cases o with
  | none => cases h
  | some a => exact ⟨a, rfl, h⟩

section
variable (hR : Rel cx ρ H w) {ev : Operand → Option Value} {ρc : Operand → Value} (hev : ∀ x v, ev x = some v → CV ρ v (ρc x))
include hR hev
set_option maxHeartbeats 1000000 in
theorem neS_sound {o : Oper} {v : Value} (h : neS cx.P o.op ev H = some v) : ∃ v', (execOp ρc o).run cx.P w = .ok (.value v') w ∧ CV ρ v v' := by
  obtain ⟨dst, op, ty, pos, after, guard⟩ := o
  cases op with
  | move x => exact ⟨_, rfl, hev _ _ h⟩
  | assign x => exact ⟨_, rfl, hev _ _ h⟩
  | pick c a b =>
    simp only [neS] at h
    split at h
    · rename_i vc hc
      unfold pickS at h
      split at h
      · rename_i t
        have hb := (hev _ _ hc).bool_inv
        cases t with
        | true => exact ⟨ρc a, by simp [execOp, hb, asBool], hev _ _ h⟩
        | false => exact ⟨ρc b, by simp [execOp, hb, asBool], hev _ _ h⟩
      · cases h
    · cases h
  | nilCheck x =>
    obtain ⟨u, hu, h⟩ := bindO h
    obtain ⟨h1, h2⟩ := pnil_sound (w := w) h (hev _ _ hu) dst ty pos after guard ρc x rfl cx.P
    exact ⟨_, h1, h2⟩
  | binOp op t x y yt =>
    simp only [neS] at h
    split at h
    · rename_i a b ha hb
      obtain ⟨h1, h2⟩ := binS_sound (P := cx.P) (w := w) h (hev _ _ ha) (hev _ _ hb)
      exact ⟨v, val_run h1, .of_bare h2⟩
    · cases h
  | unOp op t x =>
    obtain ⟨u, hu, h⟩ := bindO h
    obtain ⟨h1, h2⟩ := unS_sound (P := cx.P) (w := w) h (hev _ _ hu)
    exact ⟨v, val_run h1, .of_bare h2⟩
  | convert src dst x =>
    simp only [neS] at h
    split at h
    · rename_i d k hs hd
      obtain ⟨u, hu, h⟩ := bindO h
      obtain ⟨h1, h2⟩ := convS_sound (w := w) hs hd h (hev _ _ hu)
      exact ⟨v, val_run h1, .of_bare h2⟩
    · cases h
  | makeInterface t x =>
    simp only [neS] at h
    split at h
    · cases h
    · rename_i d hno hd
      split at h
      · rename_i u hu
        cases h
        refine ⟨.iface t (ρc x), val_run ?_, .iface (hev _ _ hu)⟩
        simp only [Instr.makeInterface, Sem.run_bind, run_underlying hd, Result.andThen_ok]
        rfl
      · cases h
    · cases h
  | makeFunc fn first captured =>
    simp only [neS] at h
    split at h
    · rename_i xs ys h1 h2
      cases h
      refine ⟨.func fn (first.map ρc) (captured.map ρc), rfl, ?_⟩
      rw [map_arr, map_arr]
      exact .func (evs_sound hev h1) (evs_sound hev h2)
    · cases h
  | fieldAddr s x f =>
    simp only [neS] at h
    split at h
    · rename_i fs hs
      split at h
      · rename_i fd hf
        split at h
        · rename_i i hi
          cases hz : Nat.beq i.size 0 with
          | true => rw [hz] at h; cases h
          | false =>
            rw [hz] at h
            obtain ⟨u, hu, h⟩ := bindO h
            obtain ⟨v', h1, h2⟩ := fa_sound (w := w) (t := 0) (n := 0) hs hf hi hz h (hev _ _ hu)
            exact ⟨v', val_run h1, h2⟩
        · cases h
      · cases h
    · cases h
  | field s x f =>
    simp only [neS] at h
    split at h
    · rename_i fs hs
      split at h
      · rename_i fd hf
        split at h
        · rename_i d i hd hi
          cases hz : isAggD d with
          | true =>
            rw [hz] at h
            obtain ⟨u, hu, h⟩ := bindO h
            obtain ⟨v', h1, h2⟩ := fldN_sound (w := w) hs hf hd hi hz h (hev _ _ hu)
            exact ⟨v', val_run h1, h2⟩
          | false =>
            rw [hz] at h
            obtain ⟨u, hu, h⟩ := bindO h
            obtain ⟨v', h1, h2⟩ := fld1_sound (w := w) hs hf hd hz h (hev _ _ hu)
            exact ⟨v', val_run h1, h2⟩
        · cases h
      · cases h
    · cases h
  | indexAddr t x j =>
    simp only [neS] at h
    split at h
    · rename_i e x' i' ht hx hj
      split at h
      · rename_i q hq
        obtain ⟨v', h1, h2⟩ := ixS_sound (w := w) ht hq h (hev _ _ hx) (hev _ _ hj)
        exact ⟨v', val_run h1, h2⟩
      · cases h
    · rename_i len e x' i' ht hx hj
      split at h
      · rename_i q hq
        obtain ⟨v', h1, h2⟩ := ixA_sound (w := w) ht hq h (hev _ _ hx) (hev _ _ hj)
        exact ⟨v', val_run h1, h2⟩
      · cases h
    · cases h
  | index t x j =>
    simp only [neS] at h
    split at h
    · rename_i x' i' ht hx hj
      obtain ⟨v', h1, h2⟩ := idStr_sound (w := w) ht h (hev _ _ hx) (hev _ _ hj)
      exact ⟨v', val_run h1, h2⟩
    · rename_i len e x' i' ht hx hj
      split at h
      · rename_i d q hd hq
        cases hz : isAggD d with
        | true =>
          rw [hz] at h
          obtain ⟨v', h1, h2⟩ := idAN_sound (w := w) ht hd hq hz h (hev _ _ hx) (hev _ _ hj)
          exact ⟨v', val_run h1, h2⟩
        | false =>
          rw [hz] at h
          simp only [cond_false] at h
          cases hs : Nat.beq q.size 1 with
          | false => rw [hs] at h; cases h
          | true =>
            rw [hs] at h
            obtain ⟨v', h1, h2⟩ := idA1_sound (w := w) ht hd hq hz (Nat.eq_of_beq_eq_true hs) h (hev _ _ hx) (hev _ _ hj)
            exact ⟨v', val_run h1, h2⟩
      · cases h
    · cases h
  | slice t x lo hi mx =>
    simp only [neS] at h
    split at h
    · rename_i x' lo' hi' ht hx h1 h2 h3
      cases mx with
      | some _ => simp only [optO] at h3; split at h3 <;> cases h3
      | none =>
        obtain ⟨v', r1, r2⟩ := strS_sound (w := w) ht h (hev _ _ hx) (optO_sound hev h1) (optO_sound hev h2)
        exact ⟨v', val_run r1, r2⟩
    · rename_i e x' lo' hi' mx' ht hx h1 h2 h3
      split at h
      · rename_i q hq
        obtain ⟨v', r1, r2⟩ := slcS_sound hR ht hq h (hev _ _ hx) (optO_sound hev h1) (optO_sound hev h2) (optO_sound hev h3)
        exact ⟨v', val_run r1, r2⟩
      · cases h
    · cases h
  | extract t i =>
    obtain ⟨u, hu, h⟩ := bindO h
    obtain ⟨v', h1, h2⟩ := extr_sound (w := w) (P := cx.P) h (hev _ _ hu)
    exact ⟨v', val_run h1, h2⟩
  | build t parts =>
    simp only [neS] at h
    split at h
    · rename_i fs i ps ht hi hp
      obtain ⟨p1, p2⟩ := evp_sound hev hp
      split at h
      · rename_i z pl hz hpl
        split at h
        · rename_i cs hc
          cases h
          obtain ⟨v', h1, h2⟩ := build_sound (w := w) (ps' := parts.map fun (i, x) => (i, ρc x)) ht hi hz hpl (by rw [p1]; simp [Function.comp_def]) (by have := p2; simpa [Function.comp_def] using this) hc
          exact ⟨v', val_run h1, h2⟩
        · cases h
      · cases h
    · rename_i n e i ps ht hi hp
      obtain ⟨p1, p2⟩ := evp_sound hev hp
      split at h
      · rename_i z q hz hq
        split at h
        · rename_i cs hc
          cases h
          obtain ⟨v', h1, h2⟩ := buildArr_sound (w := w) (ps' := parts.map fun (i, x) => (i, ρc x)) ht hi hq hz (by rw [p1]; simp [Function.comp_def]) (by have := p2; simpa [Function.comp_def] using this) hc
          exact ⟨v', val_run h1, h2⟩
        · cases h
      · cases h
    · cases h
  | load t x =>
    simp only [neS] at h
    split at h
    · rename_i d i u hd hi hu
      cases hz : isAggD d with
      | true =>
        rw [hz] at h
        obtain ⟨v', h1, h2⟩ := ldN_sound hR hd hi hz h (hev _ _ hu)
        exact ⟨v', val_run h1, h2⟩
      | false =>
        rw [hz] at h
        obtain ⟨v', h1, h2⟩ := ld1_sound hR hd hz h (hev _ _ hu)
        exact ⟨v', val_run h1, h2⟩
    · cases h
  | lookup t m k ok =>
    simp only [neS] at h
    split at h
    · rename_i kt et m' k' ht hm hk
      split at h
      · rename_i d i hd hi
        split at h
        · rename_i z hz
          cases hc : (keyKind d && keyFits d k') with
          | false => rw [hc] at h; cases h
          | true =>
            rw [hc] at h
            simp only [Bool.and_eq_true] at hc
            obtain ⟨v', h1, h2⟩ := lkS_sound hR ht hd hi hz hc.2 h (hev _ _ hm) (hev _ _ hk)
            exact ⟨v', val_run h1, h2⟩
        · cases h
      · cases h
    · cases h
  | entry it =>
    obtain ⟨u, hu, h⟩ := bindO h
    obtain ⟨v', h1, h2⟩ := entS_sound hR (hev _ _ hu) h
    exact ⟨v', val_run h1, h2⟩
  | call c =>
    obtain ⟨callee, args, argTypes⟩ := c
    have hargs : ∀ {vs}, evs ev args.toList = some vs → CVs ρ vs (args.toList.map ρc) := fun hh => evs_sound hev hh
    have one : ∀ {x}, evs ev args.toList = some [x] → ∃ x', args.map ρc = #[x'] ∧ CV ρ x x' := by
      intro x hh
      have := hargs hh
      rw [map_arr]
      generalize args.toList.map ρc = L at this
      cases this with
      | cons a b => cases b; exact ⟨_, rfl, a⟩
    have two : ∀ {x y}, evs ev args.toList = some [x, y] → ∃ x' y', args.map ρc = #[x', y'] ∧ CV ρ x x' ∧ CV ρ y y' := by
      intro x y hh
      have := hargs hh
      rw [map_arr]
      generalize args.toList.map ρc = L at this
      cases this with
      | cons a b => cases b with
        | cons c d => cases d; exact ⟨_, _, rfl, a, c⟩
    have tyOf : ∀ {d}, (argTypes[0]?).bind cx.P.underlying = some d → ∃ t, argTypes[0]? = some t ∧ cx.P.underlying t = some d := fun hh => bindO hh
    simp only [neS] at h
    split at h
    · rename_i x hx
      obtain ⟨x', e1, e2⟩ := one hx
      have lenGo : ∀ t, argTypes[0]? = some t → (Builtin.len_ argTypes ty #[x']).run cx.P w = (Builtin.len_ #[t] ty #[x']).run cx.P w := by
        intro t ht
        simp only [Builtin.len_, ht]
        rfl
      split at h
      · rename_i s ht
        obtain ⟨t, t1, t2⟩ := tyOf ht
        obtain ⟨v', h1, h2⟩ := lenS_sound hR (t := t) (ty := ty) (.inl ⟨_, rfl, t2⟩) h e2
        refine ⟨v', ?_, h2⟩
        simp only [execOp, resolve, e1, Sem.run_bind, Sem.run_pure, Result.andThen_ok, invoke, builtin]
        rw [lenGo t t1, h1]; rfl
      · rename_i a n k ht
        obtain ⟨t, t1, t2⟩ := tyOf ht
        obtain ⟨v', h1, h2⟩ := lenS_sound hR (t := t) (ty := ty) (.inr (.inl ⟨_, _, _, _, rfl, t2⟩)) h e2
        refine ⟨v', ?_, h2⟩
        simp only [execOp, resolve, e1, Sem.run_bind, Sem.run_pure, Result.andThen_ok, invoke, builtin]
        rw [lenGo t t1, h1]; rfl
      · rename_i r ht
        obtain ⟨t, t1, t2⟩ := tyOf ht
        obtain ⟨v', h1, h2⟩ := lenS_sound hR (t := t) (ty := ty) (.inr (.inr ⟨_, _, _, rfl, t2⟩)) h e2
        refine ⟨v', ?_, h2⟩
        simp only [execOp, resolve, e1, Sem.run_bind, Sem.run_pure, Result.andThen_ok, invoke, builtin]
        rw [lenGo t t1, h1]; rfl
      · cases h
    · rename_i x hx
      obtain ⟨x', e1, e2⟩ := one hx
      split at h
      · rename_i a n k ht
        obtain ⟨t, t1, t2⟩ := tyOf ht
        obtain ⟨v', h1, h2⟩ := capS_sound hR (t := t) (ty := ty) t2 h e2
        refine ⟨v', ?_, h2⟩
        have : (Builtin.cap_ argTypes ty #[x']).run cx.P w = (Builtin.cap_ #[t] ty #[x']).run cx.P w := by
          simp only [Builtin.cap_, t1]; rfl
        simp only [execOp, resolve, e1, Sem.run_bind, Sem.run_pure, Result.andThen_ok, invoke, builtin]
        rw [this, h1]; rfl
      · cases h
    · rename_i k a k' b hx
      cases h
      obtain ⟨x', y', e1, e2, e3⟩ := two hx
      obtain rfl := e2.int_inv
      obtain rfl := e3.int_inv
      refine ⟨_, ?_, .int _ _⟩
      simp only [execOp, resolve, e1, Sem.run_bind, Sem.run_pure, Result.andThen_ok, invoke, builtin]
      simp [Builtin.min_, Builtin.min2]
    · rename_i k a k' b hx
      cases h
      obtain ⟨x', y', e1, e2, e3⟩ := two hx
      obtain rfl := e2.int_inv
      obtain rfl := e3.int_inv
      refine ⟨_, ?_, .int _ _⟩
      simp only [execOp, resolve, e1, Sem.run_bind, Sem.run_pure, Result.andThen_ok, invoke, builtin]
      simp [Builtin.max_, Builtin.max2]
    · cases h
  | _ => cases h
end
end Go.Ab

namespace Go.Ab
open Go
set_option linter.unusedVariables false
set_option linter.unusedSimpArgs false
variable {cx : Cx} {ρ : Ren} {H : AH} {w : World}

theorem splice_cv {c c' xs xs' : List Value} {off : Nat} (hc : CVs ρ c c') (hx : CVs ρ xs xs') : CVs ρ (splice c off xs) (splice c' off xs') := by
  unfold splice
  rw [← hx.length]
  exact (hc.take _).append (hx.append (hc.drop _))
theorem splice_length {c xs : List Value} {off : Nat} (h : off + xs.length ≤ c.length) : (splice c off xs).length = c.length := by
  unfold splice
  simp
  omega
theorem splice_mid {pre mid post xs : List Value} {off : Nat} (h : off + xs.length ≤ mid.length) :
    (pre ++ (mid ++ post)).take (pre.length + off) ++ xs ++ (pre ++ (mid ++ post)).drop (pre.length + off + xs.length) = pre ++ (splice mid off xs ++ post) := by
  unfold splice
  rw [List.take_append, List.drop_append]
  have e1 : (pre.take (pre.length + off)) = pre := List.take_of_length_le (by omega)
  have e2 : pre.length + off - pre.length = off := by omega
  have e3 : pre.drop (pre.length + off + xs.length) = [] := List.drop_of_length_le (by omega)
  have e4 : pre.length + off + xs.length - pre.length = off + xs.length := by omega
  rw [e1, e2, e3, e4, List.take_append_of_le_length (by omega), List.drop_append_of_le_length (by omega)]
  simp

theorem Rel.put (hR : Rel cx ρ H w) {n : Nat} {c xs xs' : List Value} {T : TypeId} {k : CK} {l : Loc} {off : Nat} (hn : H.get n = some (.cells c T k)) (hk : k.rw = true) (hl : ρ n = some l)
    (hle : off + xs.length ≤ c.length) (hx : CVs ρ xs xs') (hp : ∀ v ∈ xs', v.oneCell' = true) :
    ∃ w', (storeCells ⟨l.blk, l.shift + off, none⟩ xs').run cx.P w = .ok () w' ∧ Rel cx ρ (H.put n (.cells (splice c off xs) T k)) w' := by
  obtain ⟨l', e, o⟩ := hR.obj n _ hn
  rw [hl] at e; cases e
  have o' : cx.fr l.blk = none ∧ ∃ C : List Value, w.heap[l.blk]? = some (.cells ⟨C⟩ T (0, 0)) ∧ (k = .fix → l.extra = 0) ∧
      ∃ pre mid post, C = pre ++ (mid ++ post) ∧ pre.length = l.shift ∧ CVs ρ c mid ∧ post.length = l.extra * cx.P.cellsOf T := by
    cases k with
    | ro => simp [CK.rw] at hk
    | fix => exact o
    | opn => exact o
  obtain ⟨o1, C, o2, o3, pre, mid, post, rfl, o4, o5, o6⟩ := o'
  have hml := o5.length
  have hxl := hx.length
  have hrun := run_storeCells_at cx.P l.blk (l.shift + off) T xs' 0 ⟨pre ++ (mid ++ post)⟩ w o2 (by simp; omega) hp
  refine ⟨_, hrun, ?_⟩
  have hnew : (pre ++ (mid ++ post)).take (l.shift + off + 0) ++ xs' ++ (pre ++ (mid ++ post)).drop (l.shift + off + 0 + xs'.length) = pre ++ (splice mid off xs' ++ post) := by
    rw [← o4]; simpa using splice_mid (pre := pre) (mid := mid) (post := post) (xs := xs') (off := off) (by omega)
  have hheap : ∀ cs, (w.setRow l.blk cs).heap[l.blk]? = some (.cells cs T (0, 0)) := fun cs => setRow_heap w l.blk _ cs T _ o2
  refine hR.upd hn hl hk (by exact hk) rfl rfl rfl (by simp [World.setRow]) (fun b hb => setRow_other w l.blk b _ hb) ?_
  have key : ∃ C : List Value, (w.setRow l.blk ((pre ++ (mid ++ post)).take (l.shift + off + 0) ++ xs' ++ (pre ++ (mid ++ post)).drop (l.shift + off + 0 + xs'.length)).toArray).heap[l.blk]? = some (.cells ⟨C⟩ T (0, 0)) ∧ (k = .fix → l.extra = 0) ∧
      ∃ pre mid post, C = pre ++ (mid ++ post) ∧ pre.length = l.shift ∧ CVs ρ (splice c off xs) mid ∧ post.length = l.extra * cx.P.cellsOf T :=
    ⟨_, hheap _, o3, pre, splice mid off xs', post, hnew, o4, splice_cv o5 hx, o6⟩
  cases k with
  | ro => simp [CK.rw] at hk
  | fix => exact ⟨o1, key⟩
  | opn => exact ⟨o1, key⟩

/-- A new row of cells. -/
theorem Rel.newRow (hR : Rel cx ρ H w) {c c' : List Value} (T : TypeId) (hc : CVs ρ c c') :
    Rel cx (ρ.add H.nx ⟨w.heap.size, 0, 0⟩) (H.new (.cells c T .fix)) (w.alloc (.cells ⟨c'⟩ T)) ∧ ρ.le (ρ.add H.nx ⟨w.heap.size, 0, 0⟩) :=
  hR.new _ _ 0 rfl fun ρ' hle hf hb => ⟨hf, c', hb, fun _ => rfl, [], c', [], by simp, rfl, hc.mono hle, by simp⟩
theorem Rel.newMap (hR : Rel cx ρ H w) : Rel cx (ρ.add H.nx ⟨w.heap.size, 0, 0⟩) (H.new (.map [] 0)) (w.alloc (.map #[] 0)) ∧ ρ.le (ρ.add H.nx ⟨w.heap.size, 0, 0⟩) :=
  hR.new _ _ 0 rfl fun ρ' hle hf hb => ⟨hf, [], hb, .nil⟩

theorem stS_sound (hR : Rel cx ρ H w) {t : TypeId} {i : TypeInfo} {a a' x x' : Value} {H' : AH} (hi : cx.P.info? t = some i) (h : stS i.size a x H = some H') (ha : CV ρ a a') (hx : CV ρ x x') :
    ∃ w', (Instr.storeAt t a' x').run cx.P w = .ok () w' ∧ Rel cx ρ H' w' := by
  unfold stS at h
  split at h
  · rename_i n off
    split at h
    · rename_i c T k hn
      cases hb : (k.rw && Nat.beq (cellsL x).length i.size && (cellsL x).all plain && Nat.ble (off + i.size) c.length) with
      | false => rw [hb] at h; cases h
      | true =>
        rw [hb] at h; cases h
        simp only [Bool.and_eq_true] at hb
        obtain ⟨⟨⟨b1, b2⟩, b3⟩, b4⟩ := hb
        have b2 := Nat.eq_of_beq_eq_true b2
        have b4 := Nat.le_of_ble_eq_true b4
        obtain ⟨-, l, e, rfl⟩ := ha.ptr_inv
        have hc := hx.cellsL
        obtain ⟨w', r1, r2⟩ := hR.put hn b1 e (off := off) (by omega) hc (hc.plain b3)
        have hs : x'.cells.size = i.size := by rw [← b2, hc.length]; simp
        exact ⟨w', by simp [Instr.storeAt, Instr.sureAddr, storeVar, run_sizeOf hi, hs, r1], r2⟩
    · cases h
  · cases h

theorem CEs.modify {k v v' : Value} (hk : CV ρ k k) (hv : CV ρ v v') : ∀ (i : Nat) {es es' : List MapEntry}, CEs ρ es es' → CEs ρ (setVal es i k v) (es'.modify i fun e => { e with key := k, val := v' })
  | _, _, _, .nil => by simp [setVal]; exact .nil
  | 0, _, _, .cons a b c d => by simp [setVal]; exact .cons hk (by exact hv) c d
  | i + 1, _, _, .cons a b c d => by
    have := CEs.modify hk hv i d
    simpa [setVal] using CEs.cons a b c this
theorem CEs.append : ∀ {a b c d : List MapEntry}, CEs ρ a b → CEs ρ c d → CEs ρ (a ++ c) (b ++ d)
  | _, _, _, _, .nil, h => h
  | _, _, _, _, .cons x y z t, h => .cons x y z (t.append h)
theorem CEs.erase : ∀ (i : Nat) {a b : List MapEntry}, CEs ρ a b → CEs ρ (a.eraseIdx i) (b.eraseIdx i)
  | _, _, _, .nil => by simpa using CEs.nil
  | 0, _, _, .cons _ _ _ d => by simpa using d
  | i + 1, _, _, .cons a b c d => by simpa using CEs.cons a b c (d.erase i)
theorem sameBits_of {k x : Value} (h : keyEq k x = some true) (n : Nat) : Instr.sameBits n x k = true := by
  unfold keyEq at h
  split at h
  · rename_i j a k b
    by_cases e : j = k
    · subst e; simp at h; subst h; simp [Instr.sameBits]
    · simp [e] at h
  · rename_i a b
    have h1 : (a == b) = true := by simpa using h
    rw [beq_toListBytes] at h1
    have h2 : (b == a) = true := by rw [beq_toListBytes]; rw [beq_iff_eq] at h1 ⊢; exact h1.symm
    simp [Instr.sameBits, h2]
  · simp at h; subst h; simp [Instr.sameBits]
  · cases h
theorem keyFits_cv {d : TypeDesc} {k k' : Value} (hd : keyFits d k = true) (hk : CV ρ k k') : k' = k ∧ CV ρ k k := by
  unfold keyFits at hd
  split at hd
  · exact ⟨hk.int_inv, .int _ _⟩
  · exact ⟨hk.string_inv, .string _⟩
  · exact ⟨hk.bool_inv, .bool _⟩
  · cases hd
theorem run_setMap {P : Program} {b : Nat} {es : Array MapEntry} {c : Nat} (o : Obj) (h : w.heap[b]? = some (.map es c)) : (setObj b o).run P w = .ok () { w with heap := w.heap.setIfInBounds b o } := by
  simp [setObj, Sem.run, h]
theorem Rel.setMap (hR : Rel cx ρ H w) {n : Nat} {es es2 es2' : List MapEntry} {c c2 : Nat} {l : Loc} (hn : H.get n = some (.map es c)) (hl : ρ n = some l) (he : CEs ρ es2 es2') :
    Rel cx ρ (H.put n (.map es2 c2)) { w with heap := w.heap.setIfInBounds l.blk (.map ⟨es2'⟩ c2) } := by
  obtain ⟨l', e, o⟩ := hR.obj n _ hn
  rw [hl] at e; cases e
  obtain ⟨o1, es', o2, o3⟩ := o
  refine hR.upd hn hl rfl rfl rfl rfl rfl (by simp) (fun b hb => ?_) ⟨o1, es2', ?_, he⟩
  · show (w.heap.setIfInBounds l.blk _)[b]? = _
    rw [Array.getElem?_setIfInBounds_ne (Ne.symm hb)]
  · show (w.heap.setIfInBounds l.blk _)[l.blk]? = _
    simp [lt_of_some o2]
theorem muS_sound (hR : Rel cx ρ H w) {t kt et : TypeId} {d : TypeDesc} {m m' k k' x x' : Value} {H' : AH} (ht : cx.P.underlying t = some (.map kt et)) (hu : cx.P.underlying kt = some d) (hd : keyFits d k = true)
    (h : muS m k x H = some H') (hm : CV ρ m m') (hk : CV ρ k k') (hx : CV ρ x x') : ∃ w', (Instr.mapUpdate t m' k' x').run cx.P w = .ok () w' ∧ Rel cx ρ H' w' := by
  obtain ⟨rfl, hkk⟩ := keyFits_cv hd hk
  unfold muS at h
  split at h
  · rename_i r
    split at h
    · rename_i es clock hn
      obtain ⟨l, e, rfl⟩ := hm.map_inv
      obtain ⟨es', h1, h2⟩ := hR.mapAt hn e
      split at h
      · rename_i j u hf
        cases h
        rcases findA_now hd 0 h2 hf with ⟨q, -⟩ | ⟨j', v1, v', q, q2, q3, q4, q5, e', q6, q7⟩
        · cases q
        · cases q
          have q6' : es'[j]? = some e' := by simpa using q6
          refine ⟨_, ?_, hR.setMap hn e (CEs.modify hkk hx j h2)⟩
          simp only [Instr.mapUpdate, Sem.run_bind, run_underlying ht, Result.andThen_ok, run_getMap h1, run_checkKey hu hd, run_findKey hu q2]
          have hb : Instr.sameBits 10000 e'.key k' = true := sameBits_of q7 _
          simp [q6', Instr.keyThatStays, hb, run_setMap _ h1]
      · rename_i hf
        cases h
        rcases findA_now hd 0 h2 hf with ⟨-, q2⟩ | ⟨j', v1, v', q, -⟩
        · refine ⟨_, ?_, hR.setMap (es2' := es' ++ [{ key := k', val := x', born := clock }]) hn e (h2.append (.cons hkk (by exact hx) rfl .nil))⟩
          simp only [Instr.mapUpdate, Sem.run_bind, run_underlying ht, Result.andThen_ok, run_getMap h1, run_checkKey hu hd, run_findKey hu q2]
          simp [run_setMap _ h1]
        · cases q
      · cases h
    · cases h
  · cases h
theorem delS_sound (hR : Rel cx ρ H w) {t ty kt et : TypeId} {d : TypeDesc} {m m' k k' : Value} {H' : AH} {tys : Array TypeId} (h0 : tys[0]? = some t) (ht : cx.P.underlying t = some (.map kt et)) (hu : cx.P.underlying kt = some d) (hd : keyFits d k = true)
    (h : delS m k H = some H') (hm : CV ρ m m') (hk : CV ρ k k') : ∃ w', (Builtin.delete_ tys ty #[m', k']).run cx.P w = .ok (.tuple #[]) w' ∧ Rel cx ρ H' w' := by
  obtain ⟨rfl, hkk⟩ := keyFits_cv hd hk
  unfold delS at h
  split at h
  · cases h; cases hm
    exact ⟨w, by simp [Builtin.delete_, h0, run_underlying ht, run_checkKey hu hd], hR⟩
  · rename_i r
    split at h
    · rename_i es clock hn
      obtain ⟨l, e, rfl⟩ := hm.map_inv
      obtain ⟨es', h1, h2⟩ := hR.mapAt hn e
      split at h
      · rename_i j u hf
        cases h
        rcases findA_now hd 0 h2 hf with ⟨q, -⟩ | ⟨j', v1, v', q, q2, q3, q4, q5, e', q6, q7⟩
        · cases q
        · cases q
          refine ⟨_, ?_, hR.setMap hn e (CEs.erase j h2)⟩
          have hj : j < es'.length := by rw [← h2.length]; omega
          simp [Builtin.delete_, h0, run_underlying ht, run_getMap h1, run_checkKey hu hd, run_findKey hu q2, run_setMap _ h1, Array.eraseIdxIfInBounds, hj]
      · rename_i hf
        cases h
        rcases findA_now hd 0 h2 hf with ⟨-, q2⟩ | ⟨j', v1, v', q, -⟩
        · refine ⟨_, ?_, hR.setMap hn e h2⟩
          simp [Builtin.delete_, h0, run_underlying ht, run_getMap h1, run_checkKey hu hd, run_findKey hu q2, run_setMap _ h1]
        · cases q
      · cases h
    · cases h
  · cases h
end Go.Ab

namespace Go.Ab
open Go
set_option linter.unusedVariables false
set_option linter.unusedSimpArgs false
variable {cx : Cx} {ρ : Ren} {H : AH} {w : World}

theorem run_lenOf_slice {P : Program} (a : Option Addr) (n c : Nat) : (Builtin.lenOf (.slice a n c)).run P w = .ok n w := rfl
/-- What a slice's, or a text's, cells are: in every world of the relation. -/
theorem srcS_sound (hR : Rel cx ρ H w) {es n : Nat} {x x' : Value} {src : List Value} (h : srcS es x H = some (src, n)) (hx : CV ρ x x') :
    ∃ src', CVs ρ src src' ∧ src.length = n * es ∧ (Builtin.lenOf x').run cx.P w = .ok n w ∧ (∀ w2 : World, w2.heap = w.heap → (Builtin.firstCells es n x').run cx.P w2 = .ok ⟨src'⟩ w2) ∧
      (∀ m, m ≤ n → ∀ w2 : World, w2.heap = w.heap → (Builtin.firstCells es m x').run cx.P w2 = .ok ⟨src'.take (m * es)⟩ w2) := by
  unfold srcS at h
  split at h
  · rename_i n' c
    cases hb : Nat.beq n' 0 with
    | false => rw [hb] at h; cases h
    | true =>
      rw [hb] at h; cases h
      obtain rfl := Nat.eq_of_beq_eq_true hb
      cases hx
      exact ⟨[], .nil, by simp, rfl, fun _ _ => rfl, fun m hm _ _ => by simp [Builtin.firstCells]⟩
  · rename_i m off sp n' c
    split at h
    · rename_i c0 T k hn
      cases hb : Nat.beq ((c0.drop off).take (n' * es)).length (n' * es) with
      | false => rw [hb] at h; cases h
      | true =>
        rw [hb] at h; cases h
        have hlen := Nat.eq_of_beq_eq_true hb
        obtain ⟨hsp, l, e, rfl⟩ := hx.slice_inv
        obtain ⟨xs, h1, h2⟩ := hR.cellsAt hn e off (n * es)
        refine ⟨xs, h1, hlen, rfl, fun w2 hw2 => ?_, fun q hq w2 hw2 => ?_⟩
        · have h2' : ∀ j v, xs[j]? = some v → w2.cell? ((⟨l.blk, l.shift + off, none⟩ : Addr).add j) = some v := fun j v hv => by
            rw [← h2 j v hv]; simp only [World.cell?, hw2]
          have hl := run_loadCells_list (P := cx.P) w2 _ xs h2'
          rw [← h1.length, hlen] at hl
          exact hl
        · have h2' : ∀ j v, (xs.take (q * es))[j]? = some v → w2.cell? ((⟨l.blk, l.shift + off, none⟩ : Addr).add j) = some v := fun j v hv => by
            rw [List.getElem?_take] at hv
            split at hv
            · rw [← h2 j v hv]; simp only [World.cell?, hw2]
            · cases hv
          have hl := run_loadCells_list (P := cx.P) w2 _ (xs.take (q * es)) h2'
          have hle : q * es ≤ n * es := Nat.mul_le_mul_right _ hq
          rw [show (xs.take (q * es)).length = q * es from by rw [List.length_take, ← h1.length, hlen]; omega] at hl
          exact hl
    · cases h
  · rename_i s
    cases hb : Nat.beq es 1 with
    | false => rw [hb] at h; cases h
    | true =>
      rw [hb] at h; cases h
      obtain rfl := Nat.eq_of_beq_eq_true hb
      obtain rfl := hx.string_inv
      have hall : ∀ l : List UInt8, (l.map fun b => (Value.int .u8 b.toNat)).all bare = true := fun l => by
        induction l with
        | nil => rfl
        | cons b l ih => simp [bare]
      have hlen : (s.data.toList.map fun b => (Value.int .u8 b.toNat)).length = s.size * 1 := by rw [List.length_map, Nat.mul_one]; rfl
      refine ⟨s.data.toList.map fun b => .int .u8 b.toNat, .of_bare (hall _), hlen, rfl, fun w2 _ => ?_, fun q hq w2 _ => ?_⟩
      · simp only [Builtin.firstCells, Sem.run_pure]
        congr 1
        apply Array.ext'
        simp
      · simp only [Builtin.firstCells, Sem.run_pure]
        congr 1
        apply Array.ext'
        simp [List.map_take]
  · cases h

theorem setRow_drew (w : World) (b : Nat) (cs : Array Value) : True := trivial
/-- A row that grows within room of its own. -/
theorem Rel.grow (hR : Rel cx ρ H w) {m off len cap n es : Nat} {c src src' : List Value} {T : TypeId} {l : Loc} (hn : H.get m = some (.cells c T .opn)) (hl : ρ m = some l) (hes : es = cx.P.cellsOf T)
    (hcap : off + cap * es = c.length) (hlc : len ≤ cap) (hneed : cap < len + n) (hroom : len + n ≤ cap + l.extra) (hs : CVs ρ src src') (hsl : src.length = n * es) (hp : ∀ v ∈ src', v.oneCell' = true) :
    ∃ w', (storeCells ⟨l.blk, l.shift + (off + len * es), none⟩ src').run cx.P w = .ok () w' ∧
      Rel cx (ρ.add H.nx ⟨l.blk, l.shift + off, l.extra - (len + n - cap)⟩) ((H.del m).new (.cells ((c.drop off).take (len * es) ++ src) T .opn)) w' ∧ ρ.le (ρ.add H.nx ⟨l.blk, l.shift + off, l.extra - (len + n - cap)⟩) := by
  obtain ⟨l', e, o⟩ := hR.obj m _ hn
  rw [hl] at e; cases e
  obtain ⟨o1, C, o2, -, pre, mid, post, rfl, o4, o5, o6⟩ := o
  have hml := o5.length
  have hsl' := hs.length
  have q1 : len * es ≤ cap * es := Nat.mul_le_mul_right _ hlc
  have q2 : len * es + n * es ≤ cap * es + l.extra * es := by rw [← Nat.add_mul, ← Nat.add_mul]; exact Nat.mul_le_mul_right _ hroom
  have q3 : cap * es ≤ len * es + n * es := by rw [← Nat.add_mul]; exact Nat.mul_le_mul_right _ (by omega)
  rw [← hes] at o6
  have hrun := run_storeCells_at cx.P l.blk (l.shift + (off + len * es)) T src' 0 ⟨pre ++ (mid ++ post)⟩ w o2 (by simp; omega) hp
  refine ⟨_, hrun, ?_⟩
  have hheap : ∀ cs, (w.setRow l.blk cs).heap[l.blk]? = some (.cells cs T (0, 0)) := fun cs => setRow_heap w l.blk _ cs T _ o2
  refine hR.replace (l' := ⟨l.blk, l.shift + off, l.extra - (len + n - cap)⟩) hn hl rfl rfl rfl rfl rfl rfl (by simp [World.setRow]) (fun b hb => setRow_other w l.blk b _ hb) fun ρ' hle hfr => ?_
  refine ⟨hfr, _, hheap _, fun hh => (by cases hh), pre ++ mid.take off, (mid.drop off).take (len * es) ++ src', (pre ++ (mid ++ post)).drop (l.shift + (off + len * es) + n * es), ?_, ?_, ?_, ?_⟩
  · rw [Nat.add_zero, ← hsl', hsl]
    have e1 : (pre ++ (mid ++ post)).take (l.shift + (off + len * es)) = pre ++ (mid.take off ++ (mid.drop off).take (len * es)) := by
      rw [List.take_append, List.take_of_length_le (by omega)]
      congr 1
      rw [show l.shift + (off + len * es) - pre.length = off + len * es from by omega, List.take_append_of_le_length (by omega), List.take_add]
    show (pre ++ (mid ++ post)).take (l.shift + (off + len * es)) ++ src' ++ _ = _
    rw [e1]
    simp
  · simp; omega
  · exact (((o5.drop off).take _).append hs).mono hle
  · rw [← hes]
    simp only [List.length_drop, List.length_append]
    rw [Nat.mul_sub_right_distrib, Nat.mul_sub_right_distrib, Nat.add_mul]
    omega

section
variable {P : Program} {tys : Array TypeId} {t0 t1 e ty : TypeId} {d : TypeDesc} {i : TypeInfo} (h0 : tys[0]? = some t0) (ht : P.underlying t0 = some (.slice e)) (h1 : tys[1]? = some t1) (hd : P.underlying t1 = some d)
  (hnd : srcKind d = true) (hi : P.info? e = some i)
include h0 ht h1 hd hnd hi
theorem run_append_in (base : Option Addr) (sLen cap n : Nat) (x' : Value) (hn : (Builtin.lenOf x').run P w = .ok n w) (hle : sLen + n ≤ cap) {new : Array Value} (hnew : (Builtin.firstCells i.size n x').run P w = .ok new w) :
    (Builtin.append_ tys ty #[.slice base sLen cap, x']).run P w =
          match base with
          | some a => ((storeCells (a.add (sLen * i.size)) new.toList).run P w).andThen fun _ w'' => .ok (.slice base (sLen + n) cap) w''
          | none => .ok (.slice base (sLen + n) cap) w := by
  unfold Builtin.append_
  cases d <;> simp only [srcKind, Bool.false_eq_true] at hnd
  all_goals
    cases base <;>
    simp [h0, h1, run_underlying ht, run_underlying hd, run_sizeOf hi, hn, hle, hnew]
theorem run_append_grow (base : Option Addr) (sLen cap n : Nat) (x' : Value) (hn : (Builtin.lenOf x').run P w = .ok n w) (hgt : cap < sLen + n) (hb : i.bytes ≠ 0)
    (hroom : Builtin.nextslicecap (sLen + n) cap * i.bytes ≤ 2 ^ 48) {old new : Array Value} {zv : Value}
    (hold : ∀ w2 : World, w2.heap = w.heap → (Builtin.firstCells i.size sLen (.slice base sLen cap)).run P w2 = .ok old w2)
    (hnew : ∀ w2 : World, w2.heap = w.heap → (Builtin.firstCells i.size n x').run P w2 = .ok new w2) (hz : ∀ w2, (zeroValue e).run P w2 = .ok zv w2) :
    ∃ nc d, sLen + n ≤ nc ∧ (Builtin.append_ tys ty #[.slice base sLen cap, x']).run P w =
      .ok (.slice (some ⟨w.heap.size, 0, none⟩) (sLen + n) nc) (({ w with drawn := d } : World).alloc (.cells (old ++ new ++ Builtin.zeroCells zv.cells (nc - (sLen + n))) e)) := by
  refine ⟨(Question.appendCap (sLen + n) cap e).cut (w.tape w.drawn (Question.appendCap (sLen + n) cap e)), w.drawn + 1, by simp [Question.cut], ?_⟩
  unfold Builtin.append_
  have hti : ∀ w2, (typeInfo e).run P w2 = .ok i w2 := fun w2 => by simp [typeInfo, hi]
  cases d <;> simp only [srcKind, Bool.false_eq_true] at hnd
  all_goals
    have hgt' : ¬ (sLen + n ≤ cap) := by omega
    have hroom' : ¬ (281474976710656 < Builtin.nextslicecap (sLen + n) cap * i.bytes) := by
      have : (2 : Nat) ^ 48 = 281474976710656 := by decide
      omega
    simp [h0, h1, run_underlying ht, run_underlying hd, run_sizeOf hi, hn, hti, hgt', hb, hroom', Question.forced]
    rw [hold _ (by rfl)]
    simp only [Result.andThen_ok]
    rw [hnew _ (by rfl)]
    simp only [Result.andThen_ok, hz, newRow, Sem.run_bind, run_newObj, Sem.run_pure]
    rfl
end
end Go.Ab

namespace Go.Ab
open Go
set_option linter.unusedVariables false
set_option linter.unusedSimpArgs false
variable {cx : Cx} {ρ : Ren} {H : AH} {w : World}

theorem zc_length (z : Array Value) (n : Nat) : (Builtin.zeroCells z n).toList.length = n * z.size := by
  simp [Builtin.zeroCells]
theorem Rel.newOpen (hR : Rel cx ρ H w) {c c' rest : List Value} (T : TypeId) (ex : Nat) (hc : CVs ρ c c') (hr : rest.length = ex * cx.P.cellsOf T) :
    Rel cx (ρ.add H.nx ⟨w.heap.size, 0, ex⟩) (H.new (.cells c T .opn)) (w.alloc (.cells ⟨c' ++ rest⟩ T)) ∧ ρ.le (ρ.add H.nx ⟨w.heap.size, 0, ex⟩) :=
  hR.new _ _ ex rfl fun ρ' hle hf hb => ⟨hf, c' ++ rest, hb, fun h => (by cases h), [], c', rest, by simp, rfl, hc.mono hle, hr⟩

theorem zeroL_all {P : Program} {t : TypeId} {i : TypeInfo} {z : List Value} (hi : P.info? t = some i) (hz : zeroL i = some z) :
    ∃ zv, (∀ w : World, (zeroValue t).run P w = .ok zv w) ∧ zv.cells = ⟨z⟩ ∧ CVs ρ z z := by
  unfold zeroL at hz
  split at hz
  · rename_i zv hzv
    cases hb : (cellsL zv).all bare with
    | false => rw [hb] at hz; cases hz
    | true =>
      rw [hb] at hz; cases hz
      refine ⟨zv, fun w => by simp [zeroValue, typeInfo, hi, hzv], ?_, .of_bare hb⟩
      cases zv <;> rfl
  · cases hz
theorem room_le {len n cap bytes : Nat} (h : Nat.ble ((2 * (len + n) + 1024) * bytes) (2 ^ 48) = true) (hgt : cap < len + n) : Builtin.nextslicecap (len + n) cap * bytes ≤ 2 ^ 48 := by
  have h1 := Nat.le_of_ble_eq_true h
  have h2 := nextslicecap_le hgt
  exact Nat.le_trans (Nat.mul_le_mul_right _ (by omega)) h1

section
variable {tys : Array TypeId} {t0 t1 e ty : TypeId} {d : TypeDesc} {i : TypeInfo} {z : List Value} (h0 : tys[0]? = some t0) (ht : cx.P.underlying t0 = some (.slice e)) (h1 : tys[1]? = some t1) (hd : cx.P.underlying t1 = some d)
  (hnd : srcKind d = true) (hi : cx.P.info? e = some i)
include h0 ht h1 hd hnd hi
theorem appS_sound (hR : Rel cx ρ H w) (hz : zeroL i = some z) (hzl : z.length = i.size) (hb : i.bytes ≠ 0) {s s' x x' v : Value} {H' : AH}
    (h : appS i.size i.bytes e s x H = some (v, H')) (hs : CV ρ s s') (hx : CV ρ x x') :
    ∃ w' v' ρ', (Builtin.append_ tys ty #[s', x']).run cx.P w = .ok v' w' ∧ (ρ.le ρ' ∧ (ρ' = ρ ∨ ∃ l, ρ' = ρ.add H.nx l)) ∧ CV ρ' v v' ∧ Rel cx ρ' H' w' := by
  have hce : cx.P.cellsOf e = i.size := by simp [Program.cellsOf, hi]
  unfold appS at h
  split at h
  · cases h
  · rename_i src n hsrc
    obtain ⟨src', c1, c2, c3, c4, -⟩ := srcS_sound hR hsrc hx
    obtain ⟨zv, hzv, z2, -⟩ := zeroL_all (ρ := ρ) hi hz
    have hzl' : zv.cells.size = i.size := by rw [z2]; exact hzl
    cases hpl : src.all plain with
    | false => rw [hpl] at h; cases h
    | true =>
      rw [hpl] at h
      simp only [cond_true] at h
      have hsp' : ∀ v ∈ src', v.oneCell' = true := c1.plain hpl
      split at h
      · rename_i len cap
        cases hs
        cases hq : (Nat.beq len 0 && Nat.beq cap 0) with
        | false => rw [hq] at h; cases h
        | true =>
          rw [hq] at h
          simp only [cond_true] at h
          simp only [Bool.and_eq_true] at hq
          obtain rfl := Nat.eq_of_beq_eq_true hq.1
          obtain rfl := Nat.eq_of_beq_eq_true hq.2
          cases hn0 : Nat.beq n 0 with
          | true =>
            rw [hn0] at h
            obtain rfl := Nat.eq_of_beq_eq_true hn0
            cases h
            exact ⟨w, .slice none 0 0, ρ, run_append_in h0 ht h1 hd hnd hi none 0 0 0 x' c3 (by omega) (c4 w rfl), ⟨Ren.le_refl _, .inl rfl⟩, .sliceNil _ _, hR⟩
          | false =>
            rw [hn0] at h
            have hn := Nat.ne_of_beq_eq_false hn0
            simp only [cond_false] at h
            cases hr : Nat.ble ((2 * n + 1024) * i.bytes) (2 ^ 48) with
            | false => rw [hr] at h; cases h
            | true =>
              rw [hr] at h; cases h
              obtain ⟨nc, dr, g1, g2⟩ := run_append_grow (w := w) (ty := ty) h0 ht h1 hd hnd hi none 0 0 n x' c3 (by omega) hb (room_le (len := 0) (by simpa using hr) (by omega)) (old := #[]) (fun w2 _ => rfl) c4 hzv
              simp only [Nat.zero_add] at g1 g2
              have hnew := (hR.drew dr).newOpen (c' := src') (rest := (Builtin.zeroCells zv.cells (nc - n)).toList) e (nc - n) c1 (by rw [zc_length, hzl', hce])
              have ha : (#[] ++ (⟨src'⟩ : Array Value) ++ Builtin.zeroCells zv.cells (nc - n)) = ⟨src' ++ (Builtin.zeroCells zv.cells (nc - n)).toList⟩ := by apply Array.ext'; simp
              rw [ha] at g2
              refine ⟨_, _, _, g2, ⟨hnew.2, .inr ⟨_, rfl⟩⟩, ?_, hnew.1⟩
              have := CV.slice (ρ := ρ.add H.nx ⟨w.heap.size, 0, nc - n⟩) (n := H.nx) (off := 0) (len := n) (cap := n) (Ren.add_self _ _ _)
              rw [show n + (nc - n) = nc from by omega] at this
              exact this
      · rename_i m off sp len cap
        obtain ⟨hspp, l, e0, rfl⟩ := hs.slice_inv
        split at h
        · rename_i c T' k hm
          cases hin : Nat.ble (len + n) cap with
          | true =>
            rw [hin] at h
            have hle := Nat.le_of_ble_eq_true hin
            simp only [cond_true] at h
            have hrun := run_append_in (w := w) (ty := ty) h0 ht h1 hd hnd hi (some ⟨l.blk, l.shift + off, none⟩) len (cap + if sp = none then l.extra else 0) n x' c3 (by omega) (c4 w rfl)
            simp only [add_eq] at hrun
            cases hn0 : Nat.beq n 0 with
            | true =>
              rw [hn0] at h
              obtain rfl := Nat.eq_of_beq_eq_true hn0
              cases h
              have : src' = [] := by
                have := c1.length
                rw [c2] at this
                exact List.eq_nil_of_length_eq_zero (by simpa using this.symm)
              subst this
              refine ⟨w, _, ρ, hrun, ⟨Ren.le_refl _, .inl rfl⟩, ?_, hR⟩
              rw [Nat.add_zero]
              exact hs
            | false =>
              rw [hn0] at h
              simp only [cond_false] at h
              cases hc : (k.rw && Nat.ble (off + (len + n) * i.size) c.length) with
              | false => rw [hc] at h; cases h
              | true =>
                rw [hc] at h; cases h
                simp only [Bool.and_eq_true] at hc
                have hfit := Nat.le_of_ble_eq_true hc.2
                have hmul : (len + n) * i.size = len * i.size + n * i.size := Nat.add_mul _ _ _
                obtain ⟨w', r1, r2⟩ := hR.put hm hc.1 e0 (off := off + len * i.size) (xs := src) (by omega) c1 hsp'
                rw [Nat.add_assoc, r1] at hrun
                refine ⟨w', _, ρ, hrun, ⟨Ren.le_refl _, .inl rfl⟩, ?_, r2⟩
                rcases hspp with rfl | rfl
                · exact .slice e0
                · exact .sliceX e0
          | false =>
            rw [hin] at h
            have hgt : cap < len + n := by
              rcases Nat.lt_or_ge cap (len + n) with hh | hh
              · exact hh
              · rw [Nat.ble_eq_true_of_le hh] at hin; cases hin
            simp only [cond_false] at h
            cases hc : (Nat.beq ((c.drop off).take (len * i.size)).length (len * i.size) && Nat.ble ((2 * (len + n) + 1024) * i.bytes) (2 ^ 48)) with
            | false => rw [hc] at h; cases h
            | true =>
              rw [hc] at h
              simp only [cond_true] at h
              simp only [Bool.and_eq_true] at hc
              have hlen := Nat.eq_of_beq_eq_true hc.1
              obtain ⟨xs, x1, x2⟩ := hR.cellsAt hm e0 off (len * i.size)
              have hold : ∀ cap2 (w2 : World), w2.heap = w.heap → (Builtin.firstCells i.size len (.slice (some ⟨l.blk, l.shift + off, none⟩) len cap2)).run cx.P w2 = .ok ⟨xs⟩ w2 := fun cap2 w2 hw2 => by
                have x2' : ∀ j v, xs[j]? = some v → w2.cell? ((⟨l.blk, l.shift + off, none⟩ : Addr).add j) = some v := fun j v hv => by
                  rw [← x2 j v hv]; simp only [World.cell?, hw2]
                have hl := run_loadCells_list (P := cx.P) w2 _ xs x2'
                rw [← x1.length, hlen] at hl
                exact hl
              -- a new row
              have fresh : ∀ H2, Rel cx ρ H2 w → ∀ cap2, cap2 < len + n → ∃ w' v' ρ', (Builtin.append_ tys ty #[.slice (some ⟨l.blk, l.shift + off, none⟩) len cap2, x']).run cx.P w = .ok v' w' ∧ (ρ.le ρ' ∧ (ρ' = ρ ∨ ∃ l, ρ' = ρ.add H2.nx l)) ∧
                  CV ρ' (.slice (some ⟨H2.nx, 0, none⟩) (len + n) (len + n)) v' ∧ Rel cx ρ' (H2.new (.cells ((c.drop off).take (len * i.size) ++ src) e .opn)) w' := fun H2 hR2 cap2 hcap2 => by
                obtain ⟨nc, dr, g1, g2⟩ := run_append_grow (w := w) (ty := ty) h0 ht h1 hd hnd hi (some ⟨l.blk, l.shift + off, none⟩) len cap2 n x' c3 hcap2 hb (room_le hc.2 hcap2) (hold cap2) c4 hzv
                have hnew := (hR2.drew dr).newOpen (c' := xs ++ src') (rest := (Builtin.zeroCells zv.cells (nc - (len + n))).toList) e (nc - (len + n)) (x1.append c1) (by rw [zc_length, hzl', hce])
                have ha : ((⟨xs⟩ : Array Value) ++ (⟨src'⟩ : Array Value) ++ Builtin.zeroCells zv.cells (nc - (len + n))) = ⟨xs ++ src' ++ (Builtin.zeroCells zv.cells (nc - (len + n))).toList⟩ := by apply Array.ext'; simp
                rw [ha] at g2
                refine ⟨_, _, _, g2, ⟨hnew.2, .inr ⟨_, rfl⟩⟩, ?_, hnew.1⟩
                have := CV.slice (ρ := ρ.add H2.nx ⟨w.heap.size, 0, nc - (len + n)⟩) (n := H2.nx) (off := 0) (len := len + n) (cap := len + n) (Ren.add_self _ _ _)
                rw [show len + n + (nc - (len + n)) = nc from by omega] at this
                exact this
              cases hx2 : (sp.isSome || !decide (k = .opn)) with
              | true =>
                rw [hx2] at h; cases h
                have hz0 : (if sp = none then l.extra else 0) = 0 := by
                  simp only [Bool.or_eq_true] at hx2
                  rcases hx2 with hh | hh
                  · rw [if_neg]; intro e'; rw [e'] at hh; cases hh
                  · have hk : k ≠ .opn := by simpa using hh
                    have : l.extra = 0 := hR.exact (n := m) (by unfold exactName; rw [hm]; cases k <;> first | rfl | exact absurd rfl hk) e0
                    rw [this]; simp
                rw [hz0, Nat.add_zero]
                exact fresh H hR cap hgt
              | false =>
                rw [hx2] at h
                simp only [cond_false] at h
                simp only [Bool.or_eq_false_iff, Bool.not_eq_false', decide_eq_true_eq] at hx2
                obtain ⟨hs1, rfl⟩ := hx2
                have hsn : sp = none := by cases sp <;> simp_all
                subst hsn
                cases hc2 : (Nat.beq (off + cap * i.size) c.length && Nat.beq e T' && Nat.ble len cap) with
                | false => rw [hc2] at h; cases h
                | true =>
                  rw [hc2] at h; cases h
                  simp only [Bool.and_eq_true] at hc2
                  have hcc := Nat.eq_of_beq_eq_true hc2.1.1
                  obtain rfl := Nat.eq_of_beq_eq_true hc2.1.2
                  have hlc := Nat.le_of_ble_eq_true hc2.2
                  simp only [if_true]
                  by_cases hroom : len + n ≤ cap + l.extra
                  · obtain ⟨w', r1, r2, r3⟩ := hR.grow hm e0 hce.symm hcc hlc hgt hroom c1 c2 hsp'
                    have hrun := run_append_in (w := w) (ty := ty) h0 ht h1 hd hnd hi (some ⟨l.blk, l.shift + off, none⟩) len (cap + l.extra) n x' c3 hroom (c4 w rfl)
                    simp only [add_eq, Nat.add_assoc] at hrun
                    rw [r1] at hrun
                    refine ⟨w', _, _, hrun, ⟨r3, .inr ⟨_, rfl⟩⟩, ?_, r2⟩
                    have := CV.slice (ρ := ρ.add H.nx ⟨l.blk, l.shift + off, l.extra - (len + n - cap)⟩) (n := H.nx) (off := 0) (len := len + n) (cap := len + n) (Ren.add_self _ _ _)
                    simp only [Nat.add_zero] at this
                    rw [show len + n + (l.extra - (len + n - cap)) = cap + l.extra from by omega] at this
                    exact this
                  · exact fresh (H.del m) (hR.del m) (cap + l.extra) (by omega)
        · cases h
      · cases h
end
end Go.Ab

namespace Go.Ab
open Go
set_option linter.unusedVariables false
set_option linter.unusedSimpArgs false
variable {cx : Cx} {ρ : Ren} {H : AH} {w : World}

theorem cpyS_sound (hR : Rel cx ρ H w) {tys : Array TypeId} {t0 e ty : TypeId} {i : TypeInfo} (h0 : tys[0]? = some t0) (ht : cx.P.underlying t0 = some (.slice e)) (hi : cx.P.info? e = some i)
    {d d' x x' v : Value} {H' : AH} (h : cpyS i.size d x H = some (v, H')) (hd : CV ρ d d') (hx : CV ρ x x') :
    ∃ w' v', (Builtin.copy_ tys ty #[d', x']).run cx.P w = .ok v' w' ∧ CV ρ v v' ∧ Rel cx ρ H' w' := by
  unfold cpyS at h
  split at h
  · rename_i len cap src n hsrc
    obtain ⟨src', c1, c2, c3, -, c5⟩ := srcS_sound hR hsrc hx
    cases h; cases hd
    refine ⟨w, .int .i64 (min n len : Nat), ?_, .int _ _, hR⟩
    simp [Builtin.copy_, h0, run_underlying ht, c3, run_sizeOf hi, c5 (Nat.min n len) (Nat.min_le_left _ _) w rfl, goInt]
  · rename_i m off sp len cap src n hsrc
    obtain ⟨src', c1, c2, c3, -, c5⟩ := srcS_sound hR hsrc hx
    obtain ⟨hsp, l, e0, rfl⟩ := hd.slice_inv
    split at h
    · rename_i c T k hm
      cases hc : (k.rw && (src.take (min n len * i.size)).all plain && Nat.ble (off + min n len * i.size) c.length && Nat.ble (min n len * i.size) src.length) with
      | false => rw [hc] at h; cases h
      | true =>
        rw [hc] at h; cases h
        simp only [Bool.and_eq_true] at hc
        obtain ⟨⟨⟨b1, b2⟩, b3⟩, b4⟩ := hc
        have b3 := Nat.le_of_ble_eq_true b3
        have b4 := Nat.le_of_ble_eq_true b4
        have ct := c1.take (min n len * i.size)
        obtain ⟨w', r1, r2⟩ := hR.put hm b1 e0 (off := off) (xs := src.take (min n len * i.size)) (by rw [List.length_take]; omega) ct (ct.plain b2)
        refine ⟨w', .int .i64 (min n len : Nat), ?_, .int _ _, r2⟩
        simp [Builtin.copy_, h0, run_underlying ht, c3, run_sizeOf hi, c5 (Nat.min n len) (Nat.min_le_left _ _) w rfl, goInt]
        rw [show n.min len = min n len from rfl, r1]
        rfl
    · cases h
  · cases h

theorem zrow_length (z : List Value) : ∀ n, (zrow z n).length = n * z.length
  | 0 => by simp [zrow]
  | n + 1 => by rw [zrow, List.length_append, zrow_length z n, Nat.add_mul]; omega
theorem zrow_get (z : List Value) (hz : 0 < z.length) : ∀ n j, j < n * z.length → (zrow z n)[j]? = z[j % z.length]?
  | 0, j, h => by simp at h
  | n + 1, j, h => by
    rw [zrow]
    by_cases hj : j < z.length
    · rw [List.getElem?_append_left hj, Nat.mod_eq_of_lt hj]
    · have hj : z.length ≤ j := by omega
      rw [List.getElem?_append_right hj, zrow_get z hz n _ (by rw [Nat.add_mul] at h; omega), Nat.mod_eq_sub_mod hj]
theorem zrow_eq (z : List Value) (hz : 0 < z.length) (n : Nat) : (Array.range (n * z.length)).map (fun i => (⟨z⟩ : Array Value)[i % (⟨z⟩ : Array Value).size]!) = ⟨zrow z n⟩ := by
  apply Array.ext'
  apply List.ext_getElem?
  intro j
  by_cases hj : j < n * z.length
  · have hm : j % z.length < z.length := Nat.mod_lt _ hz
    show _ = (zrow z n)[j]?
    rw [zrow_get z hz n j hj]
    simp [hj, hm]
  · have h2 : (zrow z n)[j]? = none := List.getElem?_eq_none (by rw [zrow_length]; omega)
    show _ = (zrow z n)[j]?
    rw [h2]
    simp; omega
theorem zrow_cv {z z' : List Value} (h : CVs ρ z z') : ∀ n, CVs ρ (zrow z n) (zrow z' n)
  | 0 => .nil
  | n + 1 => h.append (zrow_cv h n)
theorem Rel.newRowAt (hR : Rel cx ρ H w) (n : Nat) (hn : ρ n = none) (hlt : n < H.nx) {c c' : List Value} (T : TypeId) (hc : CVs ρ c c') :
    Rel cx (ρ.add n ⟨w.heap.size, 0, 0⟩) (H.put n (.cells c T .fix)) (w.alloc (.cells ⟨c'⟩ T)) ∧ ρ.le (ρ.add n ⟨w.heap.size, 0, 0⟩) :=
  hR.newAt n hn hlt _ _ rfl fun ρ' hle hf hb => ⟨hf, c', hb, fun _ => rfl, [], c', [], by simp, rfl, hc.mono hle, by simp⟩
theorem Rel.newMapAt (hR : Rel cx ρ H w) (n : Nat) (hn : ρ n = none) (hlt : n < H.nx) : Rel cx (ρ.add n ⟨w.heap.size, 0, 0⟩) (H.put n (.map [] 0)) (w.alloc (.map #[] 0)) ∧ ρ.le (ρ.add n ⟨w.heap.size, 0, 0⟩) :=
  hR.newAt n hn hlt _ _ rfl fun ρ' hle hf hb => ⟨hf, [], hb, .nil⟩
theorem mkS_sound (hR : Rel cx ρ H w) {t e : TypeId} {i : TypeInfo} {z : List Value} {l l' c c' : Value} (ht : cx.P.underlying t = some (.slice e)) (hi : cx.P.info? e = some i) (hz : zeroL i = some z)
    (hzl : z.length = i.size) (hz0 : i.size ≠ 0) {n : Nat} (hn : ρ n = none) (hlt : n < H.nx) {ob : AObj} {f : Nat → Value} (h : mkS z e i.bytes l c = some (ob, f)) (hl : CV ρ l l') (hc : CV ρ c c') :
    ∃ w' v', (Instr.makeSlice t l' c').run cx.P w = .ok v' w' ∧ ρ.le (ρ.add n ⟨w.heap.size, 0, 0⟩) ∧ CV (ρ.add n ⟨w.heap.size, 0, 0⟩) (f n) v' ∧ Rel cx (ρ.add n ⟨w.heap.size, 0, 0⟩) (H.put n ob) w' := by
  unfold mkS at h
  split at h
  · rename_i k1 l k2 c
    obtain rfl := hl.int_inv
    obtain rfl := hc.int_inv
    cases hb : (decide (0 ≤ l) && decide (l ≤ c) && decide (c ≤ 2 ^ 47) && Nat.ble (i.bytes * c.toNat) (2 ^ 48)) with
    | false => rw [hb] at h; cases h
    | true =>
      rw [hb] at h; cases h
      simp only [Bool.and_eq_true, decide_eq_true_eq] at hb
      obtain ⟨⟨⟨b1, b2⟩, b3⟩, b4⟩ := hb
      have b4 := Nat.le_of_ble_eq_true b4
      obtain ⟨zv, hzv, z2, z3⟩ := zeroL_all (ρ := ρ) hi hz
      have hw1 : IntKind.i64.wrap l = l := by
        simp [IntKind.wrap, IntKind.bits, IntKind.signed]
        omega
      have hw2 : IntKind.i64.wrap c = c := by
        simp [IntKind.wrap, IntKind.bits, IntKind.signed]
        omega
      have hnn := hR.newRowAt n hn hlt e (zrow_cv z3 c.toNat)
      have hti : (typeInfo e).run cx.P w = .ok i w := by simp [typeInfo, hi]
      have hcb : ¬ ((i.bytes : Int) * c > 2 ^ 48) := by
        have : (i.bytes : Int) * c = ((i.bytes * c.toNat : Nat) : Int) := by
          rw [Int.natCast_mul, Int.toNat_of_nonneg (by omega)]
        rw [this]; omega
      refine ⟨w.alloc (.cells ⟨zrow z c.toNat⟩ e), .slice (some ⟨w.heap.size, 0, none⟩) l.toNat c.toNat, ?_, hnn.2, ?_, hnn.1⟩
      · simp only [Instr.makeSlice, Sem.run_bind, run_underlying ht, Result.andThen_ok, asInt, asIntOf, Sem.run_pure, hti, hw1, hw2]
        have e1 : (decide (c < 0) || decide ((i.bytes : Int) * c > 2 ^ 48)) = false := by simp only [Bool.or_eq_false_iff, decide_eq_false_iff_not]; exact ⟨by omega, hcb⟩
        have e2 : (decide (l < 0)) = false := by simp; omega
        have e3 : (decide (l > c)) = false := by simp; omega
        simp only [e1, e2, e3, Bool.or_self, Bool.false_eq_true, if_false, Sem.run_bind, run_askRoom, Result.andThen_ok, run_sizeOf hi]
        have hzr := zrow_eq z (by omega) c.toNat
        by_cases hc0 : c.toNat * i.size = 0
        · rw [hzl] at hzr
          rw [hc0] at hzr
          have : zrow z c.toNat = [] := List.eq_nil_of_length_eq_zero (by rw [zrow_length, hzl, hc0])
          have he : Array.map (fun _ => (default : Value)) (Array.range 0) = (⟨[]⟩ : Array Value) := by apply Array.ext'; simp
          simp [hc0, newRow, this]
          rw [he]
        · rw [hzl] at hzr
          have hzr' : Array.map (fun x => z[x % z.length]?.getD default) (Array.range (c.toNat * i.size)) = (⟨zrow z c.toNat⟩ : Array Value) := by simpa using hzr
          simp [hc0, newRow, hzv, z2]
          rw [hzr']
      · have := CV.slice (ρ := ρ.add n ⟨w.heap.size, 0, 0⟩) (n := n) (off := 0) (len := l.toNat) (cap := c.toNat) (Ren.add_self _ _ _)
        exact this
  · cases h

theorem zrow_bare {z : List Value} (h : z.all bare = true) : ∀ n, (zrow z n).all bare = true
  | 0 => rfl
  | n + 1 => by rw [zrow, List.all_append, h, zrow_bare h n]; rfl
theorem clrS_sound (hR : Rel cx ρ H w) {tys : Array TypeId} {t0 e ty : TypeId} {i : TypeInfo} {z : List Value} (h0 : tys[0]? = some t0) (ht : cx.P.underlying t0 = some (.slice e)) (hi : cx.P.info? e = some i) (hz : zeroL i = some z)
    (hzl : z.length = i.size) (hz0 : i.size ≠ 0) {x x' v : Value} {H' : AH} (h : clrS z x H = some (v, H')) (hx : CV ρ x x') :
    ∃ w' v', (Builtin.clear_ tys ty #[x']).run cx.P w = .ok v' w' ∧ CV ρ v v' ∧ Rel cx ρ H' w' := by
  obtain ⟨zv, hzv, z2, z3⟩ := zeroL_all (ρ := ρ) hi hz
  unfold clrS at h
  split at h
  · cases h; cases hx
    refine ⟨w, .tuple #[], ?_, .tuple .nil, hR⟩
    simp [Builtin.clear_, h0, run_underlying ht]
  · rename_i m off sp n cap
    obtain ⟨hsp, l, e0, rfl⟩ := hx.slice_inv
    split at h
    · rename_i c T k hm
      cases hn : Nat.beq n 0 with
      | true =>
        have hn := Nat.eq_of_beq_eq_true hn
        subst hn
        simp only [show Nat.beq 0 0 = true from rfl, cond_true] at h
        cases h
        refine ⟨w, .tuple #[], ?_, .tuple .nil, hR⟩
        simp [Builtin.clear_, h0, run_underlying ht]
      | false =>
        rw [hn] at h
        simp only [cond_false] at h
        have hn := Nat.ne_of_beq_eq_false hn
        cases hc : (k.rw && Nat.ble (off + n * z.length) c.length) with
        | false => rw [hc] at h; cases h
        | true =>
          rw [hc] at h; cases h
          simp only [Bool.and_eq_true] at hc
          have b2 := Nat.le_of_ble_eq_true hc.2
          have hzb : z.all bare = true := by
            unfold zeroL at hz
            split at hz
            · rename_i z0 hz0
              cases hb : (cellsL z0).all bare with
              | false => rw [hb] at hz; cases hz
              | true => rw [hb] at hz; cases hz; exact hb
            · cases hz
          have hpl : (zrow z n).all plain = true := by
            rw [List.all_eq_true]
            intro y hy
            have := List.all_eq_true.1 (zrow_bare hzb n) y hy
            cases y <;> first | rfl | (simp [bare] at this)
          have ct := zrow_cv z3 n
          obtain ⟨w', r1, r2⟩ := hR.put hm hc.1 e0 (off := off) (xs := zrow z n) (by rw [zrow_length]; exact b2) ct (ct.plain hpl)
          refine ⟨w', .tuple #[], ?_, .tuple .nil, r2⟩
          have hzr := zrow_eq z (by omega) n
          have hzr' : List.map (fun x => z[x % z.length]?.getD default) (List.range (n * z.length)) = zrow z n := by
            have h := congrArg Array.toList hzr
            simpa using h
          obtain ⟨n, rfl⟩ : ∃ n', n = n' + 1 := ⟨n - 1, by omega⟩
          simp [Builtin.clear_, h0, run_underlying ht, Builtin.zeroCells, hzv, z2]
          rw [hzr', r1]
          rfl
    · cases h
  · cases h

theorem buildSlice_sound (hR : Rel cx ρ H w) {n : Nat} (hn : ρ n = none) (hlt : n < H.nx) {t e : TypeId} {i : TypeInfo} {z r : List Value} {len : Nat} {ps : List (Nat × Value)} {ps' : Array (Nat × Value)} (ht : cx.P.underlying t = some (.slice e)) (hi : cx.P.info? e = some i)
    (hz : zeroL i = some z) (hle : len * i.size ≤ 2 ^ 24) (hzl : z.length = i.size) (h1 : ps.map (·.1) = ps'.toList.map (·.1)) (h2 : CVs ρ (ps.map (·.2)) (ps'.toList.map (·.2)))
    (h : fillA (plArr i.size 0 len) (zrow z len) ps = some r) :
    ∃ w' v', (Instr.buildSlice t len ps').run cx.P w = .ok v' w' ∧ ρ.le (ρ.add n ⟨w.heap.size, 0, 0⟩) ∧ CV (ρ.add n ⟨w.heap.size, 0, 0⟩) (rowTo len len n) v' ∧ Rel cx (ρ.add n ⟨w.heap.size, 0, 0⟩) (H.put n (.cells r e .fix)) w' := by
  obtain ⟨zv, hzv, z2, z3⟩ := zeroL_all (ρ := ρ) hi hz
  obtain ⟨r', f1, f2⟩ := fill_sound _ (fun q => some (q * i.size, i.size)) (fun q p hh => by rw [plArr_get _ _ _ _ _ hh]; simp) h1 h2 (zrow_cv z3 len) h
  have hnn := hR.newRowAt n hn hlt e f2
  refine ⟨w.alloc (.cells ⟨r'⟩ e), .slice (some ⟨w.heap.size, 0, none⟩) len len, ?_, hnn.2, ?_, hnn.1⟩
  · by_cases hne : len * i.size = 0
    · have hz0 : zrow z len = [] := List.eq_nil_of_length_eq_zero (by rw [zrow_length, hzl, hne])
      rw [hz0] at f1
      simp only [Instr.buildSlice, Sem.run_bind, run_underlying ht, Result.andThen_ok, run_sizeOf hi]
      rw [if_neg (by omega)]
      simp only [hne, if_true, Sem.run_bind, Result.andThen_ok, Sem.run_pure]
      have he : ∀ g : Nat → Value, Array.map g (Array.range 0) = (⟨[]⟩ : Array Value) := fun g => by apply Array.ext'; simp
      rw [he, f1]
      simp [newRow]
    have hsz : i.size ≠ 0 := by intro hh; rw [hh] at hne; simp at hne
    have hzr := zrow_eq z (by omega) len
    rw [hzl] at hzr
    simp only [Instr.buildSlice, Sem.run_bind, run_underlying ht, Result.andThen_ok, run_sizeOf hi]
    rw [if_neg (by omega)]
    simp only [hne, if_false, Sem.run_bind, hzv, Result.andThen_ok, Sem.run_pure, z2]
    rw [hzr, f1]
    simp [newRow]
  · have := CV.slice (ρ := ρ.add n ⟨w.heap.size, 0, 0⟩) (n := n) (off := 0) (len := len) (cap := len) (Ren.add_self _ _ _)
    exact this

section
variable (hR : Rel cx ρ H w) {ev : Operand → Option Value} {ρc : Operand → Value} (hev : ∀ x v, ev x = some v → CV ρ v (ρc x))
include hR hev
set_option maxHeartbeats 1000000 in
theorem alS_sound {o : Oper} {ob : AObj} {f : Nat → Value} (h : alS cx.P o.op ev = some (ob, f)) {n : Nat} (hn : ρ n = none) (hlt : n < H.nx) :
    ∃ w' v', (execOp ρc o).run cx.P w = .ok (.value v') w' ∧ ρ.le (ρ.add n ⟨w.heap.size, 0, 0⟩) ∧ CV (ρ.add n ⟨w.heap.size, 0, 0⟩) (f n) v' ∧ Rel cx (ρ.add n ⟨w.heap.size, 0, 0⟩) (H.put n ob) w' := by
  obtain ⟨dst, op, ty, pos, after, guard⟩ := o
  have valR : ∀ {s : Sem Value} {v' : Value} {w' : World}, s.run cx.P w = .ok v' w' → ((do pure (Next.value (← s))) : Sem Next).run cx.P w = .ok (.value v') w' := fun hh => by simp [hh]
  cases op with
  | alloc t =>
    simp only [alS] at h
    split at h
    · rename_i i hi
      split at h
      · rename_i z hz
        cases h
        obtain ⟨zv, hzv, z2, z3⟩ := zeroL_all (ρ := ρ) hi hz
        have hnn := hR.newRowAt n hn hlt t z3
        refine ⟨w.alloc (.cells ⟨z⟩ t), .pointer (some ⟨w.heap.size, 0, none⟩), valR ?_, hnn.2, ?_, hnn.1⟩
        · simp [Instr.alloc, hzv, newVar, newRow, z2]
        · have := CV.ptr (ρ := ρ.add n ⟨w.heap.size, 0, 0⟩) (n := n) (off := 0) (Ren.add_self _ _ _)
          exact this
      · cases h
    · cases h
  | box t x =>
    simp only [alS] at h
    split at h
    · rename_i u hu
      cases hp : (cellsL u).all plain with
      | false => rw [hp] at h; cases h
      | true =>
        rw [hp] at h; cases h
        have hc := (hev _ _ hu).cellsL
        have hnn := hR.newRowAt n hn hlt t hc
        refine ⟨w.alloc (.cells (ρc x).cells t), .pointer (some ⟨w.heap.size, 0, none⟩), valR ?_, hnn.2, ?_, hnn.1⟩
        · simp [Instr.box, newVar, newRow]
        · have := CV.ptr (ρ := ρ.add n ⟨w.heap.size, 0, 0⟩) (n := n) (off := 0) (Ren.add_self _ _ _)
          exact this
    · cases h
  | buildSlice t len parts =>
    simp only [alS] at h
    split at h
    · rename_i e ps ht hp
      obtain ⟨p1, p2⟩ := evp_sound hev hp
      split at h
      · rename_i i hi
        split at h
        · rename_i z hz
          cases hc : (Nat.ble (len * i.size) (2 ^ 24) && Nat.beq z.length i.size) with
          | false => rw [hc] at h; cases h
          | true =>
            rw [hc] at h
            simp only [cond_true] at h
            simp only [Bool.and_eq_true, Bool.not_eq_true'] at hc
            split at h
            · rename_i cs hf
              cases h
              obtain ⟨w', v', q1, q2, q3, q4⟩ := buildSlice_sound hR hn hlt (ps' := parts.map fun (i, x) => (i, ρc x)) ht hi hz (Nat.le_of_ble_eq_true hc.1) (Nat.eq_of_beq_eq_true hc.2)
                (by rw [p1]; simp [Function.comp_def]) (by have := p2; simpa [Function.comp_def] using this) hf
              exact ⟨w', v', valR q1, q2, q3, q4⟩
            · cases h
        · cases h
      · cases h
    · cases h
  | makeMap t r =>
    have hnn := hR.newMapAt n hn hlt
    have fin : ∀ s : Option Value, (s = none ∨ ∃ k n kt et, s = some (.int k n) ∧ cx.P.underlying t = some (.map kt et)) → (Instr.makeMap t s).run cx.P w = .ok (.map (some w.heap.size)) (w.alloc (.map #[] 0)) := by
      intro s hs
      rcases hs with rfl | ⟨k, n, kt, et, rfl, ht⟩
      · rfl
      · simp [Instr.makeMap, run_underlying ht, asInt, asIntOf]
    cases r with
    | none =>
      cases h
      refine ⟨w.alloc (.map #[] 0), .map (some w.heap.size), valR (fin none (.inl rfl)), hnn.2, ?_, hnn.1⟩
      exact .map (Ren.add_self _ _ _)
    | some r =>
      simp only [alS] at h
      split at h
      · rename_i kt et k q ht hr
        cases h
        refine ⟨w.alloc (.map #[] 0), .map (some w.heap.size), valR (fin (some (ρc r)) (.inr ⟨k, q, kt, et, by rw [(hev _ _ hr).int_inv], ht⟩)), hnn.2, ?_, hnn.1⟩
        exact .map (Ren.add_self _ _ _)
      · cases h
  | makeSlice t l c =>
    simp only [alS] at h
    split at h
    · rename_i e l' c' ht hl hc
      split at h
      · rename_i i hi
        split at h
        · rename_i z hz
          cases hb : (Nat.beq z.length i.size && !(Nat.beq i.size 0)) with
          | false => rw [hb] at h; cases h
          | true =>
            rw [hb] at h
            simp only [Bool.and_eq_true, Bool.not_eq_true'] at hb
            obtain ⟨w', v', q1, q2, q3, q4⟩ := mkS_sound hR ht hi hz (Nat.eq_of_beq_eq_true hb.1) (Nat.ne_of_beq_eq_false hb.2) hn hlt h (hev _ _ hl) (hev _ _ hc)
            exact ⟨w', v', valR q1, q2, q3, q4⟩
        · cases h
      · cases h
    · cases h
  | _ => cases h
set_option maxHeartbeats 1000000 in
theorem efS_sound {o : Oper} {v : Value} {H' : AH} (h : efS cx.P o.op ev H = some (v, H')) :
    ∃ nx w' v' ρ', (execOp ρc o).run cx.P w = .ok nx w' ∧ (nx = .value v' ∨ (nx = .skip ∧ v' = undef)) ∧ (ρ.le ρ' ∧ (ρ' = ρ ∨ ∃ l, ρ' = ρ.add H.nx l)) ∧ CV ρ' v v' ∧ Rel cx ρ' H' w' := by
  obtain ⟨dst, op, ty, pos, after, guard⟩ := o
  have valR : ∀ {s : Sem Value} {v' : Value} {w' : World}, s.run cx.P w = .ok v' w' → ((do pure (Next.value (← s))) : Sem Next).run cx.P w = .ok (.value v') w' := fun hh => by simp [hh]
  have skipR : ∀ {s : Sem Unit} {w' : World}, s.run cx.P w = .ok () w' → ((do s; pure Next.skip) : Sem Next).run cx.P w = .ok .skip w' := fun hh => by simp [hh]
  cases op with
  | store t a x =>
    simp only [efS] at h
    split at h
    · rename_i i a' x' hi ha hx
      split at h
      · rename_i H2 hs
        cases h
        obtain ⟨w', r1, r2⟩ := stS_sound hR hi hs (hev _ _ ha) (hev _ _ hx)
        exact ⟨_, w', undef, ρ, skipR r1, .inr ⟨rfl, rfl⟩, ⟨Ren.le_refl _, .inl rfl⟩, .tuple .nil, r2⟩
      · cases h
    · cases h
  | mapUpdate t m k x =>
    simp only [efS] at h
    split at h
    · rename_i kt et m' k' x' ht hm hk hx
      split at h
      · rename_i d hd
        cases hc : (keyKind d && keyFits d k') with
        | false => rw [hc] at h; cases h
        | true =>
          rw [hc] at h
          simp only [cond_true] at h
          simp only [Bool.and_eq_true] at hc
          split at h
          · rename_i H2 hs
            cases h
            obtain ⟨w', r1, r2⟩ := muS_sound hR ht hd hc.2 hs (hev _ _ hm) (hev _ _ hk) (hev _ _ hx)
            exact ⟨_, w', undef, ρ, skipR r1, .inr ⟨rfl, rfl⟩, ⟨Ren.le_refl _, .inl rfl⟩, .tuple .nil, r2⟩
          · cases h
      · cases h
    · cases h
  | insert t m k x =>
    simp only [efS] at h
    split at h
    · rename_i kt et m' k' x' ht hm hk hx
      split at h
      · rename_i d hd
        cases hc : (keyKind d && keyFits d k') with
        | false => rw [hc] at h; cases h
        | true =>
          rw [hc] at h
          simp only [cond_true] at h
          simp only [Bool.and_eq_true] at hc
          split at h
          · rename_i H2 hs
            cases h
            obtain ⟨w', r1, r2⟩ := muS_sound hR ht hd hc.2 hs (hev _ _ hm) (hev _ _ hk) (hev _ _ hx)
            exact ⟨_, w', undef, ρ, skipR r1, .inr ⟨rfl, rfl⟩, ⟨Ren.le_refl _, .inl rfl⟩, .tuple .nil, r2⟩
          · cases h
      · cases h
    · cases h
  | call c =>
    obtain ⟨callee, args, argTypes⟩ := c
    have two : ∀ {x y}, evs ev args.toList = some [x, y] → ∃ x' y', args.map ρc = #[x', y'] ∧ CV ρ x x' ∧ CV ρ y y' := by
      intro x y hh
      have := evs_sound hev hh
      rw [map_arr]
      generalize args.toList.map ρc = L at this
      cases this with
      | cons a b => cases b with
        | cons c d => cases d; exact ⟨_, _, rfl, a, c⟩
    simp only [efS] at h
    split at h
    · rename_i s x hx
      obtain ⟨s', x', e1, e2, e3⟩ := two hx
      split at h
      · rename_i e d ht hd
        obtain ⟨t0, a1, a2⟩ := bindO ht
        obtain ⟨t1, b1, b2⟩ := bindO hd
        split at h
        · rename_i i hi
          split at h
          · rename_i z hz
            cases hc : (srcKind d && !(Nat.beq i.bytes 0) && !(Nat.beq i.size 0) && Nat.beq z.length i.size) with
            | false => rw [hc] at h; cases h
            | true =>
              rw [hc] at h
              simp only [Bool.and_eq_true, Bool.not_eq_true'] at hc
              obtain ⟨⟨⟨c1, c2⟩, c3⟩, c4⟩ := hc
              obtain ⟨w', v', ρ', q1, q2, q3, q4⟩ := appS_sound a1 a2 b1 b2 c1 hi (ty := ty) hR hz (Nat.eq_of_beq_eq_true c4) (Nat.ne_of_beq_eq_false c2) h e2 e3
              refine ⟨.value v', w', v', ρ', ?_, .inl rfl, q2, q3, q4⟩
              simp only [execOp, resolve, e1, Sem.run_bind, Sem.run_pure, Result.andThen_ok, invoke, builtin, q1]
          · cases h
        · cases h
      · cases h
    · rename_i s x hx
      obtain ⟨s', x', e1, e2, e3⟩ := two hx
      split at h
      · rename_i e ht
        obtain ⟨t0, a1, a2⟩ := bindO ht
        split at h
        · rename_i i hi
          obtain ⟨w', v', q1, q2, q3⟩ := cpyS_sound hR (ty := ty) a1 a2 hi h e2 e3
          refine ⟨.value v', w', v', ρ, ?_, .inl rfl, ⟨Ren.le_refl _, .inl rfl⟩, q2, q3⟩
          simp only [execOp, resolve, e1, Sem.run_bind, Sem.run_pure, Result.andThen_ok, invoke, builtin, q1]
        · cases h
      · cases h
    · rename_i x hx
      have h1 : ∃ x', args.map ρc = #[x'] ∧ CV ρ x x' := by
        have := evs_sound hev hx
        rw [map_arr]
        generalize args.toList.map ρc = L at this
        cases this with
        | cons a b => cases b; exact ⟨_, rfl, a⟩
      obtain ⟨x', e1, e2⟩ := h1
      split at h
      · rename_i e ht
        obtain ⟨t0, a1, a2⟩ := bindO ht
        split at h
        · rename_i i hi
          split at h
          · rename_i z hz
            cases hc : (Nat.beq z.length i.size && !(Nat.beq i.size 0)) with
            | false => rw [hc] at h; cases h
            | true =>
              rw [hc] at h
              simp only [Bool.and_eq_true, Bool.not_eq_true'] at hc
              obtain ⟨w', v', q1, q2, q3⟩ := clrS_sound hR (ty := ty) a1 a2 hi hz (Nat.eq_of_beq_eq_true hc.1) (Nat.ne_of_beq_eq_false hc.2) h e2
              refine ⟨.value v', w', v', ρ, ?_, .inl rfl, ⟨Ren.le_refl _, .inl rfl⟩, q2, q3⟩
              simp only [execOp, resolve, e1, Sem.run_bind, Sem.run_pure, Result.andThen_ok, invoke, builtin, q1]
          · cases h
        · cases h
      · cases h
    · rename_i m k hx
      obtain ⟨m', k', e1, e2, e3⟩ := two hx
      split at h
      · rename_i kt et ht
        obtain ⟨t0, a1, a2⟩ := bindO ht
        split at h
        · rename_i d hd
          cases hc : (keyKind d && keyFits d k) with
          | false => rw [hc] at h; cases h
          | true =>
            rw [hc] at h
            simp only [cond_true] at h
            simp only [Bool.and_eq_true] at hc
            split at h
            · rename_i H2 hs
              cases h
              obtain ⟨w', q1, q2⟩ := delS_sound hR (ty := ty) a1 a2 hd hc.2 hs e2 e3
              refine ⟨.value (.tuple #[]), w', .tuple #[], ρ, ?_, .inl rfl, ⟨Ren.le_refl _, .inl rfl⟩, .tuple .nil, q2⟩
              simp only [execOp, resolve, e1, Sem.run_bind, Sem.run_pure, Result.andThen_ok, invoke, builtin, q1]
            · cases h
        · cases h
      · cases h
    · cases h
  | _ => cases h
end
theorem muS_nx {m k x : Value} {H H' : AH} (h : muS m k x H = some H') : H'.nx = H.nx := by
  unfold muS at h
  repeat' split at h
  all_goals first | (cases h; rfl) | cases h
theorem delS_nx {m k : Value} {H H' : AH} (h : delS m k H = some H') : H'.nx = H.nx := by
  unfold delS at h
  repeat' split at h
  all_goals first | (cases h; rfl) | cases h
theorem stS_nx {s : Nat} {m k : Value} {H H' : AH} (h : stS s m k H = some H') : H'.nx = H.nx := by
  unfold stS at h
  repeat' split at h
  all_goals (try (cases h; done))
  simp only [Bool.cond_eq_ite] at h
  split at h
  · cases h; rfl
  · cases h
theorem cpyS_nx {s : Nat} {m k v : Value} {H H' : AH} (h : cpyS s m k H = some (v, H')) : H'.nx = H.nx := by
  unfold cpyS at h
  repeat' split at h
  all_goals (try (cases h; done))
  all_goals (try (cases h; rfl))
  simp only [Bool.cond_eq_ite] at h
  split at h
  · cases h; rfl
  · cases h
theorem clrS_nx {z : List Value} {x v : Value} {H H' : AH} (h : clrS z x H = some (v, H')) : H'.nx = H.nx := by
  unfold clrS at h
  simp only [Bool.cond_eq_ite] at h
  repeat' split at h
  all_goals first | (cases h; rfl) | cases h
theorem appS_nx {es b : Nat} {T : TypeId} {s x v : Value} {H H' : AH} (h : appS es b T s x H = some (v, H')) : H.nx ≤ H'.nx := by
  unfold appS at h
  simp only [Bool.cond_eq_ite] at h
  repeat' split at h
  all_goals (try (cases h; done))
  all_goals (cases h; simp)
theorem efS_nx {P : Program} {op : Op} {ev : Operand → Option Value} {v : Value} {H H' : AH} (h : efS P op ev H = some (v, H')) : H.nx ≤ H'.nx := by
  cases op <;> simp only [efS] at h <;> (try (cases h; done))
  all_goals (try simp only [Bool.cond_eq_ite] at h)
  all_goals (repeat' split at h)
  all_goals (try (cases h; done))
  all_goals first
    | (cases h; rename_i hh; first | exact Nat.le_of_eq (stS_nx hh).symm | exact Nat.le_of_eq (muS_nx hh).symm | exact Nat.le_of_eq (delS_nx hh).symm)
    | exact appS_nx h
    | exact Nat.le_of_eq (cpyS_nx h).symm
    | exact Nat.le_of_eq (clrS_nx h).symm
end Go.Ab
