/- Code, calls and whole functions carried out in the abstract memory, with their soundness; assertions about it and rules for rewriting.
   Conditions: none. -/
import Derived.Test.YtiolnpeniklhiaaGreatDoorAb1
import Derived.Laws.IdiomRangeMap
import Derived.Scope
import Derived.RowKit3
import Derived.ChangeReads
import Derived.ReadAgain
import Derived.ChangeStays
import Derived.ChangeArms
import Derived.OpenShut
import Derived.Deep.Slices
import Derived.Deep.Frames
import Derived.MapPlaces
import Derived.LaidLaws
set_option linter.all false
namespace Go.Ab
open Go
set_option linter.unusedVariables false
noncomputable section

abbrev KV := Value → AH → Prop
/-- What calls do: a function, its arguments, memory, and what shall hold of the value and of memory behind it. -/
abbrev Dl := FuncId → List Value → AH → KV → Prop
abbrev Ms := TypeId → String → Option FuncId
abbrev QE := Exit → Env → AH → Prop

def eset (e : Env) : Option Tmp → Value → Env
  | none, _ => e
  | some d, v => (d, v) :: e
def bnd (nt : Nat) : Option Tmp → Bool
  | none => true
  | some d => Nat.blt d nt

mutual
def veq : Nat → Value → Value → Bool
  | 0, _, _ => false
  | n + 1, x, y =>
    match x, y with
    | .bool a, .bool b => bif a then b else !b
    | .int j a, .int k b => decide (j = k) && decide (a = b)
    | .string a, .string b => decide (a.data.toList = b.data.toList)
    | .pointer a, .pointer b => decide (a = b)
    | .slice a l c, .slice b m d => decide (a = b) && Nat.beq l m && Nat.beq c d
    | .map a, .map b => decide (a = b)
    | .nilFunc, .nilFunc => true
    | .nilIface, .nilIface => true
    | .iface t a, .iface u b => Nat.beq t u && veq n a b
    | .agg ⟨xs⟩, .agg ⟨ys⟩ => veqs n xs ys
    | .tuple ⟨xs⟩, .tuple ⟨ys⟩ => veqs n xs ys
    | .func (.func f) ⟨xs⟩ ⟨us⟩, .func (.func g) ⟨ys⟩ ⟨vs⟩ => Nat.beq f g && veqs n xs ys && veqs n us vs
    | _, _ => false
def veqs : Nat → List Value → List Value → Bool
  | 0, _, _ => false
  | _ + 1, [], [] => true
  | n + 1, x :: xs, y :: ys => veq n x y && veqs n xs ys
  | _ + 1, _, _ => false
end

def cnd (v : Value) (X Y : Prop) : Prop :=
  match v with
  | .bool t => match t with | true => X | false => Y
  | _ => False
def callV (D : Dl) (f : Value) (vs : List Value) (H : AH) (K : KV) : Prop :=
  match f with
  | .func (.func id) ⟨xs⟩ ⟨ys⟩ => D id (xs ++ (vs ++ ys)) H K
  | _ => False
def invk (M : Ms) (D : Dl) (r : Value) (name : String) (vs : List Value) (H : AH) (K : KV) : Prop :=
  match r with
  | .iface t v =>
    match M t name with
    | some id => D id (v :: vs) H K
    | none => False
  | _ => False
def call (P : Program) (M : Ms) (D : Dl) (c : Call) (ev : Operand → Option Value) (H : AH) (K : KV) : Prop :=
  match c.callee with
  | .value f =>
    match ev f, evs ev c.args.toList with
    | some fv, some vs => callV D fv vs H K
    | _, _ => False
  | .invoke r name =>
    match ev r, evs ev c.args.toList with
    | some rv, some vs => invk M D rv name vs H K
    | _, _ => False
  | .builtin _ => False
/-- One entry that an iterator over a map has not handed out, whichever. -/
def nxtAll (K : KV) (H : AH) (n : Nat) (m : Nat) (since clock : Nat) (seen : List Nat) : List MapEntry → Prop
  | [] => True
  | e :: es => K (.tuple ⟨[.bool true, e.key, e.val]⟩) (H.put n (.iter (some m) since clock (seen ++ [e.born]))) ∧ nxtAll K H n m since clock seen es
def nxt (H : AH) (v : Value) (K : KV) : Prop :=
  match v with
  | .pointer (some ⟨n, 0, none⟩) =>
    match H.get n with
    | some (.iter none _ _ _) => K (.tuple ⟨[.bool false]⟩) H
    | some (.iter (some m) since last seen) =>
      match H.get m with
      | some (.map es clock) =>
        bif Nat.ble since last && es.all fun e => Nat.blt e.born since then
          match es.filter fun e => !(seen.any fun b => Nat.beq b e.born) with
          | [] => K (.tuple ⟨[.bool false]⟩) H
          | l => nxtAll K H n m since clock seen l
        else False
      | _ => False
    | _ => False
  | _ => False
def rngM (H : AH) (v : Value) (K : KV) : Prop :=
  match v with
  | .map none => K (ptrTo H.nx) (H.new (.iter none 0 0 []))
  | .map (some m) =>
    match H.get m with
    | some (.map _ clock) => K (ptrTo H.nx) (H.new (.iter (some m) clock clock []))
    | _ => False
  | _ => False
def rng (P : Program) (t : TypeId) (H : AH) (v : Value) (K : KV) : Prop :=
  match P.underlying t with
  | some (.map _ _) => rngM H v K
  | _ => False
def bn (o : Option Value) (k : Value → Prop) : Prop :=
  match o with
  | some v => k v
  | none => False
def bn2 (o : Option (Value × AH)) (K : KV) : Prop :=
  match o with
  | some (v, H) => K v H
  | none => False
def bnA (o : Option (AObj × (Nat → Value))) (k : AObj → (Nat → Value) → Prop) : Prop :=
  match o with
  | some (ob, f) => k ob f
  | none => False
/-- One of two values, by a third one. -/
def pk (c : Value) (a b : Option Value) (k : Value → Prop) : Prop :=
  match c with
  | .bool t => match t with
    | true => (match a with | some v => k v | none => False)
    | false => (match b with | some v => k v | none => False)
  | _ => False
/-- An operation that leaves memory alone, and what goes on with its value. -/
@[reducible] def neK (P : Program) (o : Op) (ev : Operand → Option Value) (H : AH) (k : Value → Prop) : Prop :=
  match o with
  | .move x => (match ev x with | some v => k v | none => False)
  | .assign x => (match ev x with | some v => k v | none => False)
  | .pick c a b => (match ev c with | some vc => pk vc (ev a) (ev b) k | none => False)
  | o => bn (neS P o ev H) k
theorem neK_bn {P : Program} {o : Op} {ev : Operand → Option Value} {H : AH} {k : Value → Prop} (h : neK P o ev H k) : bn (neS P o ev H) k := by
  unfold neK at h
  split at h
  · rw [neS]; exact h
  · rw [neS]; exact h
  · rw [neS]
    split at h
    · rename_i vc hc
      simp only [hc]
      unfold pk at h
      split at h
      · rename_i t
        cases t with
        | true => exact h
        | false => exact h
      · exact h.elim
    · exact h.elim
  · exact h
def semOp (P : Program) (M : Ms) (D : Dl) (o : Op) (ev : Operand → Option Value) (H : AH) (K : KV) : Prop :=
  match clOf o with
  | .ne _ => neK P o ev H fun v => K v H
  | .al => bnA (alS P o ev) fun ob f => K (f H.nx) (H.new ob)
  | .ef => bn2 (efS P o ev H) K
  | .cl =>
    match o with
    | .call c => call P M D c ev H K
    | .range t x => bn (ev x) fun v => rng P t H v K
    | .next it s => bif s then False else bn (ev it) fun v => nxt H v K
    | _ => False
def gd (v : Value) (want : Bool) (op : KV → Prop) (K : KV) (H : AH) : Prop :=
  match v with
  | .bool b => match want with
    | true => (match b with | true => op K | false => K undef H)
    | false => (match b with | true => K undef H | false => op K)
  | _ => K undef H
def semG (ops : Array Oper) (e : Env) (g : Option (Nat × Bool)) (op : KV → Prop) (K : KV) (H : AH) : Prop :=
  match g with
  | none => op K
  | some (j, want) =>
    match (ops[j]?).bind (·.dst) with
    | some d =>
      match eget e d with
      | some v => gd v want op K H
      | none => False
    | none => False
def gdD (v : Value) (want : Bool) (X Y : Prop) : Prop :=
  match v with
  | .bool b => match want with
    | true => (match b with | true => X | false => Y)
    | false => (match b with | true => Y | false => X)
  | _ => False
/-- What goes on where a guard was passed over itself. -/
def skV (v : Value) (X : Prop) : Prop :=
  match v with
  | .bool _ => False
  | _ => X
def skd : Option Tmp → List Nat → List Nat
  | some d, l => d :: l
  | none, l => l
/-- The same in a region that draws its order: what is known of the guard is laid down; 'SK' are the temporaries of operations that were passed over. -/
def semGD (ops : Array Oper) (SK : List Nat) (e : Env) (g : Option (Nat × Bool)) (yes no : Env → Prop) : Prop :=
  match g with
  | none => yes e
  | some (j, want) =>
    match (ops[j]?).bind (·.dst) with
    | some d =>
      match eget e d with
      | some v =>
        match SK.any fun j => Nat.beq j d with
        | true => skV v (no e)
        | false => gdD v want (yes ((d, .bool want) :: e)) (no ((d, .bool !want) :: e))
      | none => False
    | none => False
def semOps (P : Program) (M : Ms) (D : Dl) (nt : Nat) (ops : Array Oper) : List Nat → Env → AH → (Env → AH → Prop) → Prop
  | [], e, H, Q => Q e H
  | i :: r, e, H, Q =>
    match ops[i]? with
    | some o =>
      match bnd nt o.dst with
      | true => semG ops e o.guard (fun K => semOp P M D o.op (evo P e) H K) (fun v H' => semOps P M D nt ops r (eset e o.dst v) H' Q) H
      | false => False
    | none => False

/-! ### regions that draw their order -/
def tmpsOf (o : Op) : List Nat := o.operands.toList.filterMap fun | .tmp t => some t | _ => none
def looks (ops : Array Oper) (o : Oper) : List Nat :=
  tmpsOf o.op ++ (match o.guard with
    | some (g, _) => ((ops[g]?).bind (·.dst)).toList
    | none => [])
def restr : List Nat → Env → Env
  | [], _ => []
  | t :: ts, e =>
    match eget e t with
    | some v => (t, v) :: restr ts e
    | none => restr ts e
def isE (ops : Array Oper) (i : Nat) : Bool :=
  match ops[i]? with
  | some o =>
    match clOf o.op with
    | .ef | .cl => true
    | _ => false
  | none => false
def writesT (ops : Array Oper) (t i : Nat) : Bool :=
  match ops[i]? with
  | some o =>
    match o.dst with
    | some d => Nat.beq d t
    | none => false
  | none => false
def preds (o : Oper) : List Nat := (o.after.toList.filter (Region.binds .any)).map (·.on)
def masks (ops : Array Oper) : List Nat := (Region.before ops).toList
def mAt (m : List Nat) (i : Nat) : Nat := m.getD i 0
def orAll (m : List Nat) : List Nat → Nat → Nat
  | [], s => s
  | p :: ps, s => orAll m ps ((s ||| 2 ^ p) ||| mAt m p)
def stageOf (m : List Nat) (effs : List Nat) (i : Nat) : Nat := (effs.filter fun e => (mAt m i).testBit e).length
def canonGo (m : List Nat) (effs nons : List Nat) : Nat → List Nat → List Nat
  | k, [] => nons.filter fun i => Nat.beq (stageOf m effs i) k
  | k, e :: es => (nons.filter fun i => Nat.beq (stageOf m effs i) k) ++ e :: canonGo m effs nons (k + 1) es
def canon (ops : Array Oper) (m : List Nat) : List Nat :=
  canonGo m ((List.range ops.size).filter (isE ops)) ((List.range ops.size).filter fun i => !isE ops i) 0 ((List.range ops.size).filter (isE ops))
def lastE (ops : Array Oper) (A : List Nat) : Option Nat := A.reverse.find? (isE ops)
def mem (i : Nat) (l : List Nat) : Bool := l.any fun j => Nat.beq j i
def chk (ops : Array Oper) (m : List Nat) (A : List Nat) (i : Nat) (C : List Nat) : Bool :=
  match ops[i]? with
  | none => false
  | some o =>
    (!mem i A && !mem i C) &&
    ((looks ops o).all fun t => (A.all fun j => !writesT ops t j || (mAt m i).testBit j) && (C.all fun j => !writesT ops t j || (mAt m j).testBit i)) &&
    (match o.dst with
      | none => true
      | some d => A.all fun j => !writesT ops d j) &&
    (match lastE ops A with
      | none => true
      | some e => (mAt m i).testBit e) &&
    ((preds o).all fun p => mem p A) &&
    Nat.beq (mAt m i) (orAll m (preds o) 0)
def okC (ops : Array Oper) (m : List Nat) : List Nat → List Nat → Bool
  | _, [] => true
  | A, i :: C => chk ops m A i C && okC ops m (A ++ [i]) C
def regOK (ops : Array Oper) (m : List Nat) : Bool :=
  okC ops m [] (canon ops m) && (List.range ops.size).all fun i => mem i (canon ops m)

def settle : List (Nat × Nat × AObj) → AH → AH
  | [], H => H
  | (_, n, o) :: r, H => (settle r H).put n o
/-- How code is carried out: with names for values that are not known ('sy'), by which slots a loop's rounds are told (those that a round begins with; those that are looked at behind it), and by which what follows two ways that meet again. -/
structure Md where
  sy : Bool
  kp : Nat → Option (List Nat × List Nat)
  jn : Nat → Option (List Nat)
def same (sy : Bool) (u v : Value) (X : Prop) : Prop := bif sy then u = v ∧ X else bif veq 100 u v then X else False
def rechk (sy : Bool) (P : Program) (H : AH) : List (Nat × Oper × Env × Value) → Prop → Prop
  | [], k => k
  | (_, o, e, v) :: r, k => bn (neS P o.op (evo P e) H) fun u => same sy u v (rechk sy P H r k)
def semD (sy : Bool) (P : Program) (M : Ms) (D : Dl) (nt : Nat) (ops : Array Oper) (m : List Nat) :
    List Nat → List Nat → Env → AH → List (Nat × Nat × AObj) → List (Nat × Oper × Env × Value) → (Env → AH → Prop) → Prop
  | _, [], e, B, FA, FL, Q => Q e (settle FA B)
  | SK, i :: L, e, B, FA, FL, Q =>
    match ops[i]? with
    | none => False
    | some o =>
      bif bnd nt o.dst then
        semGD ops SK e o.guard
          (fun e => match clOf o.op with
            | .ne r => neK P o.op (evo P (restr (tmpsOf o.op) e)) B fun v =>
                semD sy P M D nt ops m SK L (eset e o.dst v) B FA (bif r then (i, o, restr (tmpsOf o.op) e, v) :: FL else FL) Q
            | .al => bnA (alS P o.op (evo P (restr (tmpsOf o.op) e))) fun ob f =>
                semD sy P M D nt ops m SK L (eset e o.dst (f B.nx)) B.res ((i, B.nx, ob) :: FA) FL Q
            | .ef => bn2 (efS P o.op (evo P (restr (tmpsOf o.op) e)) (settle (FA.filter fun x => (mAt m i).testBit x.1) B)) fun v H' =>
                rechk sy P H' (FL.filter fun x => !(mAt m i).testBit x.1)
                  (semD sy P M D nt ops m SK L (eset e o.dst v) H' (FA.filter fun x => !(mAt m i).testBit x.1) (FL.filter fun x => !(mAt m i).testBit x.1) Q)
            | .cl =>
              match o.op with
              | .call c => call P M D c (evo P (restr (tmpsOf o.op) e)) (settle (FA.filter fun x => (mAt m i).testBit x.1) B) fun v H' =>
                  rechk sy P H' (FL.filter fun x => !(mAt m i).testBit x.1)
                    (semD sy P M D nt ops m SK L (eset e o.dst v) H' (FA.filter fun x => !(mAt m i).testBit x.1) (FL.filter fun x => !(mAt m i).testBit x.1) Q)
              | _ => False)
          (fun e => semD sy P M D nt ops m (skd o.dst SK) L (eset e o.dst undef) B FA FL Q)
      else False

/-! ### code -/
def firstReg : Code → Nat
  | .region id _ _ => id
  | .seq a b => (match firstReg a with | 0 => firstReg b | n => n)
  | .block _ c => firstReg c
  | .loop c => firstReg c
  | .scope c => firstReg c
  | .cond _ a b => (match firstReg a with | 0 => firstReg b | n => n)
  | _ => 0
def semLoop (step : Env → AH → QE → Prop) : Nat → Env → AH → QE → Prop
  | 0, _, _, _ => False
  | n + 1, e, H, Q => step e H fun x e' H' =>
    match x with
    | .normal => semLoop step n e' H' Q
    | x => Q x e' H'
/-- A row of values, one for each of some slots. -/
def Tup : List Nat → Type
  | [] => Unit
  | _ :: ts => Value × Tup ts
def envT : (l : List Nat) → Tup l → Env
  | [], _ => []
  | t :: ts, s => (t, s.1) :: envT ts s.2
def toT : (l : List Nat) → Env → Option (Tup l)
  | [], _ => some ()
  | t :: ts, e =>
    match eget e t, toT ts e with
    | some v, some s => some (v, s)
    | _, _ => none
def lp {S : Type} (body : S → AH → (S → AH → Prop) → Prop) : Nat → S → AH → Prop
  | 0, _, _ => False
  | n + 1, s, H => body s H (lp body n)
/-- What follows two ways that meet again, once. -/
def jn {S : Type} (k : S → AH → Prop) (b : (S → AH → Prop) → Prop) : Prop := b k
def goT (l : List Nat) (e : Env) (H : AH) (R : Tup l → AH → Prop) : Prop :=
  match toT l e with
  | some s => R s H
  | none => False
abbrev SemT := Env → AH → QE → Prop
def semJump (fr : Nat → Option SemT) : Nat → SemT → SemT
  | 0, _, _, _, _ => False
  | n + 1, s, e, H, Q => s e H fun x e' H' =>
    match x with
    | .goto l =>
      match fr l with
      | some s' => semJump fr n s' e' H' Q
      | none => False
    | x => Q x e' H'
mutual
def sem (P : Program) (M : Ms) (D : Dl) (nt N : Nat) (kp : Md) : Code → Env → AH → QE → Prop
  | .skip, e, H, Q => Q .normal e H
  | .label _, e, H, Q => Q .normal e H
  | .region _ ops draw, e, H, Q =>
    match draw with
    | true =>
      (match regOK ops (masks ops) with
      | true => semD kp.sy P M D nt ops (masks ops) [] (canon ops (masks ops)) e H [] [] fun e' H' => Q .normal e' H'
      | false => False)
    | false => semOps P M D nt ops (List.range ops.size) e H fun e' H' => Q .normal e' H'
  | .seq a b, e, H, Q =>
    match kp.jn (firstReg b) with
    | none => sem P M D nt N kp a e H fun x e' H' =>
      match x with
      | .normal => sem P M D nt N kp b e' H' Q
      | x => Q x e' H'
    | some l => jn (fun (s : Tup l) H' => sem P M D nt N kp b (envT l s) H' Q) fun J => sem P M D nt N kp a e H fun x e' H' =>
      match x with
      | .normal => goT l e' H' J
      | x => Q x e' H'
  | .cond c a b, e, H, Q =>
    match evo P e c with
    | some v => cnd v (sem P M D nt N kp a e H Q) (sem P M D nt N kp b e H Q)
    | none => False
  | .block id c, e, H, Q => sem P M D nt N kp c e H fun x e' H' =>
    match x with
    | .exit j => match Nat.beq j id with | true => Q .normal e' H' | false => Q (.exit j) e' H'
    | x => Q x e' H'
  | .loop c, e, H, Q =>
    match kp.kp (firstReg c) with
    | none => semLoop (sem P M D nt N kp c) N e H Q
    | some (l, l2) => goT l e H (lp (fun s H R => sem P M D nt N kp c (envT l s) H fun x e' H' =>
      match x with
      | .normal => goT l e' H' R
      | x => Q x (restr l2 e') H') N)
  | .exit id, e, H, Q => Q (.exit id) e H
  | .ret, e, H, Q => Q .ret e H
  | .scope c, e, H, Q => semJump (fun l => semL P M D nt N kp l c) N (sem P M D nt N kp c) e H Q
  | .goto l, e, H, Q => Q (.goto l) e H
  | .rangeFunc _ _ _ _, _, _, _ => False
  | .refuse _, _, _, _ => False
/-- From a label on. -/
def semL (P : Program) (M : Ms) (D : Dl) (nt N : Nat) (kp : Md) (l : Nat) : Code → Option SemT
  | .seq a b =>
    match semL P M D nt N kp l a with
    | some s => some fun e H Q => s e H fun x e' H' =>
      match x with
      | .normal => sem P M D nt N kp b e' H' Q
      | x => Q x e' H'
    | none => semL P M D nt N kp l b
  | .label l' => bif l' == l then some fun e H Q => Q .normal e H else none
  | _ => none
end

def resA (P : Program) (e : Env) (H : AH) : List ResultVar → Option (List Value)
  | [] => some []
  | .tmp t :: r =>
    match eget e t, resA P e H r with
    | some v, some vs => some (v :: vs)
    | _, _ => none
  | .cell a t :: r =>
    match P.underlying t, P.info? t, eget e a with
    | some d, some i, some p =>
      match (bif isAggD d then ldN i.size p H else ld1 p H), resA P e H r with
      | some v, some vs => some (v :: vs)
      | _, _ => none
    | _, _, _ => none
/-- The same, handed on. -/
def resK (P : Program) (e : Env) (H : AH) : List ResultVar → (List Value → Prop) → Prop
  | [], k => k []
  | .tmp t :: r, k => bn (eget e t) fun v => resK P e H r fun vs => k (v :: vs)
  | .cell a t :: r, k =>
    match P.underlying t, P.info? t, eget e a with
    | some d, some i, some p => bn (bif isAggD d then ldN i.size p H else ld1 p H) fun v => resK P e H r fun vs => k (v :: vs)
    | _, _, _ => False
def one (vs : List Value) : Value :=
  match vs with
  | [v] => v
  | vs => .tuple ⟨vs⟩
def env0 : Nat → List Value → Env
  | _, [] => []
  | i, v :: vs => (i, v) :: env0 (i + 1) vs
/-- What a function does, out of its code. -/
def semF (P : Program) (M : Ms) (D : Dl) (N : Nat) (kp : Md) (fn : Func) (c : Code) (args : List Value) (H : AH) (K : KV) : Prop :=
  bif Nat.ble args.length fn.ntmps then
    sem P M D fn.ntmps N kp c (env0 0 args) H fun x e H' =>
      match x with
      | .normal | .ret => resK P e H' fn.results.toList fun vs => K (one vs) H'
      | _ => False
  else False
end
end Go.Ab

namespace Go.Ab
open Go
set_option linter.unusedVariables false
set_option linter.unusedSimpArgs false
variable {cx : Cx} {ρ : Ren} {H : AH} {w : World}

theorem run_getM {P : Program} {r : Nat} {es : Array MapEntry} {c : Nat} (h : w.heap[r]? = some (.map es c)) : (getObj r).run P w = .ok (.map es c) w := by
  simp only [getObj, Sem.run, h]
theorem run_getI {P : Program} {r : Nat} {m : Option Nat} {a c : Nat} {s : Array Nat} (h : w.heap[r]? = some (.mapIter m a s c)) : (getObj r).run P w = .ok (.mapIter m a s c) w := by
  simp only [getObj, Sem.run, h]
theorem Rel.mapHas (hR : Rel cx ρ H w) {m : Nat} {es : List MapEntry} {clock : Nat} (h : H.get m = some (.map es clock)) : ∃ l es', ρ m = some l ∧ w.heap[l.blk]? = some (.map ⟨es'⟩ clock) ∧ CEs ρ es es' := by
  obtain ⟨l, e, -, es', a, b⟩ := hR.obj m _ h
  exact ⟨l, es', e, a, b⟩
theorem rng_sound (hR : Rel cx ρ H w) {t : TypeId} {v v' : Value} {K : KV} (hv : CV ρ v v') (h : rng cx.P t H v K) :
    ∃ w' u u' H' ρ', (Instr.range t v').run cx.P w = .ok u' w' ∧ K u H' ∧ ρ.le ρ' ∧ (ρ' = ρ ∨ ∃ l, ρ' = ρ.add H.nx l) ∧ H.nx ≤ H'.nx ∧ CV ρ' u u' ∧ Rel cx ρ' H' w' := by
  unfold rng at h
  split at h
  case h_2 => exact h.elim
  rename_i k e ht
  unfold rngM at h
  split at h
  · cases hv
    obtain ⟨r, hle⟩ := hR.new (.mapIter none 0 #[] 0) (.iter none 0 0 []) 0 rfl fun ρ' hle hf hb => ⟨hf, rfl, none, hb, .mapNil⟩
    refine ⟨_, _, _, _, _, run_range_nilMap w t k e ht, h, hle, .inr ⟨_, rfl⟩, by simp, ?_, r⟩
    have := CV.ptr (ρ := ρ.add H.nx ⟨w.heap.size, 0, 0⟩) (n := H.nx) (off := 0) (Ren.add_self _ _ _)
    exact this
  · rename_i m
    split at h
    · rename_i es clock hm
      obtain ⟨l, es', e1, e2, e3⟩ := hR.mapHas hm
      cases hv with
      | map x =>
        rw [e1] at x; cases x
        obtain ⟨r, hle⟩ := hR.new (.mapIter (some l.blk) clock #[] clock) (.iter (some m) clock clock []) 0 rfl fun ρ' hle hf hb => ⟨hf, rfl, some l.blk, hb, .map (hle _ _ e1)⟩
        refine ⟨_, _, _, _, _, run_range_map w t k e l.blk ⟨es'⟩ clock ht e2, h, hle, .inr ⟨_, rfl⟩, by simp, ?_, r⟩
        have := CV.ptr (ρ := ρ.add H.nx ⟨w.heap.size, 0, 0⟩) (n := H.nx) (off := 0) (Ren.add_self _ _ _)
        exact this
    · exact h.elim
  · exact h.elim

theorem CEs.filter {es es' : List MapEntry} (h : CEs ρ es es') (p : Nat → Bool) : CEs ρ (es.filter fun e => p e.born) (es'.filter fun e => p e.born) := by
  induction h with
  | nil => exact .nil
  | cons a b c d ih =>
    rw [List.filter_cons, List.filter_cons, ← c]
    split
    · exact .cons a b c ih
    · exact ih
theorem CEs.get {es es' : List MapEntry} (h : CEs ρ es es') : ∀ {j : Nat} {e' : MapEntry}, es'[j]? = some e' → ∃ e : MapEntry, es[j]? = some e ∧ CV ρ e.key e'.key ∧ CV ρ e.val e'.val ∧ e.born = e'.born := by
  induction h with
  | nil => intro j e' hj; simp at hj
  | cons a b c d ih =>
    intro j e' hj
    cases j with
    | zero => simp at hj; subst hj; exact ⟨_, by simp, a, b, c⟩
    | succ j => simp at hj; obtain ⟨e, x, y⟩ := ih hj; exact ⟨e, by simpa using x, y⟩
theorem CEs.old {es es' : List MapEntry} (h : CEs ρ es es') {since : Nat} (ho : ∀ e ∈ es, e.born < since) : ∀ e ∈ es', e.born < since := by
  induction h with
  | nil => intro e he; simp at he
  | cons a b c d ih =>
    intro e he
    rcases List.mem_cons.1 he with rfl | he
    · rw [← c]; exact ho _ (by simp)
    · exact ih (fun e h => ho e (by simp [h])) e he
theorem nxtAll_get {K : KV} {H : AH} {n m since clock : Nat} {seen : List Nat} : ∀ {l : List MapEntry} {j : Nat} {e : MapEntry}, nxtAll K H n m since clock seen l → l[j]? = some e → K (.tuple ⟨[.bool true, e.key, e.val]⟩) (H.put n (.iter (some m) since clock (seen ++ [e.born])))
  | [], j, e, _, hj => by simp at hj
  | x :: l, 0, e, h, hj => by simp at hj; subst hj; exact h.1
  | x :: l, j + 1, e, h, hj => by simp at hj; exact nxtAll_get h.2 hj

theorem seen_contains (seen : List Nat) (b : Nat) : (⟨seen⟩ : Array Nat).contains b = seen.any fun x => Nat.beq x b := by
  rw [List.contains_toArray]
  induction seen with
  | nil => rfl
  | cons x l ih =>
    rw [List.contains_cons, List.any_cons, ih]
    congr 1
    cases hb : Nat.beq x b with
    | true => simp [Nat.eq_of_beq_eq_true hb]
    | false => have := Nat.ne_of_beq_eq_false hb; simp; omega

theorem run_choose {P : Program} (w : World) (N : Nat) (hN : 0 < N) : ∃ (j : Nat) (w1 : World), j < N ∧ (w1 = w ∨ w1 = w.drew) ∧ (choose (Question.mapNext N)).run P w = .ok j w1 := by
  by_cases hf : N ≤ 1
  · exact ⟨0, w, by omega, .inl rfl, by simp [choose, Sem.run, Question.forced, hf]⟩
  · exact ⟨_, w.drew, Nat.mod_lt _ (by omega), .inr rfl, by
      simp only [choose, Sem.run, Question.forced, decide_eq_true_eq, hf, if_false, Question.cut]
      rfl⟩
theorem nxt_sound (hR : Rel cx ρ H w) {ty : TypeId} {v v' : Value} {K : KV} (hv : CV ρ v v') (h : nxt H v K) :
    ∃ w' u u' H', (Instr.next v' false ty).run cx.P w = .ok u' w' ∧ K u H' ∧ H.nx ≤ H'.nx ∧ CV ρ u u' ∧ Rel cx ρ H' w' := by
  unfold nxt at h
  split at h
  · rename_i n
    cases hv with
    | ptr e0 =>
    rename_i l
    split at h
    · rename_i a b c hn
      obtain ⟨l', e1, f1, f2, m', f3, f4⟩ := hR.obj n _ hn
      rw [e0] at e1; cases e1
      cases f4
      refine ⟨w, _, .tuple #[.bool false], _, ?_, h, Nat.le_refl _, .tuple (.cons (.bool _) .nil), hR⟩
      simp only [f2, Nat.add_zero, Instr.next, Sem.run_bind, run_getI f3, Result.andThen]
      rfl
    · rename_i m since last seen hn
      obtain ⟨l', e1, f1, f2, m', f3, f4⟩ := hR.obj n _ hn
      rw [e0] at e1; cases e1
      split at h
      · rename_i es clock hm
        obtain ⟨lm, es', e4, e5, e6⟩ := hR.mapHas hm
        cases f4 with
        | map x =>
        rw [e4] at x; cases x
        cases hc : (Nat.ble since last && es.all fun e => Nat.blt e.born since) with
        | false => rw [hc] at h; exact h.elim
        | true =>
          rw [hc] at h
          simp only [cond_true] at h
          simp only [Bool.and_eq_true, List.all_eq_true] at hc
          have hsc := Nat.le_of_ble_eq_true hc.1
          have hold : ∀ e ∈ es', e.born < since := e6.old fun e he => Nat.le_of_ble_eq_true (hc.2 e he)
          have hF := e6.filter fun b => !(seen.any fun x => Nat.beq x b)
          have hF' : (⟨es'⟩ : Array MapEntry).filter (fun e => !(⟨seen⟩ : Array Nat).contains e.born) = ⟨es'.filter fun e => !(seen.any fun x => Nat.beq x e.born)⟩ := by
            apply Array.ext'
            rw [Array.toList_filter]
            exact congrArg (fun p => List.filter p es') (funext fun e => by rw [seen_contains])
          have htest := next_test_false ⟨seen⟩ ⟨es'⟩ since last (fun x hx => hold x hx) hsc
          have hmem : ∀ x ∈ (es'.filter fun e => !(seen.any fun x => Nat.beq x e.born)), x.born < since := fun x hx => hold x (List.mem_filter.1 hx).1
          generalize hL : (es.filter fun e => !(seen.any fun x => Nat.beq x e.born)) = L at h hF
          generalize hL' : (es'.filter fun e => !(seen.any fun x => Nat.beq x e.born)) = L' at hF hF' hmem
          have e1 : (⟨L'⟩ : Array MapEntry).filter (fun x => decide (x.born < since)) = ⟨L'⟩ := Array.filter_eq_self.2 (fun x hx => by simpa using hmem x (by simpa using hx))
          have e2 : (⟨L'⟩ : Array MapEntry).filter (fun x => decide (x.born ≥ since)) = #[] := by
            rw [Array.filter_eq_empty_iff]
            intro x hx
            have := hmem x (by simpa using hx)
            simp
            omega
          simp only [f2, Nat.add_zero, Instr.next, Sem.run_bind, run_getI f3, run_getM e5, Result.andThen, htest, Bool.false_eq_true, if_false, hF', e1, e2, Array.append_empty]
          cases hF with
          | nil =>
            refine ⟨w, _, .tuple #[.bool false], _, ?_, h, Nat.le_refl _, .tuple (.cons (.bool _) .nil), hR⟩
            simp [choose, Sem.run, Question.forced]
          | cons ca cb cc cd =>
            rename_i x x' xs xs'
            have hF : CEs ρ (x :: xs) (x' :: xs') := .cons ca cb cc cd
            simp only at h
            have hch := run_choose (P := cx.P) w (x' :: xs').length (by simp)
            obtain ⟨j, w1, hj, hw1, hrun⟩ := hch
            have hR1 : Rel cx ρ H w1 := by
              rcases hw1 with rfl | rfl
              · exact hR
              · exact hR.drew _
            have hh : w1.heap = w.heap := by rcases hw1 with rfl | rfl <;> rfl
            obtain ⟨e', he'⟩ : ∃ e', (x' :: xs')[j]? = some e' := ⟨_, List.getElem?_eq_getElem hj⟩
            obtain ⟨e, g1, g2, g3, g4⟩ := hF.get he'
            have hK := nxtAll_get h g1
            have hset : (setObj l.blk (.mapIter (some lm.blk) since ⟨seen ++ [e.born]⟩ clock)).run cx.P w1 = .ok () { w1 with heap := w1.heap.setIfInBounds l.blk (.mapIter (some lm.blk) since ⟨seen ++ [e.born]⟩ clock) } := by
              simp only [setObj, Sem.run]
              rw [hh, f3]
            have hlt := lt_of_some f3
            have hR2 : Rel cx ρ (H.put n (.iter (some m) since clock (seen ++ [e.born]))) { w1 with heap := w1.heap.setIfInBounds l.blk (.mapIter (some lm.blk) since ⟨seen ++ [e.born]⟩ clock) } := by
              refine hR1.upd hn e0 rfl rfl rfl rfl rfl (by simp) (fun b hb => by simp [Array.getElem?_setIfInBounds, Ne.symm hb]) ⟨f1, f2, some lm.blk, ?_, .map e4⟩
              simp [hh, hlt]
            refine ⟨_, _, .tuple #[.bool true, e'.key, e'.val], _, ?_, hK, Nat.le_refl _, .tuple (.cons (.bool _) (.cons g2 (.cons g3 .nil))), hR2⟩
            have hpush : (⟨seen⟩ : Array Nat).push e'.born = ⟨seen ++ [e.born]⟩ := by rw [g4]; simp
            simp only [Array.isEmpty, List.size_toArray, List.length_cons, Nat.succ_ne_zero, decide_false, Bool.false_eq_true, if_false, Array.empty_append, Array.size_map]
            have hget : (Array.map some (⟨x' :: xs'⟩ : Array MapEntry))[j]? = some (some e') := by rw [Array.getElem?_map, List.getElem?_toArray, he']; rfl
            rw [show xs'.length + 1 = (x' :: xs').length from rfl, hrun]
            simp only [hget, hpush, Sem.run_bind, hset, Result.andThen]
            rfl
      · exact h.elim
    · exact h.elim
  · exact h.elim
end Go.Ab

namespace Go.Ab
open Go
set_option linter.unusedVariables false
set_option linter.unusedSimpArgs false

def callable (P : Program) (f : FuncId) : Prop := ∃ fn, P.funcs[f]? = some fn ∧ fn.body.isSome = true ∧ (fn.name == "runtime.NumGoroutine") = false
/-- Names are added, at the end alone. -/
structure Ext (H : AH) (ρ : Ren) (H' : AH) (ρ' : Ren) : Prop where
  le : ρ.le ρ'
  old : ∀ n, n < H.nx → ρ' n = ρ n
  nx : H.nx ≤ H'.nx
theorem Ext.refl (H : AH) (ρ : Ren) : Ext H ρ H ρ := ⟨Ren.le_refl _, fun _ _ => rfl, Nat.le_refl _⟩
theorem Ext.trans {H H1 H2 : AH} {ρ ρ1 ρ2 : Ren} (a : Ext H ρ H1 ρ1) (b : Ext H1 ρ1 H2 ρ2) : Ext H ρ H2 ρ2 :=
  ⟨Ren.le_trans a.le b.le, fun n h => (b.old n (Nat.lt_of_lt_of_le h a.nx)).trans (a.old n h), Nat.le_trans a.nx b.nx⟩
theorem Ext.of_add {H H' : AH} {ρ ρ' : Ren} (hle : ρ.le ρ') (h : ρ' = ρ ∨ ∃ l, ρ' = ρ.add H.nx l) (hn : H.nx ≤ H'.nx) : Ext H ρ H' ρ' := by
  refine ⟨hle, fun n hlt => ?_, hn⟩
  rcases h with rfl | ⟨l, rfl⟩
  · rfl
  · unfold Ren.add; rw [if_neg (by omega)]
/-- What calls do is so of the model's calls. -/
def DSound (P : Program) (D : Dl) : Prop := ∀ f args H K, D f args H K → callable P f ∧
  ∀ (cx : Cx), cx.P = P → ∀ ρ w args', Rel cx ρ H w → CVs ρ args args' →
    Calls P f ⟨args'⟩ w fun e w' => ∃ v v' H' ρ', e = .returned v' ∧ K v H' ∧ Ext H ρ H' ρ' ∧ CV ρ' v v' ∧ Rel cx ρ' H' w'
/-- The table of methods: each row is the program's, with the receiver as it stands. -/
def MOK (P : Program) (M : Ms) : Prop := ∀ t s f, M t s = some f → ∃ i m b d, P.info? t = some i ∧ i.methods.find? (fun m => m.name == s) = some m ∧ m.path = #[] ∧ m.func = some (f, b) ∧
  P.underlying t = some d ∧ ((b = true ∧ ∃ el, d = .pointer el) ∨ (b = false ∧ ∀ el, d ≠ .pointer el))

def EnvRel (ρ : Ren) (e : Env) (ts : Array Value) : Prop := ∀ t v, eget e t = some v → ∃ v', ts[t]? = some v' ∧ CV ρ v v'
theorem EnvRel.mono {ρ ρ' : Ren} (h : ρ.le ρ') {e : Env} {ts : Array Value} (hE : EnvRel ρ e ts) : EnvRel ρ' e ts := fun t v ht =>
  let ⟨v', a, b⟩ := hE t v ht; ⟨v', a, b.mono h⟩
theorem eget_cons (i : Nat) (v : Value) (e : Env) (t : Nat) : eget ((i, v) :: e) t = if i = t then some v else eget e t := by
  rw [eget, beq_ite]
theorem EnvRel.set {ρ : Ren} {e : Env} {a : Act} (hE : EnvRel ρ e a.tmps) {dst : Option Tmp} {nt : Nat} (hb : bnd nt dst = true) (hs : nt ≤ a.tmps.size) {v v' : Value} (hv : CV ρ v v') :
    EnvRel ρ (eset e dst v) (a.put dst v').tmps := by
  cases dst with
  | none => exact hE
  | some d =>
    have hd : d < a.tmps.size := by
      have h2 : Nat.ble (d + 1) nt = true := hb
      exact Nat.lt_of_lt_of_le (Nat.le_of_ble_eq_true h2) hs
    intro t u ht
    simp only [eset, eget_cons] at ht
    show ∃ v', (a.tmps.setIfInBounds d _)[t]? = some v' ∧ _
    by_cases h : d = t
    · subst h
      rw [if_pos rfl] at ht; cases ht
      exact ⟨v', by simp [hd], hv⟩
    · rw [if_neg h] at ht
      obtain ⟨u', e1, e2⟩ := hE t u ht
      exact ⟨u', by rw [Array.getElem?_setIfInBounds_ne h]; exact e1, e2⟩
theorem put_size (a : Act) (dst : Option Tmp) (v : Value) : (a.put dst v).tmps.size = a.tmps.size := by
  cases dst <;> simp [Act.put]
theorem put_defers (a : Act) (dst : Option Tmp) (v : Value) : (a.put dst v).defers = a.defers := by
  cases dst <;> rfl
theorem evo_sound {cx : Cx} {ρ : Ren} {H : AH} {w : World} (hR : Rel cx ρ H w) {e : Env} {a : Act} (hE : EnvRel ρ e a.tmps) (x : Operand) (v : Value) (h : evo cx.P e x = some v) : CV ρ v (a.eval x) := by
  cases x with
  | tmp t =>
    obtain ⟨v', h1, h2⟩ := hE t v h
    show CV ρ v (a.tmps.getD t undef)
    rw [show a.tmps.getD t undef = v' from by simp [Array.getD_eq_getD_getElem?, h1]]
    exact h2
  | const c =>
    simp only [evo] at h
    cases hb : bare c with
    | false => rw [hb] at h; cases h
    | true => rw [hb] at h; cases h; exact .of_bare hb
  | global g =>
    simp only [evo] at h
    cases hb : Nat.blt g cx.P.globals.size with
    | false => rw [hb] at h; cases h
    | true =>
      rw [hb] at h; cases h
      have h2 : Nat.ble (g + 1) cx.P.globals.size = true := hb
      have hl := hR.glob g (Nat.le_of_ble_eq_true h2)
      have := CV.ptr (ρ := ρ) (off := 0) hl
      show CV ρ _ (.pointer (some ⟨g, 0, none⟩))
      simpa using this
  | func f => cases h; exact .func .nil .nil

theorem run_callFunc {P : Program} {w : World} {f : FuncId} {args : Array Value} (h : callable P f) : (callFunc f args).run P w = .ok (.enter f args) w := by
  obtain ⟨fn, h1, h2, h3⟩ := h
  have h3' : fn.name ≠ "runtime.NumGoroutine" := by simpa using h3
  have h4 : fn.body ≠ none := by intro e; rw [e] at h2; cases h2
  simp [callFunc, h1, h3', h4]
theorem run_method {P : Program} {w : World} {M : Ms} (hM : MOK P M) {t : TypeId} {s : String} {f : FuncId} (h : M t s = some f) (v : Value) (n : Nat) : (method (n + 1) t v s).run P w = .ok (f, v) w := by
  obtain ⟨i, m, b, d, h1, h2, h3, h4, h5, h6⟩ := hM t s f h
  have hti : (typeInfo t).run P w = .ok i w := by simp [typeInfo, h1]
  rcases h6 with ⟨rfl, el, rfl⟩ | ⟨rfl, hd⟩
  · simp [method, hti, h2, h3, h4, follow, receiverAt, run_underlying h5, Place.get]
  · cases d <;> first
      | exact absurd rfl (hd _)
      | simp [method, hti, h2, h3, h4, follow, receiverAt, run_underlying h5, Place.get]

theorem semG_sound {ops : Array Oper} {e : Env} {o : Oper} {a : Act} {op : KV → Prop} {K : KV} {H : AH} {ρ : Ren} (hE : EnvRel ρ e a.tmps) (h : semG ops e o.guard op K H) :
    (Region.wanted o (yielded ops a.tmps) = true ∧ op K) ∨ (Region.wanted o (yielded ops a.tmps) = false ∧ K undef H) := by
  unfold semG at h
  cases hg : o.guard with
  | none => rw [hg] at h; exact .inl ⟨by simp [Region.wanted, hg], h⟩
  | some p =>
    obtain ⟨j, want⟩ := p
    rw [hg] at h
    simp only at h
    split at h
    · rename_i d hd
      split at h
      · rename_i v hb
        unfold gd at h
        split at h
        · rename_i b
          obtain ⟨v', h1, h2⟩ := hE d _ hb
          have hy : yielded ops a.tmps j = some b := by
            rw [h2.bool_inv] at h1
            simp [yielded, hd, h1]
          have hw : Region.wanted o (yielded ops a.tmps) = (b == want) := by simp [Region.wanted, hg, hy]
          rw [hw]
          cases b <;> cases want <;> first | exact .inl ⟨rfl, h⟩ | exact .inr ⟨rfl, h⟩
        · rename_i hnb
          obtain ⟨v', h1, h2⟩ := hE d _ hb
          have hy : yielded ops a.tmps j = none := by
            have : ∀ b, v' ≠ .bool b := fun b e => by subst e; cases h2; exact hnb _ rfl
            simp only [yielded, hd, h1]
            split
            · rename_i b e; rw [Option.bind_some, h1] at e; exact absurd (Option.some.inj e) (this b)
            · rfl
          exact .inr ⟨by simp [Region.wanted, hg, hy], h⟩
      · exact h.elim
    · exact h.elim

section
variable {P : Program} {M : Ms} {D : Dl} (hD : DSound P D) (hM : MOK P M) {cx : Cx} (hP : cx.P = P) {ρ : Ren} {H : AH} {w : World}
include hD hM hP
theorem call_sound (hR : Rel cx ρ H w) {ev : Operand → Option Value} {a : Act} (hev : ∀ x v, ev x = some v → CV ρ v (a.eval x)) {o : Oper} {c : Call} (ho : o.op = .call c) {K : KV} (h : call P M D c ev H K)
    {next : Act → World → Prop} {Q : Exit → Act → World → Prop} (hk : ∀ v H' ρ' w' v', K v H' → Ext H ρ H' ρ' → CV ρ' v v' → Rel cx ρ' H' w' → next (a.put o.dst v') w') : o.wp P a w next Q := by
  obtain ⟨callee, args, tys⟩ := c
  have fin : ∀ id (vs : List Value) (vs' : Array Value), D id vs H K → CVs ρ vs vs'.toList → (execOp a.eval o).run P w = .ok (.enter id vs') w → o.wp P a w next Q := by
    intro id vs vs' hDf hvs hrun
    obtain ⟨-, hC⟩ := hD id vs H K hDf
    unfold Oper.wp
    rw [hrun, Oper.upon_enter]
    refine (hC cx hP ρ w vs'.toList hR hvs).mono fun e w' hh => ?_
    obtain ⟨v, v', H', ρ', rfl, k1, k2, k3, k4⟩ := hh
    exact hk v H' ρ' w' v' k1 k2 k3 k4
  unfold call at h
  cases callee with
  | builtin b => exact h.elim
  | value f =>
    simp only at h
    split at h
    · rename_i fv0 vs hf hvs
      unfold callV at h
      split at h
      case h_2 => exact h.elim
      rename_i id xs ys
      have cf := hev _ _ hf
      have cvs := evs_sound hev hvs
      generalize hfv : a.eval f = fv at cf
      cases cf with
      | func c1 c2 =>
        rename_i xs' ys'
        refine fin id _ ⟨xs' ++ (args.toList.map a.eval ++ ys')⟩ h (c1.append (cvs.append c2)) ?_
        have hcall := (hD id _ H K h).1
        have e1 : ((⟨xs'⟩ : Array Value) ++ args.map a.eval ++ (⟨ys'⟩ : Array Value)) = ⟨xs' ++ (args.toList.map a.eval ++ ys')⟩ := by apply Array.ext'; simp
        simp only [execOp, ho, resolve, hfv, Deferred.ofValue, Sem.run_bind, Sem.run_pure, Result.andThen_ok, invoke, e1, run_callFunc hcall]
    · exact h.elim
  | invoke r name =>
    simp only at h
    split at h
    · rename_i rv0 vs hr hvs
      unfold invk at h
      split at h
      case h_2 => exact h.elim
      rename_i t v
      have cr := hev _ _ hr
      have cvs := evs_sound hev hvs
      split at h
      · rename_i id hid
        generalize hrv : a.eval r = rv at cr
        cases cr with
        | iface c1 =>
          rename_i v'
          refine fin id _ ⟨v' :: args.toList.map a.eval⟩ h (.cons c1 cvs) ?_
          have hcall := (hD id _ H K h).1
          have e0 : (#[Value.iface t v'] ++ args.map a.eval)[0]? = some (.iface t v') := by rw [Array.getElem?_append_left (by simp)]; rfl
          have e1 : (#[Value.iface t v'] ++ args.map a.eval).extract 1 (#[Value.iface t v'] ++ args.map a.eval).size = args.map a.eval := by
            apply Array.ext'
            simp
            exact List.take_of_length_le (by simp)
          have e2 : (#[v'] ++ args.map a.eval) = ⟨v' :: args.toList.map a.eval⟩ := by apply Array.ext'; simp
          have hm : (method (P.types.size + Made.depth) t v' name).run P w = .ok (id, v') w := by
            have hpos : 0 < Made.depth := by decide
            obtain ⟨n, hn⟩ : ∃ n, P.types.size + Made.depth = n + 1 := ⟨P.types.size + Made.depth - 1, by omega⟩
            rw [hn]; exact run_method hM hid v' n
          simp only [execOp, ho, resolve, hrv, Sem.run_bind, Sem.run_pure, Result.andThen_ok, invoke, e0, e1, callMethod, run_program, hm, e2, run_callFunc hcall]
      · exact h.elim
    · exact h.elim
theorem semOp_sound (hR : Rel cx ρ H w) {ev : Operand → Option Value} {a : Act} (hev : ∀ x v, ev x = some v → CV ρ v (a.eval x)) {o : Oper} {K : KV} (h : semOp P M D o.op ev H K)
    {next : Act → World → Prop} {Q : Exit → Act → World → Prop} (hk : ∀ v H' ρ' w' v', K v H' → Ext H ρ H' ρ' → CV ρ' v v' → Rel cx ρ' H' w' → next (a.put o.dst v') w') : o.wp P a w next Q := by
  unfold semOp at h
  split at h
  · replace h := neK_bn h
    unfold bn at h
    split at h
    · rename_i v hv
      obtain ⟨v', h1, h2⟩ := neS_sound hR hev (o := o) (by rw [hP]; exact hv)
      unfold Oper.wp
      rw [← hP, h1, hP, Oper.upon_value]
      exact hk _ _ _ _ _ h (Ext.refl _ _) h2 hR
    · exact h.elim
  · unfold bnA at h
    split at h
    · rename_i ob f hv
      obtain ⟨w', v', h1, h2, h3, h4⟩ := alS_sound hR.res hev (o := o) (by rw [hP]; exact hv) (n := H.nx) (hR.fresh _ (Nat.le_refl _)) (by simp)
      unfold Oper.wp
      rw [← hP, h1, hP, Oper.upon_value]
      exact hk _ _ _ _ _ h (Ext.of_add h2 (.inr ⟨_, rfl⟩) (by simp)) h3 h4
    · exact h.elim
  · unfold bn2 at h
    split at h
    · rename_i v H' hv
      obtain ⟨nx, w', v', ρ', h1, h2, h3, h4, h5⟩ := efS_sound hR hev (o := o) (by rw [hP]; exact hv)
      unfold Oper.wp
      rw [← hP, h1, hP]
      rcases h2 with rfl | ⟨rfl, rfl⟩
      · rw [Oper.upon_value]; exact hk _ _ _ _ _ h (Ext.of_add h3.1 h3.2 (efS_nx hv)) h4 h5
      · rw [Oper.upon_skip]; exact hk _ _ _ _ _ h (Ext.of_add h3.1 h3.2 (efS_nx hv)) h4 h5
    · exact h.elim
  · split at h
    · rename_i c hc
      exact call_sound hD hM hP hR hev hc h hk
    · rename_i t x hc
      unfold bn at h
      split at h
      · rename_i v hv
        obtain ⟨w', u, u', H', ρ', h1, h2, h3, h4, h5, h6, h7⟩ := rng_sound hR (hev _ _ hv) (by rw [hP]; exact h)
        have : (execOp a.eval o).run P w = .ok (.value u') w' := by rw [hP] at h1; simp [execOp, hc, h1]
        unfold Oper.wp
        rw [this, Oper.upon_value]
        exact hk _ _ _ _ _ h2 (Ext.of_add h3 h4 h5) h6 h7
      · exact h.elim
    · rename_i it s hc
      cases s with
      | true => exact h.elim
      | false =>
        rw [cond_false] at h
        unfold bn at h
        split at h
        · rename_i v hv
          obtain ⟨w', u, u', H', h1, h2, h3, h4, h5⟩ := nxt_sound hR (ty := o.type) (hev _ _ hv) h
          have : (execOp a.eval o).run P w = .ok (.value u') w' := by rw [hP] at h1; simp [execOp, hc, h1]
          unfold Oper.wp
          rw [this, Oper.upon_value]
          exact hk _ _ _ _ _ h2 ⟨Ren.le_refl _, fun _ _ => rfl, h3⟩ h4 h5
        · exact h.elim
    · exact h.elim

theorem semOps_sound {nt : Nat} {ops : Array Oper} {Q : Env → AH → Prop} {Qc : Exit → Act → World → Prop} : ∀ (is : List Nat) {ρ : Ren} {e : Env} {H : AH} {a : Act} {w : World}, semOps P M D nt ops is e H Q → Rel cx ρ H w → EnvRel ρ e a.tmps → nt ≤ a.tmps.size → a.defers = [] →
    (∀ e' H' ρ' a' w', Q e' H' → Ext H ρ H' ρ' → Rel cx ρ' H' w' → EnvRel ρ' e' a'.tmps → nt ≤ a'.tmps.size → a'.defers = [] → Qc .normal a' w') → wpOps P ops Qc is a w
  | [], ρ, e, H, a, w, h, hR, hE, hs, hd, hQ => hQ e H ρ a w h (Ext.refl _ _) hR hE hs hd
  | i :: is, ρ, e, H, a, w, h, hR, hE, hs, hd, hQ => by
    rw [semOps] at h
    split at h
    · rename_i o ho
      cases hb : bnd nt o.dst with
      | false => rw [hb] at h; exact h.elim
      | true =>
        rw [hb] at h
        simp only [cond_true] at h
        rw [wpOps, ho]
        simp only
        rcases semG_sound hE h with ⟨hw, hy⟩ | ⟨hw, hn⟩
        · rw [hw]
          simp only [if_true]
          refine .inl (semOp_sound hD hM hP hR (fun x v hx => evo_sound hR hE x v (by rw [hP]; exact hx)) hy fun v H' ρ' w' v' hK hle hcv hR' => ?_)
          exact semOps_sound is hK hR' ((hE.mono hle.le).set hb hs hcv) (by rw [put_size]; exact hs) (by rw [put_defers]; exact hd) fun e2 H2 ρ2 a2 w2 q1 q2 => hQ e2 H2 ρ2 a2 w2 q1 (hle.trans q2)
        · rw [hw]
          simp only [Bool.false_eq_true, if_false]
          exact semOps_sound is hn hR (hE.set hb hs (.tuple .nil)) (by rw [put_size]; exact hs) (by rw [put_defers]; exact hd) hQ
    · exact h.elim
end
end Go.Ab

namespace Go.Ab
open Go
set_option linter.unusedVariables false
set_option linter.unusedSimpArgs false

theorem mem_iff {i : Nat} {l : List Nat} : mem i l = true ↔ i ∈ l := by
  unfold mem
  rw [List.any_eq_true]
  constructor
  · rintro ⟨j, hj, h⟩
    rw [Nat.eq_of_beq_eq_true h] at hj; exact hj
  · intro h
    exact ⟨i, h, Nat.beq_refl i⟩
theorem orAll_bit (m : List Nat) : ∀ (ps : List Nat) (s j : Nat), (orAll m ps s).testBit j = true → s.testBit j = true ∨ ∃ p ∈ ps, j = p ∨ (mAt m p).testBit j = true
  | [], s, j, h => .inl h
  | p :: ps, s, j, h => by
    rw [orAll] at h
    rcases orAll_bit m ps _ j h with h1 | ⟨q, hq, h2⟩
    · simp only [Nat.testBit_or, Bool.or_eq_true, Nat.testBit_two_pow] at h1
      rcases h1 with (h1 | h1) | h1
      · exact .inl h1
      · exact .inr ⟨p, by simp, .inl (by simpa using h1 : p = j).symm⟩
      · exact .inr ⟨p, by simp, .inr h1⟩
    · exact .inr ⟨q, by simp [hq], h2⟩
theorem okC_split (ops : Array Oper) (m : List Nat) : ∀ (L A A' : List Nat) (i : Nat) (C : List Nat), okC ops m A L = true → L = A' ++ i :: C → chk ops m (A ++ A') i C = true
  | [], A, A', i, C, _, e => by simp at e
  | x :: L, A, [], i, C, h, e => by
    simp only [List.nil_append, List.cons.injEq] at e
    obtain ⟨rfl, rfl⟩ := e
    simp only [okC, Bool.and_eq_true] at h
    simpa using h.1
  | x :: L, A, y :: A', i, C, h, e => by
    simp only [List.cons_append, List.cons.injEq] at e
    obtain ⟨rfl, rfl⟩ := e
    simp only [okC, Bool.and_eq_true] at h
    have := okC_split ops m _ (A ++ [x]) A' i C h.2 rfl
    simpa using this

structure ChkD (ops : Array Oper) (m : List Nat) (A : List Nat) (i : Nat) (C : List Nat) (o : Oper) : Prop where
  op : ops[i]? = some o
  notA : i ∉ A
  notC : i ∉ C
  before : ∀ t ∈ looks ops o, ∀ j ∈ A, writesT ops t j = true → (mAt m i).testBit j = true
  after : ∀ t ∈ looks ops o, ∀ j ∈ C, writesT ops t j = true → (mAt m j).testBit i = true
  once : ∀ d, o.dst = some d → ∀ j ∈ A, writesT ops d j = false
  last : ∀ e, lastE ops A = some e → (mAt m i).testBit e = true
  preds : ∀ p ∈ Ab.preds o, p ∈ A
  mask : ∀ j, (mAt m i).testBit j = true → ∃ p ∈ Ab.preds o, j = p ∨ (mAt m p).testBit j = true
theorem chk_spec {ops : Array Oper} {m A : List Nat} {i : Nat} {C : List Nat} (h : chk ops m A i C = true) : ∃ o, ChkD ops m A i C o := by
  unfold chk at h
  split at h
  · cases h
  · rename_i o ho
    simp only [Bool.and_eq_true, Bool.not_eq_true', List.all_eq_true, Bool.or_eq_true] at h
    obtain ⟨⟨⟨⟨⟨h1, h2⟩, h3⟩, h4⟩, h5⟩, h6⟩ := h
    refine ⟨o, ho, ?_, ?_, ?_, ?_, ?_, ?_, ?_, ?_⟩
    · intro hh; rw [mem_iff.2 hh] at h1; simp at h1
    · intro hh; rw [mem_iff.2 hh] at h1; simp at h1
    · intro t ht j hj hw
      rcases (h2 t ht).1 j hj with h | h
      · rw [hw] at h; cases h
      · exact h
    · intro t ht j hj hw
      rcases (h2 t ht).2 j hj with h | h
      · rw [hw] at h; cases h
      · exact h
    · intro d hd j hj
      rw [hd] at h3
      simp only [List.all_eq_true, Bool.not_eq_true'] at h3
      exact h3 j hj
    · intro e he
      rw [he] at h4; exact h4
    · intro p hp
      exact mem_iff.1 (h5 p hp)
    · intro j hj
      rw [Nat.eq_of_beq_eq_true h6] at hj
      rcases orAll_bit m _ 0 j hj with h | h
      · simp at h
      · exact h
theorem lastE_mem {ops : Array Oper} {A : List Nat} {e : Nat} (h : lastE ops A = some e) : e ∈ A ∧ isE ops e = true := by
  unfold lastE at h
  exact ⟨by simpa using List.mem_of_find?_eq_some h, by simpa using List.find?_some h⟩
theorem lastE_some {ops : Array Oper} {A B : List Nat} {e : Nat} (he : isE ops e = true) : ∃ e', lastE ops (A ++ e :: B) = some e' ∧ (e' = e ∨ e' ∈ B) := by
  unfold lastE
  simp only [List.reverse_append, List.reverse_cons, List.append_assoc]
  rw [List.find?_append]
  cases hb : B.reverse.find? (isE ops) with
  | some x =>
    exact ⟨x, by simp, .inr (by simpa using List.mem_of_find?_eq_some hb)⟩
  | none =>
    exact ⟨e, by simp [he], .inl rfl⟩

/-! ### abstract heaps, one within the other -/
def AH.sub (A B : AH) : Prop := ∀ n o, A.get n = some o → B.get n = some o
theorem ld1_sub {A B : AH} (h : A.sub B) {x v : Value} (e : ld1 x A = some v) : ld1 x B = some v := by
  unfold ld1 at *
  split at e
  · split at e
    · rename_i hn
      simp only [h _ _ hn]; exact e
    · cases e
  · cases e
theorem ldN_sub {A B : AH} (h : A.sub B) {s : Nat} {x v : Value} (e : ldN s x A = some v) : ldN s x B = some v := by
  unfold ldN at *
  split at e
  · split at e
    · rename_i hn
      simp only [h _ _ hn]; exact e
    · cases e
  · cases e
theorem lenS_sub {A B : AH} (h : A.sub B) {x v : Value} (e : lenS x A = some v) : lenS x B = some v := by
  unfold lenS at *
  split at e
  · exact e
  · exact e
  · exact e
  · split at e
    · rename_i hn
      simp only [h _ _ hn]; exact e
    · cases e
  · cases e
theorem exactName_sub {A B : AH} (h : A.sub B) {n : Nat} (e : exactName A n = true) : exactName B n = true := by
  unfold exactName at *
  split at e
  · rename_i hn; rw [h _ _ hn]
  · rename_i hn; rw [h _ _ hn]
  · cases e
theorem capS_sub {A B : AH} (h : A.sub B) {x v : Value} (e : capS x A = some v) : capS x B = some v := by
  unfold capS at *
  split at e
  · exact e
  · rename_i n off sp q c
    cases hs : sp.isSome with
    | true => simp only [hs, Bool.true_or, cond_true] at *; exact e
    | false =>
      simp only [hs, Bool.false_or] at *
      cases hx : exactName A n with
      | false => rw [hx] at e; cases e
      | true => rw [hx] at e; rw [exactName_sub h hx]; exact e
  · cases e
theorem mapOf_sub {A B : AH} (h : A.sub B) {x : Value} {es : List MapEntry} (e : mapOf x A = some es) : mapOf x B = some es := by
  unfold mapOf at *
  split at e
  · exact e
  · split at e
    · rename_i hn
      simp only [h _ _ hn]; exact e
    · cases e
  · cases e
theorem lkS_sub {A B : AH} (h : A.sub B) {z : Value} {ok : Bool} {m k v : Value} (e : lkS z ok m k A = some v) : lkS z ok m k B = some v := by
  unfold lkS at *
  split at e
  · rename_i hm; rw [mapOf_sub h hm]; exact e
  · cases e
theorem slcS_sub {A B : AH} (h : A.sub B) {es : Nat} {x v : Value} {lo hi mx : Option Value} (e : slcS es x lo hi mx A = some v) : slcS es x lo hi mx B = some v := by
  unfold slcS at *
  split at e
  · split at e
    · split at e
      · exact e
      · rename_i l q m hb _ n off sp
        cases hc : Nat.ble q m with
        | false => rw [hc] at e; cases e
        | true =>
          rw [hc] at e
          simp only [cond_true] at e
          simp only [hb, hc, cond_true]
          split at e
          · exact e
          · cases hm : Nat.beq m l with
            | false => rw [hm] at e; exact e
            | true =>
              rw [hm] at e
              simp only [cond_true] at e ⊢
              cases h1 : (Nat.beq l 0 || sp.isSome) with
              | true => rw [h1] at e; simpa using e
              | false =>
                rw [h1] at e
                simp only [Bool.false_or] at e ⊢
                cases hx : exactName A n with
                | false => rw [hx] at e; cases e
                | true => rw [hx] at e; rw [exactName_sub h hx]; exact e
    · cases e
  · cases e
theorem entS_sub {A B : AH} (h : A.sub B) {v u : Value} (e : entS v A = some u) : entS v B = some u := by
  unfold entS at *
  split at e
  · split at e
    · rename_i hn
      rw [h _ _ hn]
      split at e
      · rename_i hm
        simp only [h _ _ hm]
        exact e
      · cases e
    · cases e
  · cases e
theorem neS_sub {P : Program} {op : Op} {ev : Operand → Option Value} {A B : AH} (h : A.sub B) {v : Value} (e : neS P op ev A = some v) : neS P op ev B = some v := by
  cases op with
  | load t x =>
    simp only [neS] at *
    split at e
    · rename_i d i u hd hi hu
      cases hz : isAggD d with
      | true => rw [hz] at e; exact ldN_sub h e
      | false => rw [hz] at e; exact ld1_sub h e
    · cases e
  | slice t x lo hi mx =>
    simp only [neS] at *
    split at e
    · exact e
    · split at e
      · exact slcS_sub h e
      · cases e
    · cases e
  | lookup t m k ok =>
    simp only [neS] at *
    split at e
    · split at e
      · split at e
        · simp only [Bool.cond_eq_ite] at e ⊢
          split at e
          · rename_i hc; rw [if_pos hc]; exact lkS_sub h e
          · cases e
        · cases e
      · cases e
    · cases e
  | call c =>
    simp only [neS] at *
    split at e
    · split at e
      · exact lenS_sub h e
      · exact lenS_sub h e
      · exact lenS_sub h e
      · cases e
    · split at e
      · exact capS_sub h e
      · cases e
    · exact e
    · exact e
    · cases e
  | entry it =>
    simp only [neS] at *
    cases hu : ev it with
    | none => rw [hu] at e; cases e
    | some u => rw [hu] at e; exact entS_sub h e
  | _ => exact e
/-- What looks at no memory yields the same in whatever memory. -/
theorem neS_blind {P : Program} {op : Op} {ev : Operand → Option Value} {A B : AH} (hc : clOf op = .ne false) : neS P op ev A = neS P op ev B := by
  cases op <;> first
    | rfl
    | (simp [clOf] at hc; done)
    | skip
  case call c =>
    obtain ⟨callee, args, tys⟩ := c
    cases callee with
    | value f => simp [clOf] at hc
    | invoke r n => simp [clOf] at hc
    | builtin b => cases b <;> first | (simp [clOf] at hc; done) | (simp only [neS]
                                                                    cases evs ev args.toList with
                                                                    | none => rfl
                                                                    | some l => rcases l with _ | ⟨x, _ | ⟨y, _ | _⟩⟩ <;> first | rfl | (cases x <;> rfl) | (cases x <;> cases y <;> rfl))
end Go.Ab

namespace Go.Ab
open Go
set_option linter.unusedVariables false
set_option linter.unusedSimpArgs false
set_option linter.unusedSectionVars false

def Dn (lis : Array Bool) (i : Nat) : Prop := lis.getD i false = true
theorem Dn_set {lis : Array Bool} {i j : Nat} (hi : i < lis.size) : Dn (lis.setIfInBounds i true) j ↔ j = i ∨ Dn lis j := by
  unfold Dn
  simp only [Array.getD_eq_getD_getElem?, Array.getElem?_setIfInBounds]
  by_cases h : i = j
  · subst h; simp [hi]
  · simp [h, Ne.symm h]
theorem ready_iff {ops : Array Oper} {lis : Array Bool} (hs : lis.size = ops.size) {i : Nat} :
    i ∈ Region.ready .any ops lis ↔ i < ops.size ∧ ¬ Dn lis i ∧ ∃ o, ops[i]? = some o ∧ ∀ p ∈ preds o, Dn lis p := by
  unfold Region.ready
  simp only [List.mem_filter, List.mem_range, Bool.and_eq_true, Bool.not_eq_true']
  constructor
  · rintro ⟨h1, h2, h3⟩
    have hd : lis.getD i false = lis.getD i true := by
      rw [Array.getD_eq_getD_getElem?, Array.getD_eq_getD_getElem?, Array.getElem?_eq_getElem (by omega)]; rfl
    refine ⟨h1, fun hh => ?_, ops[i], by simp [h1], fun p hp => ?_⟩
    · unfold Dn at hh; rw [hd, h2] at hh; cases hh
    · rw [Array.getElem?_eq_getElem h1] at h3
      simp only [Option.map_some, Option.getD_some, Array.all_eq_true', Bool.or_eq_true, Bool.not_eq_true'] at h3
      simp only [preds, List.mem_map, List.mem_filter] at hp
      obtain ⟨e, ⟨he, hb⟩, rfl⟩ := hp
      rcases h3 e (by simpa using he) with h | h
      · rw [hb] at h; cases h
      · exact h
  · rintro ⟨h1, h2, o, h3, h4⟩
    have hd : lis.getD i false = lis.getD i true := by
      rw [Array.getD_eq_getD_getElem?, Array.getD_eq_getD_getElem?, Array.getElem?_eq_getElem (by omega)]; rfl
    refine ⟨h1, ?_, ?_⟩
    · unfold Dn at h2; rw [hd] at h2; simpa using h2
    · rw [h3]
      simp only [Option.map_some, Option.getD_some, Array.all_eq_true', Bool.or_eq_true, Bool.not_eq_true']
      intro e he
      cases hb : Region.binds .any e with
      | false => exact .inl rfl
      | true => exact .inr (h4 e.on (by simp only [preds, List.mem_map, List.mem_filter]; exact ⟨e, ⟨by simpa using he, hb⟩, rfl⟩))

theorem eget_restr {l : List Nat} {e : Env} {t : Nat} {v : Value} (h : eget (restr l e) t = some v) : t ∈ l ∧ eget e t = some v := by
  induction l with
  | nil => cases h
  | cons x l ih =>
    rw [restr] at h
    split at h
    · rename_i u hu
      rw [eget_cons] at h
      by_cases hx : x = t
      · subst hx; rw [if_pos rfl] at h; cases h; exact ⟨by simp, hu⟩
      · rw [if_neg hx] at h; obtain ⟨a, b⟩ := ih h; exact ⟨by simp [a], b⟩
    · obtain ⟨a, b⟩ := ih h; exact ⟨by simp [a], b⟩
theorem tmp_in_looks {ops : Array Oper} {o : Oper} {t : Nat} (h : t ∈ tmpsOf o.op) : t ∈ looks ops o := by
  unfold looks; exact List.mem_append_left _ h
theorem guard_in_looks {ops : Array Oper} {o : Oper} {j : Nat} {want : Bool} {d : Nat} (hg : o.guard = some (j, want)) (hd : (ops[j]?).bind (·.dst) = some d) : d ∈ looks ops o := by
  unfold looks
  rw [hg]
  simp only
  rw [hd]
  exact List.mem_append_right _ (by simp)
/-- What a guard reads of a value. -/
def ub : Value → Option Bool
  | .bool b => some b
  | _ => none
theorem semGD_cases {ops : Array Oper} {SK : List Nat} {e : Env} {g : Option (Nat × Bool)} {yes no : Env → Prop} (h : semGD ops SK e g yes no) :
    ∃ e1 : Env, (∀ t, eget e1 t = eget e t) ∧ ((g = none ∧ yes e1) ∨ ∃ j want d u, g = some (j, want) ∧ (ops[j]?).bind (·.dst) = some d ∧ eget e1 d = some u ∧ (((ub u == some want) = true ∧ yes e1) ∨ ((ub u == some want) = false ∧ no e1))) := by
  unfold semGD at h
  split at h
  · exact ⟨e, fun _ => rfl, .inl ⟨rfl, h⟩⟩
  · rename_i j want
    split at h
    · rename_i d hd
      split at h
      · rename_i v hv
        split at h
        · unfold skV at h
          split at h
          · exact h.elim
          · rename_i hnb
            have : ub v = none := by
              cases v <;> first | rfl | exact absurd rfl (hnb _)
            exact ⟨e, fun _ => rfl, .inr ⟨j, want, d, v, rfl, hd, hv, .inr ⟨by rw [this]; rfl, h⟩⟩⟩
        · unfold gdD at h
          split at h
          · rename_i b
            have key : ∀ b', b' = b → ∀ t, eget ((d, Value.bool b') :: e) t = eget e t := by
              rintro b' rfl t
              rw [eget]
              cases hb : Nat.beq d t with
              | false => rfl
              | true => rw [cond_true, ← Nat.eq_of_beq_eq_true hb, hv]
            cases b <;> cases want
            · exact ⟨_, key false rfl, .inr ⟨j, false, d, .bool false, rfl, hd, (key false rfl d).trans hv, .inl ⟨rfl, h⟩⟩⟩
            · exact ⟨_, key false rfl, .inr ⟨j, true, d, .bool false, rfl, hd, (key false rfl d).trans hv, .inr ⟨rfl, h⟩⟩⟩
            · exact ⟨_, key true rfl, .inr ⟨j, false, d, .bool true, rfl, hd, (key true rfl d).trans hv, .inr ⟨rfl, h⟩⟩⟩
            · exact ⟨_, key true rfl, .inr ⟨j, true, d, .bool true, rfl, hd, (key true rfl d).trans hv, .inl ⟨rfl, h⟩⟩⟩
          · exact h.elim
      · exact h.elim
    · exact h.elim

section
variable {sy : Bool} {P : Program} {M : Ms} {D : Dl} {cx : Cx} {nt : Nat} {ops : Array Oper} {m : List Nat} {L0 : List Nat} {H0 : AH} {ρ0 : Ren} {e0 : Env} {Q : Env → AH → Prop}

/-- The value of a temporary, if just these operations have been carried out. -/
def OpV (ops : Array Oper) (e0 : Env) (p : Nat → Prop) (V : Nat → Value) (t : Nat) (v : Value) : Prop :=
  (∃ j, p j ∧ writesT ops t j = true ∧ V j = v) ∨ ((∀ j, p j → writesT ops t j = false) ∧ eget e0 t = some v)
theorem OpV.congr {p : Nat → Prop} {V V' : Nat → Value} (h : ∀ j, p j → V j = V' j) {t : Nat} {v : Value} (hv : OpV ops e0 p V t v) : OpV ops e0 p V' t v := by
  rcases hv with ⟨j, a, b, c⟩ | h2
  · exact .inl ⟨j, a, b, by rw [← h j a]; exact c⟩
  · exact .inr h2

/-- Is an operation wanted? -/
def GF (ops : Array Oper) (e0 : Env) (A : List Nat) (V : Nat → Value) (o : Oper) (wanted : Bool) : Prop :=
  (o.guard = none ∧ wanted = true) ∨ ∃ j want d u, o.guard = some (j, want) ∧ (ops[j]?).bind (·.dst) = some d ∧ OpV ops e0 (· ∈ A) V d u ∧ wanted = (ub u == some want)
/-- What is known of an operation that has been gone through, and not been carried out yet. -/
def Fact (P : Program) (nt : Nat) (ops : Array Oper) (L0 : List Nat) (e0 : Env) (E : Nat → Env) (V : Nat → Value) (L1 : List Nat) (B : AH) (FA : List (Nat × Nat × AObj)) (FL : List (Nat × Oper × Env × Value)) (i : Nat) : Prop :=
  ∃ o A C wanted, (∀ x ∈ A, x ∈ L1) ∧ ops[i]? = some o ∧ L0 = A ++ i :: C ∧ bnd nt o.dst = true ∧ (∀ t v, eget (E i) t = some v → t ∈ looks ops o ∧ OpV ops e0 (· ∈ A) V t v) ∧ GF ops e0 A V o wanted ∧
    ((wanted = false ∧ V i = undef ∧ ∀ n ob, (i, n, ob) ∉ FA) ∨ (wanted = true ∧ ((∃ r, clOf o.op = .ne r ∧ (∀ n ob, (i, n, ob) ∉ FA) ∧ neS P o.op (evo P (E i)) B = some (V i) ∧ (r = true → (i, o, E i, V i) ∈ FL)) ∨
      (clOf o.op = .al ∧ ∃ ob f n, alS P o.op (evo P (E i)) = some (ob, f) ∧ V i = f n ∧ (i, n, ob) ∈ FA))))

structure Inv0 (sy : Bool) (P : Program) (M : Ms) (D : Dl) (cx : Cx) (nt : Nat) (ops : Array Oper) (m : List Nat) (L0 : List Nat) (H0 : AH) (ρ0 : Ren) (e0 : Env) (Q : Env → AH → Prop)
    (L1 L2 : List Nat) (E : Nat → Env) (V : Nat → Value) (e : Env) (B : AH) (FA : List (Nat × Nat × AObj)) (FL : List (Nat × Oper × Env × Value)) (lis : Array Bool) (a : Act) (w : World) (ρ : Ren) (Hd : AH) : Prop where
  split : L0 = L1 ++ L2
  lsz : lis.size = ops.size
  dsub : ∀ i, Dn lis i → i ∈ L1
  deff : ∀ i ∈ L1, isE ops i = true → Dn lis i
  anc : ∀ i j, Dn lis i → (mAt m i).testBit j = true → Dn lis j
  env : ∀ t v, eget e t = some v → OpV ops e0 (· ∈ L1) V t v
  tm : ∀ t v, OpV ops e0 (Dn lis) V t v → ∃ v', a.tmps[t]? = some v' ∧ CV ρ v v'
  le : Ext H0 ρ0 Hd ρ
  ts : nt ≤ a.tmps.size
  df : a.defers = []
  rel : Rel cx ρ Hd w
  hnx : Hd.nx = B.nx
  hsub : B.sub Hd
  hback : ∀ n o, Hd.get n = some o → B.get n = some o ∨ ∃ i, (i, n, o) ∈ FA ∧ Dn lis i
  hfa : ∀ i n o, (i, n, o) ∈ FA → Dn lis i → Hd.get n = some o
  fal : ∀ i n o, (i, n, o) ∈ FA → i ∈ L1 ∧ n < B.nx ∧ B.get n = none ∧ o.rw = true ∧ (¬ Dn lis i → ρ n = none) ∧ isE ops i = false ∧ H0.nx ≤ n
  fan : ∀ i n o i' o', (i, n, o) ∈ FA → (i', n, o') ∈ FA → i = i' ∧ o = o'
  fai : ∀ i n o n' o', (i, n, o) ∈ FA → (i, n', o') ∈ FA → n = n' ∧ o = o'
  fls : ∀ i o e' v, (i, o, e', v) ∈ FL → i ∈ L1
  facts : ∀ i ∈ L1, ¬ Dn lis i → Fact P nt ops L0 e0 E V L1 B FA FL i
structure Inv (sy : Bool) (P : Program) (M : Ms) (D : Dl) (cx : Cx) (nt : Nat) (ops : Array Oper) (m : List Nat) (L0 : List Nat) (H0 : AH) (ρ0 : Ren) (e0 : Env) (Q : Env → AH → Prop)
    (L1 L2 : List Nat) (E : Nat → Env) (V : Nat → Value) (e : Env) (B : AH) (FA : List (Nat × Nat × AObj)) (FL : List (Nat × Oper × Env × Value)) (lis : Array Bool) (a : Act) (w : World) (ρ : Ren) (Hd : AH) : Prop
    extends Inv0 sy P M D cx nt ops m L0 H0 ρ0 e0 Q L1 L2 E V e B FA FL lis a w ρ Hd where
  sem : ∃ SK, semD sy P M D nt ops m SK L2 e B FA FL Q
theorem Inv0.swap {L1 L2 : List Nat} {E V e B FA FL lis a w ρ Hd} (I : Inv0 sy P M D cx nt ops m L0 H0 ρ0 e0 Q L1 L2 E V e B FA FL lis a w ρ Hd) {e1 : Env} (h : ∀ t, eget e1 t = eget e t) :
    Inv0 sy P M D cx nt ops m L0 H0 ρ0 e0 Q L1 L2 E V e1 B FA FL lis a w ρ Hd := { I with env := fun t v ht => I.env t v (by rw [← h]; exact ht) }

variable (hok : okC ops m [] L0 = true)
include hok
theorem chkAt {A : List Nat} {i : Nat} {C : List Nat} (h : L0 = A ++ i :: C) : ∃ o, ChkD ops m A i C o := by
  have := okC_split ops m L0 [] A i C hok h
  exact chk_spec (by simpa using this)
theorem opv_conc {L1 L2 E V e B FA FL lis a w ρ Hd} (I : Inv0 sy P M D cx nt ops m L0 H0 ρ0 e0 Q L1 L2 E V e B FA FL lis a w ρ Hd) {A : List Nat} {i : Nat} {C : List Nat} {o : Oper} (hs : L0 = A ++ i :: C) (hc : ChkD ops m A i C o)
    (hnd : ¬ Dn lis i) (hr : ∀ p ∈ preds o, Dn lis p) {t : Nat} (ht : t ∈ looks ops o) {v : Value} (hv : OpV ops e0 (· ∈ A) V t v) : ∃ v', a.tmps[t]? = some v' ∧ CV ρ v v' := by
  apply I.tm
  rcases hv with ⟨j, h1, h2, h3⟩ | ⟨h1, h2⟩
  · refine .inl ⟨j, ?_, h2, h3⟩
    obtain ⟨p, hp, h⟩ := hc.mask j (hc.before t ht j h1 h2)
    rcases h with rfl | h
    · exact hr _ hp
    · exact I.anc p j (hr p hp) h
  · refine .inr ⟨fun j hj => ?_, h2⟩
    have hjL : j ∈ L0 := by rw [I.split]; exact List.mem_append_left _ (I.dsub j hj)
    rw [hs] at hjL
    simp only [List.mem_append, List.mem_cons] at hjL
    rcases hjL with h | rfl | h
    · exact h1 j h
    · exact absurd hj hnd
    · cases hw : writesT ops t j with
      | false => rfl
      | true => exact absurd (I.anc j i hj (hc.after t ht j h hw)) hnd
/-- No temporary has two writers. -/
theorem one_writer {i j t : Nat} (hi : i ∈ L0) (hj : j ∈ L0) (hwi : writesT ops t i = true) (hwj : writesT ops t j = true) : i = j := by
  have key : ∀ i j, i ∈ L0 → j ∈ L0 → writesT ops t i = true → writesT ops t j = true → (∃ A C, L0 = A ++ i :: C ∧ j ∈ A) → False := by
    intro i j _ _ hwi hwj ⟨A, C, hs, hjA⟩
    obtain ⟨o, hc⟩ := chkAt hok hs
    have ho := hc.op
    have hd : o.dst = some t := by
      unfold writesT at hwi
      rw [ho] at hwi
      simp only at hwi
      split at hwi
      · rename_i d hd
        rw [hd, Nat.eq_of_beq_eq_true hwi]
      · cases hwi
    have := hc.once t hd j hjA
    rw [this] at hwj; cases hwj
  obtain ⟨A, C, hs⟩ := List.append_of_mem hi
  have hj' := hj
  rw [hs] at hj'
  simp only [List.mem_append, List.mem_cons] at hj'
  rcases hj' with h | rfl | h
  · exact (key i j hi hj hwi hwj ⟨A, C, hs, h⟩).elim
  · rfl
  · obtain ⟨A2, C2, hs2⟩ := List.append_of_mem h
    exact (key j i hj hi hwj hwi ⟨A ++ i :: A2, C2, by rw [hs, hs2]; simp, by simp⟩).elim
/-- Temporaries behind one more operation. -/
theorem tm_put {L1 L2 E V e B FA FL lis a w ρ Hd} (I : Inv0 sy P M D cx nt ops m L0 H0 ρ0 e0 Q L1 L2 E V e B FA FL lis a w ρ Hd) {i : Nat} (hi : i ∈ L0) {o : Oper} (ho : ops[i]? = some o) (hb : bnd nt o.dst = true) {ρ' : Ren} (hle : ρ.le ρ') {v' : Value}
    {V' : Nat → Value} (hV : ∀ j, Dn lis j → V j = V' j) (hv : CV ρ' (V' i) v') (hsz : i < lis.size) :
    ∀ t v, OpV ops e0 (Dn (lis.setIfInBounds i true)) V' t v → ∃ u, (a.put o.dst v').tmps[t]? = some u ∧ CV ρ' v u := by
  intro t v hop
  have wi : writesT ops t i = true ↔ o.dst = some t := by
    unfold writesT
    rw [ho]
    simp only
    generalize o.dst = q
    cases q with
    | none => simp
    | some d =>
      simp only [Option.some.injEq]
      constructor
      · intro h; exact Nat.eq_of_beq_eq_true h
      · intro h; subst h; exact Nat.beq_refl _
  have same : o.dst ≠ some t → (a.put o.dst v').tmps[t]? = a.tmps[t]? := by
    intro hne
    cases hd : o.dst with
    | none => rfl
    | some d =>
      have : d ≠ t := fun e => hne (by rw [hd, e])
      show (a.tmps.setIfInBounds d _)[t]? = _
      rw [Array.getElem?_setIfInBounds_ne this]
  have here : o.dst = some t → (a.put o.dst v').tmps[t]? = some v' := by
    intro hd
    rw [hd] at hb ⊢
    have h2 : Nat.ble (t + 1) nt = true := hb
    have : t < a.tmps.size := Nat.lt_of_lt_of_le (Nat.le_of_ble_eq_true h2) I.ts
    show (a.tmps.setIfInBounds t _)[t]? = _
    simp [this]
  rcases hop with ⟨j, h1, h2, h3⟩ | ⟨h1, h2⟩
  · rcases (Dn_set hsz).1 h1 with rfl | hj
    · exact ⟨v', here (wi.1 h2), by rw [← h3]; exact hv⟩
    · by_cases hd : o.dst = some t
      · have hjL : j ∈ L0 := by rw [I.split]; exact List.mem_append_left _ (I.dsub j hj)
        have := one_writer hok hi hjL (wi.2 hd) h2
        subst this
        exact ⟨v', here hd, by rw [← h3]; exact hv⟩
      · obtain ⟨u, e1, e2⟩ := I.tm t v (.inl ⟨j, hj, h2, by rw [hV j hj]; exact h3⟩)
        exact ⟨u, by rw [same hd]; exact e1, e2.mono hle⟩
  · have hd : o.dst ≠ some t := fun hd => by
      have := h1 i ((Dn_set hsz).2 (.inl rfl))
      rw [wi.2 hd] at this; cases this
    obtain ⟨u, e1, e2⟩ := I.tm t v (.inr ⟨fun j hj => h1 j ((Dn_set hsz).2 (.inr hj)), h2⟩)
    exact ⟨u, by rw [same hd]; exact e1, e2.mono hle⟩
end
end Go.Ab

namespace Go.Ab
open Go
set_option linter.unusedVariables false
set_option linter.unusedSimpArgs false
set_option linter.unusedSectionVars false

theorem alS_rw {P : Program} {op : Op} {ev : Operand → Option Value} {ob : AObj} {f : Nat → Value} (h : alS P op ev = some (ob, f)) : ob.rw = true := by
  cases op <;> simp only [alS] at h <;> (try (cases h; done))
  case makeMap t r =>
    cases r with
    | none => cases h; rfl
    | some r =>
      simp only [alS] at h
      repeat' split at h
      all_goals first | (cases h; rfl) | cases h
  all_goals (try unfold mkS at h)
  all_goals (try simp only [Bool.cond_eq_ite] at h)
  all_goals (repeat' split at h)
  all_goals (try simp only [mkS] at h)
  all_goals (try simp only [Bool.cond_eq_ite] at h)
  all_goals (repeat' split at h)
  all_goals first | (cases h; rfl) | cases h

section
variable {sy : Bool} {P : Program} {M : Ms} {D : Dl} {cx : Cx} {nt : Nat} {ops : Array Oper} {m : List Nat} {L0 : List Nat} {H0 : AH} {ρ0 : Ren} {e0 : Env} {Q : Env → AH → Prop}

theorem Fact.mono {E E' : Nat → Env} {V V' : Nat → Value} {L1 L1' : List Nat} {B B' : AH} {FA FA' FL FL'} {j : Nat} (h : Fact P nt ops L0 e0 E V L1 B FA FL j) (hE : E' j = E j) (hVj : V' j = V j) (hV : ∀ x ∈ L1, V x = V' x) (hL : ∀ x ∈ L1, x ∈ L1')
    (hB : B.sub B') (hFA : ∀ n o, (j, n, o) ∈ FA → (j, n, o) ∈ FA') (hFA' : (∀ n o, (j, n, o) ∉ FA) → ∀ n o, (j, n, o) ∉ FA') (hFL : ∀ o e v, (j, o, e, v) ∈ FL → (j, o, e, v) ∈ FL') : Fact P nt ops L0 e0 E' V' L1' B' FA' FL' j := by
  obtain ⟨o, A, C, wanted, hA, h1, h2, h3, h4, h5, h6⟩ := h
  have hVA : ∀ x, x ∈ A → V x = V' x := fun x hx => hV x (hA x hx)
  refine ⟨o, A, C, wanted, fun x hx => hL x (hA x hx), h1, h2, h3, ?_, ?_, ?_⟩
  · intro t v ht
    rw [hE] at ht
    exact ⟨(h4 t v ht).1, (h4 t v ht).2.congr hVA⟩
  · rcases h5 with h | ⟨j', want, d, b, a1, a2, a3, a4⟩
    · exact .inl h
    · exact .inr ⟨j', want, d, b, a1, a2, a3.congr hVA, a4⟩
  · rcases h6 with ⟨a1, a2, a3⟩ | ⟨a0, ⟨r, a1, a2, a3, a4⟩ | ⟨a1, ob, f, n, a2, a3, a4⟩⟩
    · exact .inl ⟨a1, by rw [hVj]; exact a2, hFA' a3⟩
    · refine .inr ⟨a0, .inl ⟨r, a1, hFA' a2, ?_, fun hr => ?_⟩⟩
      · rw [hE, hVj]; exact neS_sub hB a3
      · rw [hE, hVj]; exact hFL _ _ _ (a4 hr)
    · refine .inr ⟨a0, .inr ⟨a1, ob, f, n, ?_, ?_, hFA _ _ a4⟩⟩
      · rw [hE]; exact a2
      · rw [hVj]; exact a3

variable (hok : okC ops m [] L0 = true)
include hok
/-- The one walk goes on by one operation that is no effect. -/
theorem advance {L1 L2 : List Nat} {E V e B FA FL lis a w ρ Hd} {i : Nat} (I : Inv sy P M D cx nt ops m L0 H0 ρ0 e0 Q L1 (i :: L2) E V e B FA FL lis a w ρ Hd) (hne : isE ops i = false) :
    ∃ E' V' e' B' FA' FL' Hd', Inv sy P M D cx nt ops m L0 H0 ρ0 e0 Q (L1 ++ [i]) L2 E' V' e' B' FA' FL' lis a w ρ Hd' := by
  obtain ⟨o, hc⟩ := chkAt hok I.split
  obtain ⟨SK, hsem⟩ := I.sem
  rw [semD, hc.op] at hsem
  simp only at hsem
  have hiD : ¬ Dn lis i := fun h => hc.notA (I.dsub i h)
  cases hb : bnd nt o.dst with
  | false => rw [hb] at hsem; exact hsem.elim
  | true =>
    rw [hb] at hsem
    simp only [cond_true] at hsem
    have nel : ∀ x ∈ L1, x ≠ i := fun x hx e => hc.notA (e ▸ hx)
    obtain ⟨e, hee, hcase⟩ := semGD_cases hsem
    have I := I.toInv0.swap hee
    -- whatever value it has
    have envN : ∀ v t u, eget (eset e o.dst v) t = some u → OpV ops e0 (· ∈ L1 ++ [i]) (fun j => if j = i then v else V j) t u := by
      intro v t u hu
      have wi : writesT ops t i = true ↔ o.dst = some t := by
        unfold writesT
        rw [hc.op]
        simp only
        generalize o.dst = q
        cases q with
        | none => simp
        | some d =>
          simp only [Option.some.injEq]
          exact ⟨fun h => Nat.eq_of_beq_eq_true h, fun h => by subst h; exact Nat.beq_refl _⟩
      by_cases hd : o.dst = some t
      · rw [hd] at hu
        simp only [eset, eget_cons, if_true] at hu
        cases hu
        exact .inl ⟨i, by simp, wi.2 hd, by simp⟩
      · have hu' : eget e t = some u := by
          cases hq : o.dst with
          | none => rw [hq] at hu; exact hu
          | some d =>
            rw [hq] at hu
            simp only [eset, eget_cons] at hu
            rwa [if_neg (fun e => hd (by rw [hq, e]))] at hu
        rcases I.env t u hu' with ⟨j, h1, h2, h3⟩ | ⟨h1, h2⟩
        · exact .inl ⟨j, by simp [h1], h2, by simp [nel j h1, h3]⟩
        · refine .inr ⟨fun j hj => ?_, h2⟩
          simp only [List.mem_append, List.mem_singleton] at hj
          rcases hj with hj | rfl
          · exact h1 j hj
          · cases hw : writesT ops t j with
            | false => rfl
            | true => exact absurd (wi.1 hw) hd
    have tmN : ∀ v t u, OpV ops e0 (Dn lis) (fun j => if j = i then v else V j) t u → ∃ v', a.tmps[t]? = some v' ∧ CV ρ u v' := fun v t u h =>
      I.tm t u (h.congr fun j hj => by simp [show j ≠ i from fun e => hiD (e ▸ hj)])
    have splitN : L0 = (L1 ++ [i]) ++ L2 := by rw [I.split]; simp
    have deffN : ∀ j ∈ L1 ++ [i], isE ops j = true → Dn lis j := by
      intro j hj h
      simp only [List.mem_append, List.mem_singleton] at hj
      rcases hj with hj | rfl
      · exact I.deff j hj h
      · rw [hne] at h; cases h
    have opsE : ∀ t v, eget (restr (tmpsOf o.op) e) t = some v → t ∈ looks ops o ∧ OpV ops e0 (· ∈ L1) V t v := fun t v h => by
      obtain ⟨h1, h2⟩ := eget_restr h
      exact ⟨tmp_in_looks h1, I.env t v h2⟩
    have mk : ∀ (v : Value) (B' : AH) (FA' : List (Nat × Nat × AObj)) (FL' : List (Nat × Oper × Env × Value)) (wanted : Bool), (∃ SK, semD sy P M D nt ops m SK L2 (eset e o.dst v) B' FA' FL' Q) →
        (B' = B ∧ FA' = FA ∨ ∃ ob, B' = B.res ∧ FA' = (i, B.nx, ob) :: FA ∧ ob.rw = true) → (∀ x ∈ FL, x ∈ FL') → (∀ x ∈ FL', x ∈ FL ∨ x.1 = i) → GF ops e0 L1 V o wanted →
        ((wanted = false ∧ v = undef ∧ ∀ n ob, (i, n, ob) ∉ FA') ∨ (wanted = true ∧ ((∃ r, clOf o.op = .ne r ∧ (∀ n ob, (i, n, ob) ∉ FA') ∧ neS P o.op (evo P (restr (tmpsOf o.op) e)) B' = some v ∧ (r = true → (i, o, restr (tmpsOf o.op) e, v) ∈ FL')) ∨
          (clOf o.op = .al ∧ ∃ ob f n, alS P o.op (evo P (restr (tmpsOf o.op) e)) = some (ob, f) ∧ v = f n ∧ (i, n, ob) ∈ FA')))) →
        ∃ E' V' e' B' FA' FL' Hd', Inv sy P M D cx nt ops m L0 H0 ρ0 e0 Q (L1 ++ [i]) L2 E' V' e' B' FA' FL' lis a w ρ Hd' := by
      intro v B' FA' FL' wanted hs hBF hFL1 hFL2 hg hk
      have hget : ∀ n, B'.get n = B.get n := by
        rcases hBF with ⟨rfl, -⟩ | ⟨ob, rfl, -⟩
        · intro n; rfl
        · intro n; rfl
      have hnxB : B.nx ≤ B'.nx := by
        rcases hBF with ⟨rfl, -⟩ | ⟨ob, rfl, -⟩
        · exact Nat.le_refl _
        · simp
      have hfaI : ∀ x ∈ FA, x ∈ FA' := by
        rcases hBF with ⟨-, rfl⟩ | ⟨ob, -, rfl, -⟩
        · exact fun x h => h
        · exact fun x h => by simp [h]
      have hfaO : ∀ x ∈ FA', x ∈ FA ∨ ∃ ob, x = (i, B.nx, ob) ∧ ob.rw = true ∧ B'.nx = B.nx + 1 := by
        rcases hBF with ⟨-, rfl⟩ | ⟨ob, rfl, rfl, hr⟩
        · exact fun x h => .inl h
        · intro x h
          simp only [List.mem_cons] at h
          rcases h with h | h
          · exact .inr ⟨ob, h, hr, by simp⟩
          · exact .inl h
      have hnoB : B.get B.nx = none := by
        cases hq : B.get B.nx with
        | none => rfl
        | some q =>
          obtain ⟨l, x1, -⟩ := I.rel.obj _ _ (I.hsub _ _ hq)
          rw [I.rel.fresh B.nx (by rw [I.hnx]; exact Nat.le_refl _)] at x1; cases x1
      have hHd : ∃ Hd', Hd'.nx = B'.nx ∧ (∀ n, Hd'.get n = Hd.get n) ∧ Rel cx ρ Hd' w ∧ Ext H0 ρ0 Hd' ρ := by
        rcases hBF with ⟨rfl, -⟩ | ⟨ob, rfl, -⟩
        · exact ⟨Hd, I.hnx, fun _ => rfl, I.rel, I.le⟩
        · exact ⟨Hd.res, by simp [I.hnx], fun _ => rfl, I.rel.res, ⟨I.le.le, I.le.old, Nat.le_trans I.le.nx (by simp)⟩⟩
      obtain ⟨Hd', q1, q2, q3, q4⟩ := hHd
      have hniFA : ∀ n ob, (i, n, ob) ∉ FA := fun n ob h => hc.notA (I.fal _ _ _ h).1
      refine ⟨fun j => if j = i then restr (tmpsOf o.op) e else E j, fun j => if j = i then v else V j, eset e o.dst v, B', FA', FL', Hd', ⟨splitN, I.lsz, fun j hj => by simp [I.dsub j hj], deffN, I.anc, envN v, tmN v, q4, I.ts, I.df, q3, q1, ?_, ?_, ?_, ?_, ?_, ?_, ?_, ?_⟩, hs⟩
      · intro n ob h; rw [q2]; exact I.hsub n ob (by rw [← hget]; exact h)
      · intro n ob h
        rw [q2] at h
        rcases I.hback n ob h with h | ⟨j, h1, h2⟩
        · exact .inl (by rw [hget]; exact h)
        · exact .inr ⟨j, hfaI _ h1, h2⟩
      · intro j n ob h hj
        rw [q2]
        rcases hfaO _ h with h | ⟨ob', h, -⟩
        · exact I.hfa j n ob h hj
        · cases h; exact absurd hj hiD
      · intro j n ob h
        rcases hfaO _ h with h | ⟨ob', h, hr, hn⟩
        · obtain ⟨a1, a2, a3, a4, a5, a6⟩ := I.fal j n ob h
          exact ⟨by simp [a1], by omega, by rw [hget]; exact a3, a4, a5, a6⟩
        · cases h
          exact ⟨by simp, by omega, by rw [hget]; exact hnoB, hr, fun _ => I.rel.fresh _ (by rw [I.hnx]; exact Nat.le_refl _), hne, by rw [← I.hnx]; exact I.le.nx⟩
      · intro j n ob j' ob' h h'
        have hx1 := h
        have hx2 := h'
        rcases hfaO _ h with h | ⟨x, h, hr, hn⟩
        · rcases hfaO _ h' with h' | ⟨x', h', hr', hn'⟩
          · exact I.fan j n ob j' ob' h h'
          · cases h'
            have := (I.fal _ _ _ h).2.1; omega
        · cases h
          rcases hfaO _ h' with h' | ⟨x', h', hr', hn'⟩
          · have := (I.fal _ _ _ h').2.1; omega
          · cases h'
            refine ⟨rfl, ?_⟩
            rcases hBF with ⟨-, rfl⟩ | ⟨obz, rfl, rfl, -⟩
            · exact absurd hx1 (hniFA _ _)
            · simp only [List.mem_cons, Prod.mk.injEq, true_and] at hx1 hx2
              rcases hx1 with hx1 | hx1
              · rcases hx2 with hx2 | hx2
                · rw [hx1, hx2]
                · exact absurd hx2 (hniFA _ _)
              · exact absurd hx1 (hniFA _ _)
      · intro j n ob n' ob' h h'
        by_cases hji : j = i
        · subst hji
          rcases hBF with ⟨-, rfl⟩ | ⟨obz, rfl, rfl, -⟩
          · exact absurd h (hniFA _ _)
          · simp only [List.mem_cons, Prod.mk.injEq, true_and] at h h'
            rcases h with h | h
            · rcases h' with h' | h'
              · exact ⟨by rw [h.1, h'.1], by rw [h.2, h'.2]⟩
              · exact absurd h' (hniFA _ _)
            · exact absurd h (hniFA _ _)
        · rcases hfaO _ h with h | ⟨x, h, -⟩
          · rcases hfaO _ h' with h' | ⟨x', h', -⟩
            · exact I.fai j n ob n' ob' h h'
            · cases h'; exact absurd rfl hji
          · cases h; exact absurd rfl hji
      · intro j o' e' u h
        rcases hFL2 _ h with h | h
        · simp [I.fls j o' e' u h]
        · simp at h; simp [h]
      · intro j hj hjD
        simp only [List.mem_append, List.mem_singleton] at hj
        rcases hj with hj | rfl
        · refine (I.facts j hj hjD).mono (by simp [nel j hj]) (by simp [nel j hj]) (fun x hx => by simp [nel x hx]) (fun x hx => by simp [hx]) (fun n ob h => by rw [hget]; exact h) (fun n ob h => hfaI _ h) ?_ (fun o' e' u h => hFL1 _ h)
          intro hno n ob h
          rcases hfaO _ h with h | ⟨x, h, -⟩
          · exact hno n ob h
          · cases h; exact nel _ hj rfl
        · refine ⟨o, L1, L2, wanted, fun x hx => by simp [hx], hc.op, I.split, hb, ?_, ?_, ?_⟩
          · intro t u ht
            simp only [if_true] at ht
            exact ⟨(opsE t u ht).1, (opsE t u ht).2.congr fun x hx => by simp [nel x hx]⟩
          · rcases hg with h | ⟨j', want, d, b, a1, a2, a3, a4⟩
            · exact .inl h
            · exact .inr ⟨j', want, d, b, a1, a2, a3.congr fun x hx => by simp [nel x hx], a4⟩
          · simpa using hk
    have hniFA : ∀ n ob, (i, n, ob) ∉ FA := fun n ob h => hc.notA (I.fal _ _ _ h).1
    have skip : ∀ (hn : ∃ SK, semD sy P M D nt ops m SK L2 (eset e o.dst undef) B FA FL Q), GF ops e0 L1 V o false → ∃ E' V' e' B' FA' FL' Hd', Inv sy P M D cx nt ops m L0 H0 ρ0 e0 Q (L1 ++ [i]) L2 E' V' e' B' FA' FL' lis a w ρ Hd' := fun hn hg =>
      mk undef B FA FL false hn (.inl ⟨rfl, rfl⟩) (fun x h => h) (fun x h => .inl h) hg (.inl ⟨rfl, rfl, hniFA⟩)
    have go : GF ops e0 L1 V o true → (match clOf o.op with
            | .ne r => neK P o.op (evo P (restr (tmpsOf o.op) e)) B fun v =>
                semD sy P M D nt ops m SK L2 (eset e o.dst v) B FA (bif r then (i, o, restr (tmpsOf o.op) e, v) :: FL else FL) Q
            | .al => bnA (alS P o.op (evo P (restr (tmpsOf o.op) e))) fun ob f =>
                semD sy P M D nt ops m SK L2 (eset e o.dst (f B.nx)) B.res ((i, B.nx, ob) :: FA) FL Q
            | _ => False) → ∃ E' V' e' B' FA' FL' Hd', Inv sy P M D cx nt ops m L0 H0 ρ0 e0 Q (L1 ++ [i]) L2 E' V' e' B' FA' FL' lis a w ρ Hd' := by
      intro hg hy
      split at hy
      · rename_i r hr
        replace hy := neK_bn hy
        unfold bn at hy
        split at hy
        · rename_i v hv
          refine mk v B FA _ true ⟨SK, hy⟩ (.inl ⟨rfl, rfl⟩) (fun x h => by cases r <;> simp [h]) (fun x h => ?_) hg (.inr ⟨rfl, .inl ⟨r, hr, hniFA, hv, fun hrt => by subst hrt; simp⟩⟩)
          cases r with
          | false => exact .inl h
          | true =>
            simp only [cond_true, List.mem_cons] at h
            rcases h with rfl | h
            · exact .inr rfl
            · exact .inl h
        · exact hy.elim
      · rename_i hcl
        unfold bnA at hy
        split at hy
        · rename_i ob f hv
          exact mk (f B.nx) B.res _ FL true ⟨SK, hy⟩ (.inr ⟨ob, rfl, rfl, alS_rw hv⟩) (fun x h => h) (fun x h => .inl h) hg (.inr ⟨rfl, .inr ⟨hcl, ob, f, B.nx, hv, rfl, by simp⟩⟩)
        · exact hy.elim
      · exact hy.elim
    have hcl : (∃ r, clOf o.op = .ne r) ∨ clOf o.op = .al := by
      unfold isE at hne
      rw [hc.op] at hne
      simp only at hne
      cases hq : clOf o.op with
      | ne r => exact .inl ⟨r, rfl⟩
      | al => exact .inr rfl
      | ef => rw [hq] at hne; cases hne
      | cl => rw [hq] at hne; cases hne
    rcases hcase with ⟨hg, hy⟩ | ⟨j, want, d, b, hg, hd, hbv, h | h⟩
    · refine go (.inl ⟨hg, rfl⟩) ?_
      rcases hcl with ⟨r, hq⟩ | hq <;> (rw [hq] at hy ⊢; exact hy)
    · refine go (.inr ⟨j, want, d, b, hg, hd, I.env d _ hbv, h.1.symm⟩) ?_
      have hy := h.2
      rcases hcl with ⟨r, hq⟩ | hq <;> (rw [hq] at hy ⊢; exact hy)
    · exact skip ⟨_, h.2⟩ (.inr ⟨j, want, d, b, hg, hd, I.env d _ hbv, h.1.symm⟩)
end
end Go.Ab

namespace Go.Ab
open Go
set_option linter.unusedVariables false
set_option linter.unusedSimpArgs false
set_option linter.unusedSectionVars false

section
variable {sy : Bool} {P : Program} {M : Ms} {D : Dl} {cx : Cx} (hP : cx.P = P) {nt : Nat} {ops : Array Oper} {m : List Nat} {L0 : List Nat} {H0 : AH} {ρ0 : Ren} {e0 : Env} {Q : Env → AH → Prop}
variable (hok : okC ops m [] L0 = true)
include hP hok

/-- The guard, as the model reads it. -/
theorem guard_conc {L1 L2 E V e B FA FL lis a w ρ Hd} (I : Inv0 sy P M D cx nt ops m L0 H0 ρ0 e0 Q L1 L2 E V e B FA FL lis a w ρ Hd) {A : List Nat} {i : Nat} {C : List Nat} {o : Oper} (hs : L0 = A ++ i :: C) (hc : ChkD ops m A i C o)
    (hnd : ¬ Dn lis i) (hr : ∀ p ∈ preds o, Dn lis p) {wanted : Bool} (hg : GF ops e0 A V o wanted) : Region.wanted o (yielded ops a.tmps) = wanted := by
  rcases hg with ⟨h1, rfl⟩ | ⟨j, want, d, b, h1, h2, h3, rfl⟩
  · simp [Region.wanted, h1]
  · obtain ⟨v', e1, e2⟩ := opv_conc hok I hs hc hnd hr (guard_in_looks h1 h2) h3
    have hy : yielded ops a.tmps j = ub b := by
      simp only [yielded, h2, Option.bind_some]
      rw [e1]
      cases e2 <;> rfl
    simp [Region.wanted, h1, hy]

/-- What is the same behind an operation that was gone through already. -/
theorem step_done {L1 L2 E V e B FA FL lis a w ρ Hd} (I : Inv sy P M D cx nt ops m L0 H0 ρ0 e0 Q L1 L2 E V e B FA FL lis a w ρ Hd) {i : Nat} (hi1 : i ∈ L1) (hnd : ¬ Dn lis i) {o : Oper} (ho : ops[i]? = some o) (hb : bnd nt o.dst = true)
    (hmask : ∀ j, (mAt m i).testBit j = true → Dn lis j) (hsz : i < lis.size) {v' : Value} {ρ' : Ren} {Hd' : AH} {w' : World} (hv : CV ρ' (V i) v') (hE : ρ.le ρ') (hR : Rel cx ρ' Hd' w')
    (hH : (Hd' = Hd ∧ ρ' = ρ ∧ ∀ n ob, (i, n, ob) ∉ FA) ∨ ∃ n ob l, (i, n, ob) ∈ FA ∧ Hd' = Hd.put n ob ∧ ρ' = ρ.add n l) :
    Inv sy P M D cx nt ops m L0 H0 ρ0 e0 Q L1 L2 E V e B FA FL (lis.setIfInBounds i true) (a.put o.dst v') w' ρ' Hd' := by
  have hiL0 : i ∈ L0 := by rw [I.split]; exact List.mem_append_left _ hi1
  have hget : ∀ n ob, Hd.get n = some ob → Hd'.get n = some ob := by
    intro n ob h
    rcases hH with ⟨rfl, -⟩ | ⟨n', ob', l, h1, rfl, -⟩
    · exact h
    · rw [AH.get_put]
      by_cases hn : n = n'
      · subst hn
        rcases I.hback _ _ h with hB | ⟨j, hj, hjD⟩
        · rw [(I.fal _ _ _ h1).2.2.1] at hB; cases hB
        · have := (I.fan _ _ _ _ _ h1 hj).1
          subst this; exact absurd hjD hnd
      · rw [if_neg hn]; exact h
  have hExt : Ext H0 ρ0 Hd' ρ' := by
    rcases hH with ⟨rfl, rfl, -⟩ | ⟨n', ob', l, h1, rfl, rfl⟩
    · exact I.le
    · refine ⟨Ren.le_trans I.le.le hE, fun k hk => ?_, I.le.nx⟩
      have := (I.fal _ _ _ h1).2.2.2.2.2.2
      unfold Ren.add
      rw [if_neg (by omega)]
      exact I.le.old k hk
  refine ⟨⟨I.split, by simp [I.lsz], ?_, ?_, ?_, I.env, tm_put hok I.toInv0 hiL0 ho hb hE (fun j _ => rfl) hv hsz, hExt, by rw [put_size]; exact I.ts, by rw [put_defers]; exact I.df, hR, ?_, ?_, ?_, ?_, ?_, I.fan, I.fai, I.fls, ?_⟩, I.sem⟩
  · intro j hj
    rcases (Dn_set hsz).1 hj with rfl | hj
    · exact hi1
    · exact I.dsub j hj
  · exact fun j hj he => (Dn_set hsz).2 (.inr (I.deff j hj he))
  · intro j k hj hk
    rcases (Dn_set hsz).1 hj with rfl | hj
    · exact (Dn_set hsz).2 (.inr (hmask k hk))
    · exact (Dn_set hsz).2 (.inr (I.anc j k hj hk))
  · rcases hH with ⟨rfl, -⟩ | ⟨n', ob', l, h1, rfl, -⟩
    · exact I.hnx
    · exact I.hnx
  · exact fun n ob h => hget n ob (I.hsub n ob h)
  · intro n ob h
    rcases hH with ⟨rfl, -⟩ | ⟨n', ob', l, h1, rfl, -⟩
    · rcases I.hback n ob h with h | ⟨j, hj, hjD⟩
      · exact .inl h
      · exact .inr ⟨j, hj, (Dn_set hsz).2 (.inr hjD)⟩
    · rw [AH.get_put] at h
      by_cases hn : n = n'
      · rw [if_pos hn] at h; cases h; subst hn
        exact .inr ⟨i, h1, (Dn_set hsz).2 (.inl rfl)⟩
      · rw [if_neg hn] at h
        rcases I.hback n ob h with h | ⟨j, hj, hjD⟩
        · exact .inl h
        · exact .inr ⟨j, hj, (Dn_set hsz).2 (.inr hjD)⟩
  · intro j n ob h hj
    rcases (Dn_set hsz).1 hj with rfl | hj
    · rcases hH with ⟨rfl, -, hno⟩ | ⟨n', ob', l, h1, rfl, -⟩
      · exact absurd h (hno _ _)
      · obtain ⟨rfl, rfl⟩ := I.fai _ _ _ _ _ h h1
        rw [AH.get_put]; simp
    · exact hget n ob (I.hfa j n ob h hj)
  · intro j n ob h
    obtain ⟨a1, a2, a3, a4, a5, a6⟩ := I.fal j n ob h
    refine ⟨a1, a2, a3, a4, fun hj => ?_, a6⟩
    have hjD : ¬ Dn lis j := fun hh => hj ((Dn_set hsz).2 (.inr hh))
    have hji : j ≠ i := fun e => hj ((Dn_set hsz).2 (.inl e))
    rcases hH with ⟨-, rfl, -⟩ | ⟨n', ob', l, h1, -, rfl⟩
    · exact a5 hjD
    · unfold Ren.add
      rw [if_neg]
      · exact a5 hjD
      · intro e; subst e
        exact hji (I.fan _ _ _ _ _ h h1).1
  · exact fun j hj hjD => I.facts j hj fun hh => hjD ((Dn_set hsz).2 (.inr hh))

theorem exec_pending {L1 L2 E V e B FA FL lis a w ρ Hd} (I : Inv sy P M D cx nt ops m L0 H0 ρ0 e0 Q L1 L2 E V e B FA FL lis a w ρ Hd) {i : Nat} (hi1 : i ∈ L1) (hnd : ¬ Dn lis i) (hsz : i < lis.size)
    (hready : ∃ o, ops[i]? = some o ∧ ∀ p ∈ preds o, Dn lis p) {Qc : Exit → Act → World → Prop} {K : Act → World → Prop}
    (hK : ∀ a' w' ρ' Hd', Inv sy P M D cx nt ops m L0 H0 ρ0 e0 Q L1 L2 E V e B FA FL (lis.setIfInBounds i true) a' w' ρ' Hd' → K a' w') : wpOp P ops Qc i K a w := by
  obtain ⟨o, A, C, wanted, hA, ho, hs, hb, hEv, hg, hk⟩ := I.facts i hi1 hnd
  obtain ⟨o2, hc⟩ := chkAt hok hs
  have : o2 = o := by have := hc.op; rw [ho] at this; cases this; rfl
  subst this
  obtain ⟨o3, ho3, hr⟩ := hready
  rw [ho] at ho3; cases ho3
  have hmask : ∀ j, (mAt m i).testBit j = true → Dn lis j := by
    intro j hj
    obtain ⟨p, hp, h⟩ := hc.mask j hj
    rcases h with rfl | h
    · exact hr _ hp
    · exact I.anc p j (hr p hp) h
  have hw := guard_conc hP hok I.toInv0 hs hc hnd hr hg
  have hER : EnvRel ρ (E i) a.tmps := fun t v ht => opv_conc hok I.toInv0 hs hc hnd hr (hEv t v ht).1 (hEv t v ht).2
  have hev : ∀ x v, evo cx.P (E i) x = some v → CV ρ v (a.eval x) := fun x v hx => evo_sound I.rel hER x v hx
  unfold wpOp
  rw [ho]
  simp only [hw]
  rcases hk with ⟨rfl, hv, hno⟩ | ⟨rfl, ⟨r, hcl, hno, hv, -⟩ | ⟨hcl, ob, f, n, hv, hvn, hmem⟩⟩
  · simp only [Bool.false_eq_true, if_false]
    exact hK _ _ _ _ (step_done hP hok I hi1 hnd ho hb hmask hsz (by rw [hv]; exact .tuple .nil) (Ren.le_refl _) I.rel (.inl ⟨rfl, rfl, hno⟩))
  · simp only [if_true]
    obtain ⟨v', h1, h2⟩ := neS_sound I.rel hev (o := o2) (neS_sub I.hsub (by rw [hP]; exact hv))
    refine .inl ?_
    unfold Oper.wp
    rw [← hP, h1, hP, Oper.upon_value]
    exact hK _ _ _ _ (step_done hP hok I hi1 hnd ho hb hmask hsz h2 (Ren.le_refl _) I.rel (.inl ⟨rfl, rfl, hno⟩))
  · simp only [if_true]
    obtain ⟨a1, a2, a3, a4, a5, a6⟩ := I.fal _ _ _ hmem
    obtain ⟨w', v', h1, h2, h3, h4⟩ := alS_sound I.rel hev (o := o2) (by rw [hP]; exact hv) (n := n) (a5 hnd) (by rw [I.hnx]; exact a2)
    refine .inl ?_
    unfold Oper.wp
    rw [← hP, h1, hP, Oper.upon_value]
    exact hK _ _ _ _ (step_done hP hok I hi1 hnd ho hb hmask hsz (by rw [hvn]; exact h3) h2 h4 (.inr ⟨n, ob, _, hmem, rfl, rfl⟩))
end
end Go.Ab

namespace Go.Ab
open Go
set_option linter.unusedVariables false
set_option linter.unusedSimpArgs false
set_option linter.unusedSectionVars false

theorem settle_nx : ∀ (l : List (Nat × Nat × AObj)) (H : AH), (settle l H).nx = H.nx
  | [], _ => rfl
  | (_, _, _) :: r, H => settle_nx r H
theorem settle_mem : ∀ (l : List (Nat × Nat × AObj)) (H : AH) {i n : Nat} {o : AObj}, (∀ j o', (j, n, o') ∈ l → o' = o) → (i, n, o) ∈ l → (settle l H).get n = some o
  | (j, n', o') :: r, H, i, n, o, hu, h => by
    rw [settle, AH.get_put]
    by_cases hn : n = n'
    · subst hn
      rw [if_pos rfl, hu j o' (by simp)]
    · rw [if_neg hn]
      simp only [List.mem_cons, Prod.mk.injEq] at h
      rcases h with ⟨-, h, -⟩ | h
      · exact absurd h hn
      · exact settle_mem r H (fun j o'' h' => hu j o'' (by simp [h'])) h
theorem settle_not : ∀ (l : List (Nat × Nat × AObj)) (H : AH) {n : Nat}, (∀ j o', (j, n, o') ∉ l) → (settle l H).get n = H.get n
  | [], _, _, _ => rfl
  | (j, n', o') :: r, H, n, h => by
    rw [settle, AH.get_put, if_neg (fun e => h j o' (by simp [e]))]
    exact settle_not r H fun j o'' h' => h j o'' (by simp [h'])

theorem veq_eq : ∀ n, (∀ x y, veq n x y = true → x = y) ∧ (∀ xs ys, veqs n xs ys = true → xs = ys)
  | 0 => ⟨fun x y h => by simp [veq] at h, fun x y h => by simp [veqs] at h⟩
  | n + 1 => by
    obtain ⟨ih1, ih2⟩ := veq_eq n
    refine ⟨fun x y h => ?_, fun xs ys h => ?_⟩
    · rw [veq.eq_def] at h
      simp only at h
      split at h
      · rename_i a b; cases a <;> cases b <;> simp_all
      · simp only [Bool.and_eq_true, decide_eq_true_eq] at h; rw [h.1, h.2]
      · rename_i a b
        have h := of_decide_eq_true h
        have : a = b := by
          obtain ⟨⟨x⟩⟩ := a; obtain ⟨⟨y⟩⟩ := b
          simpa using h
        rw [this]
      · rw [of_decide_eq_true h]
      · simp only [Bool.and_eq_true, decide_eq_true_eq] at h
        rw [h.1.1, Nat.eq_of_beq_eq_true h.1.2, Nat.eq_of_beq_eq_true h.2]
      · rw [of_decide_eq_true h]
      · rfl
      · rfl
      · simp only [Bool.and_eq_true] at h
        rw [Nat.eq_of_beq_eq_true h.1, ih1 _ _ h.2]
      · rw [ih2 _ _ h]
      · rw [ih2 _ _ h]
      · simp only [Bool.and_eq_true] at h
        rw [Nat.eq_of_beq_eq_true h.1.1, ih2 _ _ h.1.2, ih2 _ _ h.2]
      · cases h
    · rw [veqs.eq_def] at h
      split at h
      · rename_i hh; cases hh
      · rfl
      · rename_i hh; cases hh
        simp only [Bool.and_eq_true] at h
        rw [ih1 _ _ h.1, ih2 _ _ h.2]
      · cases h
theorem rechk_spec {sy : Bool} {P : Program} {H : AH} : ∀ {l : List (Nat × Oper × Env × Value)} {k : Prop}, rechk sy P H l k → k ∧ ∀ i o e v, (i, o, e, v) ∈ l → neS P o.op (evo P e) H = some v
  | [], k, h => ⟨h, fun _ _ _ _ h => by simp at h⟩
  | (i, o, e, v) :: r, k, h => by
    rw [rechk] at h
    unfold bn at h
    split at h
    · rename_i u hu
      have hh : u = v ∧ rechk sy P H r k := by
        unfold same at h
        cases sy with
        | true => exact h
        | false =>
          rw [cond_false] at h
          cases hq : veq 100 u v with
          | false => rw [hq] at h; exact h.elim
          | true => rw [hq] at h; exact ⟨(veq_eq 100).1 _ _ hq, h⟩
      obtain ⟨h1, h2⟩ := rechk_spec hh.2
      refine ⟨h1, fun i' o' e' v' hm => ?_⟩
      simp only [List.mem_cons, Prod.mk.injEq] at hm
      rcases hm with ⟨rfl, rfl, rfl, rfl⟩ | hm
      · rw [hu, hh.1]
      · exact h2 _ _ _ _ hm
    · exact h.elim

/-! ### what is set aside -/
section
open Classical
/-- Blocks of names that are in one abstract heap and not in a smaller one. -/
def Aside (ρ : Ren) (Hd R : AH) (b : Nat) : Prop := ∃ n o l, Hd.get n = some o ∧ R.get n = none ∧ o.rw = true ∧ ρ n = some l ∧ l.blk = b
noncomputable def Cx.aside {cx : Cx} {ρ : Ren} {Hd : AH} {w : World} (h : Rel cx ρ Hd w) (R : AH) : Cx :=
  { cx with
    fr := fun b => if Aside ρ Hd R b then w.heap[b]? else cx.fr b
    sub := fun b o e => by
      have hfr := cx.sub b o e
      by_cases ha : Aside ρ Hd R b
      · obtain ⟨n, ob, l, h1, h2, h3, h4, rfl⟩ := ha
        obtain ⟨l', e1, e2⟩ := h.obj n ob h1
        rw [h4] at e1; cases e1
        rw [e2.notFr h3] at hfr; cases hfr
      · rw [if_neg ha]; exact hfr }
theorem Rel.aside {cx : Cx} {ρ : Ren} {Hd : AH} {w : World} (h : Rel cx ρ Hd w) {R : AH} (hs : R.sub Hd) (hn : R.nx = Hd.nx) : Rel (Cx.aside h R) ρ R w := by
  refine ⟨h.os, h.tape, h.output, h.lo, fun b o e => ?_, fun n o e => ?_, fun n m o o' l l' a b c => h.inj n m o o' l l' a (hs _ _ b) (hs _ _ c), fun n hn' => h.fresh n (by rw [← hn]; exact hn'), h.glob⟩
  · have e' : (if Aside ρ Hd R b then w.heap[b]? else cx.fr b) = some o := e
    split at e'
    · exact e'
    · exact h.frame b o e'
  · obtain ⟨l, e1, e2⟩ := h.obj n o (hs n o e)
    refine ⟨l, e1, ?_⟩
    have key : o.rw = true → (Cx.aside h R).fr l.blk = none := by
      intro hr
      show (if Aside ρ Hd R l.blk then w.heap[l.blk]? else cx.fr l.blk) = none
      rw [if_neg]
      · exact e2.notFr hr
      · rintro ⟨n2, o2, l2, h1, h2, h3, h4, h5⟩
        have hne : n2 ≠ n := fun e' => by rw [e', e] at h2; cases h2
        exact h.inj n2 n o2 o l2 l hne h1 (hs n o e) h3 hr h4 e1 h5
    cases o with
    | map es c => exact ⟨key rfl, e2.2⟩
    | iter => exact ⟨key rfl, e2.2⟩
    | cells c T k =>
      cases k with
      | ro => exact e2
      | fix => exact ⟨key rfl, e2.2⟩
      | opn => exact ⟨key rfl, e2.2⟩
/-- And taken back. -/
theorem Rel.back {cx : Cx} {ρ ρ' : Ren} {Hd R H1 : AH} {w w' : World} (h : Rel cx ρ Hd w) (hs : R.sub Hd) (hn : R.nx = Hd.nx) (h' : Rel (Cx.aside h R) ρ' H1 w') (hE : Ext R ρ H1 ρ') {FX : List (Nat × Nat × AObj)}
    (hX : ∀ i n o, (i, n, o) ∈ FX → Hd.get n = some o ∧ R.get n = none ∧ o.rw = true) : Rel cx ρ' (settle FX H1) w' ∧ (∀ i n o, (i, n, o) ∈ FX → H1.get n = none) := by
  have hXu : ∀ i n o, (i, n, o) ∈ FX → ∀ j o', (j, n, o') ∈ FX → o' = o := by
    intro i n o hi j o' hj
    have h1 := (hX i n o hi).1
    have h2 := (hX j n o' hj).1
    rw [h1] at h2; cases h2; rfl
  -- an aside name: its block, and that it is as it was
  have info : ∀ i n o, (i, n, o) ∈ FX → ∃ l, ρ n = some l ∧ ρ' n = some l ∧ ObjRel cx ρ' l w' o ∧ Aside ρ Hd R l.blk ∧ (Cx.aside h R).fr l.blk ≠ none ∧ cx.fr l.blk = none := by
    intro i n o hi
    obtain ⟨a1, a2, a3⟩ := hX i n o hi
    obtain ⟨l, e1, e2⟩ := h.obj n o a1
    have ha : Aside ρ Hd R l.blk := ⟨n, o, l, a1, a2, a3, e1, rfl⟩
    have hlt := e2.lt a3
    have hfr2 : (Cx.aside h R).fr l.blk = w.heap[l.blk]? := by
      show (if Aside ρ Hd R l.blk then w.heap[l.blk]? else cx.fr l.blk) = _
      rw [if_pos ha]
    have hsome : w.heap[l.blk]? = some w.heap[l.blk] := by simp [hlt]
    have hsame : w'.heap[l.blk]? = w.heap[l.blk]? := by rw [hsome]; exact h'.frame _ _ (by rw [hfr2, hsome])
    exact ⟨l, e1, hE.le _ _ e1, (e2.world hsame).mono hE.le, ha, by rw [hfr2, hsome]; simp, e2.notFr a3⟩
  have notH1 : ∀ i n o, (i, n, o) ∈ FX → H1.get n = none := by
    intro i n o hi
    obtain ⟨l, b1, b2, b3, b4, b5, b6⟩ := info i n o hi
    cases hq : H1.get n with
    | none => rfl
    | some q =>
      obtain ⟨l', c1, c2⟩ := h'.obj n q hq
      rw [b2] at c1; cases c1
      cases hr : q.rw with
      | true => exact absurd (c2.notFr hr) b5
      | false =>
        cases q with
        | map => simp [AObj.rw] at hr
        | iter => simp [AObj.rw] at hr
        | cells c T k =>
          cases k with
          | ro =>
            obtain ⟨C, T', z, d1, -⟩ := c2
            have : cx.fr l.blk = some (.cells C T' z) := cx.sub _ _ d1
            rw [b6] at this; cases this
          | fix => simp [AObj.rw, CK.rw] at hr
          | opn => simp [AObj.rw, CK.rw] at hr
  have hget : ∀ n o, (settle FX H1).get n = some o → (∃ i, (i, n, o) ∈ FX) ∨ ((∀ i o', (i, n, o') ∉ FX) ∧ H1.get n = some o) := by
    intro n o e
    by_cases hm : ∃ i o', (i, n, o') ∈ FX
    · obtain ⟨i, o', hm⟩ := hm
      rw [settle_mem FX H1 (hXu i n o' hm) hm] at e
      cases e; exact .inl ⟨i, hm⟩
    · have hm' : ∀ i o', (i, n, o') ∉ FX := fun i o' hh => hm ⟨i, o', hh⟩
      rw [settle_not FX H1 hm'] at e
      exact .inr ⟨hm', e⟩
  have frH1 : ∀ n o l, H1.get n = some o → o.rw = true → ρ' n = some l → (Cx.aside h R).fr l.blk = none := by
    intro n o l e hr el
    obtain ⟨l', c1, c2⟩ := h'.obj n o e
    rw [el] at c1; cases c1
    exact c2.notFr hr
  refine ⟨⟨h'.os, h'.tape, h'.output, h'.lo, fun b o e => ?_, fun n o e => ?_, fun n m o o' l l' hne e1 e2 r1 r2 x1 x2 => ?_, fun n hn' => h'.fresh n (by rw [settle_nx] at hn'; exact hn'), h'.glob⟩, notH1⟩
  · refine h'.frame b o ?_
    show (if Aside ρ Hd R b then w.heap[b]? else cx.fr b) = some o
    split
    · exact h.frame b o e
    · exact e
  · rcases hget n o e with ⟨i, hi⟩ | ⟨-, e1⟩
    · obtain ⟨l, b1, b2, b3, -⟩ := info i n o hi
      exact ⟨l, b2, b3⟩
    · obtain ⟨l, c1, c2⟩ := h'.obj n o e1
      refine ⟨l, c1, ?_⟩
      have key : (Cx.aside h R).fr l.blk = none → cx.fr l.blk = none := by
        intro hh
        have hh' : (if Aside ρ Hd R l.blk then w.heap[l.blk]? else cx.fr l.blk) = none := hh
        split at hh'
        · rename_i ha
          obtain ⟨n2, o2, l2, h1, h2, h3, h4, h5⟩ := ha
          obtain ⟨l3, d1, d2⟩ := h.obj n2 o2 h1
          rw [h4] at d1; cases d1
          have := d2.lt h3
          rw [← h5] at hh'
          simp at hh'; omega
        · exact hh'
      cases o with
      | map es c => exact ⟨key c2.1, c2.2⟩
      | iter => exact ⟨key c2.1, c2.2⟩
      | cells c T k =>
        cases k with
        | ro => exact c2
        | fix => exact ⟨key c2.1, c2.2⟩
        | opn => exact ⟨key c2.1, c2.2⟩
  · rcases hget n o e1 with ⟨i, hi⟩ | ⟨-, g1⟩
    · obtain ⟨la, b1, b2, b3, b4, b5, b6⟩ := info i n o hi
      rw [b2] at x1; cases x1
      rcases hget m o' e2 with ⟨j, hj⟩ | ⟨-, g2⟩
      · obtain ⟨lb, d1, d2, d3, d4, d5, d6⟩ := info j m o' hj
        rw [d2] at x2; cases x2
        exact h.inj n m o o' _ _ hne (hX i n o hi).1 (hX j m o' hj).1 r1 r2 b1 d1
      · intro hbl
        have := frH1 m o' l' g2 r2 x2
        rw [← hbl] at this; exact b5 this
    · rcases hget m o' e2 with ⟨j, hj⟩ | ⟨-, g2⟩
      · obtain ⟨lb, d1, d2, d3, d4, d5, d6⟩ := info j m o' hj
        rw [d2] at x2; cases x2
        intro hbl
        have := frH1 n o l g1 r1 x1
        rw [hbl] at this; exact d5 this
      · exact h'.inj n m o o' l l' hne g1 g2 r1 r2 x1 x2
end
end Go.Ab

namespace Go.Ab
open Go
set_option linter.unusedVariables false
set_option linter.unusedSimpArgs false
set_option linter.unusedSectionVars false

section
variable {sy : Bool} {P : Program} {M : Ms} {D : Dl} (hD : DSound P D) (hM : MOK P M) {cx : Cx} (hP : cx.P = P) {nt : Nat} {ops : Array Oper} {m : List Nat} {L0 : List Nat} {H0 : AH} {ρ0 : Ren} {e0 : Env} {Q : Env → AH → Prop}
variable (hok : okC ops m [] L0 = true)
include hD hM hP hok

/-- What there is behind an effect, wanted or not. -/
theorem eff_inv {L1 L2 E V e B FA FL lis a w ρ Hd} {i : Nat} (I : Inv0 sy P M D cx nt ops m L0 H0 ρ0 e0 Q L1 (i :: L2) E V e B FA FL lis a w ρ Hd) (hE : isE ops i = true) (hnd : ¬ Dn lis i) (hsz : i < lis.size)
    {o : Oper} (hc : ChkD ops m L1 i L2 o) (hb : bnd nt o.dst = true) (hmask : ∀ j, (mAt m i).testBit j = true → Dn lis j) {v v' : Value} {B' : AH} {FA' : List (Nat × Nat × AObj)} {FL' : List (Nat × Oper × Env × Value)} {ρ' : Ren} {Hd' : AH} {w' : World}
    (hs : ∃ SK, semD sy P M D nt ops m SK L2 (eset e o.dst v) B' FA' FL' Q) (hX : Ext Hd ρ Hd' ρ') (hR : Rel cx ρ' Hd' w') (hv : CV ρ' v v') (hnx : Hd'.nx = B'.nx) (hsub : B'.sub Hd')
    (hback : ∀ n ob, Hd'.get n = some ob → B'.get n = some ob ∨ ∃ j, (j, n, ob) ∈ FA' ∧ Dn lis j) (hFA : ∀ x ∈ FA', x ∈ FA) (hfa : ∀ j n ob, (j, n, ob) ∈ FA' → Dn lis j → Hd'.get n = some ob)
    (hno : ∀ j n ob, (j, n, ob) ∈ FA' → B'.get n = none) (hB : B.nx ≤ B'.nx) (hFL : ∀ x ∈ FL', x ∈ FL)
    (hfacts : ∀ j ∈ L1, ¬ Dn lis j → Fact P nt ops L0 e0 E (fun x => if x = i then v else V x) (L1 ++ [i]) B' FA' FL' j) :
    ∃ V', Inv sy P M D cx nt ops m L0 H0 ρ0 e0 Q (L1 ++ [i]) L2 E V' (eset e o.dst v) B' FA' FL' (lis.setIfInBounds i true) (a.put o.dst v') w' ρ' Hd' := by
  have nel : ∀ x ∈ L1, x ≠ i := fun x hx e => hc.notA (e ▸ hx)
  have hiL0 : i ∈ L0 := by rw [I.split]; simp
  have neD : ∀ x, Dn lis x → x ≠ i := fun x hx e => hnd (e ▸ hx)
  refine ⟨fun x => if x = i then v else V x, ?_⟩
  refine ⟨⟨by rw [I.split]; simp, by simp [I.lsz], ?_, ?_, ?_, ?_, tm_put hok I hiL0 hc.op hb hX.le (fun j hj => by simp [neD j hj]) (by simpa using hv) hsz, I.le.trans hX, by rw [put_size]; exact I.ts, by rw [put_defers]; exact I.df, hR, hnx, hsub, ?_, ?_, ?_, ?_, ?_, ?_, ?_⟩, hs⟩
  · intro j hj
    rcases (Dn_set hsz).1 hj with rfl | hj
    · simp
    · simp [I.dsub j hj]
  · intro j hj he
    simp only [List.mem_append, List.mem_singleton] at hj
    rcases hj with hj | rfl
    · exact (Dn_set hsz).2 (.inr (I.deff j hj he))
    · exact (Dn_set hsz).2 (.inl rfl)
  · intro j k hj hk
    rcases (Dn_set hsz).1 hj with rfl | hj
    · exact (Dn_set hsz).2 (.inr (hmask k hk))
    · exact (Dn_set hsz).2 (.inr (I.anc j k hj hk))
  · intro t u hu
    have wi : writesT ops t i = true ↔ o.dst = some t := by
      unfold writesT
      rw [hc.op]
      simp only
      generalize o.dst = q
      cases q with
      | none => simp
      | some d =>
        simp only [Option.some.injEq]
        exact ⟨fun h => Nat.eq_of_beq_eq_true h, fun h => by subst h; exact Nat.beq_refl _⟩
    by_cases hd : o.dst = some t
    · rw [hd] at hu
      simp only [eset, eget_cons, if_true] at hu
      cases hu
      exact .inl ⟨i, by simp, wi.2 hd, by simp⟩
    · have hu' : eget e t = some u := by
        cases hq : o.dst with
        | none => rw [hq] at hu; exact hu
        | some d =>
          rw [hq] at hu
          simp only [eset, eget_cons] at hu
          rwa [if_neg (fun e => hd (by rw [hq, e]))] at hu
      rcases I.env t u hu' with ⟨j, h1, h2, h3⟩ | ⟨h1, h2⟩
      · exact .inl ⟨j, by simp [h1], h2, by simp [nel j h1, h3]⟩
      · refine .inr ⟨fun j hj => ?_, h2⟩
        simp only [List.mem_append, List.mem_singleton] at hj
        rcases hj with hj | rfl
        · exact h1 j hj
        · cases hw : writesT ops t j with
          | false => rfl
          | true => exact absurd (wi.1 hw) hd
  · intro n ob h
    rcases hback n ob h with h | ⟨j, hj, hjD⟩
    · exact .inl h
    · exact .inr ⟨j, hj, (Dn_set hsz).2 (.inr hjD)⟩
  · intro j n ob h hj
    rcases (Dn_set hsz).1 hj with rfl | hj
    · exact absurd (I.fal _ _ _ (hFA _ h)).1 hc.notA
    · exact hfa j n ob h hj
  · intro j n ob h
    obtain ⟨a1, a2, a3, a4, a5, a6, a7⟩ := I.fal j n ob (hFA _ h)
    refine ⟨by simp [a1], by omega, hno j n ob h, a4, fun hj => ?_, a6, a7⟩
    rw [hX.old n (by rw [I.hnx]; exact a2)]
    exact a5 fun hh => hj ((Dn_set hsz).2 (.inr hh))
  · exact fun j n ob j' ob' h h' => I.fan j n ob j' ob' (hFA _ h) (hFA _ h')
  · exact fun j n ob n' ob' h h' => I.fai j n ob n' ob' (hFA _ h) (hFA _ h')
  · exact fun j o' e' u h => by simp [I.fls j o' e' u (hFL _ h)]
  · intro j hj hjD
    simp only [List.mem_append, List.mem_singleton] at hj
    rcases hj with hj | rfl
    · exact hfacts j hj fun hh => hjD ((Dn_set hsz).2 (.inr hh))
    · exact absurd ((Dn_set hsz).2 (.inl rfl)) hjD

theorem exec_effect {L1 L2 E V e B FA FL lis a w ρ Hd} {i : Nat} (I : Inv sy P M D cx nt ops m L0 H0 ρ0 e0 Q L1 (i :: L2) E V e B FA FL lis a w ρ Hd) (hE : isE ops i = true) (hsz : i < lis.size)
    (hready : ∃ o, ops[i]? = some o ∧ ∀ p ∈ preds o, Dn lis p) {Qc : Exit → Act → World → Prop} {K : Act → World → Prop}
    (hK : ∀ V' e' B' FA' FL' a' w' ρ' Hd', Inv sy P M D cx nt ops m L0 H0 ρ0 e0 Q (L1 ++ [i]) L2 E V' e' B' FA' FL' (lis.setIfInBounds i true) a' w' ρ' Hd' → K a' w') : wpOp P ops Qc i K a w := by
  obtain ⟨o, hc⟩ := chkAt hok I.split
  have hnd : ¬ Dn lis i := fun h => hc.notA (I.dsub i h)
  obtain ⟨o3, ho3, hr⟩ := hready
  have : o3 = o := by rw [hc.op] at ho3; cases ho3; rfl
  subst this
  have hmask : ∀ j, (mAt m i).testBit j = true → Dn lis j := by
    intro j hj
    obtain ⟨p, hp, h⟩ := hc.mask j hj
    rcases h with rfl | h
    · exact hr _ hp
    · exact I.anc p j (hr p hp) h
  have nel : ∀ x ∈ L1, x ≠ i := fun x hx e => hc.notA (e ▸ hx)
  obtain ⟨SK, hsem⟩ := I.sem
  rw [semD, hc.op] at hsem
  simp only at hsem
  cases hb : bnd nt o3.dst with
  | false => rw [hb] at hsem; exact hsem.elim
  | true =>
    rw [hb] at hsem
    simp only [cond_true] at hsem
    obtain ⟨e, hee, hcase⟩ := semGD_cases hsem
    have I := I.toInv0.swap hee
    unfold wpOp
    rw [hc.op]
    -- skipped
    have skip : ∀ (hn : ∃ SK, semD sy P M D nt ops m SK L2 (eset e o3.dst undef) B FA FL Q), GF ops e0 L1 V o3 false → (if Region.wanted o3 (yielded ops a.tmps) = true then o3.wp P a w K Qc ∨ (o3.asks P a w ∧ LetsOut Qc) else K (a.put o3.dst undef) w) := by
      intro hn hg
      rw [guard_conc hP hok I I.split hc hnd hr hg]
      simp only [Bool.false_eq_true, if_false]
      obtain ⟨V', hI⟩ := eff_inv hD hM hP hok I hE hnd hsz hc hb hmask (v := undef) (v' := undef) hn (Ext.refl _ _) I.rel (.tuple .nil) I.hnx I.hsub I.hback (fun x h => h) I.hfa (fun j n ob h => (I.fal j n ob h).2.2.1) (Nat.le_refl _) (fun x h => h)
        (fun j hj hjD => (I.facts j hj hjD).mono rfl (by simp [nel j hj]) (fun x hx => by simp [nel x hx]) (fun x hx => by simp [hx]) (fun n o h => h) (fun n o h => h) (fun h => h) (fun o' e' u h => h))
      exact hK _ _ _ _ _ _ _ _ _ hI
    -- wanted
    have go : GF ops e0 L1 V o3 true → (match clOf o3.op with
            | .ef => bn2 (efS P o3.op (evo P (restr (tmpsOf o3.op) e)) (settle (FA.filter fun x => (mAt m i).testBit x.1) B)) fun v H' =>
                rechk sy P H' (FL.filter fun x => !(mAt m i).testBit x.1)
                  (semD sy P M D nt ops m SK L2 (eset e o3.dst v) H' (FA.filter fun x => !(mAt m i).testBit x.1) (FL.filter fun x => !(mAt m i).testBit x.1) Q)
            | .cl =>
              match o3.op with
              | .call c => call P M D c (evo P (restr (tmpsOf o3.op) e)) (settle (FA.filter fun x => (mAt m i).testBit x.1) B) fun v H' =>
                  rechk sy P H' (FL.filter fun x => !(mAt m i).testBit x.1)
                    (semD sy P M D nt ops m SK L2 (eset e o3.dst v) H' (FA.filter fun x => !(mAt m i).testBit x.1) (FL.filter fun x => !(mAt m i).testBit x.1) Q)
              | _ => False
            | _ => False) → (if Region.wanted o3 (yielded ops a.tmps) = true then o3.wp P a w K Qc ∨ (o3.asks P a w ∧ LetsOut Qc) else K (a.put o3.dst undef) w) := by
      intro hg hy
      rw [guard_conc hP hok I I.split hc hnd hr hg]
      simp only [if_true]
      have hER : EnvRel ρ (restr (tmpsOf o3.op) e) a.tmps := fun t v ht => by
        obtain ⟨h1, h2⟩ := eget_restr ht
        exact opv_conc hok I I.split hc hnd hr (tmp_in_looks h1) (I.env t v h2)
      have hev : ∀ x v, evo P (restr (tmpsOf o3.op) e) x = some v → CV ρ v (a.eval x) := fun x v hx => evo_sound I.rel hER x v (by rw [hP]; exact hx)
      -- memory beside which it runs
      generalize hRq : settle (FA.filter fun x => (mAt m i).testBit x.1) B = R at hy
      have hRnx : R.nx = Hd.nx := by rw [← hRq, settle_nx, I.hnx]
      have huF : ∀ j n ob, (j, n, ob) ∈ (FA.filter fun x => (mAt m i).testBit x.1) → ∀ j' ob', (j', n, ob') ∈ (FA.filter fun x => (mAt m i).testBit x.1) → ob' = ob := by
        intro j n ob h j' ob' h'
        exact ((I.fan _ _ _ _ _ (List.mem_filter.1 h).1 (List.mem_filter.1 h').1).2).symm
      have hRget : ∀ n, (∃ j ob, (j, n, ob) ∈ FA ∧ (mAt m i).testBit j = true ∧ R.get n = some ob ∧ Hd.get n = some ob) ∨ ((∀ j ob, (j, n, ob) ∈ FA → (mAt m i).testBit j = false) ∧ R.get n = B.get n) := by
        intro n
        by_cases hm : ∃ j ob, (j, n, ob) ∈ (FA.filter fun x => (mAt m i).testBit x.1)
        · obtain ⟨j, ob, hm⟩ := hm
          obtain ⟨m1, m2⟩ := List.mem_filter.1 hm
          exact .inl ⟨j, ob, m1, m2, by rw [← hRq]; exact settle_mem _ _ (fun j' ob' h' => huF j n ob hm j' ob' h') hm, I.hfa j n ob m1 (hmask j m2)⟩
        · refine .inr ⟨fun j ob h => ?_, by rw [← hRq]; exact settle_not _ _ fun j ob h => hm ⟨j, ob, h⟩⟩
          cases hq : (mAt m i).testBit j with
          | false => rfl
          | true => exact absurd ⟨j, ob, List.mem_filter.2 ⟨h, hq⟩⟩ hm
      have hRsub : R.sub Hd := by
        intro n ob h
        rcases hRget n with ⟨j, ob', -, -, h1, h2⟩ | ⟨-, h1⟩
        · rw [h1] at h; cases h; exact h2
        · rw [h1] at h; exact I.hsub n ob h
      have hRel2 := I.rel.aside hRsub hRnx
      -- and what is done behind it
      have fin : ∀ v v' H1 ρ' w', rechk sy P H1 (FL.filter fun x => !(mAt m i).testBit x.1) (semD sy P M D nt ops m SK L2 (eset e o3.dst v) H1 (FA.filter fun x => !(mAt m i).testBit x.1) (FL.filter fun x => !(mAt m i).testBit x.1) Q) →
          Ext R ρ H1 ρ' → CV ρ' v v' → Rel (Cx.aside I.rel R) ρ' H1 w' → K (a.put o3.dst v') w' := by
        intro v v' H1 ρ' w' hrk hX hcv hR1
        obtain ⟨hs2, hre⟩ := rechk_spec hrk
        have hXX : ∀ j n ob, (j, n, ob) ∈ (FA.filter fun x => !(mAt m i).testBit x.1 && lis.getD x.1 false) → Hd.get n = some ob ∧ R.get n = none ∧ ob.rw = true := by
          intro j n ob h
          obtain ⟨m1, m2⟩ := List.mem_filter.1 h
          simp only [Bool.and_eq_true, Bool.not_eq_true'] at m2
          refine ⟨I.hfa j n ob m1 m2.2, ?_, (I.fal _ _ _ m1).2.2.2.1⟩
          rcases hRget n with ⟨j', ob', q1, q2, -, -⟩ | ⟨-, q⟩
          · have := (I.fan _ _ _ _ _ m1 q1).1
            subst this; rw [m2.1] at q2; cases q2
          · rw [q]; exact (I.fal _ _ _ m1).2.2.1
        obtain ⟨hRb, hnone⟩ := Rel.back I.rel hRsub hRnx hR1 hX hXX
        have hXu : ∀ j n ob, (j, n, ob) ∈ (FA.filter fun x => !(mAt m i).testBit x.1 && lis.getD x.1 false) → ∀ j' ob', (j', n, ob') ∈ (FA.filter fun x => !(mAt m i).testBit x.1 && lis.getD x.1 false) → ob' = ob :=
          fun j n ob h j' ob' h' => ((I.fan _ _ _ _ _ (List.mem_filter.1 h).1 (List.mem_filter.1 h').1).2).symm
        -- names that are still to come hold nothing in what the effect left
        have hnoB : ∀ j n ob, (j, n, ob) ∈ (FA.filter fun x => !(mAt m i).testBit x.1) → H1.get n = none := by
          intro j n ob h
          obtain ⟨m1, m2⟩ := List.mem_filter.1 h
          by_cases hjD : Dn lis j
          · exact hnone j n ob (List.mem_filter.2 ⟨m1, by rw [Bool.and_eq_true]; exact ⟨m2, hjD⟩⟩)
          · cases hq : H1.get n with
            | none => rfl
            | some q =>
              obtain ⟨l, c1, -⟩ := hR1.obj n q hq
              have a2 := (I.fal _ _ _ m1).2.1
              rw [hX.old n (by rw [hRnx, I.hnx]; exact a2), (I.fal _ _ _ m1).2.2.2.2.1 hjD] at c1
              cases c1
        have hsubH : H1.sub (settle (FA.filter fun x => !(mAt m i).testBit x.1 && lis.getD x.1 false) H1) := by
          intro n ob h
          rw [settle_not]
          · exact h
          · intro j ob' h'
            rw [hnone j n ob' h'] at h; cases h
        obtain ⟨V', hI⟩ := eff_inv hD hM hP hok I hE hnd hsz hc hb hmask (v := v) (v' := v') (B' := H1) (FA' := FA.filter fun x => !(mAt m i).testBit x.1) (FL' := FL.filter fun x => !(mAt m i).testBit x.1) (ρ' := ρ')
          (Hd' := settle (FA.filter fun x => !(mAt m i).testBit x.1 && lis.getD x.1 false) H1) (w' := w') ⟨SK, hs2⟩ ⟨hX.le, fun n hn => hX.old n (by rw [hRnx]; exact hn), by rw [settle_nx, ← hRnx]; exact hX.nx⟩ hRb hcv (settle_nx _ _) hsubH
          (fun n ob h => by
            by_cases hm : ∃ j ob', (j, n, ob') ∈ (FA.filter fun x => !(mAt m i).testBit x.1 && lis.getD x.1 false)
            · obtain ⟨j, ob', hm⟩ := hm
              rw [settle_mem _ _ (fun j' ob'' h' => hXu j n ob' hm j' ob'' h') hm] at h
              cases h
              obtain ⟨m1, m2⟩ := List.mem_filter.1 hm
              simp only [Bool.and_eq_true] at m2
              exact .inr ⟨j, List.mem_filter.2 ⟨m1, m2.1⟩, m2.2⟩
            · rw [settle_not _ _ fun j ob' h' => hm ⟨j, ob', h'⟩] at h
              exact .inl h)
          (fun x h => (List.mem_filter.1 h).1)
          (fun j n ob h hjD => by
            obtain ⟨m1, m2⟩ := List.mem_filter.1 h
            have hm : (j, n, ob) ∈ (FA.filter fun x => !(mAt m i).testBit x.1 && lis.getD x.1 false) := List.mem_filter.2 ⟨m1, by rw [Bool.and_eq_true]; exact ⟨m2, hjD⟩⟩
            exact settle_mem _ _ (fun j' ob' h' => hXu j n ob hm j' ob' h') hm)
          hnoB (by rw [← I.hnx, ← hRnx]; exact hX.nx) (fun x h => (List.mem_filter.1 h).1)
          (fun j hj hjD => by
            have hnb : (mAt m i).testBit j = false := by
              cases hq : (mAt m i).testBit j with
              | false => rfl
              | true => exact absurd (hmask j hq) hjD
            obtain ⟨oj, A, C, wanted, hA, h1, h2, h3, h4, h5, h6⟩ := I.facts j hj hjD
            have hVA : ∀ x, x ∈ A → V x = (fun x => if x = i then v else V x) x := fun x hx => by simp [nel x (hA x hx)]
            refine ⟨oj, A, C, wanted, fun x hx => by simp [hA x hx], h1, h2, h3, fun t u ht => ⟨(h4 t u ht).1, (h4 t u ht).2.congr hVA⟩, ?_, ?_⟩
            · rcases h5 with h | ⟨j', want, d, b, a1, a2, a3, a4⟩
              · exact .inl h
              · exact .inr ⟨j', want, d, b, a1, a2, a3.congr hVA, a4⟩
            · rcases h6 with ⟨a1, a2, a3⟩ | ⟨a0, ⟨r, a1, a2, a3, a4⟩ | ⟨a1, ob, f, n, a2, a3, a4⟩⟩
              · exact .inl ⟨a1, by simp [nel j hj, a2], fun n ob h => a3 n ob (List.mem_filter.1 h).1⟩
              · refine .inr ⟨a0, .inl ⟨r, a1, fun n ob h => a2 n ob (List.mem_filter.1 h).1, ?_, fun hrt => ?_⟩⟩
                · simp only [nel j hj, if_false]
                  cases r with
                  | false => rw [neS_blind a1 (B := B)]; exact a3
                  | true => exact hre j oj (E j) (V j) (List.mem_filter.2 ⟨a4 rfl, by simp [hnb]⟩)
                · simp only [nel j hj, if_false]
                  exact List.mem_filter.2 ⟨a4 hrt, by simp [hnb]⟩
              · exact .inr ⟨a0, .inr ⟨a1, ob, f, n, a2, by simp [nel j hj, a3], List.mem_filter.2 ⟨a4, by simp [hnb]⟩⟩⟩)
        exact hK _ _ _ _ _ _ _ _ _ hI
      refine .inl ?_
      split at hy
      · unfold bn2 at hy
        split at hy
        · rename_i v H1 hv
          obtain ⟨nx, w', v', ρ', h1, h2, h3, h4, h5⟩ := efS_sound hRel2 hev (o := o3) (by rw [show (Cx.aside I.rel R).P = P from hP]; exact hv)
          have hP2 : (Cx.aside I.rel R).P = P := hP
          rw [hP2] at h1
          unfold Oper.wp
          rw [h1]
          rcases h2 with rfl | ⟨rfl, rfl⟩
          · rw [Oper.upon_value]; exact fin _ _ _ _ _ hy (Ext.of_add h3.1 h3.2 (efS_nx hv)) h4 h5
          · rw [Oper.upon_skip]; exact fin _ _ _ _ _ hy (Ext.of_add h3.1 h3.2 (efS_nx hv)) h4 h5
        · exact hy.elim
      · split at hy
        · rename_i c hcc
          exact call_sound hD hM (cx := Cx.aside I.rel R) hP hRel2 hev hcc hy fun v H' ρ' w' v' k1 k2 k3 k4 => fin _ _ _ _ _ k1 k2 k3 k4
        · exact hy.elim
      · exact hy.elim
    have hcl : clOf o3.op = .ef ∨ clOf o3.op = .cl := by
      unfold isE at hE
      rw [hc.op] at hE
      simp only at hE
      cases hq : clOf o3.op with
      | ne r => rw [hq] at hE; cases hE
      | al => rw [hq] at hE; cases hE
      | ef => exact .inl rfl
      | cl => exact .inr rfl
    rcases hcase with ⟨hg, hy⟩ | ⟨j, want, d, b, hg, hd, hbv, h | h⟩
    · refine go (.inl ⟨hg, rfl⟩) ?_
      rcases hcl with hq | hq <;> (rw [hq] at hy ⊢; exact hy)
    · refine go (.inr ⟨j, want, d, b, hg, hd, I.env d _ hbv, h.1.symm⟩) ?_
      have hy := h.2
      rcases hcl with hq | hq <;> (rw [hq] at hy ⊢; exact hy)
    · exact skip ⟨_, h.2⟩ (.inr ⟨j, want, d, b, hg, hd, I.env d _ hbv, h.1.symm⟩)
end
end Go.Ab

namespace Go.Ab
open Go
set_option linter.unusedVariables false
set_option linter.unusedSimpArgs false
set_option linter.unusedSectionVars false

theorem cnt_le (p q : Nat → Bool) (h : ∀ j, q j = true → p j = true) : ∀ l : List Nat, (l.filter q).length ≤ (l.filter p).length
  | [] => by simp
  | x :: l => by
    have ih := cnt_le p q h l
    simp only [List.filter_cons]
    cases hq : q x with
    | true => rw [h x hq]; simp; exact ih
    | false => cases p x <;> simp <;> omega
theorem cnt_lt (p q : Nat → Bool) (h : ∀ j, q j = true → p j = true) (i : Nat) (hp : p i = true) (hq : q i = false) : ∀ l : List Nat, i ∈ l → (l.filter q).length < (l.filter p).length
  | [], hi => by simp at hi
  | x :: l, hi => by
    simp only [List.filter_cons]
    simp only [List.mem_cons] at hi
    rcases hi with rfl | hi
    · rw [hp, hq]
      have := cnt_le p q h l
      simp; omega
    · have ih := cnt_lt p q h i hp hq l hi
      cases hqx : q x with
      | true => rw [h x hqx]; simp; exact ih
      | false => cases p x <;> simp <;> omega
open Classical in
theorem first_not {α : Type} (p : α → Prop) : ∀ l : List α, (∃ x ∈ l, ¬ p x) → ∃ A i C, l = A ++ i :: C ∧ (∀ x ∈ A, p x) ∧ ¬ p i
  | [], ⟨x, hx, _⟩ => by simp at hx
  | y :: l, h => by
    by_cases hy : p y
    · obtain ⟨x, hx, hn⟩ := h
      simp only [List.mem_cons] at hx
      have : ∃ x ∈ l, ¬ p x := by
        rcases hx with rfl | hx
        · exact absurd hy hn
        · exact ⟨x, hx, hn⟩
      obtain ⟨A, i, C, rfl, h1, h2⟩ := first_not p l this
      exact ⟨y :: A, i, C, rfl, fun z hz => by
        simp only [List.mem_cons] at hz
        rcases hz with rfl | hz
        · exact hy
        · exact h1 z hz, h2⟩
    · exact ⟨[], y, l, rfl, fun _ hz => by simp at hz, hy⟩

section
variable {sy : Bool} {P : Program} {M : Ms} {D : Dl} (hD : DSound P D) (hM : MOK P M) {cx : Cx} (hP : cx.P = P) {nt : Nat} {ops : Array Oper} {m : List Nat} {L0 : List Nat} {H0 : AH} {ρ0 : Ren} {e0 : Env} {Q : Env → AH → Prop}
variable (hok : okC ops m [] L0 = true) (hall : ∀ i, i < ops.size → i ∈ L0)
include hok
theorem advance_all : ∀ (L2 : List Nat) {L1 : List Nat} {E V e B FA FL lis a w ρ Hd}, Inv sy P M D cx nt ops m L0 H0 ρ0 e0 Q L1 L2 E V e B FA FL lis a w ρ Hd →
    ∃ L1' L2' E' V' e' B' FA' FL' Hd', Inv sy P M D cx nt ops m L0 H0 ρ0 e0 Q L1' L2' E' V' e' B' FA' FL' lis a w ρ Hd' ∧ ∀ i r, L2' = i :: r → isE ops i = true
  | [], L1, E, V, e, B, FA, FL, lis, a, w, ρ, Hd, I => ⟨_, _, _, _, _, _, _, _, _, I, fun i r h => by cases h⟩
  | i :: L2, L1, E, V, e, B, FA, FL, lis, a, w, ρ, Hd, I => by
    cases hE : isE ops i with
    | true => exact ⟨_, _, _, _, _, _, _, _, _, I, fun j r h => by cases h; exact hE⟩
    | false =>
      obtain ⟨E', V', e', B', FA', FL', Hd', I'⟩ := advance hok I hE
      exact advance_all L2 I'
theorem mem_lt {i : Nat} (h : i ∈ L0) : i < ops.size := by
  obtain ⟨A, C, hs⟩ := List.append_of_mem h
  obtain ⟨o, hc⟩ := chkAt hok hs
  have := hc.op
  rcases Nat.lt_or_ge i ops.size with h' | h'
  · exact h'
  · simp [Array.getElem?_eq_none h'] at this
include hD hM hP hall
theorem draw_done {Qc : Exit → Act → World → Prop} (hQ : ∀ e' H' ρ' a' w', Q e' H' → Ext H0 ρ0 H' ρ' → Rel cx ρ' H' w' → EnvRel ρ' e' a'.tmps → nt ≤ a'.tmps.size → a'.defers = [] → Qc .normal a' w')
    {L1 L2 : List Nat} {E V e B FA FL lis a w ρ Hd} (I : Inv sy P M D cx nt ops m L0 H0 ρ0 e0 Q L1 L2 E V e B FA FL lis a w ρ Hd) (hd : ∀ i, i < ops.size → Dn lis i) : Qc .normal a w := by
  cases L2 with
  | cons i r =>
    obtain ⟨o, hc⟩ := chkAt hok I.split
    have hi : i ∈ L0 := by rw [I.split]; simp
    exact absurd (I.dsub i (hd i (mem_lt hok hi))) hc.notA
  | nil =>
    obtain ⟨SK, hs⟩ := I.sem
    rw [semD] at hs
    have hL1 : ∀ j ∈ L1, Dn lis j := fun j hj => hd j (mem_lt hok (by rw [I.split]; simp [hj]))
    have huF : ∀ j n ob, (j, n, ob) ∈ FA → ∀ j' ob', (j', n, ob') ∈ FA → ob' = ob := fun j n ob h j' ob' h' => ((I.fan _ _ _ _ _ h h').2).symm
    have hget : ∀ n, (settle FA B).get n = Hd.get n := by
      intro n
      by_cases hm : ∃ j ob, (j, n, ob) ∈ FA
      · obtain ⟨j, ob, hm⟩ := hm
        rw [settle_mem FA B (huF j n ob hm) hm, I.hfa j n ob hm (hL1 j (I.fal _ _ _ hm).1)]
      · rw [settle_not FA B fun j ob h => hm ⟨j, ob, h⟩]
        cases hq : Hd.get n with
        | none =>
          cases hb : B.get n with
          | none => rfl
          | some o => rw [I.hsub n o hb] at hq; cases hq
        | some o =>
          rcases I.hback n o hq with h | ⟨j, hj, -⟩
          · exact h
          · exact absurd ⟨j, o, hj⟩ hm
    have hnx : (settle FA B).nx = Hd.nx := by rw [settle_nx, I.hnx]
    refine hQ e (settle FA B) ρ a w hs ⟨I.le.le, I.le.old, by rw [hnx]; exact I.le.nx⟩ (I.rel.congr hget hnx) (fun t v ht => ?_) I.ts I.df
    apply I.tm
    rcases I.env t v ht with ⟨j, h1, h2, h3⟩ | ⟨h1, h2⟩
    · exact .inl ⟨j, hL1 j h1, h2, h3⟩
    · exact .inr ⟨fun j hj => h1 j (I.dsub j hj), h2⟩
theorem draw_any {Qc : Exit → Act → World → Prop} (hQ : ∀ e' H' ρ' a' w', Q e' H' → Ext H0 ρ0 H' ρ' → Rel cx ρ' H' w' → EnvRel ρ' e' a'.tmps → nt ≤ a'.tmps.size → a'.defers = [] → Qc .normal a' w') :
    ∀ (fuel : Nat) {L1 L2 : List Nat} {E V e B FA FL lis a w ρ Hd}, Inv sy P M D cx nt ops m L0 H0 ρ0 e0 Q L1 L2 E V e B FA FL lis a w ρ Hd → (∀ i r, L2 = i :: r → isE ops i = true) →
      ((List.range ops.size).filter fun i => !lis.getD i false).length ≤ fuel → wpAny P .any ops Qc fuel lis a w := by
  intro fuel
  induction fuel with
  | zero =>
    intro L1 L2 E V e B FA FL lis a w ρ Hd I hbd hf
    have hd : ∀ i, i < ops.size → Dn lis i := by
      intro i hi
      have hnil : ((List.range ops.size).filter fun i => !lis.getD i false) = [] := List.eq_nil_of_length_eq_zero (by omega)
      have := List.filter_eq_nil_iff.1 hnil i (by simp [hi])
      simpa [Dn] using this
    refine ⟨?_, draw_done hD hM hP hok hall hQ I hd⟩
    cases hr : Region.ready .any ops lis with
    | nil => rfl
    | cons i r =>
      have : i ∈ Region.ready .any ops lis := by rw [hr]; simp
      obtain ⟨h1, h2, -⟩ := (ready_iff I.lsz).1 this
      exact absurd (hd i h1) h2
  | succ fuel ih =>
    intro L1 L2 E V e B FA FL lis a w ρ Hd I hbd hf
    refine ⟨fun hr => ?_, fun i hi => ?_⟩
    · refine draw_done hD hM hP hok hall hQ I fun i hi => Classical.byContradiction fun hn => ?_
      obtain ⟨A, j, C, hs, h1, h2⟩ := first_not (Dn lis) L0 ⟨i, hall i hi, hn⟩
      obtain ⟨o, hc⟩ := chkAt hok hs
      have : j ∈ Region.ready .any ops lis := (ready_iff I.lsz).2 ⟨mem_lt hok (by rw [hs]; simp), h2, o, hc.op, fun p hp => h1 p (hc.preds p hp)⟩
      rw [hr] at this; simp at this
    · obtain ⟨h1, h2, o, ho, hpr⟩ := (ready_iff I.lsz).1 hi
      have hsz : i < lis.size := by rw [I.lsz]; exact h1
      have hless : ((List.range ops.size).filter fun j => !(lis.setIfInBounds i true).getD j false).length ≤ fuel := by
        have := cnt_lt (fun j => !lis.getD j false) (fun j => !(lis.setIfInBounds i true).getD j false) (fun j hj => by
          simp only [Bool.not_eq_true'] at hj ⊢
          cases hq : lis.getD j false with
          | false => rfl
          | true =>
            have : Dn (lis.setIfInBounds i true) j := (Dn_set hsz).2 (.inr hq)
            unfold Dn at this; rw [this] at hj; cases hj) i (by
          cases hq : lis.getD i false with
          | false => rfl
          | true => exact absurd hq h2) (by
          have : Dn (lis.setIfInBounds i true) i := (Dn_set hsz).2 (.inl rfl)
          unfold Dn at this; rw [this]; rfl) (List.range ops.size) (by simp [h1])
        omega
      by_cases hi1 : i ∈ L1
      · exact exec_pending hP hok I hi1 h2 hsz ⟨o, ho, hpr⟩ fun a' w' ρ' Hd' I' => ih I' hbd hless
      · -- then it is the effect that is next
        have hiL0 := hall i h1
        rw [I.split] at hiL0
        simp only [List.mem_append] at hiL0
        rcases hiL0 with h | h
        · exact absurd h hi1
        · cases L2 with
          | nil => simp at h
          | cons j r =>
            have hj := hbd j r rfl
            by_cases hij : i = j
            · subst hij
              refine exec_effect hD hM hP hok I hj hsz ⟨o, ho, hpr⟩ fun V' e' B' FA' FL' a' w' ρ' Hd' I' => ?_
              obtain ⟨L1', L2', E2, V2, e2, B2, FA2, FL2, Hd2, I2, hb2⟩ := advance_all hok _ I'
              exact ih I2 hb2 hless
            · exfalso
              simp only [List.mem_cons, hij, false_or] at h
              obtain ⟨r1, r2, rfl⟩ := List.append_of_mem h
              have hs : L0 = (L1 ++ j :: r1) ++ i :: r2 := by rw [I.split]; simp
              obtain ⟨o2, hc⟩ := chkAt hok hs
              have : o2 = o := by have := hc.op; rw [ho] at this; cases this; rfl
              subst this
              obtain ⟨e', he1, he2⟩ := lastE_some (ops := ops) (A := L1) (B := r1) hj
              have hbit := hc.last e' he1
              have heD : Dn lis e' := by
                obtain ⟨p, hp, hh⟩ := hc.mask e' hbit
                rcases hh with rfl | hh
                · exact hpr _ hp
                · exact I.anc p e' (hpr p hp) hh
              have heL1 := I.dsub e' heD
              -- it stands in L1 and behind
              have : e' ∈ j :: r1 := by
                rcases he2 with rfl | h
                · simp
                · simp [h]
              obtain ⟨s1, s2, hs2⟩ := List.append_of_mem this
              have hs3 : L0 = (L1 ++ s1) ++ e' :: (s2 ++ i :: r2) := by
                rw [hs, show L1 ++ j :: r1 = L1 ++ (s1 ++ e' :: s2) from by rw [← hs2]]; simp
              obtain ⟨o3, hc3⟩ := chkAt hok hs3
              exact hc3.notA (by simp [heL1])
end

section
variable {sy : Bool} {P : Program} {M : Ms} {D : Dl} (hD : DSound P D) (hM : MOK P M) {cx : Cx} (hP : cx.P = P) {nt : Nat}
include hD hM hP
/-- A REGION THAT DRAWS ITS ORDER. -/
theorem draw_sound {ops : Array Oper} {id : Nat} {ρ : Ren} {e : Env} {H : AH} {a : Act} {w : World} {Q : Env → AH → Prop} {Qc : Exit → Act → World → Prop} (hmix : P.follows .mixedOrders = true) (hok : regOK ops (masks ops) = true)
    (h : semD sy P M D nt ops (masks ops) [] (canon ops (masks ops)) e H [] [] Q) (hR : Rel cx ρ H w) (hE : EnvRel ρ e a.tmps) (hs : nt ≤ a.tmps.size) (hd : a.defers = [])
    (hQ : ∀ e' H' ρ' a' w', Q e' H' → Ext H ρ H' ρ' → Rel cx ρ' H' w' → EnvRel ρ' e' a'.tmps → nt ≤ a'.tmps.size → a'.defers = [] → Qc .normal a' w') : (Code.region id ops true).wp P Qc a w := by
  unfold regOK at hok
  simp only [Bool.and_eq_true, List.all_eq_true, List.mem_range] at hok
  obtain ⟨hok1, hall⟩ := hok
  have hall' : ∀ i, i < ops.size → i ∈ canon ops (masks ops) := fun i hi => mem_iff.1 (hall i hi)
  have hDn : ∀ i, ¬ Dn (Array.replicate ops.size false) i := by
    intro i hh
    unfold Dn at hh
    rw [Array.getD_eq_getD_getElem?, Array.getElem?_replicate] at hh
    split at hh <;> simp at hh
  have I0 : Inv sy P M D cx nt ops (masks ops) (canon ops (masks ops)) H ρ e Q [] (canon ops (masks ops)) (fun _ => []) (fun _ => undef) e H [] [] (Array.replicate ops.size false) a { w with drawn := w.drawn + 1 } ρ H := by
    refine ⟨⟨rfl, by simp, fun i hh => absurd hh (hDn i), fun i hi => by simp at hi, fun i j hh => absurd hh (hDn i), fun t v ht => .inr ⟨fun j hj => by simp at hj, ht⟩, fun t v hv => ?_, Ext.refl _ _, hs, hd, hR.drew _, rfl, fun _ _ h => h, fun n o h => .inl h, fun i n o h => by simp at h, fun i n o h => by simp at h, fun i n o i' o' h => by simp at h, fun i n o n' o' h => by simp at h, fun i o e v h => by simp at h, fun i hi => by simp at hi⟩, ⟨_, h⟩⟩
    · rcases hv with ⟨j, hj, -⟩ | ⟨-, hv⟩
      · exact absurd hj (hDn j)
      · exact hE t v hv
  obtain ⟨L1', L2', E2, V2, e2, B2, FA2, FL2, Hd2, I2, hb2⟩ := advance_all hok1 _ I0
  refine wp_region_any hmix (draw_any hD hM hP hok1 hall' hQ ops.size I2 hb2 ?_)
  exact Nat.le_trans (List.length_filter_le _ _) (by simp)
end
end Go.Ab

namespace Go.Ab
open Go
set_option linter.unusedVariables false
set_option linter.unusedSimpArgs false
set_option linter.unusedSectionVars false

/-- What a piece of the abstract machine shows holds of a piece of code. -/
def SoundS (P : Program) (nt : Nat) (s : SemT) (c : Code) : Prop :=
  ∀ (cx : Cx), cx.P = P → ∀ {ρ : Ren} {e : Env} {H : AH} {a : Act} {w : World} {Q : QE} {Qc : Exit → Act → World → Prop}, s e H Q → Rel cx ρ H w → EnvRel ρ e a.tmps → nt ≤ a.tmps.size → a.defers = [] →
    (∀ x e' H' ρ' a' w', Q x e' H' → Ext H ρ H' ρ' → Rel cx ρ' H' w' → EnvRel ρ' e' a'.tmps → nt ≤ a'.tmps.size → a'.defers = [] → Qc x a' w') → c.wp P Qc a w

theorem wp_loop_fuel {P : Program} {Q : Exit → Act → World → Prop} {c : Code} (J : Nat → Act → World → Prop) (h0 : ∀ a w, ¬ J 0 a w) (round : ∀ n a w, J (n + 1) a w → c.wp P (Exit.then (J n) Q) a w) {n : Nat} {a : Act} {w : World}
    (h : J n a w) : (Code.loop c).wp P Q a w := by
  intro b k cs
  have key : ∀ n a w, J n a w → ∃ e a' w', Q e a' w' ∧ Arrives P (lone (b.at a (.code c :: .inLoop c :: k)) cs w) b k cs e a' w' := by
    intro n
    induction n with
    | zero => intro a w h; exact absurd h (h0 a w)
    | succ n ih =>
      intro a w h
      obtain ⟨e, a₁, w₁, hq, harr⟩ := round n a w h b (.inLoop c :: k) cs
      cases e with
      | normal =>
        obtain ⟨e₂, a₂, w₂, hq₂, harr₂⟩ := ih a₁ w₁ hq
        exact ⟨e₂, a₂, w₂, hq₂, .of_steps (Steps.trans harr (.one step_inLoop)) harr₂⟩
      | exit id => exact ⟨_, a₁, w₁, hq, .pass (x := .inLoop c) rfl (fun _ _ => .inl (by simp)) harr⟩
      | goto l => exact ⟨_, a₁, w₁, hq, .pass (x := .inLoop c) rfl (fun _ _ => .inl (by simp)) harr⟩
      | ret => exact ⟨_, a₁, w₁, hq, .pass (x := .inLoop c) rfl (fun _ _ => .inl (by simp)) harr⟩
      | panic ch => exact ⟨_, a₁, w₁, hq, .pass (x := .inLoop c) rfl (fun _ _ => .inl (by simp)) harr⟩
      | outgrown => exact ⟨_, a₁, w₁, hq, .pass (x := .inLoop c) rfl (fun _ _ => .inl (by simp)) harr⟩
  obtain ⟨e, a', w', hq, harr⟩ := key n a w h
  exact ⟨e, a', w', hq, .of_steps (.one step_loop) harr⟩

theorem wp_scope_fuel {P : Program} {Q : Exit → Act → World → Prop} {c : Code} (J : Nat → Code → Act → World → Prop) (h0 : ∀ d a w, ¬ J 0 d a w)
    (round : ∀ n d a w, J (n + 1) d a w → d.wp P (fun x a' w' => match x with | .goto l => ∃ r, findLabel c l = some r ∧ J n r a' w' | x => Q x a' w') a w) {n : Nat} {a : Act} {w : World}
    (h : J n c a w) : (Code.scope c).wp P Q a w := by
  intro b k cs
  have key : ∀ n d a w, J n d a w → ∃ e a' w', Q e a' w' ∧ Arrives P (lone (b.at a (.code d :: .inScope c :: k)) cs w) b k cs e a' w' := by
    intro n
    induction n with
    | zero => intro d a w h; exact absurd h (h0 d a w)
    | succ n ih =>
      intro d a w h
      obtain ⟨e, a₁, w₁, hq, harr⟩ := round n d a w h b (.inScope c :: k) cs
      cases e with
      | normal => exact ⟨.normal, a₁, w₁, hq, Steps.trans harr (.one step_inScope)⟩
      | exit id => exact ⟨.exit id, a₁, w₁, hq, fun k' hk => harr k' (by simp [exitTo, hk])⟩
      | goto l =>
        obtain ⟨r, hf, hJ⟩ := hq
        obtain ⟨e₂, a₂, w₂, hq₂, harr₂⟩ := ih r a₁ w₁ hJ
        exact ⟨e₂, a₂, w₂, hq₂, .of_steps (harr _ (by simp [gotoIn, hf])) harr₂⟩
      | ret => exact ⟨_, a₁, w₁, hq, harr⟩
      | panic ch => exact ⟨_, a₁, w₁, hq, harr⟩
      | outgrown => exact ⟨_, a₁, w₁, hq, harr⟩
  obtain ⟨e, a', w', hq, harr⟩ := key n c a w h
  exact ⟨e, a', w', hq, .of_steps (.one step_scope) harr⟩

theorem EnvRel.restr {ρ : Ren} {e : Env} {ts : Array Value} (h : EnvRel ρ e ts) (l : List Nat) : EnvRel ρ (restr l e) ts := fun t v ht => h t v (eget_restr ht).2
theorem envT_toT : ∀ {l : List Nat} {e : Env} {s : Tup l}, toT l e = some s → ∀ t v, eget (envT l s) t = some v → eget e t = some v
  | [], e, s, h, t, v, ht => by cases ht
  | x :: l, e, s, h, t, v, ht => by
    rw [toT] at h
    split at h
    · rename_i u s' hu hs
      cases h
      replace ht : eget ((x, u) :: envT l s') t = some v := ht
      rw [eget_cons] at ht
      by_cases hx : x = t
      · subst hx; rw [if_pos rfl] at ht; rw [hu, ← ht]
      · rw [if_neg hx] at ht; exact envT_toT hs t v ht
    · cases h
theorem EnvRel.tup {ρ : Ren} {e : Env} {ts : Array Value} (h : EnvRel ρ e ts) {l : List Nat} {s : Tup l} (hs : toT l e = some s) : EnvRel ρ (envT l s) ts := fun t v ht => h t v (envT_toT hs t v ht)
theorem goT_spec {l : List Nat} {e : Env} {H : AH} {R : Tup l → AH → Prop} (h : goT l e H R) : ∃ s, toT l e = some s ∧ R s H := by
  unfold goT at h
  split at h
  · exact ⟨_, by assumption, h⟩
  · exact h.elim

section
variable {P : Program} {M : Ms} {D : Dl} (hD : DSound P D) (hM : MOK P M) (hmix : P.follows .mixedOrders = true) {nt N : Nat} {kp : Md}
include hD hM hmix
theorem seq_sound {s : SemT} {a b : Code} (hs : SoundS P nt s a) (hb : SoundS P nt (sem P M D nt N kp b) b) : SoundS P nt (fun e H Q => s e H fun x e' H' =>
    match x with
    | .normal => sem P M D nt N kp b e' H' Q
    | x => Q x e' H') (.seq a b) := by
  intro cx hP ρ e H act w Q Qc h hR hE hsz hd hQ
  refine wp_seq (hs cx hP h hR hE hsz hd fun x e' H' ρ' a' w' hx hX hR' hE' hs' hd' => ?_)
  cases x with
  | normal => exact hb cx hP hx hR' hE' hs' hd' fun x2 e2 H2 ρ2 a2 w2 q1 q2 => hQ x2 e2 H2 ρ2 a2 w2 q1 (hX.trans q2)
  | exit id => exact hQ _ _ _ _ _ _ hx hX hR' hE' hs' hd'
  | goto l => exact hQ _ _ _ _ _ _ hx hX hR' hE' hs' hd'
  | ret => exact hQ _ _ _ _ _ _ hx hX hR' hE' hs' hd'
  | panic ch => exact hQ _ _ _ _ _ _ hx hX hR' hE' hs' hd'
  | outgrown => exact hQ _ _ _ _ _ _ hx hX hR' hE' hs' hd'
theorem code_sound : ∀ c : Code, SoundS P nt (sem P M D nt N kp c) c ∧ ∀ l s, semL P M D nt N kp l c = some s → ∃ r, findLabel c l = some r ∧ SoundS P nt s r := by
  intro c
  induction c with
  | skip =>
    refine ⟨fun cx hP ρ e H a w Q Qc h hR hE hs hd hQ => ?_, fun l s h => by simp [semL] at h⟩
    rw [sem] at h
    exact wp_skip (hQ _ _ _ _ _ _ h (Ext.refl _ _) hR hE hs hd)
  | label l0 =>
    refine ⟨fun cx hP ρ e H a w Q Qc h hR hE hs hd hQ => ?_, fun l s h => ?_⟩
    · rw [sem] at h
      exact wp_label (hQ _ _ _ _ _ _ h (Ext.refl _ _) hR hE hs hd)
    · rw [semL] at h
      cases hl : (l0 == l) with
      | false => rw [hl] at h; cases h
      | true =>
        rw [hl] at h; cases h
        exact ⟨.skip, by simp [findLabel, hl], fun cx hP ρ e H a w Q Qc h hR hE hs hd hQ => wp_skip (hQ _ _ _ _ _ _ h (Ext.refl _ _) hR hE hs hd)⟩
  | region id ops draw =>
    refine ⟨fun cx hP ρ e H a w Q Qc h hR hE hs hd hQ => ?_, fun l s h => by simp [semL] at h⟩
    cases draw with
    | true =>
      unfold sem at h
      simp only at h
      cases hok : regOK ops (masks ops) with
      | false => rw [hok] at h; exact h.elim
      | true =>
        rw [hok] at h
        exact draw_sound hD hM hP hmix hok h hR hE hs hd fun e' H' ρ' a' w' q1 q2 q3 q4 q5 q6 => hQ _ _ _ _ _ _ q1 q2 q3 q4 q5 q6
    | false =>
      unfold sem at h
      simp only at h
      exact wp_region (semOps_sound hD hM hP _ h hR hE hs hd fun e' H' ρ' a' w' q1 q2 q3 q4 q5 q6 => hQ _ _ _ _ _ _ q1 q2 q3 q4 q5 q6)
  | seq a b iha ihb =>
    refine ⟨?_, fun l s h => ?_⟩
    · have := seq_sound (N := N) (kp := kp) hD hM hmix iha.1 ihb.1
      intro cx hP ρ e H act w Q Qc h
      rw [sem] at h
      split at h
      · exact this cx hP h
      · rename_i l hl
        intro hR hE hsz hd hQ
        unfold jn at h
        refine wp_seq (iha.1 cx hP h hR hE hsz hd fun x e' H' ρ' a' w' hx hX hR' hE' hs' hd' => ?_)
        cases x with
        | normal =>
          obtain ⟨s, h1, h2⟩ := goT_spec hx
          exact ihb.1 cx hP h2 hR' (hE'.tup h1) hs' hd' fun x2 e2 H2 ρ2 a2 w2 q1 q2 => hQ x2 e2 H2 ρ2 a2 w2 q1 (hX.trans q2)
        | exit id => exact hQ _ _ _ _ _ _ hx hX hR' hE' hs' hd'
        | goto l => exact hQ _ _ _ _ _ _ hx hX hR' hE' hs' hd'
        | ret => exact hQ _ _ _ _ _ _ hx hX hR' hE' hs' hd'
        | panic ch => exact hQ _ _ _ _ _ _ hx hX hR' hE' hs' hd'
        | outgrown => exact hQ _ _ _ _ _ _ hx hX hR' hE' hs' hd'
    · rw [semL] at h
      split at h
      · rename_i s' hs'
        cases h
        obtain ⟨r, h1, h2⟩ := iha.2 l s' hs'
        exact ⟨.seq r b, by simp [findLabel, h1], seq_sound (N := N) (kp := kp) hD hM hmix h2 ihb.1⟩
      · rename_i hn
        obtain ⟨r, h1, h2⟩ := ihb.2 l s h
        refine ⟨r, ?_, h2⟩
        have : findLabel a l = none := by
          cases hf : findLabel a l with
          | none => rfl
          | some r' =>
            exfalso
            have hsem : ∀ c : Code, (findLabel c l).isSome = (semL P M D nt N kp l c).isSome := by
              intro c
              induction c with
              | seq x y ihx ihy =>
                rw [semL, findLabel]
                cases h1 : findLabel x l with
                | some r1 =>
                  rw [h1] at ihx
                  cases h2 : semL P M D nt N kp l x with
                  | some s1 => rfl
                  | none => rw [h2] at ihx; cases ihx
                | none =>
                  rw [h1] at ihx
                  cases h2 : semL P M D nt N kp l x with
                  | some s1 => rw [h2] at ihx; cases ihx
                  | none => exact ihy
              | label l' => rw [semL, findLabel]; cases hl : (l' == l) <;> simp
              | _ => simp [semL, findLabel]
            have := hsem a
            rw [hf, hn] at this; cases this
        simp [findLabel, this, h1]
  | cond c a b iha ihb =>
    refine ⟨fun cx hP ρ e H act w Q Qc h hR hE hs hd hQ => ?_, fun l s h => by simp [semL] at h⟩
    rw [sem] at h
    split at h
    · rename_i v0 ht
      unfold cnd at h
      split at h
      case h_2 => exact h.elim
      rename_i t
      have hv := (evo_sound hR hE c _ (by rw [hP]; exact ht)).bool_inv
      refine wp_cond hv ?_
      cases t with
      | true => exact iha.1 cx hP h hR hE hs hd hQ
      | false => exact ihb.1 cx hP h hR hE hs hd hQ
    · exact h.elim
  | block id c ih =>
    refine ⟨fun cx hP ρ e H act w Q Qc h hR hE hs hd hQ => ?_, fun l s h => by simp [semL] at h⟩
    rw [sem] at h
    refine wp_block (ih.1 cx hP h hR hE hs hd fun x e' H' ρ' a' w' hx hX hR' hE' hs' hd' => ?_)
    cases x with
    | exit j =>
      show if j = id then Qc .normal a' w' else Qc (.exit j) a' w'
      by_cases hj : j = id
      · rw [if_pos hj]
        have : Nat.beq j id = true := by subst hj; exact Nat.beq_refl _
        simp only [this, cond_true] at hx
        exact hQ _ _ _ _ _ _ hx hX hR' hE' hs' hd'
      · rw [if_neg hj]
        have : Nat.beq j id = false := by
          cases hq : Nat.beq j id with
          | false => rfl
          | true => exact absurd (Nat.eq_of_beq_eq_true hq) hj
        simp only [this, cond_false] at hx
        exact hQ _ _ _ _ _ _ hx hX hR' hE' hs' hd'
    | normal => exact hQ _ _ _ _ _ _ hx hX hR' hE' hs' hd'
    | goto l => exact hQ _ _ _ _ _ _ hx hX hR' hE' hs' hd'
    | ret => exact hQ _ _ _ _ _ _ hx hX hR' hE' hs' hd'
    | panic ch => exact hQ _ _ _ _ _ _ hx hX hR' hE' hs' hd'
    | outgrown => exact hQ _ _ _ _ _ _ hx hX hR' hE' hs' hd'
  | loop c ih =>
    refine ⟨fun cx hP ρ e H act w Q Qc h hR hE hs hd hQ => ?_, fun l s h => by simp [semL] at h⟩
    rw [sem] at h
    split at h
    · refine wp_loop_fuel (fun n a w => ∃ e H2 ρ2, semLoop (sem P M D nt N kp c) n e H2 Q ∧ Ext H ρ H2 ρ2 ∧ Rel cx ρ2 H2 w ∧ EnvRel ρ2 e a.tmps ∧ nt ≤ a.tmps.size ∧ a.defers = []) ?_ ?_ (n := N) ⟨e, H, ρ, h, Ext.refl _ _, hR, hE, hs, hd⟩
      · rintro a w ⟨e, H2, ρ2, h, -⟩
        exact h
      · rintro n a w ⟨e, H2, ρ2, h, hX, hR, hE, hs, hd⟩
        rw [semLoop] at h
        refine ih.1 cx hP h hR hE hs hd fun x e' H' ρ' a' w' hx hX' hR' hE' hs' hd' => ?_
        cases x with
        | normal => exact ⟨e', H', ρ', hx, hX.trans hX', hR', hE', hs', hd'⟩
        | exit id => exact hQ _ _ _ _ _ _ hx (hX.trans hX') hR' hE' hs' hd'
        | goto l => exact hQ _ _ _ _ _ _ hx (hX.trans hX') hR' hE' hs' hd'
        | ret => exact hQ _ _ _ _ _ _ hx (hX.trans hX') hR' hE' hs' hd'
        | panic ch => exact hQ _ _ _ _ _ _ hx (hX.trans hX') hR' hE' hs' hd'
        | outgrown => exact hQ _ _ _ _ _ _ hx (hX.trans hX') hR' hE' hs' hd'
    · rename_i l l2 hkp
      obtain ⟨s0, h1, h2⟩ := goT_spec h
      generalize hb : (fun (s : Tup l) H R => sem P M D nt N kp c (envT l s) H fun x e' H' =>
        match x with
        | .normal => goT l e' H' R
        | x => Q x (restr l2 e') H') = body at h2
      refine wp_loop_fuel (fun n a w => ∃ s H2 ρ2, lp body n s H2 ∧ Ext H ρ H2 ρ2 ∧ Rel cx ρ2 H2 w ∧ EnvRel ρ2 (envT l s) a.tmps ∧ nt ≤ a.tmps.size ∧ a.defers = []) ?_ ?_ (n := N) ⟨s0, H, ρ, h2, Ext.refl _ _, hR, hE.tup h1, hs, hd⟩
      · rintro a w ⟨s, H2, ρ2, h, -⟩
        exact h
      · rintro n a w ⟨s, H2, ρ2, h, hX, hR, hE, hs, hd⟩
        rw [lp] at h
        subst hb
        refine ih.1 cx hP h hR hE hs hd fun x e' H' ρ' a' w' hx hX' hR' hE' hs' hd' => ?_
        cases x with
        | normal =>
          obtain ⟨s', g1, g2⟩ := goT_spec hx
          exact ⟨s', H', ρ', g2, hX.trans hX', hR', hE'.tup g1, hs', hd'⟩
        | exit id => exact hQ _ _ _ _ _ _ hx (hX.trans hX') hR' (hE'.restr l2) hs' hd'
        | goto l => exact hQ _ _ _ _ _ _ hx (hX.trans hX') hR' (hE'.restr l2) hs' hd'
        | ret => exact hQ _ _ _ _ _ _ hx (hX.trans hX') hR' (hE'.restr l2) hs' hd'
        | panic ch => exact hQ _ _ _ _ _ _ hx (hX.trans hX') hR' (hE'.restr l2) hs' hd'
        | outgrown => exact hQ _ _ _ _ _ _ hx (hX.trans hX') hR' (hE'.restr l2) hs' hd'
  | exit id =>
    refine ⟨fun cx hP ρ e H a w Q Qc h hR hE hs hd hQ => ?_, fun l s h => by simp [semL] at h⟩
    rw [sem] at h
    exact wp_exit (hQ _ _ _ _ _ _ h (Ext.refl _ _) hR hE hs hd)
  | ret =>
    refine ⟨fun cx hP ρ e H a w Q Qc h hR hE hs hd hQ => ?_, fun l s h => by simp [semL] at h⟩
    rw [sem] at h
    exact wp_ret (hQ _ _ _ _ _ _ h (Ext.refl _ _) hR hE hs hd)
  | goto l0 =>
    refine ⟨fun cx hP ρ e H a w Q Qc h hR hE hs hd hQ => ?_, fun l s h => by simp [semL] at h⟩
    rw [sem] at h
    exact wp_goto (hQ _ _ _ _ _ _ h (Ext.refl _ _) hR hE hs hd)
  | scope c ih =>
    refine ⟨fun cx hP ρ e H act w Q Qc h hR hE hs hd hQ => ?_, fun l s h => by simp [semL] at h⟩
    rw [sem] at h
    refine wp_scope_fuel (fun n d a w => ∃ s e H2 ρ2, SoundS P nt s d ∧ semJump (fun l => semL P M D nt N kp l c) n s e H2 Q ∧ Ext H ρ H2 ρ2 ∧ Rel cx ρ2 H2 w ∧ EnvRel ρ2 e a.tmps ∧ nt ≤ a.tmps.size ∧ a.defers = []) ?_ ?_ (n := N)
      ⟨_, e, H, ρ, ih.1, h, Ext.refl _ _, hR, hE, hs, hd⟩
    · rintro d a w ⟨s, e, H2, ρ2, -, h, -⟩
      exact h
    · rintro n d a w ⟨s, e, H2, ρ2, hS, h, hX, hR, hE, hs, hd⟩
      rw [semJump] at h
      refine hS cx hP h hR hE hs hd fun x e' H' ρ' a' w' hx hX' hR' hE' hs' hd' => ?_
      cases x with
      | goto l =>
        simp only at hx
        split at hx
        · rename_i s' hs2
          obtain ⟨r, h1, h2⟩ := ih.2 l s' hs2
          exact ⟨r, h1, s', e', H', ρ', h2, hx, hX.trans hX', hR', hE', hs', hd'⟩
        · exact hx.elim
      | normal => exact hQ _ _ _ _ _ _ hx (hX.trans hX') hR' hE' hs' hd'
      | exit id => exact hQ _ _ _ _ _ _ hx (hX.trans hX') hR' hE' hs' hd'
      | ret => exact hQ _ _ _ _ _ _ hx (hX.trans hX') hR' hE' hs' hd'
      | panic ch => exact hQ _ _ _ _ _ _ hx (hX.trans hX') hR' hE' hs' hd'
      | outgrown => exact hQ _ _ _ _ _ _ hx (hX.trans hX') hR' hE' hs' hd'
  | rangeFunc f ps x y =>
    exact ⟨fun cx hP ρ e H a w Q Qc h hR hE hs hd hQ => by rw [sem] at h; exact h.elim, fun l s h => by simp [semL] at h⟩
  | refuse why =>
    exact ⟨fun cx hP ρ e H a w Q Qc h hR hE hs hd hQ => by rw [sem] at h; exact h.elim, fun l s h => by simp [semL] at h⟩
end
end Go.Ab

namespace Go.Ab
open Go
set_option linter.unusedVariables false
set_option linter.unusedSimpArgs false
set_option linter.unusedSectionVars false

theorem resA_sound {P : Program} {cx : Cx} (hP : cx.P = P) {ρ : Ren} {e : Env} {H : AH} {a : Act} {w : World} (hR : Rel cx ρ H w) (hE : EnvRel ρ e a.tmps) : ∀ (rs : List ResultVar) {vs : List Value}, resA P e H rs = some vs →
    ∃ vs', CVs ρ vs vs' ∧ (rs.mapM (fun | .tmp t => pure (a.tmps.getD t undef) | .cell p t => do loadVar t (← asAddr (a.tmps.getD p undef)) : ResultVar → Sem Value)).run P w = .ok vs' w
  | [], vs, h => by cases h; exact ⟨[], .nil, rfl⟩
  | .tmp t :: rs, vs, h => by
    rw [resA] at h
    split at h
    · rename_i v us h1 h2
      cases h
      obtain ⟨v', e1, e2⟩ := hE t v h1
      obtain ⟨us', c1, c2⟩ := resA_sound hP hR hE rs h2
      refine ⟨v' :: us', .cons e2 c1, ?_⟩
      have hg : a.tmps.getD t undef = v' := by simp [Array.getD_eq_getD_getElem?, e1]
      simp only [List.mapM_cons, Sem.run_bind, Sem.run_pure, Result.andThen_ok, c2, hg]
    · cases h
  | .cell p t :: rs, vs, h => by
    rw [resA] at h
    split at h
    · rename_i d i pv hd hi hp
      split at h
      · rename_i v us h1 h2
        cases h
        obtain ⟨p', e1, e2⟩ := hE p pv hp
        obtain ⟨us', c1, c2⟩ := resA_sound hP hR hE rs h2
        have hg : a.tmps.getD p undef = p' := by simp [Array.getD_eq_getD_getElem?, e1]
        have key : ∃ v', (do loadVar t (← asAddr p') : Sem Value).run P w = .ok v' w ∧ CV ρ v v' := by
          have hptr : ∃ ad, p' = .pointer (some ad) := by
            cases hz : isAggD d with
            | true =>
              rw [hz] at h1
              simp only [cond_true, ldN] at h1
              split at h1
              · obtain ⟨-, l, -, rfl⟩ := e2.ptr_inv; exact ⟨_, rfl⟩
              · cases h1
            | false =>
              rw [hz] at h1
              simp only [cond_false, ld1] at h1
              split at h1
              · obtain ⟨-, l, -, rfl⟩ := e2.ptr_inv; exact ⟨_, rfl⟩
              · cases h1
          obtain ⟨ad, rfl⟩ := hptr
          have hsame : (do loadVar t (← asAddr (.pointer (some ad))) : Sem Value).run P w = (Instr.loadAt t (.pointer (some ad))).run P w := rfl
          rw [hsame]
          cases hz : isAggD d with
          | true =>
            rw [hz] at h1
            have := ldN_sound hR (t := t) (by rw [hP]; exact hd) (by rw [hP]; exact hi) hz h1 e2
            rw [hP] at this; exact this
          | false =>
            rw [hz] at h1
            have := ld1_sound hR (t := t) (by rw [hP]; exact hd) hz h1 e2
            rw [hP] at this; exact this
        obtain ⟨v', k1, k2⟩ := key
        refine ⟨v' :: us', .cons k2 c1, ?_⟩
        rw [List.mapM_cons]
        simp only [hg]
        rw [Sem.run_bind, k1]
        simp only [Result.andThen_ok, Sem.run_bind, c2, Sem.run_pure]
      · cases h
    · cases h
theorem resK_spec {P : Program} {e : Env} {H : AH} : ∀ {rs : List ResultVar} {k : List Value → Prop}, resK P e H rs k → ∃ vs, resA P e H rs = some vs ∧ k vs
  | [], k, h => ⟨[], rfl, h⟩
  | .tmp t :: r, k, h => by
    rw [resK] at h
    unfold bn at h
    split at h
    · rename_i v hv
      obtain ⟨vs, h1, h2⟩ := resK_spec h
      exact ⟨v :: vs, by simp [resA, hv, h1], h2⟩
    · exact h.elim
  | .cell a t :: r, k, h => by
    rw [resK] at h
    split at h
    · rename_i d i p hd hi hp
      unfold bn at h
      split at h
      · rename_i v hv
        obtain ⟨vs, h1, h2⟩ := resK_spec h
        exact ⟨v :: vs, by simp [resA, hd, hi, hp, hv, h1], h2⟩
      · exact h.elim
    · exact h.elim
theorem one_sound {ρ : Ren} {vs vs' : List Value} (h : CVs ρ vs vs') : CV ρ (one vs) (if h : (⟨vs'⟩ : Array Value).size = 1 then (⟨vs'⟩ : Array Value)[0] else .tuple ⟨vs'⟩) := by
  cases h with
  | nil => exact .tuple .nil
  | cons a b =>
    cases b with
    | nil => exact a
    | cons c d =>
      rw [dif_neg (by simp)]
      exact .tuple (.cons a (.cons c d))
theorem env0_get : ∀ (vs : List Value) (i t : Nat) {v : Value}, eget (env0 i vs) t = some v → i ≤ t ∧ vs[t - i]? = some v
  | [], i, t, v, h => by cases h
  | x :: vs, i, t, v, h => by
    rw [env0, eget_cons] at h
    by_cases hi : i = t
    · subst hi; rw [if_pos rfl] at h; cases h; simp
    · rw [if_neg hi] at h
      obtain ⟨h1, h2⟩ := env0_get vs (i + 1) t h
      refine ⟨by omega, ?_⟩
      rw [show t - i = (t - (i + 1)) + 1 from by omega]
      simpa using h2

/-- A function's own code gives what its calls do. -/
theorem fun_sound {P : Program} {M : Ms} {D : Dl} (hD : DSound P D) (hM : MOK P M) (hmix : P.follows .mixedOrders = true) {N : Nat} {kp : Md} {f : FuncId} {fn : Func} {c : Code} (hf : P.funcs[f]? = some fn) (hb : fn.body = some c)
    {args : List Value} {H : AH} {K : KV} (h : semF P M D N kp fn c args H K) (cx : Cx) (hP : cx.P = P) {ρ : Ren} {w : World} {args' : List Value} (hR : Rel cx ρ H w) (ha : CVs ρ args args') :
    Calls P f ⟨args'⟩ w fun e w' => ∃ v v' H' ρ', e = .returned v' ∧ K v H' ∧ Ext H ρ H' ρ' ∧ CV ρ' v v' ∧ Rel cx ρ' H' w' := by
  unfold semF at h
  cases hl : Nat.ble args.length fn.ntmps with
  | false => rw [hl] at h; exact h.elim
  | true =>
    rw [hl] at h
    simp only [cond_true] at h
    have hle := Nat.le_of_ble_eq_true hl
    refine calls_of_wp hf hb ?_
    have hlen := ha.length
    refine (code_sound (N := N) (kp := kp) hD hM hmix c).1 cx hP h hR ?_ ?_ rfl ?_
    · intro t v ht
      obtain ⟨-, h1⟩ := env0_get args 0 t ht
      obtain ⟨v', e1, e2⟩ := ha.get _ h1
      refine ⟨v', ?_, e2⟩
      have : t < args'.length := by
        have := List.getElem?_eq_some_iff.1 e1
        simpa using this.1
      rw [Array.getElem?_append_left (by simpa using this)]
      simpa using e1
    · simp; omega
    · intro x e' H' ρ' a' w' hx hX hR' hE' hs' hd'
      have fin : (resK P e' H' fn.results.toList fun vs => K (one vs) H') →
          a'.defers = [] ∧ ∃ v, (results fn a'.tmps).run P w' = .ok v w' ∧ ∃ v0 v' H2 ρ2, Ending.returned v = .returned v' ∧ K v0 H2 ∧ Ext H ρ H2 ρ2 ∧ CV ρ2 v0 v' ∧ Rel cx ρ2 H2 w' := by
        intro hx
        refine ⟨hd', ?_⟩
        obtain ⟨vs, hvs, hx⟩ := resK_spec hx
        obtain ⟨vs', c1, c2⟩ := resA_sound hP hR' hE' _ hvs
        refine ⟨_, ?_, one vs, _, H', ρ', rfl, hx, hX, one_sound c1, hR'⟩
        unfold results
        rw [Sem.run_bind, Array.mapM_eq_mapM_toList, Sem.run_map]
        erw [c2]
        rfl
      cases x with
      | normal => exact fin hx
      | ret => exact fin hx
      | exit id => exact hx.elim
      | goto l => exact hx.elim
      | panic ch => exact hx.elim
      | outgrown => exact hx.elim

/-- One level more of calls. -/
theorem level_sound {P : Program} {M : Ms} {D F : Dl} (hD : DSound P D) (hM : MOK P M) (hmix : P.follows .mixedOrders = true)
    (h : ∀ f args H K, F f args H K → ∃ fn c N kp, P.funcs[f]? = some fn ∧ fn.body = some c ∧ (fn.name == "runtime.NumGoroutine") = false ∧ semF P M D N kp fn c args H K) : DSound P F := by
  intro f args H K hF
  obtain ⟨fn, c, N, kp, h1, h2, h3, h4⟩ := h f args H K hF
  refine ⟨⟨fn, h1, by rw [h2]; rfl, h3⟩, fun cx hP ρ w args' hR ha => fun_sound hD hM hmix h1 h2 h4 cx hP hR ha⟩
theorem none_sound (P : Program) : DSound P fun _ _ _ _ => False := fun _ _ _ _ h => h.elim
end Go.Ab

namespace Go.Ab
open Go Go.RowKit
set_option linter.unusedVariables false
set_option linter.unusedSimpArgs false

/-- What calls do, by the model itself. -/
def DS (P : Program) : Dl := fun f args H K => callable P f ∧
  ∀ (cx : Cx), cx.P = P → ∀ ρ w args', Rel cx ρ H w → CVs ρ args args' →
    Calls P f ⟨args'⟩ w fun e w' => ∃ v v' H' ρ', e = .returned v' ∧ K v H' ∧ Ext H ρ H' ρ' ∧ CV ρ' v v' ∧ Rel cx ρ' H' w'
theorem DS.sound (P : Program) : DSound P (DS P) := fun f args H K h => h
theorem DSound.ds {P : Program} {D : Dl} (h : DSound P D) {f args H K} (hd : D f args H K) : DS P f args H K := h f args H K hd

/-- A function's code, its calls by the model itself. -/
theorem DS.of_code {P : Program} {M : Ms} (hM : MOK P M) (hmix : P.follows .mixedOrders = true) {f : FuncId} {fn : Func} {c : Code} (N : Nat) (kp : Md) (h1 : P.funcs[f]? = some fn) (h2 : fn.body = some c)
    (h3 : (fn.name == "runtime.NumGoroutine") = false) {args H K} (h : semF P M (DS P) N kp fn c args H K) : DS P f args H K :=
  (level_sound (D := DS P) (F := fun f' args' H' K' => f' = f ∧ args' = args ∧ H' = H ∧ K' = K) (DS.sound P) hM hmix (by
    rintro f' args' H' K' ⟨rfl, rfl, rfl, rfl⟩
    exact ⟨fn, c, N, kp, h1, h2, h3, h⟩)) f args H K ⟨rfl, rfl, rfl, rfl⟩

def Cx.entry (P : Program) (W : World) : Cx :=
  { P, fr := fun b => W.heap[b]?, ro := fun b => W.heap[b]?, sub := fun _ _ h => h, os := W.os, tape := W.tape, output := W.output, lo := W.heap.size }
theorem Rel.entry {P : Program} {W : World} {H : AH} {ρ : Ren}
    (hro : ∀ n o, H.get n = some o → ∃ c T l C T' z, o = .cells c T .ro ∧ ρ n = some l ∧ W.heap[l.blk]? = some (.cells C T' z) ∧ CVs ρ c ((C.toList.drop l.shift).take c.length) ∧ l.extra = 0)
    (hf : ∀ n, H.nx ≤ n → ρ n = none) (hg : ∀ g, g < P.globals.size → ρ g = some ⟨g, 0, 0⟩) : Rel (Cx.entry P W) ρ H W := by
  refine ⟨rfl, rfl, rfl, ⟨Nat.le_refl _, fun b C T z hb e => ?_⟩, fun b o e => e, fun n o e => ?_, fun n m o o' l l' hne e1 e2 r1 r2 x1 x2 => ?_, hf, hg⟩
  · have h1 := lt_of_some e
    have h2 : W.heap.size ≤ b := hb
    omega
  · obtain ⟨c, T, l, C, T', z, rfl, h1, h2, h3, h4⟩ := hro n o e
    exact ⟨l, h1, C, T', z, h2, h3, h4⟩
  · obtain ⟨c, T, l, C, T', z, rfl, _⟩ := hro n o e1
    simp [AObj.rw, CK.rw] at r1
theorem Rel.grown {P : Program} {W w' : World} {H : AH} {ρ : Ren} (h : Rel (Cx.entry P W) ρ H w') : Grown W w' := by
  have hlo : W.heap.size ≤ w'.heap.size := h.lo.1
  refine ⟨⟨h.os, h.output, fun i hi => ?_⟩, fun a => ?_, hlo⟩
  · have e1 : W.heap[i]? = some W.heap[i] := by simp [hi]
    have e2 := h.frame i _ e1
    rw [e1, e2]
    cases W.heap[i] <;> simp
  · unfold World.frozen?
    by_cases hb : a.block < W.heap.size
    · have e1 : W.heap[a.block]? = some W.heap[a.block] := by simp [hb]
      rw [e1, h.frame _ _ e1]
    · have e1 : W.heap[a.block]? = none := by simp; omega
      rw [e1]
      cases e : w'.heap[a.block]? with
      | none => rfl
      | some o =>
        cases o with
        | cells C T z =>
          have := h.lo.2 a.block C T z (by show W.heap.size ≤ _; omega) e
          subst this
          simp
        | _ => rfl
theorem calls_true {P : Program} {W : World} {H : AH} {ρ : Ren} (hR : Rel (Cx.entry P W) ρ H W) {f : FuncId} {args args' : List Value} (ha : CVs ρ args args') (h : DS P f args H fun v _ => v = .bool true) :
    Calls P f ⟨args'⟩ W fun e w' => e = .returned (.bool true) ∧ Grown W w' := by
  refine (h.2 (Cx.entry P W) rfl ρ W args' hR ha).mono ?_
  rintro e w' ⟨v, v', H', ρ', rfl, rfl, -, hv, hR'⟩
  cases hv
  exact ⟨rfl, hR'.grown⟩
end Go.Ab

namespace Go.Ab
open Go
set_option linter.unusedVariables false
noncomputable section

def lenT (d : TypeDesc) (x : Value) (H : AH) : Option Value :=
  match some d, x with
  | some .string, .string s => lenS (.string s) H
  | some (.slice _), .slice a n k => lenS (.slice a n k) H
  | some (.map _ _), .map r => lenS (.map r) H
  | _, _ => none
def capT (d : TypeDesc) (x : Value) (H : AH) : Option Value :=
  match some d, x with
  | some (.slice _), .slice a n k => capS (.slice a n k) H
  | _, _ => none
def minT (x y : Value) : Option Value :=
  match x, y with
  | .int k a, .int _ b => some (.int k (if b < a then b else a))
  | _, _ => none
def maxT (x y : Value) : Option Value :=
  match x, y with
  | .int k a, .int _ b => some (.int k (if b > a then b else a))
  | _, _ => none
def buildT (z : List Value) (pl : List (Nat × Nat)) (ps : List (Nat × Value)) : Option Value :=
  match fillA pl z ps with
  | some cs => some (.agg ⟨cs⟩)
  | none => none
def boxT (t : TypeId) (v : Value) : Option (AObj × (Nat → Value)) :=
  bif (cellsL v).all plain then some (.cells (cellsL v) t .fix, ptrTo) else none
def bslT (e : TypeId) (len : Nat) (z : List Value) (pl : List (Nat × Nat)) (ps : List (Nat × Value)) : Option (AObj × (Nat → Value)) :=
  match fillA pl z ps with
  | some cs => some (.cells cs e .fix, rowTo len len)
  | none => none
def mapT (r : Value) : Option (AObj × (Nat → Value)) :=
  match r with
  | .int _ _ => some (.map [] 0, mapTo)
  | _ => none
def stT (s : Nat) (a x : Value) (H : AH) : Option (Value × AH) :=
  match stS s a x H with
  | some H' => some (.tuple #[], H')
  | none => none
def muT (d : TypeDesc) (m k x : Value) (H : AH) : Option (Value × AH) :=
  bif keyKind d && keyFits d k then
    match muS m k x H with
    | some H' => some (.tuple #[], H')
    | none => none
  else none
def delT (d : TypeDesc) (m k : Value) (H : AH) : Option (Value × AH) :=
  bif keyKind d && keyFits d k then
    match delS m k H with
    | some H' => some (.tuple #[], H')
    | none => none
  else none
def lkT (d : TypeDesc) (z : Value) (ok : Bool) (m k : Value) (H : AH) : Option Value :=
  bif keyKind d && keyFits d k then lkS z ok m k H else none
end
end Go.Ab
namespace Go.Ab
def kpOf : List (Nat × List Nat × List Nat) → Nat → Option (List Nat × List Nat)
  | [], _ => none
  | (r, x) :: l, n => bif Nat.beq r n then some x else kpOf l n
def jnOf : List (Nat × List Nat) → Nat → Option (List Nat)
  | [], _ => none
  | (r, x) :: l, n => bif Nat.beq r n then some x else jnOf l n
def mdOf (l : List (Nat × List Nat × List Nat)) (j : List (Nat × List Nat)) : Md := ⟨true, kpOf l, jnOf j⟩
/-- The program's own table of methods. -/
def mtOf (P : Go.Program) : Ms := fun t s =>
  match P.info? t with
  | some i =>
    match i.methods.find? (fun m => m.name == s) with
    | some m =>
      match m.path.isEmpty, m.func, P.underlying t with
      | true, some (f, true), some (.pointer _) => some f
      | true, some (f, false), some d => (match d with | .pointer _ => none | _ => some f)
      | _, _, _ => none
    | none => none
  | none => none
theorem mtOf_ok (P : Go.Program) : MOK P (mtOf P) := by
  intro t s f h
  unfold mtOf at h
  split at h
  · rename_i i hi
    split at h
    · rename_i m hm
      split at h
      · rename_i f' el h1 h2 h3
        cases h
        exact ⟨i, m, true, _, hi, hm, by simpa using h1, h2, h3, .inl ⟨rfl, _, rfl⟩⟩
      · rename_i f' d h1 h2 h3
        split at h
        · cases h
        · rename_i hd
          cases h
          exact ⟨i, m, false, _, hi, hm, by simpa using h1, h2, h3, .inr ⟨rfl, hd⟩⟩
      · cases h
    · cases h
  · cases h
/-- A function as a value. -/
@[reducible] def fv (f : Nat) : Go.Value := .func (.func f) ⟨[]⟩ ⟨[]⟩
def bodyOf (fn : Go.Func) : Go.Code :=
  match fn.body with
  | some c => c
  | none => .skip
end Go.Ab

namespace Go.Ab
open Go
set_option linter.unusedVariables false

abbrev Hp := Nat → Option AObj
def SL := Hp → Prop
theorem SL.eq {A B : SL} (h : ∀ p, A p ↔ B p) : A = B := funext fun p => propext (h p)
def SL.sep (A B : SL) : SL := fun h => ∃ a b : Hp, A a ∧ B b ∧ (∀ n, a n = none ∨ b n = none) ∧ ∀ n, h n = (a n).or (b n)
instance : Mul SL := ⟨SL.sep⟩
theorem SL.mul_def (A B : SL) (h : Hp) : (A * B) h ↔ ∃ a b : Hp, A a ∧ B b ∧ (∀ n, a n = none ∨ b n = none) ∧ ∀ n, h n = (a n).or (b n) := Iff.rfl
def emp : SL := fun h => ∀ n, h n = none
def lift (p : Prop) : SL := fun h => p ∧ ∀ n, h n = none
def ex {α : Type} (f : α → SL) : SL := fun h => ∃ x, f x h
def pts (n : Nat) (o : AObj) : SL := fun h => ∀ m, h m = if m = n then some o else none

theorem sep_comm (A B : SL) : A * B = B * A := by
  refine SL.eq fun h => ⟨?_, ?_⟩ <;>
  · rintro ⟨a, b, ha, hb, hd, hh⟩
    refine ⟨b, a, hb, ha, fun n => (hd n).symm, fun n => ?_⟩
    rw [hh n]
    rcases hd n with e | e <;> rw [e] <;> simp
theorem sep_assoc (A B C : SL) : A * B * C = A * (B * C) := by
  refine SL.eq fun h => ⟨?_, ?_⟩
  · rintro ⟨ab, c, ⟨a, b, ha, hb, hd, hab⟩, hc, hd2, hh⟩
    refine ⟨a, fun n => (b n).or (c n), ha, ⟨b, c, hb, hc, fun n => ?_, fun n => rfl⟩, fun n => ?_, fun n => ?_⟩
    · rcases hd2 n with e | e
      · rw [hab] at e
        cases hx : a n with
        | none => rw [hx] at e; simp at e; exact .inl e
        | some _ => rw [hx] at e; simp at e
      · exact .inr e
    · rcases hd2 n with e | e
      · rw [hab] at e
        cases hx : a n with
        | none => exact .inl rfl
        | some _ => rw [hx] at e; simp at e
      · rcases hd n with e2 | e2
        · exact .inl e2
        · exact .inr (by simp [e, e2])
    · rw [hh, hab, Option.or_assoc]
  · rintro ⟨a, bc, ha, ⟨b, c, hb, hc, hd, hbc⟩, hd2, hh⟩
    refine ⟨fun n => (a n).or (b n), c, ⟨a, b, ha, hb, fun n => ?_, fun n => rfl⟩, hc, fun n => ?_, fun n => ?_⟩
    · rcases hd2 n with e | e
      · exact .inl e
      · rw [hbc] at e
        cases hx : b n with
        | none => exact .inr rfl
        | some _ => rw [hx] at e; simp at e
    · rcases hd2 n with e | e
      · rcases hd n with e2 | e2
        · exact .inl (by simp [e, e2])
        · exact .inr e2
      · rw [hbc] at e
        cases hx : b n with
        | none => rw [hx] at e; simp at e; exact .inr e
        | some _ => rw [hx] at e; simp at e
    · rw [hh, hbc, Option.or_assoc]
theorem sep_left_comm (A B C : SL) : A * (B * C) = B * (A * C) := by rw [← sep_assoc, sep_comm A B, sep_assoc]
instance : Std.Commutative (α := SL) (· * ·) := ⟨sep_comm⟩
instance : Std.Associative (α := SL) (· * ·) := ⟨sep_assoc⟩
theorem emp_sep (A : SL) : emp * A = A := by
  refine SL.eq fun h => ⟨?_, fun hA => ⟨fun _ => none, h, fun _ => rfl, hA, fun n => .inl rfl, fun n => by simp⟩⟩
  rintro ⟨a, b, ha, hb, -, hh⟩
  have : h = b := funext fun n => by rw [hh, ha n]; rfl
  rw [this]; exact hb
theorem sep_emp (A : SL) : A * emp = A := by rw [sep_comm, emp_sep]
theorem lift_sep (p : Prop) (A : SL) (h : Hp) : (lift p * A) h ↔ p ∧ A h := by
  constructor
  · rintro ⟨a, b, ⟨hp, ha⟩, hb, -, hh⟩
    have : h = b := funext fun n => by rw [hh, ha n]; rfl
    exact ⟨hp, this ▸ hb⟩
  · rintro ⟨hp, hA⟩
    exact ⟨fun _ => none, h, ⟨hp, fun _ => rfl⟩, hA, fun n => .inl rfl, fun n => by simp⟩
theorem ex_sep {α : Type} (f : α → SL) (A : SL) : ex f * A = ex fun x => f x * A := by
  refine SL.eq fun h => ⟨?_, ?_⟩
  · rintro ⟨a, b, ⟨x, hx⟩, hb, r⟩; exact ⟨x, a, b, hx, hb, r⟩
  · rintro ⟨x, a, b, hx, hb, r⟩; exact ⟨a, b, ⟨x, hx⟩, hb, r⟩
theorem sep_ex {α : Type} (f : α → SL) (A : SL) : A * ex f = ex fun x => A * f x := by
  rw [sep_comm, ex_sep]
  exact congrArg ex (funext fun x => sep_comm _ _)

/-- An assertion holds of a part of memory. -/
def sat (H : AH) (A : SL) : Prop := ∃ h, A h ∧ ∀ n o, h n = some o → H.get n = some o ∧ n < H.nx
theorem sat_of_eq {H : AH} {A B : SL} (h : sat H A) (e : A = B) : sat H B := e ▸ h
theorem sat_lift {H : AH} {p : Prop} {A : SL} : sat H (lift p * A) ↔ p ∧ sat H A := by
  constructor
  · rintro ⟨h, hA, r⟩
    obtain ⟨hp, hA⟩ := (lift_sep p A h).1 hA
    exact ⟨hp, h, hA, r⟩
  · rintro ⟨hp, h, hA, r⟩
    exact ⟨h, (lift_sep p A h).2 ⟨hp, hA⟩, r⟩
theorem sat_ex {H : AH} {α : Type} {f : α → SL} : sat H (ex f) ↔ ∃ x, sat H (f x) :=
  ⟨fun ⟨h, ⟨x, hx⟩, r⟩ => ⟨x, h, hx, r⟩, fun ⟨x, h, hx, r⟩ => ⟨h, ⟨x, hx⟩, r⟩⟩
theorem sat_exS {H : AH} {α : Type} {f : α → SL} {A : SL} : sat H (ex f * A) ↔ ∃ x, sat H (f x * A) := by rw [ex_sep, sat_ex]
theorem sat_sub {H : AH} {A B : SL} (h : sat H (A * B)) : sat H B := by
  obtain ⟨p, ⟨a, b, ha, hb, hd, hh⟩, r⟩ := h
  refine ⟨b, hb, fun n o e => r n o ?_⟩
  rw [hh]
  rcases hd n with e2 | e2
  · simp [e2, e]
  · rw [e] at e2; cases e2
theorem sat_sub' {H : AH} {A B : SL} (h : sat H (A * B)) : sat H A := sat_sub (sep_comm A B ▸ h)
/-- Another assertion that follows, beside what stands besides. -/
theorem sat_imp {H : AH} {A B F : SL} (h : sat H (A * F)) (i : ∀ p, A p → B p) : sat H (B * F) := by
  obtain ⟨p, ⟨a, b, ha, r⟩, q⟩ := h
  exact ⟨p, ⟨a, b, i a ha, r⟩, q⟩
theorem sat_get {H : AH} {n : Nat} {o : AObj} {F : SL} (h : sat H (pts n o * F)) : H.get n = some o ∧ n < H.nx := by
  obtain ⟨p, ⟨a, b, ha, hb, hd, hh⟩, r⟩ := h
  refine r n o ?_
  rw [hh, ha n]; simp
theorem sat_ne {H : AH} {n m : Nat} {o o' : AObj} {F : SL} (h : sat H (pts n o * (pts m o' * F))) : n ≠ m := by
  rintro rfl
  obtain ⟨p, ⟨a, b, ha, ⟨c, d, hc, -, -, hb⟩, hd, -⟩, -⟩ := h
  have := hd n
  rw [ha n, hb n, hc n] at this
  simp at this

/-- Some names, each with its object. -/
def ptsL : List (Nat × AObj) → SL
  | [] => emp
  | (n, o) :: l => pts n o * ptsL l
theorem ptsL_cons (n : Nat) (o : AObj) (l : List (Nat × AObj)) : ptsL ((n, o) :: l) = pts n o * ptsL l := rfl
theorem ptsL_nil : ptsL [] = emp := rfl
theorem ptsL_spec : ∀ (l : List (Nat × AObj)) (h : Hp), ptsL l h → (l.map (·.1)).Nodup ∧ (∀ p ∈ l, h p.1 = some p.2) ∧ ∀ n o, h n = some o → (n, o) ∈ l
  | [], h, hp => ⟨by simp, by simp, fun n o e => by have := hp n; rw [e] at this; cases this⟩
  | (n, o) :: l, h, hp => by
    obtain ⟨a, b, ha, hb, hd, hh⟩ := hp
    obtain ⟨h1, h2, h3⟩ := ptsL_spec l b hb
    refine ⟨?_, ?_, ?_⟩
    · rw [List.map_cons, List.nodup_cons]
      refine ⟨fun hm => ?_, h1⟩
      obtain ⟨p, hp, e⟩ := List.mem_map.1 hm
      have := hd n
      rw [ha n] at this
      simp at this
      have e2 : p.1 = n := e
      rw [← e2, h2 p hp] at this
      cases this
    · intro p hp
      rcases List.mem_cons.1 hp with rfl | hp
      · rw [hh, ha]; simp
      · rw [hh, h2 p hp]
        rcases hd p.1 with e | e
        · rw [e]; rfl
        · rw [h2 p hp] at e; cases e
    · intro m o' e
      rw [hh, ha m] at e
      by_cases hm : m = n
      · subst hm; simp at e; simp [e]
      · simp [hm] at e
        exact List.mem_cons_of_mem _ (h3 m o' e)
theorem ptsL_mk : ∀ (l : List (Nat × AObj)) (h : Hp), (l.map (·.1)).Nodup → (∀ p ∈ l, h p.1 = some p.2) → (∀ n o, h n = some o → (n, o) ∈ l) → ptsL l h
  | [], h, _, _, h3 => fun n => by
    cases e : h n with
    | none => rfl
    | some o => have := h3 n o e; simp at this
  | (n, o) :: l, h, h1, h2, h3 => by
    rw [List.map_cons, List.nodup_cons] at h1
    refine ⟨fun m => if m = n then some o else none, fun m => if m = n then none else h m, fun m => rfl, ptsL_mk l _ h1.2 (fun p hp => ?_) (fun m o' e => ?_), fun m => ?_, fun m => ?_⟩
    · rw [if_neg]
      · exact h2 p (by simp [hp])
      · intro e; exact h1.1 (List.mem_map.2 ⟨p, hp, e⟩)
    · by_cases hm : m = n
      · simp [hm] at e
      · simp only [hm, if_false] at e
        have := h3 m o' e
        rcases List.mem_cons.1 this with e2 | e2
        · cases e2; exact absurd rfl hm
        · exact e2
    · by_cases hm : m = n <;> simp [hm]
    · by_cases hm : m = n
      · subst hm; simp [h2 (m, o) (by simp)]
      · simp [hm]
theorem sat_ptsL {H : AH} {l : List (Nat × AObj)} {F : SL} (h : sat H (ptsL l * F)) : (l.map (·.1)).Nodup ∧ ∀ p ∈ l, H.get p.1 = some p.2 ∧ p.1 < H.nx := by
  obtain ⟨p, ⟨a, b, ha, hb, hd, hh⟩, r⟩ := h
  obtain ⟨h1, h2, h3⟩ := ptsL_spec l a ha
  refine ⟨h1, fun p hp => r _ _ ?_⟩
  rw [hh, h2 p hp]; rfl
/-- Some names' objects turned, and new ones beside them. -/
theorem sat_upd {H H' : AH} {l l' : List (Nat × AObj)} {F : SL} (h : sat H (ptsL l * F)) (hnx : H.nx ≤ H'.nx) (hfr : ∀ n, n < H.nx → (∀ p ∈ l, n ≠ p.1) → H'.get n = H.get n)
    (hl : ∀ p ∈ l', H'.get p.1 = some p.2 ∧ p.1 < H'.nx ∧ ((∃ q ∈ l, p.1 = q.1) ∨ H.nx ≤ p.1)) (hnd : (l'.map (·.1)).Nodup) : sat H' (ptsL l' * F) := by
  obtain ⟨p, ⟨a, b, ha, hb, hd, hh⟩, r⟩ := h
  obtain ⟨h1, h2, h3⟩ := ptsL_spec l a ha
  have hb1 : ∀ n o, b n = some o → H.get n = some o ∧ n < H.nx ∧ ∀ p ∈ l, n ≠ p.1 := by
    intro n o e
    have hn : p n = some o := by
      rw [hh]
      rcases hd n with e2 | e2
      · simp [e2, e]
      · rw [e] at e2; cases e2
    refine ⟨(r n o hn).1, (r n o hn).2, fun q hq e3 => ?_⟩
    subst e3
    rcases hd q.1 with e2 | e2
    · rw [h2 q hq] at e2; cases e2
    · rw [e] at e2; cases e2
  let a' : Hp := fun n => if n ∈ l'.map (·.1) then H'.get n else none
  have hu : ∀ q ∈ l', ∀ q' ∈ l', q.1 = q'.1 → q = q' := by
    intro q hq q' hq' e
    have e1 := (hl q hq).1
    have e2 := (hl q' hq').1
    rw [e, e2] at e1
    cases q; cases q'; cases e; cases e1; rfl
  have ha' : ptsL l' a' := by
    refine ptsL_mk l' a' hnd (fun q hq => ?_) (fun n o e => ?_)
    · have : q.1 ∈ l'.map (·.1) := List.mem_map_of_mem hq
      simp only [a', this, if_true]; exact (hl q hq).1
    · by_cases hm : n ∈ l'.map (·.1)
      · simp only [a', hm, if_true] at e
        obtain ⟨q, hq, rfl⟩ := List.mem_map.1 hm
        rw [(hl q hq).1] at e; cases e; exact hq
      · simp [a', hm] at e
  have hdis : ∀ n, a' n = none ∨ b n = none := by
    intro n
    by_cases hm : n ∈ l'.map (·.1)
    · obtain ⟨q, hq, rfl⟩ := List.mem_map.1 hm
      refine .inr ?_
      cases e : b q.1 with
      | none => rfl
      | some o =>
        obtain ⟨-, g1, g2⟩ := hb1 _ _ e
        rcases (hl q hq).2.2 with ⟨x, hx, e2⟩ | e2
        · exact absurd e2 (g2 x hx)
        · omega
    · exact .inl (by simp [a', hm])
  refine ⟨fun n => (a' n).or (b n), ⟨a', b, ha', hb, hdis, fun n => rfl⟩, fun n o e => ?_⟩
  by_cases hm : n ∈ l'.map (·.1)
  · obtain ⟨q, hq, rfl⟩ := List.mem_map.1 hm
    have e1 : a' q.1 = some q.2 := by simp only [a', hm, if_true]; exact (hl q hq).1
    simp only [e1, Option.some_or, Option.some.injEq] at e
    subst e
    exact ⟨(hl q hq).1, (hl q hq).2.1⟩
  · have e1 : a' n = none := by simp [a', hm]
    simp only [e1, Option.none_or] at e
    obtain ⟨g1, g2, g3⟩ := hb1 n o e
    exact ⟨by rw [hfr n g2 g3]; exact g1, by omega⟩
theorem sat_put {H : AH} {n : Nat} {o : AObj} {F : SL} (o' : AObj) (h : sat H (pts n o * F)) : sat (H.put n o') (pts n o' * F) := by
  have h' : sat H (ptsL [(n, o)] * F) := by rw [ptsL_cons, ptsL_nil, sep_emp]; exact h
  have hn := (sat_get h).2
  have := sat_upd (H' := H.put n o') (l' := [(n, o')]) h' (by simp) (fun m hm hne => by rw [AH.get_put, if_neg (by simpa using hne)]) (fun p hp => by simp at hp; subst hp; simp [AH.get_put, hn]) (by simp)
  rw [ptsL_cons, ptsL_nil, sep_emp] at this
  exact this
theorem sat_new {H : AH} {F : SL} (o : AObj) (h : sat H F) : sat (H.new o) (pts H.nx o * F) := by
  have h' : sat H (ptsL [] * F) := by rw [ptsL_nil, emp_sep]; exact h
  have := sat_upd (H' := H.new o) (l' := [(H.nx, o)]) h' (by simp) (fun m hm hne => by rw [AH.get_new, if_neg (by omega)]) (fun p hp => by simp at hp; subst hp; simp [AH.get_new]) (by simp)
  rw [ptsL_cons, ptsL_nil, sep_emp] at this
  exact this
/-- An object laid out over some names, by a witness that is fit. -/
def obj {W : Type} (lay : W → List (Nat × AObj)) (ok : W → Prop) : SL := ex fun q => ptsL (lay q) * lift (ok q)
theorem sat_obj {H : AH} {W : Type} {lay : W → List (Nat × AObj)} {ok : W → Prop} {F : SL} : sat H (obj lay ok * F) ↔ ∃ q, ok q ∧ sat H (ptsL (lay q) * F) := by
  unfold obj
  rw [sat_exS]
  constructor
  · rintro ⟨q, h⟩
    rw [sep_assoc, sep_left_comm, sat_lift] at h
    exact ⟨q, h⟩
  · rintro ⟨q, h⟩
    refine ⟨q, ?_⟩
    rw [sep_assoc, sep_left_comm, sat_lift]
    exact h
theorem sat_res {H : AH} {F : SL} (h : sat H F) : sat H.res F := by
  obtain ⟨p, hp, r⟩ := h
  exact ⟨p, hp, fun n o e => ⟨(r n o e).1, by have := (r n o e).2; simp; omega⟩⟩
end Go.Ab

namespace Go.Ab
open Go
set_option linter.unusedVariables false

@[congr] theorem bn_congr {o o' : Option Value} {k : Value → Prop} (h : o = o') : bn o k = bn o' k := by rw [h]
@[congr] theorem bn2_congr {o o' : Option (Value × AH)} {k : KV} (h : o = o') : bn2 o k = bn2 o' k := by rw [h]
@[congr] theorem bnA_congr {o o' : Option (AObj × (Nat → Value))} {k : AObj → (Nat → Value) → Prop} (h : o = o') : bnA o k = bnA o' k := by rw [h]
@[congr] theorem cnd_congr {o o' : Value} {X Y : Prop} (h : o = o') : cnd o X Y = cnd o' X Y := by rw [h]
@[congr] theorem gdD_congr {o o' : Value} {w : Bool} {X Y : Prop} (h : o = o') : gdD o w X Y = gdD o' w X Y := by rw [h]
@[congr] theorem gd_congr {o o' : Value} {w : Bool} {op : KV → Prop} {K : KV} {H : AH} (h : o = o') : gd o w op K H = gd o' w op K H := by rw [h]
@[congr] theorem pk_congr {c c' : Value} {a b : Option Value} {k : Value → Prop} (h : c = c') : pk c a b k = pk c' a b k := by rw [h]
@[congr] theorem callV_congr {D : Dl} {f f' : Value} {vs vs' : List Value} {H H' : AH} {K : KV} (h1 : f = f') (h2 : vs = vs') (h3 : H = H') : callV D f vs H K = callV D f' vs' H' K := by rw [h1, h2, h3]
@[congr] theorem invk_congr {M : Ms} {D : Dl} {r r' : Value} {s : String} {vs vs' : List Value} {H H' : AH} {K : KV} (h1 : r = r') (h2 : vs = vs') (h3 : H = H') : invk M D r s vs H K = invk M D r' s vs' H' K := by rw [h1, h2, h3]
@[congr] theorem lp_congr {S : Type} {b : S → AH → (S → AH → Prop) → Prop} {n : Nat} {s s' : S} {H H' : AH} (h1 : s = s') (h2 : H = H') : lp b n s H = lp b n s' H' := by rw [h1, h2]
@[congr] theorem jn_congr {S : Type} {k : S → AH → Prop} {b : (S → AH → Prop) → Prop} : jn k b = jn k b := rfl
@[congr] theorem same_congr {sy : Bool} {u u' v v' : Value} {X : Prop} (h1 : u = u') (h2 : v = v') : same sy u v X = same sy u' v' X := by rw [h1, h2]
@[congr] theorem nxt_congr {H H' : AH} {v v' : Value} {K : KV} (h1 : H = H') (h2 : v = v') : nxt H v K = nxt H' v' K := by rw [h1, h2]
@[congr] theorem rngM_congr {H H' : AH} {v v' : Value} {K : KV} (h1 : H = H') (h2 : v = v') : rngM H v K = rngM H' v' K := by rw [h1, h2]

@[congr] theorem DS_congr {P : Program} {f : FuncId} {vs vs' : List Value} {H H' : AH} {K : KV} (h1 : vs = vs') (h2 : H = H') : DS P f vs H K = DS P f vs' H' K := by rw [h1, h2]
theorem bn_some (v : Value) (k : Value → Prop) : bn (some v) k = k v := id rfl
theorem bn2_some (v : Value) (H : AH) (K : KV) : bn2 (some (v, H)) K = K v H := id rfl
theorem bnA_some (o : AObj) (f : Nat → Value) (k : AObj → (Nat → Value) → Prop) : bnA (some (o, f)) k = k o f := id rfl
theorem cnd_true (X Y : Prop) : cnd (.bool true) X Y = X := id rfl
theorem cnd_false (X Y : Prop) : cnd (.bool false) X Y = Y := id rfl
theorem cnd_of {b : Bool} {X Y : Prop} (h1 : b = true → X) (h2 : b = false → Y) : cnd (.bool b) X Y := by cases b with | true => exact h1 rfl | false => exact h2 rfl
theorem gdD_tt (X Y : Prop) : gdD (.bool true) true X Y = X := id rfl
theorem gdD_tf (X Y : Prop) : gdD (.bool true) false X Y = Y := id rfl
theorem gdD_ft (X Y : Prop) : gdD (.bool false) true X Y = Y := id rfl
theorem gdD_ff (X Y : Prop) : gdD (.bool false) false X Y = X := id rfl
theorem gdD_of {b w : Bool} {X Y : Prop} (h1 : b = w → X) (h2 : b = (!w) → Y) : gdD (.bool b) w X Y := by cases b <;> cases w <;> first | exact h1 rfl | exact h2 rfl
theorem gd_tt (op : KV → Prop) (K : KV) (H : AH) : gd (.bool true) true op K H = op K := id rfl
theorem gd_tf (op : KV → Prop) (K : KV) (H : AH) : gd (.bool true) false op K H = K undef H := id rfl
theorem gd_ft (op : KV → Prop) (K : KV) (H : AH) : gd (.bool false) true op K H = K undef H := id rfl
theorem gd_ff (op : KV → Prop) (K : KV) (H : AH) : gd (.bool false) false op K H = op K := id rfl
theorem gd_skip (w : Bool) (op : KV → Prop) (K : KV) (H : AH) : gd (.tuple ⟨[]⟩) w op K H = K undef H := id rfl
theorem skV_skip (X : Prop) : skV (.tuple ⟨[]⟩) X = X := id rfl
theorem undef_eq : undef = .tuple ⟨[]⟩ := id rfl
theorem gd_of {b w : Bool} {op : KV → Prop} {K : KV} {H : AH} (h1 : b = w → op K) (h2 : b = (!w) → K undef H) : gd (.bool b) w op K H := by cases b <;> cases w <;> first | exact h1 rfl | exact h2 rfl
theorem pk_true (v : Value) (b : Option Value) (k : Value → Prop) : pk (.bool true) (some v) b k = k v := id rfl
theorem pk_false (a : Option Value) (v : Value) (k : Value → Prop) : pk (.bool false) a (some v) k = k v := id rfl
theorem pk_bool (c : Bool) (u v : Value) (k : Value → Prop) : pk (.bool c) (some u) (some v) k = k (bif c then u else v) := by cases c <;> rfl
theorem pickS_true (a b : Option Value) : pickS (.bool true) a b = a := id rfl
theorem pickS_false (a b : Option Value) : pickS (.bool false) a b = b := id rfl
theorem callV_fv (D : Dl) (f : Nat) (xs ys vs : List Value) (H : AH) (K : KV) : callV D (.func (.func f) ⟨xs⟩ ⟨ys⟩) vs H K = D f (xs ++ (vs ++ ys)) H K := id rfl
theorem same_refl (u : Value) (X : Prop) : same true u u X = X := by simp [same]
theorem same_of {u v : Value} {X : Prop} (h : u = v) (hX : X) : same true u v X := ⟨h, hX⟩

/-! ### values -/
theorem pnil_ptr (a : Addr) : pnil (.pointer (some a)) = some (.pointer (some a)) := id rfl
theorem pnil_iface (t : TypeId) (v : Value) : pnil (.iface t v) = some (.iface t v) := id rfl
theorem pnil_fun (f : Nat) (x y : Array Value) : pnil (.func (.func f) x y) = some (.func (.func f) x y) := id rfl
theorem fa_ptr (n m off : Nat) : fa n (.pointer (some ⟨m, off, none⟩)) = some (.pointer (some ⟨m, off + n, none⟩)) := id rfl
theorem fld1_agg (off : Nat) (xs : List Value) : fld1 off (.agg ⟨xs⟩) = xs[off]? := id rfl
theorem fldN_agg (off s : Nat) (xs : List Value) : fldN off s (.agg ⟨xs⟩) = some (.agg ⟨(xs.drop off).take s⟩) := id rfl
theorem extr_tuple (i : Nat) (vs : List Value) : extr i (.tuple ⟨vs⟩) = vs[i]? := id rfl
theorem ixS_of (es n off len cap : Nat) (sp : Option Nat) (k : IntKind) (i : Nat) (h : i < len) : ixS es (.slice (some ⟨n, off, sp⟩) len cap) (.int k i) = some (.pointer (some ⟨n, off + i * es, none⟩)) := by
  have h1 : decide ((0 : Int) ≤ (i : Int)) = true := by simp
  have h2 : decide ((i : Int) < (len : Int)) = true := by simpa using h
  simp only [ixS, h1, h2, Bool.and_self, cond_true, Int.toNat_natCast]
theorem binT_eql_int (d : Option EqD) (c : Bool) (k : IntKind) (a b : Int) : binT .eql d c (.int k a) (.int k b) = some (.bool (a == b)) := by simp [binT, isShift, ibin]
theorem binT_neq_int (d : Option EqD) (c : Bool) (k : IntKind) (a b : Int) : binT .neq d c (.int k a) (.int k b) = some (.bool (a != b)) := by simp [binT, isShift, ibin]
theorem binT_lss_int (d : Option EqD) (c : Bool) (k : IntKind) (a b : Int) : binT .lss d c (.int k a) (.int k b) = some (.bool (decide (a < b))) := by simp [binT, isShift, ibin]
theorem binT_leq_int (d : Option EqD) (c : Bool) (k : IntKind) (a b : Int) : binT .leq d c (.int k a) (.int k b) = some (.bool (decide (a ≤ b))) := by simp [binT, isShift, ibin]
theorem binT_gtr_int (d : Option EqD) (c : Bool) (k : IntKind) (a b : Int) : binT .gtr d c (.int k a) (.int k b) = some (.bool (decide (a > b))) := by simp [binT, isShift, ibin]
theorem binT_geq_int (d : Option EqD) (c : Bool) (k : IntKind) (a b : Int) : binT .geq d c (.int k a) (.int k b) = some (.bool (decide (a ≥ b))) := by simp [binT, isShift, ibin]
theorem binT_add_int (d : Option EqD) (c : Bool) (k : IntKind) (a b : Int) : binT .add d c (.int k a) (.int k b) = some (.int k (k.wrap (a + b))) := by simp [binT, isShift, ibin]
theorem binT_sub_int (d : Option EqD) (c : Bool) (k : IntKind) (a b : Int) : binT .sub d c (.int k a) (.int k b) = some (.int k (k.wrap (a - b))) := by simp [binT, isShift, ibin]
theorem binT_mul_int (d : Option EqD) (c : Bool) (k : IntKind) (a b : Int) : binT .mul d c (.int k a) (.int k b) = some (.int k (k.wrap (a * b))) := by simp [binT, isShift, ibin]
theorem binT_and_int (d : Option EqD) (c : Bool) (k : IntKind) (a b : Int) : binT .and d c (.int k a) (.int k b) = some (.int k (k.wrap ((BitVec.ofInt k.bits a &&& BitVec.ofInt k.bits b).toNat))) := by simp [binT, isShift, ibin]
theorem binT_or_int (d : Option EqD) (c : Bool) (k : IntKind) (a b : Int) : binT .or d c (.int k a) (.int k b) = some (.int k (k.wrap ((BitVec.ofInt k.bits a ||| BitVec.ofInt k.bits b).toNat))) := by simp [binT, isShift, ibin]
theorem binT_andNot_int (d : Option EqD) (c : Bool) (k : IntKind) (a b : Int) : binT .andNot d c (.int k a) (.int k b) = some (.int k (k.wrap ((BitVec.ofInt k.bits a &&& ~~~ BitVec.ofInt k.bits b).toNat))) := by simp [binT, isShift, ibin]
theorem binT_xor_int (d : Option EqD) (c : Bool) (k : IntKind) (a b : Int) : binT .xor d c (.int k a) (.int k b) = some (.int k (k.wrap ((BitVec.ofInt k.bits a ^^^ BitVec.ofInt k.bits b).toNat))) := by simp [binT, isShift, ibin]
theorem binT_rem_int (d : Option EqD) (c : Bool) (k : IntKind) (a b : Int) (h : b ≠ 0) : binT .rem d c (.int k a) (.int k b) = some (.int k (a.tmod b)) := by simp [binT, isShift, ibin, h]
theorem binT_quo_int (d : Option EqD) (c : Bool) (k : IntKind) (a b : Int) (h : b ≠ 0) : binT .quo d c (.int k a) (.int k b) = some (.int k (k.wrap (a.tdiv b))) := by simp [binT, isShift, ibin, h]
theorem binT_eql_bool (c : Bool) (a b : Bool) : binT .eql (some (.one .bool)) c (.bool a) (.bool b) = some (.bool (a == b)) := id rfl
theorem binT_neq_bool (c : Bool) (a b : Bool) : binT .neq (some (.one .bool)) c (.bool a) (.bool b) = some (.bool (!(a == b))) := id rfl
theorem binT_eql_ptr (c : Bool) (a : Option Addr) : binT .eql (some (.one .ptr)) c (.pointer a) (.pointer none) = some (.bool a.isNone) := by cases a <;> rfl
theorem binT_neq_ptr (c : Bool) (a : Option Addr) : binT .neq (some (.one .ptr)) c (.pointer a) (.pointer none) = some (.bool a.isSome) := by cases a <;> rfl
theorem binT_eql_map (c : Bool) (a : Option Nat) : binT .eql (some (.one .map)) c (.map a) (.map none) = some (.bool a.isNone) := by cases a <;> rfl
theorem binT_neq_map (c : Bool) (a : Option Nat) : binT .neq (some (.one .map)) c (.map a) (.map none) = some (.bool a.isSome) := by cases a <;> rfl
theorem binT_eql_slc (c : Bool) (a : Option Addr) (l k m n : Nat) : binT .eql (some (.one .slc)) c (.slice a l k) (.slice none m n) = some (.bool a.isNone) := by cases a <;> rfl
theorem binT_neq_slc (c : Bool) (a : Option Addr) (l k m n : Nat) : binT .neq (some (.one .slc)) c (.slice a l k) (.slice none m n) = some (.bool a.isSome) := by cases a <;> rfl
theorem binT_eql_agg (c : Bool) (fs : List (Nat × EK)) (xs ys : List Value) : binT .eql (some (.agg fs)) c (.agg ⟨xs⟩) (.agg ⟨ys⟩) = (eqFsT xs ys fs).map .bool := id rfl
theorem binT_neq_agg (c : Bool) (fs : List (Nat × EK)) (xs ys : List Value) : binT .neq (some (.agg fs)) c (.agg ⟨xs⟩) (.agg ⟨ys⟩) = (eqFsT xs ys fs).map fun b => .bool (!b) := id rfl
theorem eqFsT_nil (xs ys : List Value) : eqFsT xs ys [] = some true := id rfl
theorem eqFsT_int (xs ys : List Value) (o : Nat) (fs : List (Nat × EK)) (k : IntKind) (a b : Int) (r : Bool) (h1 : xs[o]? = some (.int k a)) (h2 : ys[o]? = some (.int k b)) (h3 : eqFsT xs ys fs = some r) : eqFsT xs ys ((o, .int) :: fs) = some (a == b && r) := by
  simp only [eqFsT, h1, h2, eq1T, decide_true, cond_true]
  cases hab : (a == b) with
  | true => simp [h3]
  | false => simp
theorem unS_not (b : Bool) : unS .not (.bool b) = some (.bool !b) := id rfl
theorem unS_neg (k : IntKind) (n : Int) : unS .neg (.int k n) = some (.int k (k.wrap (0 - n))) := id rfl
theorem unS_xor (k : IntKind) (n : Int) : unS .xor (.int k n) = some (.int k (k.wrap ((BitVec.ofInt k.bits (if k.signed then -1 else k.max) ^^^ BitVec.ofInt k.bits n).toNat))) := id rfl
theorem convS_int (k j : IntKind) (n : Int) : convS (.int k) (.int j n) = some (.int k (k.wrap n)) := id rfl
theorem lenT_slice (t : TypeId) (a : Option Addr) (n c : Nat) (H : AH) : lenT (.slice t) (.slice a n c) H = some (.int .i64 n) := id rfl
theorem lenT_string (s : ByteArray) (H : AH) : lenT .string (.string s) H = some (.int .i64 s.size) := id rfl
theorem minT_int (k j : IntKind) (a b : Int) : minT (.int k a) (.int j b) = some (.int k (if b < a then b else a)) := id rfl
theorem maxT_int (k j : IntKind) (a b : Int) : maxT (.int k a) (.int j b) = some (.int k (if b > a then b else a)) := id rfl
theorem mapT_int (k : IntKind) (n : Int) : mapT (.int k n) = some (.map [] 0, mapTo) := id rfl

/-! ### memory -/
theorem get_put_eq (H : AH) (n : Nat) (o : AObj) : (H.put n o).get n = some o := by simp [AH.get_put]
theorem get_put_ne {m n : Nat} (H : AH) (o : AObj) (h : m ≠ n) : (H.put n o).get m = H.get m := by simp [AH.get_put, h]
theorem get_new_eq {m : Nat} (H : AH) (o : AObj) (h : m = H.nx) : (H.new o).get m = some o := by simp [AH.get_new, h]
theorem get_new_ne {m : Nat} (H : AH) (o : AObj) (h : m ≠ H.nx) : (H.new o).get m = H.get m := by simp [AH.get_new, h]
theorem put_res (H : AH) (o : AObj) : H.res.put H.nx o = H.new o := id rfl
/-- A cell of an object. -/
def cellO (off : Nat) : Option AObj → Option Value
  | some (.cells c _ _) => c[off]?
  | _ => none
def cellsO (s off : Nat) : Option AObj → Option Value
  | some (.cells c _ _) => bif Nat.beq ((c.drop off).take s).length s then some (.agg ⟨(c.drop off).take s⟩) else none
  | _ => none
theorem ld1_ptr (n off : Nat) (H : AH) : ld1 (.pointer (some ⟨n, off, none⟩)) H = cellO off (H.get n) := by
  cases h : H.get n with
  | none => simp [ld1, cellO, h]
  | some o => cases o <;> simp [ld1, cellO, h]
theorem ldN_ptr (s n off : Nat) (H : AH) : ldN s (.pointer (some ⟨n, off, none⟩)) H = cellsO s off (H.get n) := by
  cases h : H.get n with
  | none => simp [ldN, cellsO, h]
  | some o => cases o <;> simp [ldN, cellsO, h]
theorem cellO_cells (off : Nat) (c : List Value) (T : TypeId) (k : CK) : cellO off (some (.cells c T k)) = c[off]? := id rfl
theorem cellsO_cells (s off : Nat) (c : List Value) (T : TypeId) (k : CK) (h : off + s ≤ c.length) : cellsO s off (some (.cells c T k)) = some (.agg ⟨(c.drop off).take s⟩) := by
  have : Nat.beq ((c.drop off).take s).length s = true := by rw [Nat.beq_eq]; simp; omega
  simp only [cellsO, this, cond_true]
noncomputable def stO (s n off : Nat) (x : Value) (H : AH) : Option AObj → Option (Value × AH)
  | some (.cells c T k) => bif k.rw && Nat.beq (cellsL x).length s && (cellsL x).all plain && Nat.ble (off + s) c.length then some (.tuple ⟨[]⟩, H.put n (.cells (splice c off (cellsL x)) T k)) else none
  | _ => none
theorem stT_ptr (s n off : Nat) (x : Value) (H : AH) : stT s (.pointer (some ⟨n, off, none⟩)) x H = stO s n off x H (H.get n) := by
  cases h : H.get n with
  | none => simp [stT, stS, stO, h]
  | some o =>
    cases o with
    | cells c T k =>
      simp only [stT, stS, stO, h]
      cases (k.rw && Nat.beq (cellsL x).length s && (cellsL x).all plain && Nat.ble (off + s) c.length) <;> rfl
    | _ => simp [stT, stS, stO, h]
theorem stO_1 (n off : Nat) (x : Value) (H : AH) (c : List Value) (T : TypeId) (k : CK) (h1 : k.rw = true) (h2 : cellsL x = [x]) (h3 : plain x = true) (h4 : off + 1 ≤ c.length) :
    stO 1 n off x H (some (.cells c T k)) = some (.tuple ⟨[]⟩, H.put n (.cells (c.set off x) T k)) := by
  have e1 : Nat.beq (cellsL x).length 1 = true := by rw [h2]; rfl
  have e2 : (cellsL x).all plain = true := by rw [h2]; simp [h3]
  have e3 : Nat.ble (off + 1) c.length = true := (by rw [Nat.ble_eq]; exact h4)
  have e4 : splice c off (cellsL x) = c.set off x := by
    rw [h2, splice, List.set_eq_take_append_cons_drop, if_pos (by omega)]; rfl
  simp only [stO, h1, e1, e2, e3, Bool.and_self, cond_true, e4]
theorem stO_N (s n off : Nat) (xs : List Value) (H : AH) (c : List Value) (T : TypeId) (k : CK) (h1 : k.rw = true) (h2 : xs.length = s) (h3 : xs.all plain = true) (h4 : off + s ≤ c.length) :
    stO s n off (.agg ⟨xs⟩) H (some (.cells c T k)) = some (.tuple ⟨[]⟩, H.put n (.cells (splice c off xs) T k)) := by
  have e1 : Nat.beq (cellsL (.agg ⟨xs⟩)).length s = true := by rw [Nat.beq_eq]; exact h2
  have e2 : (cellsL (.agg ⟨xs⟩)).all plain = true := h3
  have e3 : Nat.ble (off + s) c.length = true := (by rw [Nat.ble_eq]; exact h4)
  simp only [stO, h1, e1, e2, e3, Bool.and_self, cond_true]
  rfl
theorem cellsL_int (k : IntKind) (n : Int) : cellsL (.int k n) = [.int k n] := id rfl
theorem cellsL_bool (b : Bool) : cellsL (.bool b) = [.bool b] := id rfl
theorem cellsL_str (b : ByteArray) : cellsL (.string b) = [.string b] := id rfl
theorem cellsL_ptr (b : Option Addr) : cellsL (.pointer b) = [.pointer b] := id rfl
theorem cellsL_slice (b : Option Addr) (l c : Nat) : cellsL (.slice b l c) = [.slice b l c] := id rfl
theorem cellsL_map (b : Option Nat) : cellsL (.map b) = [.map b] := id rfl
theorem cellsL_nilFunc : cellsL .nilFunc = [.nilFunc] := id rfl
theorem cellsL_func (f : Fn) (x y : Array Value) : cellsL (.func f x y) = [.func f x y] := id rfl
theorem cellsL_nilIface : cellsL .nilIface = [.nilIface] := id rfl
theorem cellsL_iface (t : TypeId) (v : Value) : cellsL (.iface t v) = [.iface t v] := id rfl
theorem cellsL_agg (xs : List Value) : cellsL (.agg ⟨xs⟩) = xs := id rfl
theorem plain_int (k : IntKind) (n : Int) : plain (.int k n) = true := id rfl
theorem plain_bool (b : Bool) : plain (.bool b) = true := id rfl
theorem plain_str (b : ByteArray) : plain (.string b) = true := id rfl
theorem plain_ptr (b : Option Addr) : plain (.pointer b) = true := id rfl
theorem plain_slice (b : Option Addr) (l c : Nat) : plain (.slice b l c) = true := id rfl
theorem plain_map (b : Option Nat) : plain (.map b) = true := id rfl
theorem plain_nilFunc : plain .nilFunc = true := id rfl
theorem plain_func (f : Fn) (x y : Array Value) : plain (.func f x y) = true := id rfl
theorem plain_nilIface : plain .nilIface = true := id rfl
theorem plain_iface (t : TypeId) (v : Value) : plain (.iface t v) = true := id rfl
theorem rw_fix : CK.rw .fix = true := id rfl
theorem rw_opn : CK.rw .opn = true := id rfl
/-- A store, by what stands at the name. -/
theorem stO_cells (s n off : Nat) (x : Value) (H : AH) (c : List Value) (T : TypeId) (k : CK) (h1 : k.rw = true) (h2 : (cellsL x).length = s) (h3 : (cellsL x).all plain = true) (h4 : off + s ≤ c.length) :
    stO s n off x H (some (.cells c T k)) = some (.tuple ⟨[]⟩, H.put n (.cells (splice c off (cellsL x)) T k)) := by
  have e1 : Nat.beq (cellsL x).length s = true := by rw [Nat.beq_eq]; exact h2
  have e3 : Nat.ble (off + s) c.length = true := by rw [Nat.ble_eq]; exact h4
  simp only [stO, h1, e1, h3, e3, Bool.and_self, cond_true]
theorem splice_zero (y : Value) (c : List Value) (x : Value) (xs : List Value) : splice (y :: c) 0 (x :: xs) = x :: splice c 0 xs := id rfl
theorem splice_nil (c : List Value) : splice c 0 [] = c := by simp [splice]
theorem splice_succ (y : Value) (c : List Value) (off : Nat) (xs : List Value) : splice (y :: c) (off + 1) xs = y :: splice c off xs := by
  simp [splice, Nat.add_right_comm]
theorem splice_one (c : List Value) (off : Nat) (x : Value) (h : off < c.length) : splice c off [x] = c.set off x := by
  rw [splice, List.set_eq_take_append_cons_drop, if_pos h]; rfl
theorem fillA_nil (pl : List (Nat × Nat)) (c : List Value) : fillA pl c [] = some c := id rfl
theorem fillA_cons (pl : List (Nat × Nat)) (c : List Value) (i : Nat) (v : Value) (r : List (Nat × Value)) :
    fillA pl c ((i, v) :: r) = (pl[i]?).bind fun p => if (cellsL v).length = p.2 ∧ p.1 + p.2 ≤ c.length then fillA pl (splice c p.1 (cellsL v)) r else none := by
  rw [fillA]
  cases h : pl[i]? with
  | none => rfl
  | some p =>
    obtain ⟨off, size⟩ := p
    simp only [Option.bind_some]
    by_cases hc : (cellsL v).length = size ∧ off + size ≤ c.length
    · have e1 : Nat.beq (cellsL v).length size = true := by rw [Nat.beq_eq]; exact hc.1
      have e2 : Nat.ble (off + size) c.length = true := by rw [Nat.ble_eq]; exact hc.2
      rw [if_pos hc, e1, e2]
      simp only [Bool.and_self, cond_true]
      rw [splice, hc.1]
    · rw [if_neg hc]
      have : (Nat.beq (cellsL v).length size && Nat.ble (off + size) c.length) = false := by
        cases h1 : Nat.beq (cellsL v).length size with
        | false => rfl
        | true =>
          rw [Nat.beq_eq] at h1
          cases h2 : Nat.ble (off + size) c.length with
          | false => rfl
          | true => rw [Nat.ble_eq] at h2; exact absurd ⟨h1, h2⟩ hc
      rw [this]; rfl
def aggO (o : Option (List Value)) : Option Value :=
  match o with
  | some cs => some (.agg ⟨cs⟩)
  | none => none
theorem buildT_eq (z : List Value) (pl : List (Nat × Nat)) (ps : List (Nat × Value)) : buildT z pl ps = aggO (fillA pl z ps) := id rfl
theorem aggO_some (cs : List Value) : aggO (some cs) = some (.agg ⟨cs⟩) := id rfl
theorem boxT_eq (t : TypeId) (v : Value) (h : (cellsL v).all plain = true) : boxT t v = some (.cells (cellsL v) t .fix, ptrTo) := by simp [boxT, h]
def rowO (e : TypeId) (len : Nat) (o : Option (List Value)) : Option (AObj × (Nat → Value)) :=
  match o with
  | some cs => some (.cells cs e .fix, rowTo len len)
  | none => none
theorem bslT_eq (e : TypeId) (len : Nat) (z : List Value) (pl : List (Nat × Nat)) (ps : List (Nat × Value)) : bslT e len z pl ps = rowO e len (fillA pl z ps) := id rfl
theorem rowO_some (e : TypeId) (len : Nat) (cs : List Value) : rowO e len (some cs) = some (.cells cs e .fix, rowTo len len) := id rfl
theorem boxT_1 (t : TypeId) (v : Value) (h2 : cellsL v = [v]) (h3 : plain v = true) : boxT t v = some (.cells [v] t .fix, ptrTo) := by
  simp [boxT, h2, h3]
theorem boxT_N (t : TypeId) (xs : List Value) (h3 : xs.all plain = true) : boxT t (.agg ⟨xs⟩) = some (.cells xs t .fix, ptrTo) := by
  have : (cellsL (.agg ⟨xs⟩)).all plain = true := h3
  simp only [boxT, this, cond_true]
  rfl
theorem ptrTo_eq (n : Nat) : ptrTo n = .pointer (some ⟨n, 0, none⟩) := id rfl
theorem rowTo_eq (l c n : Nat) : rowTo l c n = .slice (some ⟨n, 0, none⟩) l c := id rfl
theorem mapTo_eq (n : Nat) : mapTo n = .map (some n) := id rfl
/-- Rounds of a loop by a relation that each keeps. -/
theorem lp_rule {S : Type} {b : S → AH → (S → AH → Prop) → Prop} (I : Nat → S → AH → Prop) (step : ∀ n s H, I (n + 1) s H → ∀ R : S → AH → Prop, (∀ s' H', I n s' H' → R s' H') → b s H R) (h0 : ∀ s H, ¬ I 0 s H) :
    ∀ {n : Nat} {s : S} {H : AH}, I n s H → lp b n s H := by
  intro n
  induction n with
  | zero => intro s H h; exact (h0 s H h).elim
  | succ n ih => intro s H h; exact step n s H h _ fun s' H' h' => ih h'
theorem jn_of {S : Type} {k : S → AH → Prop} {b : (S → AH → Prop) → Prop} (h : b k) : jn k b := h
theorem jn_rule {S : Type} {k : S → AH → Prop} {b : (S → AH → Prop) → Prop} (I : S → AH → Prop) (h1 : ∀ s H, I s H → k s H) (h2 : ∀ R : S → AH → Prop, (∀ s H, I s H → R s H) → b R) : jn k b := h2 k h1
end Go.Ab

namespace Go.Ab
open Go
set_option linter.unusedVariables false

abbrev IL := List (Int × Value × Nat)
def IMs (kk : IntKind) (l : IL) : List MapEntry := l.map fun p => { key := .int kk p.1, val := p.2.1, born := p.2.2 }
def lookI (l : IL) (k : Int) : Option Value := (l.find? fun p => p.1 == k).map (·.2.1)
def upd {α : Type} (f : Int → α) (k : Int) (x : α) : Int → α := fun a => if a = k then x else f a
structure MapRep (kk : IntKind) (l : IL) (es : List MapEntry) (clk : Nat) : Prop where
  es : es = IMs kk l
  nd : (l.map (·.1)).Nodup
  pw : (l.map (·.2.2)).Pairwise (· < ·)
  old : ∀ p ∈ l, p.2.2 < clk

theorem findA_none {kk : IntKind} {k : Int} : ∀ {l : IL} (i : Nat), (∀ p ∈ l, p.1 ≠ k) → findA (.int kk k) (IMs kk l) i = some none
  | [], i, _ => rfl
  | p :: l, i, h => by
    have h1 : (k == p.1) = false := by have := h p (by simp); simp; omega
    have h2 : keyEq (.int kk k) (.int kk p.1) = some false := by simp [keyEq, h1]
    show findA (.int kk k) ({ key := .int kk p.1, val := p.2.1, born := p.2.2 } :: IMs kk l) i = _
    rw [findA, h2]
    exact findA_none (i + 1) fun q hq => h q (by simp [hq])
theorem findA_some {kk : IntKind} {k : Int} : ∀ {l : IL} (i j : Nat) {v : Value} {b : Nat}, (l.map (·.1)).Nodup → l[j]? = some (k, v, b) → findA (.int kk k) (IMs kk l) i = some (some (i + j, v))
  | [], i, j, v, b, _, h => by simp at h
  | p :: l, i, 0, v, b, _, h => by
    simp at h; subst h
    have h2 : keyEq (.int kk k) (.int kk k) = some true := by simp [keyEq]
    show findA (.int kk k) ({ key := .int kk k, val := v, born := b } :: IMs kk l) i = _
    rw [findA, h2]; rfl
  | p :: l, i, j + 1, v, b, hn, h => by
    rw [List.getElem?_cons_succ] at h
    rw [List.map_cons, List.nodup_cons] at hn
    have hm : (k, v, b) ∈ l := List.mem_of_getElem? h
    have hne : p.1 ≠ k := fun e => hn.1 (List.mem_map.2 ⟨_, hm, e.symm⟩)
    have h1 : (k == p.1) = false := by simp; omega
    have h2 : keyEq (.int kk k) (.int kk p.1) = some false := by simp [keyEq, h1]
    show findA (.int kk k) ({ key := .int kk p.1, val := p.2.1, born := p.2.2 } :: IMs kk l) i = _
    rw [findA, h2]
    have := findA_some (kk := kk) (i + 1) j hn.2 h
    rw [this]
    exact congrArg some (congrArg some (Prod.ext (by simp; omega) rfl))
theorem look_none {l : IL} {k : Int} : lookI l k = none ↔ ∀ p ∈ l, p.1 ≠ k := by
  unfold lookI
  rw [Option.map_eq_none_iff, List.find?_eq_none]
  constructor
  · intro h p hp e; exact h p hp (by simpa using e)
  · intro h p hp e; exact h p hp (by simpa using e)
theorem look_some {l : IL} (hn : (l.map (·.1)).Nodup) {k : Int} {v : Value} : lookI l k = some v ↔ ∃ (j b : Nat), l[j]? = some (k, v, b) := by
  constructor
  · intro h
    unfold lookI at h
    obtain ⟨p, h1, h2⟩ := Option.map_eq_some_iff.1 h
    have hp := List.mem_of_find?_eq_some h1
    have hk := List.find?_some h1
    simp at hk
    obtain ⟨j, hj⟩ := List.mem_iff_getElem?.1 hp
    refine ⟨j, p.2.2, ?_⟩
    obtain ⟨p1, p2, p3⟩ := p
    simp only at hk h2
    subst hk h2
    exact hj
  · rintro ⟨j, b, h⟩
    have hm : (k, v, b) ∈ l := List.mem_of_getElem? h
    cases e : lookI l k with
    | none => exact absurd rfl (look_none.1 e _ hm)
    | some u =>
      unfold lookI at e
      obtain ⟨p, h1, h2⟩ := Option.map_eq_some_iff.1 e
      have hp := List.mem_of_find?_eq_some h1
      have hk := List.find?_some h1
      simp at hk
      have : p = (k, v, b) := by
        have hinj : ∀ {l : IL}, (l.map (·.1)).Nodup → ∀ a ∈ l, ∀ c ∈ l, a.1 = c.1 → a = c := by
          intro l
          induction l with
          | nil => intro _ a ha; simp at ha
          | cons x l ih =>
            intro hn a ha c hc e
            rw [List.map_cons, List.nodup_cons] at hn
            rcases List.mem_cons.1 ha with ea | ha'
            · rcases List.mem_cons.1 hc with ec | hc'
              · rw [ea, ec]
              · exact (hn.1 (List.mem_map.2 ⟨c, hc', by rw [← e, ea]⟩)).elim
            · rcases List.mem_cons.1 hc with ec | hc'
              · exact (hn.1 (List.mem_map.2 ⟨a, ha', by rw [e, ec]⟩)).elim
              · exact ih hn.2 a ha' c hc' e
        exact hinj hn p hp _ hm hk
      subst this
      simpa using h2.symm

/-! ### the operations, by what stands at the map's name -/
def lkO (d : TypeDesc) (z : Value) (ok : Bool) (k : Value) : Option AObj → Option Value
  | some (.map es _) =>
    bif keyKind d && keyFits d k then
      match findA k es 0 with
      | some (some (_, v)) => some (bif ok then .tuple ⟨[v, .bool true]⟩ else v)
      | some none => some (bif ok then .tuple ⟨[z, .bool false]⟩ else z)
      | none => none
    else none
  | _ => none
theorem lkT_some (d : TypeDesc) (z : Value) (ok : Bool) (m : Nat) (k : Value) (H : AH) : lkT d z ok (.map (some m)) k H = lkO d z ok k (H.get m) := by
  unfold lkT lkS
  cases h : H.get m with
  | none => cases (keyKind d && keyFits d k) <;> simp [mapOf, lkO, h]
  | some o => cases o <;> (cases hk : (keyKind d && keyFits d k) <;> simp only [mapOf, lkO, h, hk, cond_true, cond_false]) <;> rfl
theorem lkT_none (kk : IntKind) (z : Value) (k : Int) (H : AH) : lkT (.int kk) z false (.map none) (.int kk k) H = some z := id rfl
theorem lkT_none_ok (kk : IntKind) (z : Value) (k : Int) (H : AH) : lkT (.int kk) z true (.map none) (.int kk k) H = some (.tuple ⟨[z, .bool false]⟩) := id rfl
noncomputable def muO (r : Nat) (d : TypeDesc) (k v : Value) (H : AH) : Option AObj → Option (Value × AH)
  | some (.map es clk) =>
    bif keyKind d && keyFits d k then
      match findA k es 0 with
      | some (some (i, _)) => some (.tuple ⟨[]⟩, H.put r (.map (setVal es i k v) clk))
      | some none => some (.tuple ⟨[]⟩, H.put r (.map (es ++ [{ key := k, val := v, born := clk }]) (clk + 1)))
      | none => none
    else none
  | _ => none
theorem muT_some (d : TypeDesc) (r : Nat) (k v : Value) (H : AH) : muT d (.map (some r)) k v H = muO r d k v H (H.get r) := by
  unfold muT muS
  cases h : H.get r with
  | none => cases (keyKind d && keyFits d k) <;> simp [muO, h]
  | some o =>
    cases o with
    | map es clk =>
      cases hk : (keyKind d && keyFits d k) with
      | false => simp [muO, hk]
      | true =>
        simp only [muO, hk, cond_true, h]
        cases findA k es 0 with
        | none => rfl
        | some x => cases x <;> rfl
    | _ => cases (keyKind d && keyFits d k) <;> simp [muO, h]
noncomputable def delO (r : Nat) (d : TypeDesc) (k : Value) (H : AH) : Option AObj → Option (Value × AH)
  | some (.map es clk) =>
    bif keyKind d && keyFits d k then
      match findA k es 0 with
      | some (some (i, _)) => some (.tuple ⟨[]⟩, H.put r (.map (es.eraseIdx i) clk))
      | some none => some (.tuple ⟨[]⟩, H.put r (.map es clk))
      | none => none
    else none
  | _ => none
theorem delT_some (d : TypeDesc) (r : Nat) (k : Value) (H : AH) : delT d (.map (some r)) k H = delO r d k H (H.get r) := by
  unfold delT delS
  cases h : H.get r with
  | none => cases (keyKind d && keyFits d k) <;> simp [delO, h]
  | some o =>
    cases o with
    | map es clk =>
      cases hk : (keyKind d && keyFits d k) with
      | false => simp [delO, hk]
      | true =>
        simp only [delO, hk, cond_true, h]
        cases findA k es 0 with
        | none => rfl
        | some x => cases x <;> rfl
    | _ => cases (keyKind d && keyFits d k) <;> simp [delO, h]
theorem delT_none (kk : IntKind) (k : Int) (H : AH) : delT (.int kk) (.map none) (.int kk k) H = some (.tuple ⟨[]⟩, H) := id rfl
def lenO : Option AObj → Option Value
  | some (.map es _) => some (.int .i64 es.length)
  | _ => none
theorem lenT_map_some (k e : TypeId) (r : Nat) (H : AH) : lenT (.map k e) (.map (some r)) H = lenO (H.get r) := by
  cases h : H.get r with
  | none => simp [lenT, lenS, lenO, h]
  | some o => cases o <;> simp [lenT, lenS, lenO, h]
theorem lenT_map_none (k e : TypeId) (H : AH) : lenT (.map k e) (.map none) H = some (.int .i64 (0 : Nat)) := id rfl

/-- A key's value in a map: what a lookup hands back. -/
def lkV (z : Value) (ok : Bool) : Option Value → Value
  | some v => bif ok then .tuple ⟨[v, .bool true]⟩ else v
  | none => bif ok then .tuple ⟨[z, .bool false]⟩ else z
def ilSet (l : IL) (k : Int) (v : Value) (clk : Nat) : IL :=
  match l.findIdx? (fun p => p.1 == k) with
  | some j => l.modify j fun p => (k, v, p.2.2)
  | none => l ++ [(k, v, clk)]
namespace MapRep
variable {kk : IntKind} {l : IL} {es : List MapEntry} {clk : Nat}
theorem lk (h : MapRep kk l es clk) (k : Int) (z : Value) (ok : Bool) : lkO (.int kk) z ok (.int kk k) (some (.map es clk)) = some (lkV z ok (lookI l k)) := by
  have hk : (keyKind (.int kk) && keyFits (.int kk) (.int kk k)) = true := rfl
  simp only [lkO, hk, cond_true, h.es]
  cases e : lookI l k with
  | none => rw [findA_none 0 (look_none.1 e)]; rfl
  | some v =>
    obtain ⟨j, b, hj⟩ := (look_some h.nd).1 e
    rw [findA_some 0 j h.nd hj]; rfl
theorem empty : MapRep kk [] [] 0 := ⟨rfl, by simp, by simp, by simp⟩
theorem del (h : MapRep kk l es clk) (k : Int) : ∃ l' es', (∀ H r, delO r (.int kk) (.int kk k) H (some (.map es clk)) = some (.tuple ⟨[]⟩, H.put r (.map es' clk))) ∧ MapRep kk l' es' clk ∧
    (∀ a, lookI l' a = if a = k then none else lookI l a) ∧ ∀ p, p ∈ l' ↔ p ∈ l ∧ p.1 ≠ k := by
  have hk : (keyKind (.int kk) && keyFits (.int kk) (.int kk k)) = true := rfl
  cases e : lookI l k with
  | none =>
    refine ⟨l, es, fun H r => ?_, h, fun a => ?_, fun p => ⟨fun hp => ⟨hp, look_none.1 e p hp⟩, fun hp => hp.1⟩⟩
    · simp only [delO, hk, cond_true, h.es, findA_none 0 (look_none.1 e)]
    · by_cases ha : a = k
      · subst ha; simp [e]
      · simp [ha]
  | some v =>
    obtain ⟨j, b, hj⟩ := (look_some h.nd).1 e
    have hsub := List.eraseIdx_sublist l j
    have hmem : ∀ p, p ∈ l.eraseIdx j ↔ p ∈ l ∧ p.1 ≠ k := by
      intro p
      rw [List.mem_eraseIdx_iff_getElem?]
      constructor
      · rintro ⟨i, hij, hi⟩
        refine ⟨List.mem_of_getElem? hi, fun e2 => ?_⟩
        have hn := List.pairwise_iff_getElem.1 h.nd
        obtain ⟨li, ei⟩ := List.getElem?_eq_some_iff.1 hi
        obtain ⟨lj, ej⟩ := List.getElem?_eq_some_iff.1 hj
        rcases Nat.lt_or_gt_of_ne hij with h1 | h1
        · exact hn i j (by simpa using li) (by simpa using lj) h1 (by simp [ei, ej, e2])
        · exact hn j i (by simpa using lj) (by simpa using li) h1 (by simp [ei, ej, e2])
      · rintro ⟨hp, hne⟩
        obtain ⟨i, hi⟩ := List.mem_iff_getElem?.1 hp
        refine ⟨i, fun e2 => ?_, hi⟩
        subst e2
        rw [hj] at hi; cases hi; exact hne rfl
    have hnd' : ((l.eraseIdx j).map (·.1)).Nodup := (hsub.map _).nodup h.nd
    refine ⟨l.eraseIdx j, es.eraseIdx j, fun H r => ?_, ⟨?_, hnd', h.pw.sublist (hsub.map _), fun p hp => h.old p (hsub.subset hp)⟩, fun a => ?_, hmem⟩
    · simp only [delO, hk, cond_true]
      rw [show findA (.int kk k) es 0 = some (some (0 + j, v)) by rw [h.es]; exact findA_some 0 j h.nd hj]
      simp
    · rw [h.es]
      apply List.ext_getElem?
      intro i
      simp only [IMs, List.getElem?_eraseIdx, List.getElem?_map]
      split <;> rfl
    · by_cases ha : a = k
      · rw [if_pos ha, look_none]
        intro p hp e2
        exact ((hmem p).1 hp).2 (e2.trans ha)
      · rw [if_neg ha]
        cases e2 : lookI l a with
        | none =>
          rw [look_none] at e2 ⊢
          exact fun p hp => e2 p (hsub.subset hp)
        | some u =>
          obtain ⟨i, c, hi⟩ := (look_some h.nd).1 e2
          have : (a, u, c) ∈ l.eraseIdx j := (hmem _).2 ⟨List.mem_of_getElem? hi, ha⟩
          obtain ⟨i', hi'⟩ := List.mem_iff_getElem?.1 this
          exact (look_some hnd').2 ⟨i', c, hi'⟩
theorem mu (h : MapRep kk l es clk) (k : Int) (v : Value) : ∃ l' es' clk', (∀ H r, muO r (.int kk) (.int kk k) v H (some (.map es clk)) = some (.tuple ⟨[]⟩, H.put r (.map es' clk'))) ∧ MapRep kk l' es' clk' ∧
    (∀ a, lookI l' a = if a = k then some v else lookI l a) ∧ (∀ a u, (∃ b, (a, u, b) ∈ l') ↔ (if a = k then u = v else ∃ b, (a, u, b) ∈ l)) := by
  have hk : (keyKind (.int kk) && keyFits (.int kk) (.int kk k)) = true := rfl
  have fin : ∀ {l' es' clk'}, MapRep kk l' es' clk' → (∀ a, lookI l' a = if a = k then some v else lookI l a) → (∀ a u, (∃ b, (a, u, b) ∈ l') ↔ (if a = k then u = v else ∃ b, (a, u, b) ∈ l)) := by
    intro l' es' clk' h' hl a u
    have key : ∀ {l : IL}, (l.map (·.1)).Nodup → ((∃ b, (a, u, b) ∈ l) ↔ lookI l a = some u) := by
      intro l hn
      rw [look_some hn]
      constructor
      · rintro ⟨b, hb⟩
        obtain ⟨i, hi⟩ := List.mem_iff_getElem?.1 hb
        exact ⟨i, b, hi⟩
      · rintro ⟨i, b, hi⟩; exact ⟨b, List.mem_of_getElem? hi⟩
    rw [key h'.nd, hl a]
    by_cases ha : a = k
    · simp [ha, eq_comm]
    · simp only [ha, if_false]; exact (key h.nd).symm
  cases e : lookI l k with
  | none =>
    have hno := look_none.1 e
    have hrep : MapRep kk (l ++ [(k, v, clk)]) (es ++ [{ key := .int kk k, val := v, born := clk }]) (clk + 1) := by
      refine ⟨by rw [h.es]; simp [IMs], ?_, ?_, fun p hp => ?_⟩
      · rw [List.map_append, List.nodup_append]
        refine ⟨h.nd, by simp, fun a ha b hb => ?_⟩
        simp at hb; subst hb
        obtain ⟨p, hp, rfl⟩ := List.mem_map.1 ha
        exact hno p hp
      · rw [List.map_append, List.pairwise_append]
        refine ⟨h.pw, by simp, fun a ha b hb => ?_⟩
        simp at hb; subst hb
        obtain ⟨p, hp, rfl⟩ := List.mem_map.1 ha
        exact h.old p hp
      · rcases List.mem_append.1 hp with hp | hp
        · have := h.old p hp; omega
        · simp at hp; subst hp; simp
    have hlook : ∀ a, lookI (l ++ [(k, v, clk)]) a = if a = k then some v else lookI l a := by
      intro a
      unfold lookI
      rw [List.find?_append]
      by_cases ha : a = k
      · subst ha
        have : l.find? (fun p => p.1 == a) = none := by
          rw [List.find?_eq_none]; intro p hp; simpa using hno p hp
        simp [this]
      · have hka : (k == a) = false := by simp; exact fun e => ha e.symm
        simp [ha, hka]
    refine ⟨l ++ [(k, v, clk)], es ++ [{ key := .int kk k, val := v, born := clk }], clk + 1, fun H r => ?_, hrep, hlook, fin hrep hlook⟩
    simp only [muO, hk, cond_true]
    rw [show findA (.int kk k) es 0 = some none by rw [h.es]; exact findA_none 0 hno]
  | some w =>
    obtain ⟨j, b, hj⟩ := (look_some h.nd).1 e
    obtain ⟨hjl, hje⟩ := List.getElem?_eq_some_iff.1 hj
    have hm1 : (l.set j (k, v, b)).map (·.1) = l.map (·.1) := by
      rw [List.map_set]
      apply List.ext_getElem?
      intro i
      rw [List.getElem?_set]
      by_cases hi : j = i
      · subst hi; simp [hjl, hje]
      · simp [hi]
    have hm2 : (l.set j (k, v, b)).map (·.2.2) = l.map (·.2.2) := by
      rw [List.map_set]
      apply List.ext_getElem?
      intro i
      rw [List.getElem?_set]
      by_cases hi : j = i
      · subst hi; simp [hjl, hje]
      · simp [hi]
    have hrep : MapRep kk (l.set j (k, v, b)) (setVal es j (.int kk k) v) clk := by
      refine ⟨?_, by rw [hm1]; exact h.nd, by rw [hm2]; exact h.pw, fun p hp => ?_⟩
      · rw [h.es, setVal]
        apply List.ext_getElem?
        intro i
        simp only [IMs, List.getElem?_modify, List.getElem?_map, List.getElem?_set]
        by_cases hi : j = i
        · subst hi; simp [hjl, hje]
        · simp [hi]
      · rcases List.mem_or_eq_of_mem_set hp with hp | rfl
        · exact h.old p hp
        · exact h.old (k, w, b) (List.mem_of_getElem? hj)
    have hlook : ∀ a, lookI (l.set j (k, v, b)) a = if a = k then some v else lookI l a := by
      intro a
      by_cases ha : a = k
      · subst ha
        rw [if_pos rfl, look_some hrep.nd]
        exact ⟨j, b, by simp [hjl]⟩
      · rw [if_neg ha]
        cases e2 : lookI l a with
        | none =>
          rw [look_none] at e2 ⊢
          intro p hp
          rcases List.mem_or_eq_of_mem_set hp with hp | rfl
          · exact e2 p hp
          · exact fun e => ha e.symm
        | some u =>
          obtain ⟨i, c, hi⟩ := (look_some h.nd).1 e2
          refine (look_some hrep.nd).2 ⟨i, c, ?_⟩
          rw [List.getElem?_set, if_neg]
          · exact hi
          · rintro rfl; rw [hj] at hi; cases hi; exact ha rfl
    refine ⟨l.set j (k, v, b), setVal es j (.int kk k) v, clk, fun H r => ?_, hrep, hlook, fin hrep hlook⟩
    simp only [muO, hk, cond_true]
    rw [show findA (.int kk k) es 0 = some (some (0 + j, w)) by rw [h.es]; exact findA_some 0 j h.nd hj]
    simp
theorem len (h : MapRep kk l es clk) : es.length = l.length := by rw [h.es]; simp [IMs]
end MapRep
end Go.Ab

namespace Go.Ab
open Go
set_option linter.all false

/-- A slice that nobody else has, with its cells: nil, or a row from its head on. -/
def ownS (T : TypeId) (es : Nat) (v : Value) (cs : List Value) : SL :=
  ex fun q : Option (Nat × Nat) => match q with
    | none => lift (v = .slice none 0 0 ∧ cs = [])
    | some (m, len) => lift (v = .slice (some ⟨m, 0, none⟩) len len ∧ cs.length = len * es) * pts m (.cells cs T .opn)
theorem sat_own {H : AH} {T : TypeId} {es : Nat} {v : Value} {cs : List Value} {F : SL} : sat H (ownS T es v cs * F) ↔
    (v = .slice none 0 0 ∧ cs = [] ∧ sat H F) ∨ ∃ m len, v = .slice (some ⟨m, 0, none⟩) len len ∧ cs.length = len * es ∧ sat H (pts m (.cells cs T .opn) * F) := by
  unfold ownS
  rw [sat_exS]
  constructor
  · rintro ⟨q, h⟩
    cases q with
    | none => rw [sat_lift] at h; exact .inl ⟨h.1.1, h.1.2, h.2⟩
    | some q =>
      obtain ⟨m, len⟩ := q
      simp only at h
      rw [sep_assoc, sat_lift] at h
      exact .inr ⟨m, len, h.1.1, h.1.2, h.2⟩
  · rintro (⟨h1, h2, h3⟩ | ⟨m, len, h1, h2, h3⟩)
    · exact ⟨none, by simp only; rw [sat_lift]; exact ⟨⟨h1, h2⟩, h3⟩⟩
    · exact ⟨some (m, len), by simp only; rw [sep_assoc, sat_lift]; exact ⟨⟨h1, h2⟩, h3⟩⟩
theorem own_nil {H : AH} {F : SL} (T : TypeId) (es : Nat) (h : sat H F) : sat H (ownS T es (.slice none 0 0) [] * F) := sat_own.2 (.inl ⟨rfl, rfl, h⟩)
theorem sat_del {H : AH} {n : Nat} {o : AObj} {F : SL} (h : sat H (pts n o * F)) : sat (H.del n) F := by
  have hn := sat_get h
  obtain ⟨p, ⟨a, b, ha, hb, hd, hh⟩, r⟩ := h
  refine ⟨b, hb, fun m o' e => ?_⟩
  have hm : m ≠ n := by
    rintro rfl
    rcases hd m with e2 | e2
    · rw [ha m] at e2; simp at e2
    · rw [e] at e2; cases e2
  have hp : p m = some o' := by
    rw [hh]
    rcases hd m with e2 | e2
    · simp [e2, e]
    · rw [e] at e2; cases e2
  rw [AH.get_del, if_neg hm]
  exact r m o' hp
/-- A row's cells are appended. -/
theorem app_own {H : AH} {T : TypeId} {es bytes : Nat} {v : Value} {cs ys : List Value} {b n cap : Nat} {Tb : TypeId} {k : CK} {F : SL} (hes : 0 < es)
    (h : sat H (ownS T es v cs * (pts b (.cells ys Tb k) * F))) (hy : ys.length = n * es) (hp : ys.all plain = true) (hn : 0 < n) (hlim : (2 * (cs.length + ys.length) + 1024) * bytes ≤ 2 ^ 48) :
    ∃ v' H', appS es bytes T v (.slice (some ⟨b, 0, none⟩) n cap) H = some (v', H') ∧ sat H' (ownS T es v' (cs ++ ys) * (pts b (.cells ys Tb k) * F)) := by
  have hb : sat H (pts b (.cells ys Tb k) * (ownS T es v cs * F)) := sat_of_eq h (by ac_rfl)
  have g := (sat_get hb).1
  have hsrc : srcS es (.slice (some ⟨b, 0, none⟩) n cap) H = some (ys, n) := by
    have e1 : Nat.beq ((ys.drop 0).take (n * es)).length (n * es) = true := by rw [Nat.beq_eq]; simp [hy]
    simp only [srcS, g, e1, cond_true]
    simp [← hy]
  have hn0 : Nat.beq n 0 = false := by cases n with | zero => omega | succ n => rfl
  have hle : ∀ x, x ≤ cs.length + ys.length → Nat.ble ((2 * x + 1024) * bytes) (2 ^ 48) = true := fun x hx => by
    rw [Nat.ble_eq]
    exact Nat.le_trans (Nat.mul_le_mul_right _ (by omega)) hlim
  have hny : n ≤ ys.length := by rw [hy]; exact Nat.le_mul_of_pos_right _ hes
  rcases sat_own.1 h with ⟨rfl, rfl, h3⟩ | ⟨m, len, rfl, h2, h3⟩
  · refine ⟨_, _, by
      unfold appS
      simp only [hsrc, hp, cond_true, show Nat.beq 0 0 = true from rfl, Bool.and_self, hn0, cond_false, hle n (by omega)]
      rfl, ?_⟩
    exact sat_own.2 (.inr ⟨H.nx, n, rfl, by simpa using hy, by simpa using sat_new _ h3⟩)
  · have gm := (sat_get h3).1
    have hlen : len ≤ cs.length := by rw [h2]; exact Nat.le_mul_of_pos_right _ hes
    have e0 : Nat.ble (len + n) len = false := by
      cases hq : Nat.ble (len + n) len with
      | false => rfl
      | true => rw [Nat.ble_eq] at hq; omega
    have e1 : Nat.beq ((cs.drop 0).take (len * es)).length (len * es) = true := by rw [Nat.beq_eq]; simp [h2]
    have e2 : Nat.ble ((2 * (len + n) + 1024) * bytes) (2 ^ 48) = true := hle _ (by omega)
    have e3 : Nat.beq (0 + len * es) cs.length = true := by rw [Nat.beq_eq, h2]; simp
    have e4 : Nat.beq T T = true := Nat.beq_refl T
    have e5 : Nat.ble len len = true := by rw [Nat.ble_eq]; exact Nat.le_refl _
    refine ⟨_, _, by
      unfold appS
      simp only [hsrc, hp, cond_true, gm, e0, cond_false, e1, e2, Bool.and_self, Option.isSome_none, decide_true, Bool.not_true, Bool.or_self, e3, e4, e5]
      rfl, ?_⟩
    have hcut : (cs.drop 0).take (len * es) = cs := by rw [← h2]; simp
    rw [hcut]
    refine sat_own.2 (.inr ⟨H.nx, len + n, rfl, by rw [List.length_append, h2, hy, Nat.add_mul], ?_⟩)
    have := sat_new (.cells (cs ++ ys) T .opn) (sat_del h3)
    exact this

/-! ### rows of rows -/
theorem flat_get {s : Nat} : ∀ {rows : List (List Value)}, (∀ r ∈ rows, r.length = s) → ∀ {i j : Nat}, j < s → rows.flatten[i * s + j]? = (rows[i]?).bind (·[j]?)
  | [], _, i, j, hj => by simp
  | r :: rows, h, 0, j, hj => by
    have := h r (by simp)
    rw [List.flatten_cons, Nat.zero_mul, Nat.zero_add, List.getElem?_append_left (by omega)]
    rfl
  | r :: rows, h, i + 1, j, hj => by
    have h1 := h r (by simp)
    rw [List.flatten_cons, List.getElem?_append_right (by rw [h1, Nat.succ_mul]; omega), h1, Nat.succ_mul, show i * s + s + j - s = i * s + j by omega, flat_get (fun x hx => h x (by simp [hx])) hj]
    rfl
theorem flat_cut {s : Nat} {rows : List (List Value)} (h : ∀ r ∈ rows, r.length = s) {i : Nat} {r : List Value} (hi : rows[i]? = some r) : (rows.flatten.drop (i * s)).take s = r := by
  have hr := h r (List.mem_of_getElem? hi)
  apply List.ext_getElem?
  intro j
  by_cases hj : j < s
  · rw [List.getElem?_take, if_pos hj, List.getElem?_drop, flat_get h hj, hi]; rfl
  · rw [List.getElem?_take, if_neg hj, List.getElem?_eq_none (by omega)]
theorem flat_len {s : Nat} : ∀ {rows : List (List Value)}, (∀ r ∈ rows, r.length = s) → rows.flatten.length = rows.length * s
  | [], _ => by simp
  | r :: rows, h => by
    rw [List.flatten_cons, List.length_append, h r (by simp), flat_len (fun x hx => h x (by simp [hx])), List.length_cons, Nat.succ_mul]; omega
end Go.Ab

namespace Go.Ab
open Go
set_option linter.all false
noncomputable section

inductive FT where
  | nil
  | node (v : Option (Func × Code × Md)) (a b : FT)
def FT.get (t : FT) : Nat → Option (Func × Code × Md) :=
  FT.rec (motive := fun _ => Nat → Option (Func × Code × Md)) (fun _ => none)
    (fun v _ _ ia ib n => bif Nat.beq n 0 then v else bif Nat.beq (n % 2) 1 then ia (n / 2) else ib (n / 2 - 1)) t
def goodF (P : Program) (x : Func × Code × Md) (f : Nat) : Prop := P.funcs[f]? = some x.1 ∧ x.1.body = some x.2.1 ∧ (x.1.name == "runtime.NumGoroutine") = false
def FT.ok (P : Program) : FT → (Nat → Nat) → Prop
  | .nil, _ => True
  | .node v a b, g => (∀ x, v = some x → goodF P x (g 0)) ∧ a.ok P (fun n => g (2 * n + 1)) ∧ b.ok P (fun n => g (2 * n + 2))
theorem FT.get_ok {P : Program} : ∀ (t : FT) (g : Nat → Nat), t.ok P g → ∀ n x, t.get n = some x → goodF P x (g n)
  | .nil, g, _, n, x, h => by cases h
  | .node v a b, g, ⟨h1, h2, h3⟩, n, x, h => by
    have e : (FT.node v a b).get n = bif Nat.beq n 0 then v else bif Nat.beq (n % 2) 1 then a.get (n / 2) else b.get (n / 2 - 1) := rfl
    rw [e] at h
    simp only [beq_ite] at h
    by_cases hn : n = 0
    · subst hn; exact h1 x h
    · rw [if_neg hn] at h
      by_cases ho : n % 2 = 1
      · rw [if_pos ho] at h
        have := FT.get_ok a _ h2 _ x h
        rw [show n = 2 * (n / 2) + 1 by omega]; exact this
      · rw [if_neg ho] at h
        have := FT.get_ok b _ h3 _ x h
        rw [show n = 2 * (n / 2 - 1) + 2 by omega]; exact this
/-- Calls to a depth. -/
def lev (P : Program) (M : Ms) (t : FT) (N : Nat) : Nat → Dl
  | 0, _, _, _, _ => False
  | n + 1, f, args, H, K =>
    match t.get f with
    | some (fn, c, md) => semF P M (lev P M t N n) N md fn c args H K
    | none => False
theorem lev_sound {P : Program} {M : Ms} {t : FT} {N : Nat} (hM : MOK P M) (hmix : P.follows .mixedOrders = true) (ht : t.ok P id) : ∀ n, DSound P (lev P M t N n)
  | 0 => fun f args H K h => h.elim
  | n + 1 => level_sound (D := lev P M t N n) (lev_sound hM hmix ht n) hM hmix fun f args H K h => by
    simp only [lev] at h
    split at h
    · rename_i fn c md e
      obtain ⟨h1, h2, h3⟩ := FT.get_ok t id ht f _ e
      exact ⟨fn, c, N, md, h1, h2, h3, h⟩
    · exact h.elim

theorem DS.mono {P : Program} {f : FuncId} {args : List Value} {H : AH} {K K' : KV} (h : DS P f args H K) (hK : ∀ v H', K v H' → K' v H') : DS P f args H K' := by
  refine ⟨h.1, fun cx hP ρ w args' hR ha => (h.2 cx hP ρ w args' hR ha).mono ?_⟩
  rintro e w' ⟨v, v', H', ρ', a, b, c⟩
  exact ⟨v, v', H', ρ', a, hK _ _ b, c⟩
theorem CV.bare_eq {ρ : Ren} {v v' : Value} (h : CV ρ v v') (hb : bare v = true) : v' = v := by
  cases h <;> first | rfl | (simp [bare] at hb)
/-- A call of bare values that asks nothing of memory, and hands back a bare value: memory stays as it was. -/
theorem DS.closed {P : Program} {f : FuncId} {args : List Value} {Q : Value → Prop} (h : DS P f args ⟨.nil, P.globals.size⟩ fun v _ => Q v ∧ bare v = true) (hb : args.all bare = true) {H : AH} {K : KV} (hK : ∀ v, Q v → K v H) :
    DS P f args H K := by
  refine ⟨h.1, fun cx hP ρ w args' hR ha => ?_⟩
  have hargs := ha.bare_eq hb
  subst hargs
  let cx0 : Cx := { P := P, fr := fun b => w.heap[b]?, ro := fun b => w.heap[b]?, sub := fun _ _ h => h, os := cx.os, tape := cx.tape, output := cx.output, lo := cx.lo }
  let ρ0 : Ren := fun n => if n < P.globals.size then some ⟨n, 0, 0⟩ else none
  have hR0 : Rel cx0 ρ0 ⟨.nil, P.globals.size⟩ w := by
    refine ⟨hR.os, hR.tape, hR.output, hR.lo, fun b o e => e, fun n o e => ?_, fun n m o o' l l' _ e => ?_, fun n hn => ?_, fun g hg => ?_⟩
    · cases e
    · cases e
    · show (if n < P.globals.size then _ else _) = _
      rw [if_neg (by have : P.globals.size ≤ n := hn; omega)]
    · show (if g < P.globals.size then _ else _) = _
      rw [if_pos hg]
  refine (h.2 cx0 rfl ρ0 w args' hR0 (CVs.of_bare hb)).mono ?_
  rintro e w' ⟨v, v', H', ρ', rfl, ⟨hq, hbv⟩, -, hv, hR'⟩
  have := hv.bare_eq hbv
  subst this
  have hfr : ∀ b, b < w.heap.size → w'.heap[b]? = w.heap[b]? := fun b hb => by
    have e1 : w.heap[b]? = some w.heap[b] := by simp [hb]
    rw [hR'.frame b _ e1, e1]
  refine ⟨v', v', H, ρ, rfl, hK _ hq, Ext.refl _ _, .of_bare hbv, ?_⟩
  refine ⟨hR'.os, hR'.tape, hR'.output, hR'.lo, fun b o e => ?_, fun n o e => ?_, hR.inj, hR.fresh, hR.glob⟩
  · have e1 := hR.frame b o e
    exact hR'.frame b o e1
  · obtain ⟨l, e1, e2⟩ := hR.obj n o e
    refine ⟨l, e1, ?_⟩
    cases hr : o.rw with
    | true => exact e2.world (hfr _ (e2.lt hr))
    | false =>
      cases o with
      | map => simp [AObj.rw] at hr
      | iter => simp [AObj.rw] at hr
      | cells c T k => cases k <;> first | exact e2 | (simp [AObj.rw, CK.rw] at hr)
/-- A law's call: its arguments, bare values all. -/
theorem walk_bare {P : Program} {f : FuncId} {args : List Value} (hb : args.all bare = true) (h : DS P f args ⟨.nil, P.globals.size⟩ fun v _ => v = .bool true) (W : World) :
    Calls P f ⟨args⟩ W fun e w' => e = .returned (.bool true) ∧ Go.RowKit.Grown W w' := by
  refine calls_true (ρ := fun n => if n < P.globals.size then some ⟨n, 0, 0⟩ else none) (Rel.entry (fun n o e => by cases e) (fun n hn => ?_) fun g hg => ?_) (CVs.of_bare hb) h
  · show (if n < P.globals.size then _ else _) = _
    rw [if_neg (by have : P.globals.size ≤ n := hn; omega)]
  · show (if g < P.globals.size then _ else _) = _
    rw [if_pos hg]
end
end Go.Ab

namespace Go.Ab
open Go
set_option linter.all false

/-- A cell's value by its kind. -/
def cellOK : TypeDesc → Value → Prop
  | .bool, .bool _ => True
  | .int k, .int k' n => k' = k ∧ (Lit.int k n).wf = true
  | .string, .string s => s.size ≤ maxLen
  | _, _ => False
def cellsOK : List TypeDesc → List Value → Prop
  | [], [] => True
  | d :: ds, v :: vs => cellOK d v ∧ cellsOK ds vs
  | _, _ => False
theorem cellsOK.length : ∀ {ds vs}, cellsOK ds vs → ds.length = vs.length
  | [], [], _ => rfl
  | _ :: _, _ :: _, ⟨_, h⟩ => congrArg (· + 1) h.length
theorem cellsOK.append : ∀ {ds vs ds' vs'}, cellsOK ds vs → cellsOK ds' vs' → cellsOK (ds ++ ds') (vs ++ vs')
  | [], [], _, _, _, h => h
  | _ :: _, _ :: _, _, _, ⟨a, b⟩, h => ⟨a, b.append h⟩
/-- The cells' kinds of a type that holds no address. -/
def flatFs (P : Program) (r : TypeId → Option (List TypeDesc)) : Nat → List Field → Option (List TypeDesc)
  | _, [] => some []
  | off, f :: fs =>
    match r f.type with
    | some d => bif Nat.beq f.offset off && Nat.beq d.length (P.cellsOf f.type) then (match flatFs P r (off + d.length) fs with | some l => some (d ++ l) | none => none) else none
    | none => none
def flatF (P : Program) : Nat → TypeId → Option (List TypeDesc)
  | 0, _ => none
  | n + 1, t =>
    match P.underlying t with
    | some .bool => some [.bool]
    | some (.int k) => some [.int k]
    | some .string => some [.string]
    | some (.struct fs) =>
      match flatFs P (flatF P n) 0 fs.toList with
      | some ds => bif Nat.beq ds.length (P.cellsOf t) then some ds else none
      | none => none
    | some (.array m e) =>
      match flatF P n e with
      | some d => bif Nat.beq d.length (P.cellsOf e) && Nat.beq (m * d.length) (P.cellsOf t) then some (List.replicate m d).flatten else none
      | none => none
    | _ => none
section
variable {H : Type} {enc : TypeId × Value → H} {P : Program} {w : World} {base : Nat} {spare : Nat → Bool} {held : Bool}
theorem flatFs_sound {r : TypeId → Option (List TypeDesc)} {cs : List Value} : ∀ {fs : List Field} {off : Nat} {ds : List TypeDesc}, flatFs P r off fs = some ds →
    (∀ f ∈ fs, ∀ d, r f.type = some d → cellsOK d ((cs.drop f.offset).take (P.cellsOf f.type))) → cellsOK ds ((cs.drop off).take ds.length)
  | [], off, ds, h, _ => by rw [flatFs] at h; cases h; simp [cellsOK]
  | f :: fs, off, ds, h, hf => by
    rw [flatFs] at h
    split at h
    · rename_i d hd
      cases hc : (Nat.beq f.offset off && Nat.beq d.length (P.cellsOf f.type)) with
      | false => rw [hc] at h; cases h
      | true =>
        rw [hc, cond_true] at h
        simp only [Bool.and_eq_true, Nat.beq_eq] at hc
        obtain ⟨h1, h2⟩ := hc
        split at h
        · rename_i l hl
          cases h
          have a := hf f (by simp) d hd
          have b := flatFs_sound hl (fun g hg => hf g (by simp [hg]))
          rw [h1, ← h2] at a
          rw [List.length_append, List.take_add, List.drop_drop]
          exact a.append b
        · cases h
    · cases h
theorem flat_sound : ∀ {m : Nat} {n : Nat} {t : TypeId} {cs : List Value} {x : DataW H × List MemPlace} {ds : List TypeDesc}, flatF P m t = some ds → DataW.trod enc P w base spare held n t cs = some x → cellsOK ds cs
  | 0, n, t, cs, x, ds, h, _ => by cases h
  | m + 1, n, t, cs, x, ds, h, ht => by
    rw [flatF] at h
    split at h
    · rename_i hu
      cases h
      cases n with
      | zero => simp [DataW.trod] at ht
      | succ n =>
        unfold DataW.trod at ht
        rw [hu] at ht
        split at ht <;> simp_all [cellsOK, cellOK]
    · rename_i k hu
      cases h
      cases n with
      | zero => simp [DataW.trod] at ht
      | succ n =>
        unfold DataW.trod at ht
        rw [hu] at ht
        split at ht <;> simp_all [cellsOK, cellOK]
    · rename_i hu
      cases h
      cases n with
      | zero => simp [DataW.trod] at ht
      | succ n =>
        unfold DataW.trod at ht
        rw [hu] at ht
        split at ht <;> simp_all [cellsOK, cellOK]
    · rename_i fs hu
      split at h
      · rename_i ds' hds
        cases hc : Nat.beq ds'.length (P.cellsOf t) with
        | false => rw [hc] at h; cases h
        | true =>
          rw [hc, cond_true] at h; cases h
          rw [Nat.beq_eq] at hc
          obtain ⟨xs, n', -, -, hlen, hxl, hf⟩ := DataW.trod_struct hu ht
          have := flatFs_sound (cs := cs) hds (fun f hfm d hd => by
            obtain ⟨i, hi, hfi⟩ := List.mem_iff_getElem.1 hfm
            have e1 : fs[i]? = some f := by rw [← hfi]; simp
            have e2 := hf i f e1
            have hi' : i < xs.length := by rw [hxl]; simpa using hi
            rw [List.getElem?_eq_getElem hi'] at e2
            exact flat_sound hd e2)
          rw [hc, ← hlen] at this
          simpa using this
      · cases h
    · rename_i k e hu
      split at h
      · rename_i d hd
        cases hc : (Nat.beq d.length (P.cellsOf e) && Nat.beq (k * d.length) (P.cellsOf t)) with
        | false => rw [hc] at h; cases h
        | true =>
          rw [hc, cond_true] at h; cases h
          simp only [Bool.and_eq_true, Nat.beq_eq] at hc
          obtain ⟨h1, h2⟩ := hc
          obtain ⟨xs, n', -, -, hlen, hxl, hf⟩ := DataW.trod_array hu ht
          have key : ∀ j, j ≤ k → cellsOK (List.replicate j d).flatten (cs.take (j * d.length)) := by
            intro j
            induction j with
            | zero => intro _; simp [cellsOK]
            | succ j ih =>
              intro hj
              have e2 := hf j (by omega)
              rw [List.getElem?_eq_getElem (by omega)] at e2
              have e3 := flat_sound hd e2
              rw [← h1] at e3
              rw [List.replicate_succ', List.flatten_append, Nat.succ_mul, List.take_add]
              exact (ih (by omega)).append (by simpa using e3)
          have := key k (Nat.le_refl _)
          rw [h2, ← hlen, List.take_length] at this
          exact this
      · cases h
    · cases h
end

/-! ### what a call begins with -/
/-- Names for what came in: memory that is only read. -/
structure Imp (P : Program) (W : World) (H : AH) (ρ : Ren) : Prop where
  ro : ∀ n o, H.get n = some o → ∃ c T l C T' z, o = .cells c T .ro ∧ ρ n = some l ∧ W.heap[l.blk]? = some (.cells C T' z) ∧ CVs ρ c ((C.toList.drop l.shift).take c.length) ∧ l.extra = 0
  fresh : ∀ n, H.nx ≤ n → ρ n = none
  glob : ∀ g, g < P.globals.size → ρ g = some ⟨g, 0, 0⟩
def ren0 (P : Program) : Ren := fun n => if n < P.globals.size then some ⟨n, 0, 0⟩ else none
noncomputable def H0 (P : Program) : AH := ⟨.nil, P.globals.size⟩
theorem Imp.zero (P : Program) (W : World) : Imp P W (H0 P) (ren0 P) :=
  ⟨(fun n o e => by cases e), (fun n hn => by unfold ren0; rw [if_neg (by have : P.globals.size ≤ n := hn; omega)]), (fun g hg => by unfold ren0; rw [if_pos hg])⟩
/-- A row of cells more. -/
theorem Imp.row {P : Program} {W : World} {H : AH} {ρ : Ren} (h : Imp P W H ρ) {b off : Nat} {c : List Value} {C : Array Value} {T' : TypeId} {z : Nat × Nat} (T : TypeId) (hW : W.heap[b]? = some (.cells C T' z)) (hc : c.all bare = true)
    (he : (C.toList.drop off).take c.length = c) : Imp P W (H.new (.cells c T .ro)) (ρ.add H.nx ⟨b, off, 0⟩) ∧ ρ.le (ρ.add H.nx ⟨b, off, 0⟩) := by
  have hle : ρ.le (ρ.add H.nx ⟨b, off, 0⟩) := Ren.le_add _ (h.fresh _ (Nat.le_refl _))
  refine ⟨⟨fun n o e => ?_, fun n hn => ?_, fun g hg => hle _ _ (h.glob g hg)⟩, hle⟩
  · rw [AH.get_new] at e
    by_cases hn : n = H.nx
    · rw [if_pos hn] at e; cases e
      subst hn
      exact ⟨c, T, ⟨b, off, 0⟩, C, T', z, rfl, Ren.add_self _ _ _, hW, by rw [he]; exact CVs.of_bare hc, rfl⟩
    · rw [if_neg hn] at e
      obtain ⟨c', T', l, C', T'', z', a1, a2, a3, a4, a5⟩ := h.ro n o e
      exact ⟨c', T', l, C', T'', z', a1, hle _ _ a2, a3, a4.mono hle, a5⟩
  · unfold Ren.add
    simp at hn
    rw [if_neg (by omega)]
    exact h.fresh n (by omega)
/-- From a law's run in the abstract memory to the law's call. -/
theorem Imp.walk {P : Program} {W : World} {H : AH} {ρ : Ren} (h : Imp P W H ρ) {f : FuncId} {args args' : List Value} (ha : CVs ρ args args') (hd : DS P f args H fun v _ => v = .bool true) :
    Calls P f ⟨args'⟩ W fun e w' => e = .returned (.bool true) ∧ Go.RowKit.Grown W w' :=
  calls_true (Rel.entry h.ro h.fresh h.glob) ha hd
theorem cellOK.bare {d : TypeDesc} {v : Value} (h : cellOK d v) : bare v = true := by
  cases d <;> cases v <;> first | rfl | exact h.elim
theorem cellsOK.bare : ∀ {ds : List TypeDesc} {vs : List Value}, cellsOK ds vs → vs.all bare = true
  | [], [], _ => rfl
  | _ :: _, _ :: _, ⟨a, b⟩ => by rw [List.all_cons, a.bare, b.bare]; rfl

theorem cellOK_int {k : IntKind} {v : Value} (h : cellOK (.int k) v) : ∃ n, v = .int k n ∧ (Lit.int k n).wf = true := by
  cases v <;> first
    | (obtain ⟨rfl, h2⟩ := h; exact ⟨_, rfl, h2⟩)
    | exact h.elim
theorem cellOK_bool {v : Value} (h : cellOK .bool v) : ∃ b, v = .bool b := by
  cases v <;> first
    | exact ⟨_, rfl⟩
    | exact h.elim
theorem cellsOK_cons {d : TypeDesc} {ds : List TypeDesc} {r : List Value} (h : cellsOK (d :: ds) r) : ∃ v vs, r = v :: vs ∧ cellOK d v ∧ cellsOK ds vs := by
  cases r with
  | nil => exact h.elim
  | cons v vs => exact ⟨v, vs, rfl, h.1, h.2⟩
theorem cellsOK_nil {r : List Value} (h : cellsOK [] r) : r = [] := by
  cases r with
  | nil => rfl
  | cons v vs => exact h.elim
section
variable {H : Type} {enc : TypeId × Value → H} {P : Program} {W : World}
/-- A slice of plain elements that came in: nil, or a row of rows. -/
theorem slice_in {t e : TypeId} {ds : List TypeDesc} {v : Value} {d : DataW H} {ps : List MemPlace} {b0 : Nat} (ht : P.underlying t = some (.slice e)) (m : Nat) (hf : flatF P m e = some ds) (hsz : ds.length = P.cellsOf e)
    (hok : Value.okWide P W .any b0 t v) (h : DataW.Trod enc P W 0 (fun _ => true) true t v d ps) :
    v = .slice none 0 0 ∨ ∃ (b off len cap : Nat) (rows : List (List Value)) (C : Array Value) (T : TypeId) (z : Nat × Nat), v = .slice (some ⟨b, off, none⟩) len cap ∧ len ≤ cap ∧ cap ≤ maxLen ∧ rows.length = len ∧ (∀ r ∈ rows, cellsOK ds r) ∧
      W.heap[b]? = some (.cells C T z) ∧ (C.toList.drop off).take rows.flatten.length = rows.flatten := by
  obtain ⟨fuel, hfu⟩ := h
  obtain ⟨a0, len0, cap0, rfl⟩ := WideShapes.okWide_slice ht hok
  rcases Deep.open_slice ht hfu with ⟨hcs, -⟩ | ⟨a, len, cap, k, n, D, Pl, hcs, -, hl, hm, hk, -, hi⟩
  · left
    have : (Value.slice a0 len0 cap0).cells.toList = [.slice a0 len0 cap0] := rfl
    rw [this] at hcs
    cases hcs; rfl
  · right
    have : (Value.slice a0 len0 cap0).cells.toList = [.slice a0 len0 cap0] := rfl
    rw [this] at hcs
    obtain ⟨rfl, rfl, rfl⟩ : a0 = some a ∧ len0 = len ∧ cap0 = cap := by simpa using hcs
    simp only [if_true] at hk
    obtain rfl : cap0 = k := hk.symm
    have hhas : W.has P .any b0 a e cap0 := by
      simp only [Value.okWide, ht, Cell.okWide, Cell.ok] at hok
      exact hok.2.2
    obtain ⟨-, hsp, row, cells, hsh, -⟩ := hhas
    obtain ⟨b, off, spot⟩ := a
    simp only at hsp hsh
    subst hsp
    unfold World.shape? at hsh
    split at hsh
    · rename_i C T z hW
      have hrow : ∀ i, i < len0 → ∃ r, cellsOK ds r ∧ r.length = ds.length ∧ (C.toList.drop (off + i * ds.length)).take ds.length = r := by
        intro i hil
        obtain ⟨cs', hc, htr⟩ := hi i (by omega)
        have hok' := flat_sound hf htr
        obtain ⟨-, hlen', hat⟩ := World.cells?_some hc
        refine ⟨cs', hok', hok'.length.symm, ?_⟩
        apply List.ext_getElem?
        intro j
        by_cases hj : j < ds.length
        · have hat' := hat j (by omega)
          rw [List.getElem?_take, if_pos hj, List.getElem?_drop, ← hat']
          have ea : (({ block := b, off := off } : Addr).add (i * P.cellsOf e)).add j = ⟨b, off + i * P.cellsOf e + j, none⟩ := by
            unfold Addr.add
            split <;> split <;> simp_all
          rw [ea]
          simp [World.cell?, hW, hsz]
        · rw [List.getElem?_take, if_neg hj, List.getElem?_eq_none (by rw [hlen', ← hsz]; omega)]
      have key : ∀ k, k ≤ len0 → ∃ rows : List (List Value), rows.length = k ∧ (∀ r ∈ rows, cellsOK ds r) ∧ rows.flatten.length = k * ds.length ∧ (C.toList.drop off).take (k * ds.length) = rows.flatten := by
        intro k
        induction k with
        | zero => intro _; exact ⟨[], rfl, by simp, by simp, by simp⟩
        | succ k ih =>
          intro hk
          obtain ⟨rows, r1, r2, r3, r4⟩ := ih (by omega)
          obtain ⟨r, g1, g2, g3⟩ := hrow k (by omega)
          refine ⟨rows ++ [r], by simp [r1], fun x hx => ?_, ?_, ?_⟩
          · rcases List.mem_append.1 hx with hx | hx
            · exact r2 x hx
            · simp at hx; subst hx; exact g1
          · rw [List.flatten_append, List.length_append, r3, Nat.succ_mul]; simp [g2]
          · rw [Nat.succ_mul, List.take_add, r4, List.drop_drop, g3]; simp
      obtain ⟨rows, r1, r2, r3, r4⟩ := key len0 (Nat.le_refl _)
      exact ⟨b, off, len0, cap0, rows, C, T, z, rfl, hl, hm, r1, r2, hW, by rw [r3]; exact r4⟩
    · cases hsh
/-- What came in reads as it did behind a call that turned none of it. -/
theorem again {W' : World} (K : Kids P (· < P.types.size)) (hz : ∀ t e, t < P.types.size → P.underlying t = some (.slice e) → 0 < P.cellsOf e) (hg : Go.RowKit.Grown W W') {sp : Nat → Bool} :
    ∀ {ts : List TypeId} {vs : List Value} {ds : List (DataW H)} {ps : List MemPlace}, (∀ t ∈ ts, t < P.types.size) → DataW.TrodAll enc P W 0 (fun _ => true) true ts vs ds ps → (∀ p ∈ ps, sp p.block = true) → (∀ p ∈ ps, p.block < W.heap.size) →
      DataW.TrodAll enc P W' 0 sp true ts vs ds ps
  | [], [], [], _, _, h, _, _ => h
  | _ :: _, _ :: _, _ :: _, _, hT, ⟨p, q, ⟨n, h1⟩, h2, e⟩, hs, hl => by
    refine ⟨p, q, ⟨n, DataW.trod_stays K (fun {t e} => hz t e) (fun h => by cases h) (hT _ (by simp)) h1 (fun x hx => ?_) (fun x hx => hs x (by rw [e]; simp [hx]))⟩, again K hz hg (fun t ht => hT t (by simp [ht])) h2 (fun x hx => hs x (by rw [e]; simp [hx])) (fun x hx => hl x (by rw [e]; simp [hx])), e⟩
    exact World.keptBut.sameAt hg.1 (hl x (by rw [e]; exact List.mem_append_left _ hx)) (fun h => h) (fun b hb => by subst hb; exact DataW.trod_sound n _ _ _ h1 _ hx b rfl)
end
end Go.Ab

namespace Go.Ab
open Go
set_option linter.all false

theorem nxtAll_of {K : KV} {H : AH} {n m since clock : Nat} {seen : List Nat} : ∀ {es : List MapEntry}, (∀ e ∈ es, K (.tuple ⟨[.bool true, e.key, e.val]⟩) (H.put n (.iter (some m) since clock (seen ++ [e.born])))) → nxtAll K H n m since clock seen es
  | [], _ => trivial
  | e :: es, h => ⟨h e (by simp), nxtAll_of fun x hx => h x (by simp [hx])⟩
theorem MapRep.born_inj {kk : IntKind} {l : IL} {es : List MapEntry} {clk : Nat} (h : MapRep kk l es clk) {p q : Int × Value × Nat} (hp : p ∈ l) (hq : q ∈ l) (e : p.2.2 = q.2.2) : p = q := by
  have hpw := h.pw
  clear h
  induction l with
  | nil => cases hp
  | cons x l ih =>
    rw [List.map_cons, List.pairwise_cons] at hpw
    rcases List.mem_cons.1 hp with h1 | h1
    · rcases List.mem_cons.1 hq with h2 | h2
      · rw [h1, h2]
      · have := hpw.1 q.2.2 (List.mem_map.2 ⟨q, h2, rfl⟩); rw [h1] at e; omega
    · rcases List.mem_cons.1 hq with h2 | h2
      · have := hpw.1 p.2.2 (List.mem_map.2 ⟨p, h1, rfl⟩); rw [h2] at e; omega
      · exact ih h1 h2 hpw.2
theorem MapRep.nodup {kk : IntKind} {l : IL} {es : List MapEntry} {clk : Nat} (h : MapRep kk l es clk) : l.Nodup := by
  have := h.nd
  exact List.Pairwise.imp (fun {a b} hab e => hab (by rw [e])) (List.pairwise_map.1 this)
theorem nxt_rule {kk : IntKind} {l : IL} {es : List MapEntry} {clk : Nat} (hm : MapRep kk l es clk) {H : AH} {n m : Nat} {l1 l2 : IL} (hp : (l1 ++ l2).Perm l)
    (g1 : H.get n = some (.iter (some m) clk clk (l1.map (·.2.2)))) (g2 : H.get m = some (.map es clk)) {K : KV}
    (h0 : l2 = [] → K (.tuple ⟨[.bool false]⟩) H)
    (h1 : ∀ p s t, l2 = s ++ p :: t → K (.tuple ⟨[.bool true, .int kk p.1, p.2.1]⟩) (H.put n (.iter (some m) clk clk ((l1 ++ [p]).map (·.2.2))))) : nxt H (.pointer (some ⟨n, 0, none⟩)) K := by
  have hnd : (l1 ++ l2).Nodup := hp.nodup_iff.2 hm.nodup
  have hes : es.all (fun e => Nat.blt e.born clk) = true := by
    rw [List.all_eq_true]
    intro e he
    rw [hm.es] at he
    obtain ⟨p, hpl, rfl⟩ := List.mem_map.1 he
    have := hm.old p hpl
    simp only [Nat.blt_eq]; exact this
  have hble : Nat.ble clk clk = true := by rw [Nat.ble_eq]; exact Nat.le_refl _
  unfold nxt
  simp only [g1, g2, hble, hes, Bool.and_self, cond_true]
  have hseen : ∀ p ∈ l, ((l1.map (·.2.2)).any fun b => Nat.beq b p.2.2) = true ↔ p ∈ l1 := by
    intro p hpl
    rw [List.any_eq_true]
    constructor
    · rintro ⟨b, hb, e⟩
      obtain ⟨q, hq, rfl⟩ := List.mem_map.1 hb
      rw [Nat.beq_eq] at e
      have hql : q ∈ l := hp.mem_iff.1 (List.mem_append_left _ hq)
      have := hm.born_inj hql hpl e
      rw [← this]; exact hq
    · intro h
      exact ⟨p.2.2, List.mem_map.2 ⟨p, h, rfl⟩, by rw [Nat.beq_eq]⟩
  have hmem : ∀ e, e ∈ es.filter (fun e => !((l1.map (·.2.2)).any fun b => Nat.beq b e.born)) → ∃ p ∈ l2, e = { key := .int kk p.1, val := p.2.1, born := p.2.2 } := by
    intro e he
    rw [List.mem_filter] at he
    obtain ⟨he1, he2⟩ := he
    rw [hm.es] at he1
    obtain ⟨p, hpl, rfl⟩ := List.mem_map.1 he1
    refine ⟨p, ?_, rfl⟩
    rcases List.mem_append.1 (hp.mem_iff.2 hpl) with h | h
    · have := (hseen p hpl).2 h
      simp only [this, Bool.not_true] at he2
      cases he2
    · exact h
  revert hmem
  cases hf : es.filter (fun e => !((l1.map (·.2.2)).any fun b => Nat.beq b e.born)) with
  | nil =>
    intro _
    apply h0
    cases l2 with
    | nil => rfl
    | cons p t =>
      exfalso
      have hpl : p ∈ l := hp.mem_iff.1 (by simp)
      have hn1 : p ∉ l1 := by
        intro hh
        have := (List.nodup_append.1 hnd).2.2 p hh p (by simp)
        exact this rfl
      have hmemf : ({ key := .int kk p.1, val := p.2.1, born := p.2.2 } : MapEntry) ∈ es.filter (fun e => !((l1.map (·.2.2)).any fun b => Nat.beq b e.born)) := by
        rw [List.mem_filter]
        refine ⟨by rw [hm.es]; exact List.mem_map.2 ⟨p, hpl, rfl⟩, ?_⟩
        cases hq : ((l1.map (·.2.2)).any fun b => Nat.beq b p.2.2) with
        | false => rfl
        | true => exact absurd ((hseen p hpl).1 hq) hn1
      rw [hf] at hmemf
      cases hmemf
  | cons e0 r =>
    intro hmem
    refine nxtAll_of fun e he => ?_
    obtain ⟨p, hp2, rfl⟩ := hmem e he
    obtain ⟨s, t, rfl⟩ := List.append_of_mem hp2
    have := h1 p s t rfl
    rw [List.map_append] at this
    exact this
theorem find_born {kk : IntKind} {l : IL} (hpw : (l.map (·.2.2)).Pairwise (· < ·)) {p : Int × Value × Nat} (hp : p ∈ l) : (IMs kk l).find? (fun e => Nat.beq e.born p.2.2) = some { key := .int kk p.1, val := p.2.1, born := p.2.2 } := by
  induction l with
  | nil => cases hp
  | cons x l ih =>
    rw [List.map_cons, List.pairwise_cons] at hpw
    show List.find? _ ({ key := .int kk x.1, val := x.2.1, born := x.2.2 } :: IMs kk l) = _
    rw [List.find?_cons]
    rcases List.mem_cons.1 hp with rfl | hp
    · have : Nat.beq p.2.2 p.2.2 = true := by rw [Nat.beq_eq]
      simp only [this]
    · have h := hpw.1 p.2.2 (List.mem_map.2 ⟨p, hp, rfl⟩)
      have : Nat.beq x.2.2 p.2.2 = false := by
        cases hq : Nat.beq x.2.2 p.2.2 with
        | false => rfl
        | true => rw [Nat.beq_eq] at hq; omega
      simp only [this]
      exact ih hpw.2 hp
theorem ent_rule {kk : IntKind} {l : IL} {es : List MapEntry} {clk : Nat} (hm : MapRep kk l es clk) {H : AH} {n m : Nat} {l1 : IL} {p : Int × Value × Nat} (hp : p ∈ l)
    (g1 : H.get n = some (.iter (some m) clk clk ((l1 ++ [p]).map (·.2.2)))) (g2 : H.get m = some (.map es clk)) : entS (.pointer (some ⟨n, 0, none⟩)) H = some (.tuple ⟨[.int kk p.1, p.2.1]⟩) := by
  have hb : Nat.beq clk clk = true := by rw [Nat.beq_eq]
  have hl : ((l1 ++ [p]).map (·.2.2)).getLast? = some p.2.2 := by simp
  have hf := find_born (kk := kk) hm.pw hp
  rw [← hm.es] at hf
  unfold entS
  simp only [g1, g2, hb, cond_true, hl, hf]
theorem rngM_some {H : AH} {m : Nat} {es : List MapEntry} {clk : Nat} {K : KV} (g : H.get m = some (.map es clk)) (h : K (.pointer (some ⟨H.nx, 0, none⟩)) (H.new (.iter (some m) clk clk []))) : rngM H (.map (some m)) K := by
  unfold rngM
  simp only [g]
  exact h
theorem zrow_len (z : List Value) : ∀ n, (zrow z n).length = n * z.length
  | 0 => by simp [zrow]
  | n + 1 => by rw [zrow, List.length_append, zrow_len z n, Nat.succ_mul]; omega
theorem mkS_ok {z : List Value} {T : TypeId} {bytes n : Nat} (hn : bytes * n ≤ 2 ^ 48) (hn2 : n ≤ 2 ^ 47) : mkS z T bytes (.int .i64 0) (.int .i64 (n : Int)) = some (.cells (zrow z n) T .fix, rowTo 0 n) := by
  have e1 : decide ((0 : Int) ≤ 0) = true := rfl
  have e2 : decide ((0 : Int) ≤ (n : Int)) = true := by simp
  have e3 : decide ((n : Int) ≤ 2 ^ 47) = true := by simp only [decide_eq_true_eq]; have : ((2 : Int) ^ 47) = ((2 ^ 47 : Nat) : Int) := by norm_cast
                                                     omega
  have e4 : Nat.ble (bytes * n) (2 ^ 48) = true := by rw [Nat.ble_eq]; exact hn
  unfold mkS
  simp only [e1, e2, e3, e4, Bool.and_self, Bool.true_and, cond_true, Int.toNat_natCast]
  rfl
end Go.Ab

namespace Go.Ab
open Go
set_option linter.all false

def RS :=
  And.intro @bn_some <|
  And.intro @bn2_some <|
  And.intro @bnA_some <|
  And.intro @cnd_true <|
  And.intro @cnd_false <|
  And.intro @gdD_tt <|
  And.intro @gdD_tf <|
  And.intro @gdD_ft <|
  And.intro @gdD_ff <|
  And.intro @gd_skip <|
  And.intro @skV_skip <|
  And.intro @undef_eq <|
  And.intro @gd_tt <|
  And.intro @gd_tf <|
  And.intro @gd_ft <|
  And.intro @gd_ff <|
  And.intro @pk_true <|
  And.intro @pk_false <|
  And.intro @pickS_true <|
  And.intro @pickS_false <|
  And.intro @callV_fv <|
  And.intro @same_refl <|
  And.intro @pnil_ptr <|
  And.intro @pnil_iface <|
  And.intro @pnil_fun <|
  And.intro @fa_ptr <|
  And.intro @fld1_agg <|
  And.intro @fldN_agg <|
  And.intro @extr_tuple <|
  And.intro @binT_eql_int <|
  And.intro @binT_neq_int <|
  And.intro @binT_lss_int <|
  And.intro @binT_leq_int <|
  And.intro @binT_gtr_int <|
  And.intro @binT_geq_int <|
  And.intro @binT_add_int <|
  And.intro @binT_sub_int <|
  And.intro @binT_mul_int <|
  And.intro @binT_and_int <|
  And.intro @binT_or_int <|
  And.intro @binT_andNot_int <|
  And.intro @binT_xor_int <|
  And.intro @binT_eql_bool <|
  And.intro @binT_neq_bool <|
  And.intro @binT_eql_ptr <|
  And.intro @binT_neq_ptr <|
  And.intro @binT_eql_map <|
  And.intro @binT_neq_map <|
  And.intro @binT_eql_slc <|
  And.intro @binT_neq_slc <|
  And.intro @binT_eql_agg <|
  And.intro @binT_neq_agg <|
  And.intro @unS_not <|
  And.intro @unS_neg <|
  And.intro @unS_xor <|
  And.intro @convS_int <|
  And.intro @lenT_slice <|
  And.intro @lenT_string <|
  And.intro @minT_int <|
  And.intro @maxT_int <|
  And.intro @mapT_int <|
  And.intro @ptrTo_eq <|
  And.intro @rowTo_eq <|
  And.intro @mapTo_eq <|
  And.intro @put_res <|
  And.intro @AH.nx_put <|
  And.intro @AH.nx_new <|
  And.intro @AH.nx_res <|
  And.intro @ld1_ptr <|
  And.intro @ldN_ptr <|
  And.intro @stT_ptr <|
  And.intro @cellO_cells <|
  And.intro @lkT_some <|
  And.intro @muT_some <|
  And.intro @delT_some <|
  And.intro @lenT_map_some <|
  And.intro @lenT_map_none <|
  And.intro @lkT_none <|
  And.intro @lkT_none_ok <|
  And.intro @delT_none <|
  And.intro @cellsL_int <|
  And.intro @cellsL_bool <|
  And.intro @cellsL_str <|
  And.intro @cellsL_ptr <|
  And.intro @cellsL_slice <|
  And.intro @cellsL_map <|
  And.intro @cellsL_nilFunc <|
  And.intro @cellsL_func <|
  And.intro @cellsL_nilIface <|
  And.intro @cellsL_iface <|
  And.intro @cellsL_agg <|
  And.intro @plain_int <|
  And.intro @plain_bool <|
  And.intro @plain_str <|
  And.intro @plain_ptr <|
  And.intro @plain_slice <|
  And.intro @plain_map <|
  And.intro @plain_nilFunc <|
  And.intro @plain_func <|
  And.intro @plain_nilIface <|
  And.intro @plain_iface <|
  And.intro @rw_fix <|
  And.intro @rw_opn <|
  And.intro @stO_cells <|
  And.intro @splice_zero <|
  And.intro @splice_nil <|
  And.intro @splice_succ <|
  And.intro @fillA_nil <|
  And.intro @fillA_cons <|
  And.intro @buildT_eq <|
  And.intro @aggO_some <|
  And.intro @boxT_eq <|
  And.intro @bslT_eq <|
  And.intro @rowO_some <|
  @cellsO_cells
end Go.Ab

namespace Go.Ab
open Go
set_option linter.all false

/-- A slice of plain rows that came in, named. -/
theorem Imp.slice {P : Program} {W : World} {H : AH} {ρ : Ren} (h : Imp P W H ρ) {ds : List TypeDesc} {v : Value} (T : TypeId)
    (hv : v = .slice none 0 0 ∨ ∃ (b off len cap : Nat) (rows : List (List Value)) (C : Array Value) (T : TypeId) (z : Nat × Nat), v = .slice (some ⟨b, off, none⟩) len cap ∧ len ≤ cap ∧ cap ≤ maxLen ∧ rows.length = len ∧ (∀ r ∈ rows, cellsOK ds r) ∧
      W.heap[b]? = some (.cells C T z) ∧ (C.toList.drop off).take rows.flatten.length = rows.flatten) :
    ∃ (H' : AH) (ρ' : Ren) (arg : Value) (rows : List (List Value)) (B : SL), Imp P W H' ρ' ∧ ρ.le ρ' ∧ CV ρ' arg v ∧ (∀ r ∈ rows, cellsOK ds r) ∧ (∀ A, sat H A → sat H' (B * A)) ∧
      ((arg = .slice none 0 0 ∧ rows = [] ∧ B = emp) ∨ ∃ g cap, arg = .slice (some ⟨g, 0, none⟩) rows.length cap ∧ B = pts g (.cells rows.flatten T .ro)) := by
  rcases hv with rfl | ⟨b, off, len, cap, rows, C, T1, z, rfl, h1, h2, h3, h4, h5, h6⟩
  · exact ⟨H, ρ, .slice none 0 0, [], emp, h, fun _ _ e => e, .sliceNil 0 0, by simp, fun A hA => by rw [emp_sep]; exact hA, .inl ⟨rfl, rfl, rfl⟩⟩
  · have hb : rows.flatten.all bare = true := by
      rw [List.all_eq_true]
      intro x hx
      obtain ⟨r, hr, hx⟩ := List.mem_flatten.1 hx
      exact List.all_eq_true.1 (h4 r hr).bare x hx
    obtain ⟨hi, hle⟩ := h.row (c := rows.flatten) T h5 hb h6
    subst h3
    refine ⟨_, _, .slice (some ⟨H.nx, 0, none⟩) rows.length cap, rows, pts H.nx (.cells rows.flatten T .ro), hi, hle, ?_, h4, fun A hA => sat_new _ hA, .inr ⟨_, _, rfl, rfl⟩⟩
    have := CV.slice (ρ := ρ.add H.nx ⟨b, off, 0⟩) (n := H.nx) (off := 0) (len := rows.length) (cap := cap) (Ren.add_self _ _ _)
    exact this
end Go.Ab

namespace Go.Ab
open Go
set_option linter.all false

def bigS {β : Type} (g : β → SL) : List β → SL
  | [] => emp
  | x :: l => g x * bigS g l
theorem bigS_nil {β : Type} (g : β → SL) : bigS g [] = emp := rfl
theorem bigS_cons {β : Type} (g : β → SL) (x : β) (l : List β) : bigS g (x :: l) = g x * bigS g l := rfl
theorem bigS_append {β : Type} (g : β → SL) : ∀ a b : List β, bigS g (a ++ b) = bigS g a * bigS g b
  | [], b => (emp_sep _).symm
  | x :: a, b => by rw [List.cons_append, bigS_cons, bigS_cons, bigS_append g a b, sep_assoc]
theorem bigS_perm {β : Type} {g : β → SL} {l l' : List β} (h : l.Perm l') : bigS g l = bigS g l' := by
  induction h with
  | nil => rfl
  | cons x _ ih => rw [bigS_cons, bigS_cons, ih]
  | swap x y l => simp only [bigS_cons]; exact sep_left_comm _ _ _
  | trans _ _ a b => exact a.trans b
theorem bigS_congr {β : Type} {g g' : β → SL} : ∀ {l : List β}, (∀ x ∈ l, g x = g' x) → bigS g l = bigS g' l
  | [], _ => rfl
  | x :: l, h => by rw [bigS_cons, bigS_cons, h x (by simp), bigS_congr fun y hy => h y (by simp [hy])]

abbrev KVL := List (Int × Value)
def kv (l : IL) : KVL := l.map fun p => (p.1, p.2.1)
def oth (l : KVL) (k : Int) : KVL := l.filter fun p => p.1 != k
theorem mem_kv {l : IL} (h : (l.map (·.1)).Nodup) {p : Int × Value} : p ∈ kv l ↔ lookI l p.1 = some p.2 := by
  rw [look_some h]
  unfold kv
  rw [List.mem_map]
  constructor
  · rintro ⟨q, hq, rfl⟩
    obtain ⟨j, hj⟩ := List.mem_iff_getElem?.1 hq
    exact ⟨j, q.2.2, hj⟩
  · rintro ⟨j, b, hj⟩
    exact ⟨_, List.mem_of_getElem? hj, rfl⟩
theorem kv_nodup {l : IL} (h : (l.map (·.1)).Nodup) : (kv l).Nodup := by
  have : (l.map (·.1)).Pairwise (· ≠ ·) := h
  rw [List.pairwise_map] at this
  unfold kv
  show List.Pairwise (· ≠ ·) _
  rw [List.pairwise_map]
  exact this.imp fun hab e => hab (by simpa using congrArg (fun q : Int × Value => q.1) e)
theorem mem_oth {l : KVL} {k : Int} {p : Int × Value} : p ∈ oth l k ↔ p ∈ l ∧ p.1 ≠ k := by
  unfold oth
  rw [List.mem_filter]
  simp
theorem kv_split {l : IL} (h : (l.map (·.1)).Nodup) {k : Int} {v : Value} (e : lookI l k = some v) : (kv l).Perm ((k, v) :: oth (kv l) k) := by
  refine (List.perm_ext_iff_of_nodup (kv_nodup h) ?_).2 fun p => ?_
  · rw [List.nodup_cons]
    exact ⟨fun hm => (mem_oth.1 hm).2 rfl, (kv_nodup h).sublist List.filter_sublist⟩
  · rw [List.mem_cons, mem_oth]
    constructor
    · intro hp
      by_cases hk : p.1 = k
      · rw [mem_kv h, hk, e] at hp
        cases hp
        exact .inl (Prod.ext hk rfl)
      · exact .inr ⟨hp, hk⟩
    · rintro (rfl | hp)
      · exact (mem_kv h).2 e
      · exact hp.1
theorem kv_mu {l l' : IL} (h : (l.map (·.1)).Nodup) (h' : (l'.map (·.1)).Nodup) {k : Int} {v : Value} (e : ∀ a, lookI l' a = if a = k then some v else lookI l a) : (kv l').Perm ((k, v) :: oth (kv l) k) := by
  refine (List.perm_ext_iff_of_nodup (kv_nodup h') ?_).2 fun p => ?_
  · rw [List.nodup_cons]
    exact ⟨fun hm => (mem_oth.1 hm).2 rfl, (kv_nodup h).sublist List.filter_sublist⟩
  · rw [List.mem_cons, mem_oth, mem_kv h', mem_kv h, e]
    by_cases hk : p.1 = k
    · rw [if_pos hk]
      constructor
      · intro hp; cases hp; exact .inl (Prod.ext hk rfl)
      · rintro (rfl | hp)
        · rfl
        · exact absurd hk hp.2
    · rw [if_neg hk]
      constructor
      · intro hp; exact .inr ⟨hp, hk⟩
      · rintro (rfl | hp)
        · exact absurd rfl hk
        · exact hp.1
theorem kv_del {l l' : IL} (h : (l.map (·.1)).Nodup) (h' : (l'.map (·.1)).Nodup) {k : Int} (e : ∀ a, lookI l' a = if a = k then none else lookI l a) : (kv l').Perm (oth (kv l) k) := by
  refine (List.perm_ext_iff_of_nodup (kv_nodup h') ((kv_nodup h).sublist List.filter_sublist)).2 fun p => ?_
  show p ∈ kv l' ↔ p ∈ oth (kv l) k
  rw [mem_oth, mem_kv h', mem_kv h, e]
  by_cases hk : p.1 = k
  · simp [hk]
  · simp [hk]
theorem kv_oth {l : IL} {k : Int} (e : lookI l k = none) : oth (kv l) k = kv l := by
  unfold oth
  rw [List.filter_eq_self]
  intro p hp
  obtain ⟨q, hq, rfl⟩ := List.mem_map.1 hp
  simpa using look_none.1 e q hq

variable {α : Type} {kk : IntKind} {m : Nat} {D : Int → Option α} {f : Int → α → Value → SL} {H : AH} {F : SL} {k : Int}
def entA (D : Int → Option α) (f : Int → α → Value → SL) (p : Int × Value) : SL := ex fun x => lift (D p.1 = some x) * f p.1 x p.2
def domA (D : Int → Option α) (l : IL) : Prop := ∀ a, (lookI l a).isSome = (D a).isSome
def mapA (kk : IntKind) (m : Nat) (D : Int → Option α) (f : Int → α → Value → SL) : SL :=
  ex fun q : IL × List MapEntry × Nat => lift (MapRep kk q.1 q.2.1 q.2.2 ∧ domA D q.1) * (pts m (.map q.2.1 q.2.2) * bigS (entA D f) (kv q.1))
/-- The same but for what one key's value leads to. -/
def mapX (kk : IntKind) (m : Nat) (D : Int → Option α) (f : Int → α → Value → SL) (k : Int) (v : Value) : SL :=
  ex fun q : IL × List MapEntry × Nat => lift (MapRep kk q.1 q.2.1 q.2.2 ∧ domA D q.1 ∧ lookI q.1 k = some v) * (pts m (.map q.2.1 q.2.2) * bigS (entA D f) (oth (kv q.1) k))
theorem sat_mapA : sat H (mapA kk m D f * F) ↔ ∃ l es clk, MapRep kk l es clk ∧ domA D l ∧ sat H (pts m (.map es clk) * (bigS (entA D f) (kv l) * F)) := by
  unfold mapA
  rw [sat_exS]
  constructor
  · rintro ⟨q, h⟩
    rw [sep_assoc, sat_lift, sep_assoc] at h
    exact ⟨_, _, _, h.1.1, h.1.2, h.2⟩
  · rintro ⟨l, es, clk, h1, h2, h3⟩
    refine ⟨(l, es, clk), ?_⟩
    rw [sep_assoc, sat_lift, sep_assoc]
    exact ⟨⟨h1, h2⟩, h3⟩
theorem sat_mapX {v : Value} : sat H (mapX kk m D f k v * F) ↔ ∃ l es clk, MapRep kk l es clk ∧ domA D l ∧ lookI l k = some v ∧ sat H (pts m (.map es clk) * (bigS (entA D f) (oth (kv l) k) * F)) := by
  unfold mapX
  rw [sat_exS]
  constructor
  · rintro ⟨q, h⟩
    rw [sep_assoc, sat_lift, sep_assoc] at h
    exact ⟨_, _, _, h.1.1, h.1.2.1, h.1.2.2, h.2⟩
  · rintro ⟨l, es, clk, h1, h2, h3, h4⟩
    refine ⟨(l, es, clk), ?_⟩
    rw [sep_assoc, sat_lift, sep_assoc]
    exact ⟨⟨h1, h2, h3⟩, h4⟩
theorem sat_entA {p : Int × Value} : sat H (entA D f p * F) ↔ ∃ x, D p.1 = some x ∧ sat H (f p.1 x p.2 * F) := by
  unfold entA
  rw [sat_exS]
  constructor
  · rintro ⟨x, h⟩
    rw [sep_assoc, sat_lift] at h
    exact ⟨x, h⟩
  · rintro ⟨x, h⟩
    refine ⟨x, ?_⟩
    rw [sep_assoc, sat_lift]
    exact h
theorem map_open {x : α} (h : sat H (mapA kk m D f * F)) (hx : D k = some x) : ∃ v, sat H (f k x v * (mapX kk m D f k v * F)) := by
  obtain ⟨l, es, clk, h1, h2, h3⟩ := sat_mapA.1 h
  obtain ⟨v, hv⟩ := Option.isSome_iff_exists.1 ((h2 k).trans (by rw [hx]; rfl))
  rw [bigS_perm (kv_split h1.nd hv), bigS_cons] at h3
  have h4 : sat H (entA D f (k, v) * (pts m (.map es clk) * (bigS (entA D f) (oth (kv l) k) * F))) := sat_of_eq h3 (by ac_rfl)
  obtain ⟨x', e, h5⟩ := sat_entA.1 h4
  have e : D k = some x' := e
  rw [hx] at e; cases e
  exact ⟨v, sat_of_eq ((sep_left_comm (mapX kk m D f k v) (f k x v) F) ▸ sat_mapX.2 ⟨l, es, clk, h1, h2, hv, sat_of_eq h5 (by ac_rfl)⟩) rfl⟩
theorem upd_self {β : Type} (g : Int → β) (k : Int) (x : β) : upd g k x k = x := by simp [upd]
theorem upd_ne {β : Type} (g : Int → β) {k a : Int} (x : β) (h : a ≠ k) : upd g k x a = g a := by simp [upd, h]
theorem upd_id {β : Type} (g : Int → β) {k : Int} {x : β} (h : g k = x) : upd g k x = g := by
  funext a
  by_cases ha : a = k
  · subst ha; rw [upd_self, h]
  · rw [upd_ne g x ha]
theorem oth_congr {D' : Int → Option α} (hD : ∀ a, a ≠ k → D' a = D a) (l : KVL) : bigS (entA D f) (oth l k) = bigS (entA D' f) (oth l k) :=
  bigS_congr fun p hp => by unfold entA; rw [hD p.1 (mem_oth.1 hp).2]
theorem map_close {x : α} {v : Value} (h : sat H (f k x v * (mapX kk m D f k v * F))) : sat H (mapA kk m (upd D k (some x)) f * F) := by
  obtain ⟨l, es, clk, h1, h2, h3, h4⟩ := sat_mapX.1 (sep_left_comm (f k x v) (mapX kk m D f k v) F ▸ h)
  refine sat_mapA.2 ⟨l, es, clk, h1, fun a => ?_, ?_⟩
  · by_cases ha : a = k
    · subst ha; rw [h3, upd_self]; rfl
    · rw [upd_ne D _ ha]; exact h2 a
  · rw [bigS_perm (kv_split h1.nd h3), bigS_cons]
    have h5 : sat H (f k x v * (pts m (.map es clk) * (bigS (entA D f) (oth (kv l) k) * F))) := sat_of_eq h4 (by ac_rfl)
    rw [oth_congr (D' := upd D k (some x)) (fun a ha => upd_ne D _ ha)] at h5
    exact sat_of_eq (sat_entA (p := (k, v)) (D := upd D k (some x)) (f := f).2 ⟨x, upd_self D k _, h5⟩) (by ac_rfl)
theorem map_close' {x : α} {v : Value} (h : sat H (f k x v * (mapX kk m D f k v * F))) (hx : D k = some x) : sat H (mapA kk m D f * F) := by
  have := map_close h
  rwa [upd_id D hx] at this
theorem map_look_none (h : sat H (mapA kk m D f * F)) (hx : D k = none) (z : Value) (ok : Bool) : lkO (.int kk) z ok (.int kk k) (H.get m) = some (lkV z ok none) := by
  obtain ⟨l, es, clk, h1, h2, h3⟩ := sat_mapA.1 h
  have hl : lookI l k = none := by
    have := h2 k
    rw [hx] at this
    cases e : lookI l k with
    | none => rfl
    | some v => rw [e] at this; cases this
  rw [(sat_get h3).1, h1.lk, hl]
theorem map_look_some {v : Value} (h : sat H (mapX kk m D f k v * F)) (z : Value) (ok : Bool) : lkO (.int kk) z ok (.int kk k) (H.get m) = some (lkV z ok (some v)) := by
  obtain ⟨l, es, clk, h1, h2, h3, h4⟩ := sat_mapX.1 h
  rw [(sat_get h4).1, h1.lk, h3]
theorem map_len (h : sat H (mapA kk m D f * F)) : ∃ n : Nat, lenO (H.get m) = some (.int .i64 n) ∧ (n = 0 ↔ ∀ a, D a = none) := by
  obtain ⟨l, es, clk, h1, h2, h3⟩ := sat_mapA.1 h
  refine ⟨es.length, by rw [(sat_get h3).1]; rfl, ?_⟩
  rw [h1.len]
  constructor
  · intro e a
    have hl : l = [] := List.length_eq_zero_iff.1 e
    subst hl
    have := h2 a
    cases hd : D a with
    | none => rfl
    | some x => rw [hd] at this; cases this
  · intro hd
    cases l with
    | nil => rfl
    | cons p l =>
      have := h2 p.1
      rw [hd p.1] at this
      have e : lookI (p :: l) p.1 = some p.2.1 := by simp [lookI]
      rw [e] at this; cases this
theorem map_set {x : α} {v : Value} (h : sat H (mapA kk m D f * (f k x v * F))) : ∃ H', muO m (.int kk) (.int kk k) v H (H.get m) = some (.tuple ⟨[]⟩, H') ∧ sat H' (mapA kk m (upd D k (some x)) f * F) := by
  obtain ⟨l, es, clk, h1, h2, h3⟩ := sat_mapA.1 h
  obtain ⟨l', es', clk', q1, q2, q3, q4⟩ := h1.mu k v
  refine ⟨H.put m (.map es' clk'), by rw [(sat_get h3).1]; exact q1 H m, ?_⟩
  have h4 := sat_put (.map es' clk') h3
  refine sat_mapA.2 ⟨l', es', clk', q2, fun a => ?_, ?_⟩
  · rw [q3]
    by_cases ha : a = k
    · subst ha; rw [if_pos rfl, upd_self]; rfl
    · rw [if_neg ha, upd_ne D _ ha]; exact h2 a
  · rw [bigS_perm (kv_mu h1.nd q2.nd q3), bigS_cons]
    have h5 : sat (H.put m (.map es' clk')) (f k x v * (pts m (.map es' clk') * (bigS (entA D f) (oth (kv l) k) * F))) := by
      cases hl : lookI l k with
      | none => rw [kv_oth hl]; exact sat_of_eq h4 (by ac_rfl)
      | some u =>
        rw [bigS_perm (kv_split h1.nd hl), bigS_cons] at h4
        exact sat_sub (A := entA D f (k, u)) (sat_of_eq h4 (by ac_rfl))
    rw [oth_congr (D' := upd D k (some x)) (fun a ha => upd_ne D _ ha)] at h5
    exact sat_of_eq (sat_entA (p := (k, v)) (D := upd D k (some x)) (f := f).2 ⟨x, upd_self D k _, h5⟩) (by ac_rfl)
theorem map_del (h : sat H (mapA kk m D f * F)) : ∃ H', delO m (.int kk) (.int kk k) H (H.get m) = some (.tuple ⟨[]⟩, H') ∧ sat H' (mapA kk m (upd D k none) f * F) := by
  obtain ⟨l, es, clk, h1, h2, h3⟩ := sat_mapA.1 h
  obtain ⟨l', es', q1, q2, q3, q4⟩ := h1.del k
  refine ⟨H.put m (.map es' clk), by rw [(sat_get h3).1]; exact q1 H m, ?_⟩
  have h4 := sat_put (.map es' clk) h3
  refine sat_mapA.2 ⟨l', es', clk, q2, fun a => ?_, ?_⟩
  · rw [q3]
    by_cases ha : a = k
    · subst ha; rw [if_pos rfl, upd_self]; rfl
    · rw [if_neg ha, upd_ne D _ ha]; exact h2 a
  · rw [bigS_perm (kv_del h1.nd q2.nd q3)]
    have h5 : sat (H.put m (.map es' clk)) (pts m (.map es' clk) * (bigS (entA D f) (oth (kv l) k) * F)) := by
      cases hl : lookI l k with
      | none => rw [kv_oth hl]; exact h4
      | some u =>
        rw [bigS_perm (kv_split h1.nd hl), bigS_cons] at h4
        exact sat_sub (A := entA D f (k, u)) (sat_of_eq h4 (by ac_rfl))
    rw [oth_congr (D' := upd D k none) (fun a ha => upd_ne D _ ha)] at h5
    exact h5
theorem map_empty {n : Nat} (h : sat H (pts n (.map [] 0) * F)) : sat H (mapA kk n (fun _ => (none : Option α)) f * F) := by
  refine sat_mapA.2 ⟨[], [], 0, .empty, fun a => rfl, ?_⟩
  show sat H (pts n _ * (emp * F))
  rw [emp_sep]; exact h
/-- A map without owned entries: what it tells. -/
theorem map_look {z : Value} {ok : Bool} (h : sat H (mapA kk m D f * F)) : ∃ o : Option Value, lkO (.int kk) z ok (.int kk k) (H.get m) = some (lkV z ok o) ∧ ((o = none ∧ D k = none) ∨ ∃ v x, o = some v ∧ D k = some x ∧ sat H (f k x v * (mapX kk m D f k v * F))) := by
  cases hd : D k with
  | none => exact ⟨none, map_look_none h hd z ok, .inl ⟨rfl, rfl⟩⟩
  | some x =>
    obtain ⟨v, hv⟩ := map_open h hd
    exact ⟨some v, map_look_some (sep_left_comm (f k x v) (mapX kk m D f k v) F ▸ hv) z ok, .inr ⟨v, x, rfl, rfl, hv⟩⟩
end Go.Ab

namespace Go.Ab
open Go
set_option linter.all false

noncomputable def H0G (P : Program) : List (Nat × List Value) → AH
  | [] => H0 P
  | p :: G => (H0G P G).put p.1 (.cells p.2 0 .ro)
theorem H0G_get {P : Program} : ∀ {G : List (Nat × List Value)} {n : Nat} {o : AObj}, (H0G P G).get n = some o → ∃ p ∈ G, n = p.1 ∧ o = .cells p.2 0 .ro
  | [], n, o, h => by cases h
  | p :: G, n, o, h => by
    rw [H0G, AH.get_put] at h
    by_cases hn : n = p.1
    · rw [if_pos hn] at h; cases h; exact ⟨p, by simp, hn, rfl⟩
    · rw [if_neg hn] at h
      obtain ⟨q, hq, e⟩ := H0G_get h
      exact ⟨q, by simp [hq], e⟩
theorem H0G_nx {P : Program} : ∀ G : List (Nat × List Value), (H0G P G).nx = P.globals.size
  | [] => rfl
  | p :: G => by rw [H0G, AH.nx_put, H0G_nx G]
theorem H0G_has {P : Program} : ∀ {G : List (Nat × List Value)} {p : Nat × List Value}, (G.map (·.1)).Nodup → p ∈ G → (H0G P G).get p.1 = some (.cells p.2 0 .ro)
  | q :: G, p, hn, hp => by
    rw [List.map_cons, List.nodup_cons] at hn
    rw [H0G, AH.get_put]
    rcases List.mem_cons.1 hp with rfl | hp
    · rw [if_pos rfl]
    · rw [if_neg fun e => hn.1 (List.mem_map.2 ⟨p, hp, e⟩)]
      exact H0G_has hn.2 hp
/-- A closed call that reads package variables alone. -/
theorem DS.closedG {P : Program} {f : FuncId} {args : List Value} {Q : Value → Prop} (G : List (Nat × List Value)) (hG : ∀ p ∈ G, p.1 < P.globals.size ∧ p.2.all bare = true) (h : DS P f args (H0G P G) fun v _ => Q v ∧ bare v = true) (hb : args.all bare = true)
    {H : AH} (hH : ∀ p ∈ G, ∃ T, H.get p.1 = some (.cells p.2 T .ro)) {K : KV} (hK : ∀ v, Q v → K v H) : DS P f args H K := by
  refine ⟨h.1, fun cx hP ρ w args' hR ha => ?_⟩
  have hargs := ha.bare_eq hb
  subst hargs
  let cx0 : Cx := { P := P, fr := fun b => w.heap[b]?, ro := fun b => w.heap[b]?, sub := fun _ _ h => h, os := cx.os, tape := cx.tape, output := cx.output, lo := cx.lo }
  let ρ0 : Ren := fun n => if n < P.globals.size then some ⟨n, 0, 0⟩ else none
  have hg0 : ∀ g, g < P.globals.size → ρ0 g = some ⟨g, 0, 0⟩ := fun g hg => by
    show (if g < P.globals.size then _ else _) = _
    rw [if_pos hg]
  have hR0 : Rel cx0 ρ0 (H0G P G) w := by
    refine ⟨hR.os, hR.tape, hR.output, hR.lo, fun b o e => e, fun n o e => ?_, fun n m o o' l l' hne e1 e2 r1 => ?_, fun n hn => ?_, fun g hg => hg0 g hg⟩
    · obtain ⟨p, hp, rfl, rfl⟩ := H0G_get e
      obtain ⟨T, hT⟩ := hH p hp
      obtain ⟨l, e1, C, T', z, e2, e3, e4⟩ := hR.obj _ _ hT
      have e5 : ρ p.1 = some ⟨p.1, 0, 0⟩ := by
        have := hR.glob p.1 (by rw [hP]; exact (hG p hp).1)
        exact this
      rw [e5] at e1; cases e1
      refine ⟨⟨p.1, 0, 0⟩, hg0 _ (hG p hp).1, C, T', z, hR.frame _ _ (cx.sub _ _ e2), ?_, rfl⟩
      have := e3.bare_eq (hG p hp).2
      rw [this]
      exact CVs.of_bare (hG p hp).2
    · obtain ⟨p, hp, rfl, rfl⟩ := H0G_get e1
      simp [AObj.rw, CK.rw] at r1
    · rw [H0G_nx] at hn
      show (if n < P.globals.size then _ else _) = _
      rw [if_neg (by omega)]
  refine (h.2 cx0 rfl ρ0 w args' hR0 (CVs.of_bare hb)).mono ?_
  rintro e w' ⟨v, v', H', ρ', rfl, ⟨hq, hbv⟩, -, hv, hR'⟩
  have := hv.bare_eq hbv
  subst this
  have hfr : ∀ b, b < w.heap.size → w'.heap[b]? = w.heap[b]? := fun b hb => by
    have e1 : w.heap[b]? = some w.heap[b] := by simp [hb]
    rw [hR'.frame b _ e1, e1]
  refine ⟨v', v', H, ρ, rfl, hK _ hq, Ext.refl _ _, .of_bare hbv, ?_⟩
  refine ⟨hR'.os, hR'.tape, hR'.output, hR'.lo, fun b o e => ?_, fun n o e => ?_, hR.inj, hR.fresh, hR.glob⟩
  · have e1 := hR.frame b o e
    exact hR'.frame b o e1
  · obtain ⟨l, e1, e2⟩ := hR.obj n o e
    refine ⟨l, e1, ?_⟩
    cases hr : o.rw with
    | true => exact e2.world (hfr _ (e2.lt hr))
    | false =>
      cases o with
      | map => simp [AObj.rw] at hr
      | iter => simp [AObj.rw] at hr
      | cells c T k => cases k <;> first | exact e2 | (simp [AObj.rw, CK.rw] at hr)
/-- A package variable that is only read, named. -/
theorem Imp.glob' {P : Program} {W : World} {H : AH} {ρ : Ren} (h : Imp P W H ρ) {g : Nat} {c : List Value} {T' : TypeId} {z : Nat × Nat} (hg : g < P.globals.size) (hW : W.heap[g]? = some (.cells ⟨c⟩ T' z)) (hc : c.all bare = true) : Imp P W (H.put g (.cells c 0 .ro)) ρ := by
  refine ⟨fun n o e => ?_, fun n hn => h.fresh n (by simpa using hn), h.glob⟩
  rw [AH.get_put] at e
  by_cases hn : n = g
  · rw [if_pos hn] at e; cases e
    subst hn
    exact ⟨c, 0, ⟨n, 0, 0⟩, ⟨c⟩, T', z, rfl, h.glob n hg, hW, by simp; exact CVs.of_bare hc, rfl⟩
  · rw [if_neg hn] at e
    exact h.ro n o e

/-! ### what a row lists of a variable -/
theorem mapM_at' {α β : Type} {f : α → Option β} : ∀ {l : List α} {r : List β}, l.mapM f = some r → ∀ (i : Nat) (a : α), l[i]? = some a → ∃ b, r[i]? = some b ∧ f a = some b
  | [], _, _, i, a, ha => by simp at ha
  | x :: l, r, h, i, a, ha => by
    simp only [List.mapM_cons, Option.bind_eq_bind, Option.bind_eq_some_iff, Option.pure_def, Option.some.injEq] at h
    obtain ⟨b, hb, r', hr', rfl⟩ := h
    cases i with
    | zero =>
      simp only [List.getElem?_cons_zero, Option.some.injEq] at ha
      subst ha
      exact ⟨b, rfl, hb⟩
    | succ i => exact mapM_at' hr' i a (by simpa using ha)
theorem mapM_len' {α β : Type} {f : α → Option β} : ∀ {l : List α} {r : List β}, l.mapM f = some r → r.length = l.length
  | [], r, h => by simp at h; subst h; rfl
  | x :: l, r, h => by
    simp only [List.mapM_cons, Option.bind_eq_bind, Option.bind_eq_some_iff, Option.pure_def, Option.some.injEq] at h
    obtain ⟨b, hb, r', hr', rfl⟩ := h
    simp [mapM_len' hr']
/-- An array of texts that reads as listed holds these texts. -/
theorem cells_of_strs {H : Type} {enc : TypeId × Value → H} {P : Program} {w : World} {base : Nat} {sp : Nat → Bool} {held : Bool} {fuel : Nat} {t e : TypeId} {n : Nat} {cs : List Value} {ss : List (List UInt8)} {p : List MemPlace}
    (ht : P.underlying t = some (.array n e)) (he : P.underlying e = some .string) (hce : P.cellsOf e = 1) (hct : P.cellsOf t = n)
    (h : DataW.trod enc P w base sp held fuel t cs = some (.agg (ss.map fun s => .lit (.string s)), p)) : cs = ss.map fun s => Value.string ⟨⟨s⟩⟩ := by
  cases fuel with
  | zero => simp [DataW.trod] at h
  | succ fuel =>
    simp only [DataW.trod, ht, hce, hct, Nat.mul_one] at h
    split at h
    · rename_i hl
      obtain ⟨xs, hm, hx⟩ := Option.map_eq_some_iff.1 h
      have hxs : xs.map (·.1) = ss.map fun s => (DataW.lit (.string s) : DataW H) := by
        have := congrArg Prod.fst hx
        simpa using this
      have hxl : xs.length = n := by simpa using mapM_len' hm
      have hzl : ss.length = n := by
        have := congrArg List.length hxs
        simp at this
        omega
      apply List.ext_getElem?
      intro i
      by_cases hi : i < n
      · obtain ⟨b, hb, hf⟩ := mapM_at' hm i i (by simp [hi])
        obtain ⟨s, hc, rfl, _⟩ := DataW.trod_string he hf
        have h1 : cs[i]? = some (.string s) := by
          have := congrArg (·[0]?) hc
          simpa [List.getElem?_take, List.getElem?_drop] using this
        have h2 : (xs.map (·.1))[i]? = some (DataW.lit (.string s.data.toList) : DataW H) := by simp [hb]
        rw [hxs] at h2
        simp only [List.getElem?_map, Option.map_eq_some_iff, DataW.lit.injEq, Lit.string.injEq] at h2
        obtain ⟨z', hz', e⟩ := h2
        subst e
        rw [h1, List.getElem?_map, hz']
        rfl
      · rw [List.getElem?_eq_none (by omega), List.getElem?_eq_none (by simp; omega)]
    · cases h
theorem laid_strs {P : Program} {W : World} {name : String} {ss : List (List UInt8)} {rest : List (String × DataW Unit)} {g : Nat} {t e : TypeId} {n : Nat}
    (hg : P.globalNamed name = some g) (hty : (P.globals[g]?).map (·.type) = some t) (ht : P.underlying t = some (.array n e)) (he : P.underlying e = some .string) (hce : P.cellsOf e = 1) (hct : P.cellsOf t = n)
    (h : laidMet P ((name, .agg (ss.map fun s => .lit (.string s))) :: rest) W) : ∃ T z, W.heap[g]? = some (.cells ⟨ss.map fun s => .string ⟨⟨s⟩⟩⟩ T z) := by
  obtain ⟨ps, ⟨g', t', cs, fuel, p, q, hg', ht', hvar, hd, _, _⟩, _⟩ := h
  obtain rfl := Option.some.inj (hg.symm.trans hg')
  obtain rfl := Option.some.inj (hty.symm.trans ht')
  have hcs := cells_of_strs ht he hce hct hd
  unfold World.var? at hvar
  rw [hg] at hvar
  simp only [Option.bind_some] at hvar
  split at hvar
  · rename_i C T z hh
    cases hvar
    refine ⟨T, z, ?_⟩
    rw [hh, ← hcs]
  · cases hvar
end Go.Ab
