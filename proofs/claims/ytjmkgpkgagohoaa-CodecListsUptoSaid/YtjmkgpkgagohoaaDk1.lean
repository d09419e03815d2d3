/-
  An abstract machine beside the model: parts DkA, DkB, DkC, DkD, DkE, DkF, DkG, DkH, DkI, DkJ, DkJb, DkJm, DkK, DkL.
-/
import Derived.TacticsIn
import Derived.OrdersIn
import Derived.Laws.World
import Derived.Laws.StructEq
import Derived.WideLaws
import Derived.Laws.Cells
import Derived.Laws.Slices
import Derived.RangeFuncRecord
import Derived.RangeFuncSeq
set_option linter.all false

/-
  Dk, part A: an abstract machine beside the model: data that nobody writes are trees, memory that is written is objects under numbers.
  What is proved here: what an abstract value denotes in a heap, and that this lasts where the heap lasts.
-/
namespace Go.Dk
set_option autoImplicit false
set_option linter.unusedSectionVars false

/-- data that nobody writes -/
inductive Dat where
  | v (x : Value)
  | sl (k : Nat) (xs : List (List Dat))
  deriving Inhabited

/-- abstract values -/
inductive AV where
  | any
  | v (x : Value)
  | ptr (id off : Nat)
  | slc (id k off len : Nat)
  | imm (g : Bool) (k : Nat) (xs : List (List Dat))
  | iptr (g : Bool) (cs : List Dat)
  | mp (id : Nat)
  | fn (f : Fn) (cap : List AV)
  | agg (cs : List AV)
  | tup (vs : List AV)
  deriving Inhabited

def Dat.av (g : Bool) : Dat → AV
  | .v x => .v x
  | .sl k xs => .imm g k xs

/-- further kinds of objects: an iterator over a map, a map whose stamps are told, an iterator over a string, a loop over a function -/
inductive Kind where
  | iter (since : Nat) (seen : List Nat) (last : Nat)
  | bmap (clk : Nat) (ks : List (Value × Nat))
  | siter (s : ByteArray) (pos : Nat)
  | loop (l : Nat) (ts : List Nat) (tm : Array Value) (fn : FuncId) (ps : Array Tmp) (asg body : Code) (st : LoopState) (pend : Option Code)

def Kind.ok : Kind → Nat → Obj → List Value → Prop
  | .iter since seen last, _, o, us => ∃ b, us = [.map (some b)] ∧ o = .mapIter (some b) since seen.toArray last
  | .bmap clk ks, _, o, us => ∃ c : Array MapEntry, o = .map c clk ∧ c.size = ks.length ∧ us.length = ks.length ∧ (∀ (i : Nat) (e : MapEntry), c[i]? = some e → e.born < clk) ∧
      (∀ (i j : Nat) (e e' : MapEntry), c[i]? = some e → c[j]? = some e' → e.born = e'.born → i = j) ∧ ∀ (i : Nat) (e : MapEntry), c[i]? = some e → ks[i]? = some (e.key, e.born) ∧ us[i]? = some e.val
  | .siter s pos, _, o, us => us = [] ∧ o = .stringIter s pos
  | .loop l ts tm fn ps asg body st pend, b, o, us => b = l ∧ us.length = ts.length ∧ (∀ (i t : Nat) u, ts[i]? = some t → us[i]? = some u → tm.getD t (.tuple #[]) = u) ∧ ∃ D, o = .loop ⟨st, pend, fn, tm, ps, asg, body, D⟩

inductive Blk where
  | cells (cs : List AV)
  | map (es : List (Value × AV))
  | oth (k : Kind) (xs : List AV)
instance : Inhabited Blk := ⟨.cells []⟩

abbrev Mem := List (Nat × Blk)

structure Loc where
  blk : Nat
  base : Nat
  sz : Nat
  deriving Inhabited

structure Env where
  heap : Array Obj
  β : Nat → Loc
  S0 : Nat → Prop
  S1 : Nat → Prop
  os : Os
  out : Array (Nat × ByteArray)

def Env.At (E : Env) (w : World) : Prop := E.heap = w.heap ∧ E.os = w.os ∧ E.out = w.output

theorem Env.At.to {E E' : Env} {w w' : World} (hW : E.At w) (h : E'.heap = w'.heap) (ho : w'.os = w.os ∧ w'.output = w.output := by exact ⟨rfl, rfl⟩)
    (he : E'.os = E.os ∧ E'.out = E.out := by exact ⟨rfl, rfl⟩) : E'.At w' :=
  ⟨h, he.1.trans (hW.2.1.trans ho.1.symm), he.2.trans (hW.2.2.trans ho.2.symm)⟩

def Env.ok (E : Env) (g : Bool) (b : Nat) : Prop := match g with | true => E.S1 b | false => E.S0 b ∨ E.S1 b

def cellOf (h : Array Obj) (b o : Nat) : Option Value :=
  match h[b]? with
  | some (.cells c _ _) => c[o]?
  | _ => none

theorem cellOf_world (w : World) (b o : Nat) : w.cell? ⟨b, o, none⟩ = cellOf w.heap b o := by
  unfold World.cell? cellOf
  split <;> simp_all

mutual
def DenD (h : Array Obj) (ok : Nat → Prop) : Dat → Value → Prop
  | .v x, u => u = x ∧ u.oneCell' = true
  | .sl k xs, u => ∃ a cap, u = .slice a xs.length cap ∧ xs.length ≤ cap ∧ (xs = [] ∨ ∃ b o, a = some ⟨b, o, none⟩ ∧ ok b ∧ DenRows h ok b o k xs)
def DenRows (h : Array Obj) (ok : Nat → Prop) (b o k : Nat) : List (List Dat) → Prop
  | [] => True
  | r :: rs => r.length = k ∧ DenCs h ok b o r ∧ DenRows h ok b (o + k) k rs
def DenCs (h : Array Obj) (ok : Nat → Prop) (b o : Nat) : List Dat → Prop
  | [] => True
  | c :: cs => (∃ u, cellOf h b o = some u ∧ DenD h ok c u) ∧ DenCs h ok b (o + 1) cs
end

section mono
variable {h h' : Array Obj} {ok ok' : Nat → Prop}
section
variable (H : ∀ b, ok b → ok' b ∧ ∀ o, cellOf h' b o = cellOf h b o)
include H
mutual
theorem DenD.monoC : ∀ (d : Dat) (u : Value), DenD h ok d u → DenD h' ok' d u
  | .v x, u => fun hd => by simpa [DenD] using hd
  | .sl k xs, u => fun hd => by
    simp only [DenD] at hd ⊢
    obtain ⟨a, cap, hu, hc, hx⟩ := hd
    refine ⟨a, cap, hu, hc, hx.imp id ?_⟩
    rintro ⟨b, o, ha, hb, hr⟩
    exact ⟨b, o, ha, (H b hb).1, DenRows.monoC b o k xs hb hr⟩
theorem DenRows.monoC : ∀ (b o k : Nat) (rs : List (List Dat)), ok b → DenRows h ok b o k rs → DenRows h' ok' b o k rs
  | _, _, _, [] => fun _ _ => by simp [DenRows]
  | b, o, k, r :: rs => fun hb hd => by
    simp only [DenRows] at hd ⊢
    exact ⟨hd.1, DenCs.monoC b o r hb hd.2.1, DenRows.monoC b (o + k) k rs hb hd.2.2⟩
theorem DenCs.monoC : ∀ (b o : Nat) (cs : List Dat), ok b → DenCs h ok b o cs → DenCs h' ok' b o cs
  | _, _, [] => fun _ _ => by simp [DenCs]
  | b, o, c :: cs => fun hb hd => by
    simp only [DenCs] at hd ⊢
    obtain ⟨⟨u, hu, hc⟩, hr⟩ := hd
    refine ⟨⟨u, ?_, DenD.monoC c u hc⟩, DenCs.monoC b (o + 1) cs hb hr⟩
    rw [(H b hb).2]; exact hu
end
end
theorem sameCells (H : ∀ b, ok b → ok' b ∧ h'[b]? = h[b]?) : ∀ b, ok b → ok' b ∧ ∀ o, cellOf h' b o = cellOf h b o :=
  fun b hb => ⟨(H b hb).1, fun o => by unfold cellOf; rw [(H b hb).2]⟩
theorem DenD.mono (H : ∀ b, ok b → ok' b ∧ h'[b]? = h[b]?) (d : Dat) (u : Value) (hd : DenD h ok d u) : DenD h' ok' d u := DenD.monoC (sameCells H) d u hd
theorem DenRows.mono (H : ∀ b, ok b → ok' b ∧ h'[b]? = h[b]?) (b o k : Nat) (rs : List (List Dat)) (hb : ok b) (hd : DenRows h ok b o k rs) : DenRows h' ok' b o k rs := DenRows.monoC (sameCells H) b o k rs hb hd
theorem DenCs.mono (H : ∀ b, ok b → ok' b ∧ h'[b]? = h[b]?) (b o : Nat) (cs : List Dat) (hb : ok b) (hd : DenCs h ok b o cs) : DenCs h' ok' b o cs := DenCs.monoC (sameCells H) b o cs hb hd
end mono

mutual
def Den (E : Env) : AV → Value → Prop
  | .any, _ => True
  | .v x, u => u = x
  | .ptr id off, u => u = .pointer (some ⟨(E.β id).blk, (E.β id).base + off, none⟩)
  | .slc id k off len, u => (len = 0 ∧ ∃ a, u = .slice a 0 0) ∨
      ∃ cap, len ≤ cap ∧ 0 < cap ∧ 0 < (E.β id).sz ∧ (E.β id).base + off + cap * k ≤ (E.β id).sz ∧ u = .slice (some ⟨(E.β id).blk, (E.β id).base + off, none⟩) len cap
  | .imm g k xs, u => DenD E.heap (E.ok g) (.sl k xs) u
  | .iptr g cs, u => ∃ b o, u = .pointer (some ⟨b, o, none⟩) ∧ E.ok g b ∧ DenCs E.heap (E.ok g) b o cs
  | .mp id, u => u = .map (some (E.β id).blk)
  | .fn f cap, u => ∃ us : List Value, u = .func f #[] us.toArray ∧ DenL E cap us
  | .agg cs, u => ∃ us : List Value, u = .agg us.toArray ∧ DenL E cs us
  | .tup vs, u => ∃ us : List Value, u = .tuple us.toArray ∧ DenL E vs us
def DenL (E : Env) : List AV → List Value → Prop
  | [], us => us = []
  | c :: cs, us => ∃ u us', us = u :: us' ∧ Den E c u ∧ DenL E cs us'
end

mutual
def AV.has (i : Nat) : AV → Bool
  | .any => false
  | .v _ => false
  | .ptr id _ => id == i
  | .slc id _ _ _ => id == i
  | .imm _ _ _ => false
  | .iptr _ _ => false
  | .mp id => id == i
  | .fn _ cs => hasL i cs
  | .agg cs => hasL i cs
  | .tup cs => hasL i cs
def hasL (i : Nat) : List AV → Bool
  | [] => false
  | c :: cs => c.has i || hasL i cs
end

/-- what a value denotes lasts: where its memory lies as it lay, and the objects that it names lie where they lay -/
structure Env.Le (E E' : Env) (ids : Nat → Prop) : Prop where
  s0 : ∀ b, E.S0 b → (E'.S0 b ∨ E'.S1 b) ∧ E'.heap[b]? = E.heap[b]?
  s1 : ∀ b, E.S1 b → E'.S1 b ∧ E'.heap[b]? = E.heap[b]?
  at_ : ∀ id, ids id → E'.β id = E.β id

theorem Env.Le.ok {E E' : Env} {ids : Nat → Prop} (h : E.Le E' ids) (g : Bool) : ∀ b, E.ok g b → E'.ok g b ∧ E'.heap[b]? = E.heap[b]? := by
  intro b hb
  cases g with
  | true => exact h.s1 b hb
  | false =>
    rcases hb with hb | hb
    · exact h.s0 b hb
    · exact ⟨.inr (h.s1 b hb).1, (h.s1 b hb).2⟩

section mono2
variable {E E' : Env} {ids : Nat → Prop} (hok : ∀ g b, E.ok g b → E'.ok g b ∧ ∀ o, cellOf E'.heap b o = cellOf E.heap b o) (hat : ∀ id, ids id → E'.β id = E.β id)
include hok hat
mutual
theorem Den.monoC : ∀ (x : AV) (u : Value), (∀ i, x.has i = true → ids i) → Den E x u → Den E' x u
  | .any, _ => fun _ _ => by simp [Den]
  | .v x, u => fun _ hd => by simpa [Den] using hd
  | .ptr id off, u => fun hi hd => by
    simp only [Den] at hd ⊢
    rw [hat id (hi id (by simp [AV.has]))]; exact hd
  | .slc id k off len, u => fun hi hd => by
    simp only [Den] at hd ⊢
    rw [hat id (hi id (by simp [AV.has]))]; exact hd
  | .imm g k xs, u => fun _ hd => by
    simp only [Den] at hd ⊢
    exact DenD.monoC (hok g) _ _ hd
  | .iptr g cs, u => fun _ hd => by
    simp only [Den] at hd ⊢
    obtain ⟨b, o, hu, hb, hc⟩ := hd
    exact ⟨b, o, hu, (hok g b hb).1, DenCs.monoC (hok g) b o cs hb hc⟩
  | .mp id, u => fun hi hd => by
    simp only [Den] at hd ⊢
    rw [hat id (hi id (by simp [AV.has]))]; exact hd
  | .fn f cap, u => fun hi hd => by
    simp only [Den] at hd ⊢
    obtain ⟨us, hu, hc⟩ := hd
    exact ⟨us, hu, DenL.monoC cap us (fun i hh => hi i (by simpa [AV.has] using hh)) hc⟩
  | .agg cs, u => fun hi hd => by
    simp only [Den] at hd ⊢
    obtain ⟨us, hu, hc⟩ := hd
    exact ⟨us, hu, DenL.monoC cs us (fun i hh => hi i (by simpa [AV.has] using hh)) hc⟩
  | .tup cs, u => fun hi hd => by
    simp only [Den] at hd ⊢
    obtain ⟨us, hu, hc⟩ := hd
    exact ⟨us, hu, DenL.monoC cs us (fun i hh => hi i (by simpa [AV.has] using hh)) hc⟩
theorem DenL.monoC : ∀ (xs : List AV) (us : List Value), (∀ i, hasL i xs = true → ids i) → DenL E xs us → DenL E' xs us
  | [], us => fun _ hd => by simpa [DenL] using hd
  | c :: cs, us => fun hi hd => by
    simp only [DenL] at hd ⊢
    obtain ⟨u, us', hu, hc, hr⟩ := hd
    exact ⟨u, us', hu, Den.monoC c u (fun i hh => hi i (by simp [hasL, hh])) hc, DenL.monoC cs us' (fun i hh => hi i (by simp [hasL, hh])) hr⟩
end
end mono2
theorem Env.Le.okC {E E' : Env} {ids : Nat → Prop} (h : E.Le E' ids) : ∀ g b, E.ok g b → E'.ok g b ∧ ∀ o, cellOf E'.heap b o = cellOf E.heap b o := fun g => sameCells (h.ok g)
theorem Den.mono {E E' : Env} {ids : Nat → Prop} (h : E.Le E' ids) (x : AV) (u : Value) (hi : ∀ i, x.has i = true → ids i) (hd : Den E x u) : Den E' x u := Den.monoC h.okC h.at_ x u hi hd
theorem DenL.mono {E E' : Env} {ids : Nat → Prop} (h : E.Le E' ids) (xs : List AV) (us : List Value) (hi : ∀ i, hasL i xs = true → ids i) (hd : DenL E xs us) : DenL E' xs us := DenL.monoC h.okC h.at_ xs us hi hd

theorem denL_length {E : Env} : ∀ {xs : List AV} {us : List Value}, DenL E xs us → us.length = xs.length
  | [], us, h => by simp [DenL] at h; simp [h]
  | c :: cs, us, h => by
    simp only [DenL] at h
    obtain ⟨u, us', rfl, _, hr⟩ := h
    simp [denL_length hr]

theorem denL_iff {E : Env} {xs : List AV} {us : List Value} : DenL E xs us ↔ us.length = xs.length ∧ ∀ (i : Nat) (x : AV), xs[i]? = some x → ∃ u, us[i]? = some u ∧ Den E x u := by
  induction xs generalizing us with
  | nil => simp [DenL]
  | cons c cs ih =>
    simp only [DenL]
    constructor
    · rintro ⟨u, us', rfl, hc, hr⟩
      obtain ⟨hl, hi⟩ := ih.1 hr
      refine ⟨by simp [hl], fun i x hx => ?_⟩
      cases i with
      | zero => simp at hx; subst hx; exact ⟨u, rfl, hc⟩
      | succ i => simpa using hi i x (by simpa using hx)
    · rintro ⟨hl, hi⟩
      cases us with
      | nil => simp at hl
      | cons u us =>
        refine ⟨u, us, rfl, ?_, ih.2 ⟨by simpa using hl, fun i x hx => ?_⟩⟩
        · obtain ⟨u', hu', hd⟩ := hi 0 c rfl
          simp at hu'; subst hu'; exact hd
        · simpa using hi (i + 1) x (by simpa using hx)

/-- the value of one cell -/
def AV.cell : AV → Bool
  | .any => false
  | .agg _ => false
  | .tup _ => false
  | .v (.agg _) => false
  | .v (.tuple _) => false
  | _ => true

theorem den_cell {E : Env} {x : AV} {u : Value} (hx : x.cell = true) (h : Den E x u) : u.oneCell' = true := by
  cases x <;> simp [AV.cell] at hx <;> simp only [Den] at h
  · subst h; cases u <;> simp_all [Value.oneCell']
  · subst h; rfl
  · rcases h with ⟨_, a, rfl⟩ | ⟨cap, _, _, _, _, rfl⟩ <;> rfl
  · simp only [DenD] at h; obtain ⟨a, cap, rfl, _⟩ := h; rfl
  · obtain ⟨b, o, rfl, _⟩ := h; rfl
  · subst h; rfl
  · obtain ⟨us, rfl, _⟩ := h; rfl

end Go.Dk

/-
  Dk, part B: operations without memory: what they give on abstract values, and that the model gives the same.
-/
namespace Go.Dk
set_option autoImplicit false
set_option linter.unusedSectionVars false
set_option linter.unusedVariables false

def sL (s : ByteArray) : List UInt8 := s.data.toList
def mkS (l : List UInt8) : ByteArray := ⟨l.toArray⟩
@[simp] theorem sL_mkS (l : List UInt8) : sL (mkS l) = l := by simp [sL, mkS]
@[simp] theorem mkS_sL (s : ByteArray) : mkS (sL s) = s := by simp [sL, mkS]
theorem sL_toList (s : ByteArray) : s.toList = sL s := ByteArray.toList_eq s
theorem sL_inj {a b : ByteArray} (h : sL a = sL b) : a = b := by rw [← mkS_sL a, h, mkS_sL]
theorem sL_length (s : ByteArray) : (sL s).length = s.size := by unfold sL; rw [Array.length_toList]; rfl
theorem sL_append (a b : ByteArray) : sL (a ++ b) = sL a ++ sL b := by
  simp [sL, ByteArray.data_append]

/-- whole numbers -/
def intV (op : BinOp) (k : IntKind) (a : Int) (k' : IntKind) (b : Int) : Option Value :=
  match op with
  | .shl => if b < 0 then none else some (.int k (k.wrap (a * 2 ^ (min b.toNat k.bits))))
  | .shr => if b < 0 then none else some (.int k (a.fdiv (2 ^ (min b.toNat k.bits))))
  | .add => if k = k' then some (.int k (k.wrap (a + b))) else none
  | .sub => if k = k' then some (.int k (k.wrap (a - b))) else none
  | .mul => if k = k' then some (.int k (k.wrap (a * b))) else none
  | .quo => if k = k' then (if b = 0 then none else some (.int k (k.wrap (a.tdiv b)))) else none
  | .rem => if k = k' then (if b = 0 then none else some (.int k (a.tmod b))) else none
  | .and => if k = k' then some (.int k (k.wrap ((BitVec.ofInt k.bits a &&& BitVec.ofInt k.bits b).toNat : Int))) else none
  | .or => if k = k' then some (.int k (k.wrap ((BitVec.ofInt k.bits a ||| BitVec.ofInt k.bits b).toNat : Int))) else none
  | .xor => if k = k' then some (.int k (k.wrap ((BitVec.ofInt k.bits a ^^^ BitVec.ofInt k.bits b).toNat : Int))) else none
  | .andNot => if k = k' then some (.int k (k.wrap ((BitVec.ofInt k.bits a &&& ~~~ BitVec.ofInt k.bits b).toNat : Int))) else none
  | .eql => if k = k' then some (.bool (decide (a = b))) else none
  | .neq => if k = k' then some (.bool (!decide (a = b))) else none
  | .lss => if k = k' then some (.bool (decide (a < b))) else none
  | .leq => if k = k' then some (.bool (decide (a ≤ b))) else none
  | .gtr => if k = k' then some (.bool (decide (b < a))) else none
  | .geq => if k = k' then some (.bool (decide (b ≤ a))) else none

theorem run_intV {P : Program} {w : World} {op : BinOp} {k k' : IntKind} {a b : Int} {v : Value} (t : TypeId) (h : intV op k a k' b = some v) :
    (binOp op t (.int k a) (.int k' b)).run P w = .ok v w := by
  cases op <;> simp only [intV] at h <;> (repeat' split at h) <;> simp at h <;> subst h <;> (try subst k') <;>
    simp_all [binOp, Op.shift, Op.intArith, Op.intDiv, Op.intBits, Op.intCmp, BEq.beq, bne]
  all_goals first | (intro hh; omega) | rfl

def strV (op : BinOp) (a b : ByteArray) : Option Value :=
  match op with
  | .add => if (sL a).length + (sL b).length ≤ 9223372036854775807 then some (.string (mkS (sL a ++ sL b))) else none
  | .eql => some (.bool (decide (sL a = sL b)))
  | .neq => some (.bool (!decide (sL a = sL b)))
  | .lss => some (.bool (Op.bytesLess (sL a) (sL b)))
  | .leq => some (.bool (Op.bytesLess (sL a) (sL b) || decide (sL a = sL b)))
  | .gtr => some (.bool (!(Op.bytesLess (sL a) (sL b) || decide (sL a = sL b))))
  | .geq => some (.bool (!Op.bytesLess (sL a) (sL b)))
  | _ => none

theorem run_strV {P : Program} {w : World} {op : BinOp} {a b : ByteArray} {v : Value} (t : TypeId) (h : strV op a b = some v) :
    (binOp op t (.string a) (.string b)).run P w = .ok v w := by
  have hd : ∀ a b : ByteArray, (a.toList == b.toList) = decide (sL a = sL b) := by
    intro a b; rw [sL_toList, sL_toList]; by_cases h : sL a = sL b <;> simp [h]
  cases op <;> simp only [strV] at h <;> (try split at h) <;> simp at h <;> subst h
  · rename_i hl
    have : mkS (sL a ++ sL b) = a ++ b := sL_inj (by simp [sL_append])
    rw [sL_length, sL_length] at hl
    rw [this]
    simp [binOp, Op.stringOp, IntKind.max, IntKind.signed, IntKind.bits]
    omega
  all_goals simp [binOp, Op.stringOp, sL_toList]
  all_goals (by_cases h : sL a = sL b <;> simp [h])

theorem run_pure_bind {P : Program} {α : Type} {w : World} (x : Sem α) : (do (pure () : Sem Unit); x).run P w = x.run P w := by simp

/-- '==' and '!=' beyond numbers and strings -/
def eqlV (P : Program) (t : TypeId) : AV → AV → Option Bool
  | .v (.bool a), .v (.bool b) => match P.underlying t with | some .bool => some (decide (a = b)) | _ => none
  | .ptr _ _, .v (.pointer none) => match P.underlying t with | some (.pointer _) => some false | _ => none
  | .iptr _ _, .v (.pointer none) => match P.underlying t with | some (.pointer _) => some false | _ => none
  | .v (.pointer none), .v (.pointer none) => match P.underlying t with | some (.pointer _) => some true | _ => none
  | .fn _ _, .v .nilFunc => match P.underlying t with | some (.func _ _ _) => some false | _ => none
  | .mp _, .v (.map none) => match P.underlying t with | some (.map _ _) => some false | _ => none
  | .v (.slice a _ _), .v (.slice none 0 0) => match P.underlying t with | some (.slice _) => some a.isNone | _ => none
  | .imm _ _ (_ :: _), .v (.slice none 0 0) => match P.underlying t with | some (.slice _) => some false | _ => none
  | .slc _ _ _ (_ + 1), .v (.slice none 0 0) => match P.underlying t with | some (.slice _) => some false | _ => none
  | _, _ => none

def eqlAns (op : BinOp) (b : Bool) : Option Value :=
  match op with
  | .eql => some (.bool b)
  | .neq => some (.bool (!b))
  | _ => none

theorem run_underlying' {P : Program} {w : World} {t : TypeId} {d : TypeDesc} (h : P.underlying t = some d) : (underlying t).run P w = .ok d w := by
  simp [underlying, h]

theorem run_equalIn_eqlV {E : Env} {P : Program} {w : World} {t : TypeId} {x y : AV} {b : Bool} {u u' : Value} (d : Nat) (h : eqlV P t x y = some b)
    (hx : Den E x u) (hy : Den E y u') : (Op.equalIn (d + 1) t u u').run P w = .ok b w := by
  unfold eqlV at h
  split at h
  · rename_i a c
    split at h <;> simp at h
    rename_i ht
    simp only [Den] at hx hy
    subst hx hy h
    simp only [Op.equalIn, Sem.run_bind, run_underlying' ht, Result.andThen_ok]
    cases a <;> cases c <;> rfl
  · split at h <;> simp at h
    rename_i ht
    simp only [Den] at hx hy
    subst hx hy h
    simp [Op.equalIn, run_underlying' ht]
  · split at h <;> simp at h
    rename_i ht
    simp only [Den] at hx hy
    obtain ⟨b, o, rfl, _⟩ := hx
    subst hy h
    simp [Op.equalIn, run_underlying' ht]
  · split at h <;> simp at h
    rename_i ht
    simp only [Den] at hx hy
    subst hx hy h
    simp [Op.equalIn, run_underlying' ht]
  · split at h <;> simp at h
    rename_i ht
    simp only [Den] at hx hy
    obtain ⟨us, rfl, _⟩ := hx
    subst hy h
    simp [Op.equalIn, run_underlying' ht]
  · split at h <;> simp at h
    rename_i ht
    simp only [Den] at hx hy
    subst hx hy h
    simp [Op.equalIn, run_underlying' ht]
  · split at h <;> simp at h
    rename_i a _ _ _ _ ht
    simp only [Den] at hx hy
    subst hx hy h
    cases a <;> simp [Op.equalIn, run_underlying' ht]
  · split at h <;> simp at h
    rename_i ht
    simp only [Den, DenD] at hx hy
    obtain ⟨a, cap, rfl, _, hc⟩ := hx
    rcases hc with hc | ⟨b, o, rfl, _⟩
    · simp at hc
    subst hy h
    simp [Op.equalIn, run_underlying' ht]
  · split at h <;> simp at h
    rename_i ht
    simp only [Den] at hx hy
    rcases hx with ⟨hx, _⟩ | ⟨cap, _, _, _, _, rfl⟩
    · omega
    subst hy h
    simp [Op.equalIn, run_underlying' ht]
  · simp at h

theorem binOp_eqlV {E : Env} {P : Program} {t : TypeId} {x y : AV} {b : Bool} {u u' : Value} (h : eqlV P t x y = some b) (hx : Den E x u) (hy : Den E y u') :
    binOp .eql t u u' = (do pure (.bool (← Op.equal t u u'))) ∧ binOp .neq t u u' = (do pure (.bool (!(← Op.equal t u u')))) ∧ ∀ op ox oy, eqGuard op t ox oy u u' = pure () := by
  unfold eqlV at h
  split at h
  · simp only [Den] at hx hy; subst hx hy; exact ⟨rfl, rfl, fun op _ _ => by cases op <;> rfl⟩
  · simp only [Den] at hx hy; subst hx hy; exact ⟨rfl, rfl, fun op _ _ => by cases op <;> rfl⟩
  · simp only [Den] at hx hy; obtain ⟨b, o, rfl, _⟩ := hx; subst hy; exact ⟨rfl, rfl, fun op _ _ => by cases op <;> rfl⟩
  · simp only [Den] at hx hy; subst hx hy; exact ⟨rfl, rfl, fun op _ _ => by cases op <;> rfl⟩
  · simp only [Den] at hx hy; obtain ⟨us, rfl, _⟩ := hx; subst hy; exact ⟨rfl, rfl, fun op _ _ => by cases op <;> rfl⟩
  · simp only [Den] at hx hy; subst hx hy; exact ⟨rfl, rfl, fun op _ _ => by cases op <;> rfl⟩
  · simp only [Den] at hx hy; subst hx hy; exact ⟨rfl, rfl, fun op _ _ => by cases op <;> rfl⟩
  · simp only [Den, DenD] at hx hy; obtain ⟨a, cap, rfl, _⟩ := hx; subst hy; exact ⟨rfl, rfl, fun op _ _ => by cases op <;> rfl⟩
  · simp only [Den] at hx hy
    rcases hx with ⟨_, a, rfl⟩ | ⟨cap, _, _, _, _, rfl⟩ <;> subst hy <;> exact ⟨rfl, rfl, fun op _ _ => by cases op <;> rfl⟩
  · simp at h

theorem run_eqlV {E : Env} {P : Program} {w : World} {op : BinOp} {t : TypeId} {x y : AV} {b : Bool} {u u' v : Value} (h : eqlV P t x y = some b) (ha : eqlAns op b = some v)
    (hx : Den E x u) (hy : Den E y u') (ox oy : Operand) : (do eqGuard op t ox oy u u'; binOp op t u u').run P w = .ok v w := by
  obtain ⟨h1, h2, h3⟩ := binOp_eqlV h hx hy
  have he : (Op.equal t u u').run P w = .ok b w := run_equalIn_eqlV 9999 h hx hy
  rw [h3]
  cases op <;> simp [eqlAns] at ha <;> subst ha <;> simp [h1, h2, he]

def binA (P : Program) (op : BinOp) (t : TypeId) (x y : AV) : Option Value :=
  match x, y with
  | .v (.int k a), .v (.int k' b) => intV op k a k' b
  | .v (.string a), .v (.string b) => strV op a b
  | x, y => (eqlV P t x y).bind (eqlAns op)

theorem run_binA {E : Env} {P : Program} {w : World} {op : BinOp} {t : TypeId} {x y : AV} {u u' v : Value} (h : binA P op t x y = some v)
    (hx : Den E x u) (hy : Den E y u') (ox oy : Operand) : (do eqGuard op t ox oy u u'; binOp op t u u').run P w = .ok v w := by
  unfold binA at h
  split at h
  · simp only [Den] at hx hy; subst hx hy
    have := run_intV (P := P) (w := w) t h
    simpa [eqGuard] using this
  · simp only [Den] at hx hy; subst hx hy
    have := run_strV (P := P) (w := w) t h
    simpa [eqGuard] using this
  · cases he : eqlV P t x y with
    | none => simp [he] at h
    | some b => exact run_eqlV he (by simpa [he] using h) hx hy ox oy

def unV (op : UnOp) : Value → Option Value
  | .bool b => match op with | .not => some (.bool !b) | _ => none
  | .int k n => match op with
    | .neg => some (.int k (k.wrap (0 - n)))
    | .xor => some (.int k (k.wrap ((BitVec.ofInt k.bits (if k.signed then -1 else k.max) ^^^ BitVec.ofInt k.bits n).toNat : Int)))
    | _ => none
  | _ => none

theorem run_unV {P : Program} {w : World} {op : UnOp} {x v : Value} (h : unV op x = some v) : (Op.unary op x).run P w = .ok v w := by
  unfold unV at h
  split at h
  · split at h <;> simp at h; subst h; simp [Op.unary]
  · split at h <;> simp at h <;> subst h <;> simp [Op.unary, Op.intArith, Op.intBits]
  · simp at h

/-- conversions between whole numbers; between strings -/
def convV (P : Program) (src dst : TypeId) (x : Value) : Option Value :=
  match x, P.underlying src, P.underlying dst with
  | .int _ n, some _, some (.int k) => some (.int k (k.wrap n))
  | .string s, some _, some .string => some (.string s)
  | _, _, _ => none

theorem run_convV {P : Program} {w : World} {src dst : TypeId} {x v : Value} (h : convV P src dst x = some v) : (convert src dst x).run P w = .ok v w := by
  unfold convV at h
  split at h
  · rename_i k n d k' hs hd
    simp at h; subst h
    simp [convert, run_underlying' hs, run_underlying' hd]
    try (cases d <;> simp [Conv.intToInt])
  · rename_i s d hs hd
    simp at h; subst h
    simp [convert, run_underlying' hs, run_underlying' hd]
    try (cases d <;> simp)
  · simp at h

end Go.Dk

/-
  Dk, part C: memory: objects under numbers, how they lie in a heap, and what becomes of them when one of them is made, written or moved.
-/
namespace Go.Dk
set_option autoImplicit false
set_option linter.unusedSectionVars false
set_option linter.unusedVariables false

def find : Mem → Nat → Option Blk
  | [], _ => none
  | (i, b) :: r, id => if i == id then some b else find r id

def erase : Mem → Nat → Mem
  | [], _ => []
  | (i, b) :: r, id => if i == id then erase r id else (i, b) :: erase r id

def put (H : Mem) (id : Nat) (b : Blk) : Mem := (id, b) :: erase H id

def scrub1 (id : Nat) (c : AV) : AV := if c.has id then .any else c
def scrubL (id : Nat) (cs : List AV) : List AV := cs.map (scrub1 id)
def scrubB (id : Nat) : Blk → Blk
  | .cells cs => .cells (scrubL id cs)
  | .map es => .map (es.map fun e => (e.1, scrub1 id e.2))
  | .oth k xs => .oth k (scrubL id xs)
def scrubH (id : Nat) : Mem → Mem
  | [] => []
  | (i, b) :: r => (i, scrubB id b) :: scrubH id r

theorem find_erase (H : Mem) (id i : Nat) : find (erase H id) i = if i = id then none else find H i := by
  induction H with
  | nil => simp [erase, find]
  | cons p r ih =>
    obtain ⟨j, b⟩ := p
    by_cases hj : j = id
    · subst hj
      simp only [erase, beq_self_eq_true, if_true, ih, find]
      by_cases hi : i = j
      · simp [hi]
      · have hb : (j == i) = false := by simp; exact fun e => hi e.symm
        simp [hi, hb]
    · have hb : (j == id) = false := by simpa using hj
      simp only [erase, hb, Bool.false_eq_true, if_false, find, ih]
      by_cases hi : i = id
      · subst hi
        simp [hb]
      · simp [hi]

theorem find_put (H : Mem) (id i : Nat) (b : Blk) : find (put H id b) i = if i = id then some b else find H i := by
  simp only [put, find, find_erase]
  by_cases hi : i = id
  · simp [hi]
  · have hb : (id == i) = false := by simp; exact fun e => hi e.symm
    simp [hi, hb]

theorem find_scrubH (H : Mem) (id i : Nat) : find (scrubH id H) i = (find H i).map (scrubB id) := by
  induction H with
  | nil => rfl
  | cons p r ih =>
    obtain ⟨j, b⟩ := p
    simp only [scrubH, find, ih]
    split <;> rfl

def AtCells (E : Env) (c : Array Value) (o : Nat) (cs : List AV) : Prop :=
  ∀ (i : Nat) (x : AV), cs[i]? = some x → ∃ u, c[o + i]? = some u ∧ Den E x u

def AtEntries (E : Env) (c : Array MapEntry) (clk : Nat) (es : List (Value × AV)) : Prop :=
  c.size = es.length ∧ (∀ (i : Nat) (e : MapEntry), c[i]? = some e → e.born < clk) ∧ (∀ (i j : Nat) (e e' : MapEntry), c[i]? = some e → c[j]? = some e' → e.born = e'.born → i = j) ∧
  ∀ (i : Nat) (k : Value) (x : AV), es[i]? = some (k, x) → ∃ e, c[i]? = some e ∧ e.key = k ∧ Den E x e.val

/-- no cell is frozen; what is frozen lies behind all of them -/
def FzOk (n : Nat) (fz : Nat × Nat) : Prop := (∀ i, i < n → ¬ (fz.1 ≤ i ∧ i < fz.2)) ∧ (fz.1 = fz.2 ∨ n ≤ fz.1)
theorem FzOk.zero (n : Nat) : FzOk n (0, 0) := ⟨fun i _ h => by omega, .inl rfl⟩
theorem FzOk.behind (n : Nat) : FzOk n (n, n + 1) := ⟨fun i h h' => by simp at h'; omega, .inr (Nat.le_refl _)⟩

def BlkOk (E : Env) (id : Nat) : Blk → Prop
  | .cells cs => ((E.β id).sz = 0 ∧ cs = []) ∨ (0 < (E.β id).sz ∧ ∃ c t fz, E.heap[(E.β id).blk]? = some (.cells c t fz) ∧ c.size = (E.β id).sz ∧
      (E.β id).base + cs.length ≤ (E.β id).sz ∧ FzOk c.size fz ∧ AtCells E c (E.β id).base cs)
  | .map es => 0 < (E.β id).sz ∧ ∃ c clk, E.heap[(E.β id).blk]? = some (.map c clk) ∧ AtEntries E c clk es
  | .oth k xs => 0 < (E.β id).sz ∧ ∃ o us, E.heap[(E.β id).blk]? = some o ∧ DenL E xs us ∧ k.ok (E.β id).blk o us

structure Ctx where
  w0 : World
  X : Nat → Prop
  S0 : Nat → Prop
  β0 : Nat → Loc
  keep : List Nat
  ent : List Nat
  /-- blocks of calls that wait for a caller's end -/
  M : Nat → Prop

structure Rel (C : Ctx) (E : Env) (H : Mem) : Prop where
  size : C.w0.heap.size ≤ E.heap.size
  frame : ∀ b, b < C.w0.heap.size → ¬ C.X b → E.heap[b]? = C.w0.heap[b]?
  s0eq : E.S0 = C.S0
  s0 : ∀ b, C.S0 b → b < C.w0.heap.size ∧ ¬ C.X b
  s1 : ∀ b, E.S1 b → C.w0.heap.size ≤ b ∧ b < E.heap.size
  keep : ∀ id, id ∈ C.keep → E.β id = C.β0 id
  blk : ∀ id b, find H id = some b → BlkOk E id b
  own : ∀ id b, find H id = some b → 0 < (E.β id).sz → ((id ∈ C.ent ∧ C.X (E.β id).blk) ∨ C.w0.heap.size ≤ (E.β id).blk) ∧ ¬ E.S1 (E.β id).blk
  dist : ∀ id b id' b', find H id = some b → find H id' = some b' → id ≠ id' → 0 < (E.β id).sz → 0 < (E.β id').sz → (E.β id).blk ≠ (E.β id').blk
  mrk : ∀ D, C.M D → E.S1 D ∧ E.heap[D]? = some (.deferred (some []))
  os : E.os = C.w0.os ∧ E.out = C.w0.output

theorem Env.Le.mrk {E E' : Env} {ids : Nat → Prop} (hle : E.Le E' ids) {M : Nat → Prop} (h : ∀ D, M D → E.S1 D ∧ E.heap[D]? = some (.deferred (some []))) : ∀ D, M D → E'.S1 D ∧ E'.heap[D]? = some (.deferred (some [])) :=
  fun D hD => ⟨(hle.s1 D (h D hD).1).1, by rw [(hle.s1 D (h D hD).1).2]; exact (h D hD).2⟩

theorem BlkOk.lt {E : Env} {id : Nat} {b : Blk} (h : BlkOk E id b) (hs : 0 < (E.β id).sz) : (E.β id).blk < E.heap.size := by
  cases b with
  | cells cs =>
    rcases h with ⟨h0, _⟩ | ⟨_, c, t, fz, hb, _⟩
    · omega
    · exact (Array.getElem?_eq_some_iff.1 hb).1
  | map es =>
    obtain ⟨_, c, clk, hb, _⟩ := h
    exact (Array.getElem?_eq_some_iff.1 hb).1
  | oth k xs =>
    obtain ⟨_, o, us, hb, _⟩ := h
    exact (Array.getElem?_eq_some_iff.1 hb).1

theorem scrub1_has (id : Nat) (c : AV) : (scrub1 id c).has id = false := by
  unfold scrub1
  split
  · rfl
  · rename_i h; simpa using h

theorem den_scrub1 {E E' : Env} {id : Nat} (hle : E.Le E' (· ≠ id)) {c : AV} {u : Value} (h : Den E c u) : Den E' (scrub1 id c) u := by
  unfold scrub1
  split
  · simp [Den]
  · rename_i hc
    exact Den.mono hle c u (fun i hi e => by subst e; exact hc hi) h

theorem denL_scrub {E E' : Env} {id : Nat} (hle : E.Le E' (· ≠ id)) : ∀ {cs : List AV} {us : List Value}, DenL E cs us → DenL E' (scrubL id cs) us
  | [], us, h => by simpa [DenL, scrubL] using h
  | c :: cs, us, h => by
    simp only [DenL, scrubL, List.map_cons] at h ⊢
    obtain ⟨u, us', rfl, hc, hr⟩ := h
    exact ⟨u, us', rfl, den_scrub1 hle hc, denL_scrub hle hr⟩

theorem AtCells.scrub {E E' : Env} {id : Nat} (hle : E.Le E' (· ≠ id)) {c : Array Value} {o : Nat} {cs : List AV} (h : AtCells E c o cs) : AtCells E' c o (scrubL id cs) := by
  intro i x hx
  simp only [scrubL, List.getElem?_map, Option.map_eq_some_iff] at hx
  obtain ⟨y, hy, rfl⟩ := hx
  obtain ⟨u, hu, hd⟩ := h i y hy
  exact ⟨u, hu, den_scrub1 hle hd⟩

theorem AtCells.mono {E E' : Env} {ids : Nat → Prop} (hle : E.Le E' ids) {c : Array Value} {o : Nat} {cs : List AV} (hi : ∀ i, hasL i cs = true → ids i) (h : AtCells E c o cs) : AtCells E' c o cs := by
  intro i x hx
  obtain ⟨u, hu, hd⟩ := h i x hx
  refine ⟨u, hu, Den.mono hle x u (fun j hj => hi j ?_) hd⟩
  clear h hi hd hu
  induction cs generalizing i with
  | nil => simp at hx
  | cons y ys ih =>
    cases i with
    | zero => simp at hx; subst hx; simp [hasL, hj]
    | succ i => simp only [hasL, Bool.or_eq_true]; exact .inr (ih i (by simpa using hx))

theorem AtEntries.scrub {E E' : Env} {id : Nat} (hle : E.Le E' (· ≠ id)) {c : Array MapEntry} {clk : Nat} {es : List (Value × AV)} (h : AtEntries E c clk es) :
    AtEntries E' c clk (es.map fun e => (e.1, scrub1 id e.2)) := by
  obtain ⟨h1, h2, h3, h4⟩ := h
  refine ⟨by simpa using h1, h2, h3, fun i k x hx => ?_⟩
  simp only [List.getElem?_map, Option.map_eq_some_iff] at hx
  obtain ⟨⟨k', y⟩, hy, he⟩ := hx
  simp only [Prod.mk.injEq] at he
  obtain ⟨rfl, rfl⟩ := he
  obtain ⟨e, h5, h6, h7⟩ := h4 i _ y hy
  exact ⟨e, h5, h6, den_scrub1 hle h7⟩

theorem AtEntries.mono {E E' : Env} (hle : E.Le E' (fun _ => True)) {c : Array MapEntry} {clk : Nat} {es : List (Value × AV)} (h : AtEntries E c clk es) : AtEntries E' c clk es := by
  obtain ⟨h1, h2, h3, h4⟩ := h
  refine ⟨h1, h2, h3, fun i k x hx => ?_⟩
  obtain ⟨e, h5, h6, h7⟩ := h4 i k x hx
  exact ⟨e, h5, h6, Den.mono hle x _ (fun _ _ => trivial) h7⟩

/-- the environment with another place for one object, and another heap -/
def Env.upd (E : Env) (h : Array Obj) (id : Nat) (l : Loc) : Env := { E with heap := h, β := fun i => if i = id then l else E.β i }

@[simp] theorem Env.upd_heap (E : Env) (h : Array Obj) (id : Nat) (l : Loc) : (E.upd h id l).heap = h := rfl
@[simp] theorem Env.upd_S0 (E : Env) (h : Array Obj) (id : Nat) (l : Loc) : (E.upd h id l).S0 = E.S0 := rfl
@[simp] theorem Env.upd_S1 (E : Env) (h : Array Obj) (id : Nat) (l : Loc) : (E.upd h id l).S1 = E.S1 := rfl
@[simp] theorem Env.upd_same (E : Env) (h : Array Obj) (id : Nat) (l : Loc) : (E.upd h id l).β id = l := by simp [Env.upd]
theorem Env.upd_other (E : Env) (h : Array Obj) (id : Nat) (l : Loc) {i : Nat} (hi : i ≠ id) : (E.upd h id l).β i = E.β i := by simp [Env.upd, hi]

/-- where the new place of an object may be -/
structure Moves (C : Ctx) (E : Env) (H : Mem) (h' : Array Obj) (id : Nat) (l : Loc) : Prop where
  size : E.heap.size ≤ h'.size
  rest : ∀ b, b < E.heap.size → b ≠ l.blk → h'[b]? = E.heap[b]?
  place : (∃ b, find H id = some b ∧ 0 < (E.β id).sz ∧ l.blk = (E.β id).blk) ∨ (E.heap.size ≤ l.blk) ∨ (l.sz = 0 ∧ h' = E.heap)

theorem Moves.le {C : Ctx} {E : Env} {H : Mem} {h' : Array Obj} {id : Nat} {l : Loc} (hR : Rel C E H) (hm : Moves C E H h' id l) : E.Le (E.upd h' id l) (· ≠ id) := by
  have key : ∀ b, b < E.heap.size → (E.S0 b ∨ E.S1 b) → h'[b]? = E.heap[b]? := by
    intro b hlt hb
    rcases hm.place with ⟨bb, hf, hs, hp⟩ | hp | ⟨_, hp⟩
    · refine hm.rest b hlt ?_
      rw [hp]
      obtain ⟨ho, hn⟩ := hR.own id bb hf hs
      rintro rfl
      rcases hb with hb | hb
      · rw [hR.s0eq] at hb
        obtain ⟨h1, h2⟩ := hR.s0 _ hb
        rcases ho with ⟨_, ho⟩ | ho
        · exact h2 ho
        · omega
      · exact hn hb
    · exact hm.rest b hlt (by omega)
    · rw [hp]
  refine ⟨fun b hb => ⟨.inl hb, key b ?_ (.inl hb)⟩, fun b hb => ⟨hb, key b (hR.s1 b hb).2 (.inr hb)⟩, fun i hi => E.upd_other h' id l hi⟩
  rw [hR.s0eq] at hb
  have := (hR.s0 b hb).1
  have := hR.size
  omega

theorem Rel.moves {C : Ctx} {E : Env} {H : Mem} {h' : Array Obj} {id : Nat} {l : Loc} {b' : Blk} (hR : Rel C E H) (hm : Moves C E H h' id l) (hk : id ∉ C.keep)
    (hb : BlkOk (E.upd h' id l) id b') (H' : Mem) (hH' : ∀ i, find H' i = if i = id then some b' else (find H i).map (scrubB id)) : Rel C (E.upd h' id l) H' := by
  have hle := hm.le hR
  have hneq : ∀ i b, find H i = some b → i ≠ id → 0 < (E.β i).sz → 0 < l.sz → (E.β i).blk ≠ l.blk := by
    intro i b hf hi hs hl
    rcases hm.place with ⟨bb, hf', hs', hp⟩ | hp | ⟨h0, _⟩
    · rw [hp]; exact hR.dist _ _ _ _ hf hf' hi hs hs'
    · have := (hR.blk i b hf).lt hs; omega
    · omega
  have hsame : ∀ i b, find H i = some b → i ≠ id → 0 < (E.β i).sz → h'[(E.β i).blk]? = E.heap[(E.β i).blk]? := by
    intro i b hf hi hs
    rcases hm.place with ⟨bb, hf', hs', hp⟩ | hp | ⟨h0, hp⟩
    · exact hm.rest _ ((hR.blk i b hf).lt hs) (by rw [hp]; exact hR.dist _ _ _ _ hf hf' hi hs hs')
    · have := (hR.blk i b hf).lt hs; exact hm.rest _ this (by omega)
    · rw [hp]
  have hother : ∀ i b, find H' i = some b → i ≠ id → ∃ bb, find H i = some bb ∧ b = scrubB id bb := by
    intro i b hf hi
    rw [hH' i, if_neg hi] at hf
    obtain ⟨bb, h1, h2⟩ := Option.map_eq_some_iff.1 hf
    exact ⟨bb, h1, h2.symm⟩
  refine ⟨Nat.le_trans hR.size hm.size, ?_, by simpa using hR.s0eq, hR.s0, ?_, ?_, ?_, ?_, ?_, hle.mrk hR.mrk, hR.os⟩
  · intro b hlt hx
    rw [← hR.frame b hlt hx]
    have hlt' : b < E.heap.size := Nat.lt_of_lt_of_le hlt hR.size
    rcases hm.place with ⟨bb, hf, hs, hp⟩ | hp | ⟨_, hp⟩
    · refine hm.rest b hlt' ?_
      rw [hp]
      rintro rfl
      rcases (hR.own id bb hf hs).1 with ⟨_, ho⟩ | ho
      · exact hx ho
      · omega
    · exact hm.rest b hlt' (by omega)
    · simp [hp]
  · intro b hb'
    have := hR.s1 b hb'
    exact ⟨this.1, Nat.lt_of_lt_of_le this.2 hm.size⟩
  · intro i hi
    have hne : i ≠ id := fun e => hk (e ▸ hi)
    rw [E.upd_other h' id l hne]; exact hR.keep i hi
  · intro i b hf
    by_cases hi : i = id
    · subst hi
      rw [hH' i, if_pos rfl] at hf
      obtain rfl := Option.some.inj hf
      exact hb
    · obtain ⟨bb, h1, rfl⟩ := hother i b hf hi
      have hbb := hR.blk i bb h1
      cases bb with
      | cells cs =>
        rcases hbb with ⟨h0, rfl⟩ | ⟨hs, c, t, fz, hh, hsz, hlen, hfz, hat⟩
        · exact .inl ⟨by rw [E.upd_other h' id l hi]; exact h0, rfl⟩
        · refine .inr ?_
          rw [E.upd_other h' id l hi]
          refine ⟨hs, c, t, fz, ?_, hsz, by simpa [scrubL] using hlen, hfz, hat.scrub hle⟩
          rw [Env.upd_heap, hsame i _ h1 hi hs]; exact hh
      | map es =>
        obtain ⟨hs, c, clk, hh, hat⟩ := hbb
        refine ⟨by rw [E.upd_other h' id l hi]; exact hs, c, clk, ?_, hat.scrub hle⟩
        rw [E.upd_other h' id l hi, Env.upd_heap, hsame i _ h1 hi hs]; exact hh
      | oth k xs =>
        obtain ⟨hs, o, us, hh, hd, hk⟩ := hbb
        refine ⟨by rw [E.upd_other h' id l hi]; exact hs, o, us, ?_, denL_scrub hle hd, by rw [E.upd_other h' id l hi]; exact hk⟩
        rw [E.upd_other h' id l hi, Env.upd_heap, hsame i _ h1 hi hs]; exact hh
  · intro i b hf hs
    by_cases hi : i = id
    · subst hi
      simp only [Env.upd_same] at hs ⊢
      rcases hm.place with ⟨bb, hf', hs', hp⟩ | hp | ⟨h0, _⟩
      · rw [hp]; exact hR.own _ _ hf' hs'
      · exact ⟨.inr (Nat.le_trans hR.size hp), fun h1 => by have := (hR.s1 _ h1).2; omega⟩
      · omega
    · obtain ⟨bb, h1, rfl⟩ := hother i b hf hi
      rw [E.upd_other h' id l hi] at hs ⊢
      exact hR.own i bb h1 hs
  · intro i b j b2 hf hf2 hij hs hs2
    by_cases hi : i = id
    · subst hi
      have hj : j ≠ i := fun e => hij e.symm
      obtain ⟨bb, h1, rfl⟩ := hother j b2 hf2 hj
      rw [E.upd_other h' i l hj] at hs2 ⊢
      simp only [Env.upd_same] at hs ⊢
      exact fun e => hneq j bb h1 hj hs2 hs e.symm
    · obtain ⟨bb, h1, rfl⟩ := hother i b hf hi
      by_cases hj : j = id
      · subst hj
        rw [E.upd_other h' j l hi] at hs ⊢
        simp only [Env.upd_same] at hs2 ⊢
        exact hneq i bb h1 hi hs hs2
      · obtain ⟨bb2, h2, rfl⟩ := hother j b2 hf2 hj
        rw [E.upd_other h' id l hi] at hs ⊢
        rw [E.upd_other h' id l hj] at hs2 ⊢
        exact hR.dist i bb j bb2 h1 h2 hij hs hs2

theorem find_put_scrub (H : Mem) (id : Nat) (b' : Blk) (i : Nat) : find (put (scrubH id H) id b') i = if i = id then some b' else (find H i).map (scrubB id) := by
  rw [find_put, find_scrubH]

/-- an object is written where it lies -/
theorem Rel.write {C : Ctx} {E : Env} {H : Mem} {h' : Array Obj} {id : Nat} {b b' : Blk} (hR : Rel C E H) (hf : find H id = some b) (hs : 0 < (E.β id).sz)
    (hsz : h'.size = E.heap.size) (hrest : ∀ j, j ≠ (E.β id).blk → h'[j]? = E.heap[j]?) (hb : BlkOk { E with heap := h' } id b') :
    Rel C { E with heap := h' } (put H id b') ∧ E.Le { E with heap := h' } (fun _ => True) := by
  have hle : E.Le { E with heap := h' } (fun _ => True) := by
    have hlive := hR.own id b hf hs
    refine ⟨fun j hj => ⟨.inl hj, hrest j ?_⟩, fun j hj => ⟨hj, hrest j ?_⟩, fun _ _ => rfl⟩
    · rw [hR.s0eq] at hj
      rintro rfl
      rcases hlive.1 with ⟨_, h1⟩ | h1
      · exact (hR.s0 _ hj).2 h1
      · have := (hR.s0 _ hj).1; omega
    · rintro rfl; exact hlive.2 hj
  refine ⟨⟨by simpa [hsz] using hR.size, ?_, hR.s0eq, hR.s0, fun j hj => by simpa [hsz] using hR.s1 j hj, hR.keep, ?_, ?_, ?_, hle.mrk hR.mrk, hR.os⟩, hle⟩
  · intro j hj hx
    rw [← hR.frame j hj hx]
    refine hrest j ?_
    rintro rfl
    rcases (hR.own id b hf hs).1 with ⟨_, h1⟩ | h1
    · exact hx h1
    · omega
  · intro i bb hfi
    rw [find_put] at hfi
    by_cases hi : i = id
    · subst hi
      rw [if_pos rfl] at hfi
      obtain rfl := Option.some.inj hfi
      exact hb
    · rw [if_neg hi] at hfi
      have hbb := hR.blk i bb hfi
      cases bb with
      | cells cs =>
        rcases hbb with h0 | ⟨hs', c, t, fz, hh, hsz', hlen, hfz, hat⟩
        · exact .inl h0
        · refine .inr ⟨hs', c, t, fz, ?_, hsz', hlen, hfz, hat.mono hle (fun _ _ => trivial)⟩
          show h'[(E.β i).blk]? = _
          rw [hrest _ (hR.dist _ _ _ _ hfi hf hi hs' hs)]; exact hh
      | map es =>
        obtain ⟨hs', c, clk, hh, hat⟩ := hbb
        refine ⟨hs', c, clk, ?_, hat.mono hle⟩
        show h'[(E.β i).blk]? = _
        rw [hrest _ (hR.dist _ _ _ _ hfi hf hi hs' hs)]; exact hh
      | oth k xs =>
        obtain ⟨hs', o, us, hh, hd, hk⟩ := hbb
        refine ⟨hs', o, us, ?_, DenL.mono hle xs us (fun _ _ => trivial) hd, hk⟩
        show h'[(E.β i).blk]? = _
        rw [hrest _ (hR.dist _ _ _ _ hfi hf hi hs' hs)]; exact hh
  · intro i bb hfi hsi
    rw [find_put] at hfi
    by_cases hi : i = id
    · subst hi; exact hR.own i b hf hsi
    · rw [if_neg hi] at hfi; exact hR.own i bb hfi hsi
  · intro i bb j bb2 hfi hfj hij hsi hsj
    rw [find_put] at hfi hfj
    by_cases hi : i = id
    · subst hi
      rw [if_neg (fun e => hij e.symm)] at hfj
      exact hR.dist i b j bb2 hf hfj hij hsi hsj
    · rw [if_neg hi] at hfi
      by_cases hj : j = id
      · subst hj; exact hR.dist i bb j b hfi hf hij hsi hsj
      · rw [if_neg hj] at hfj; exact hR.dist i bb j bb2 hfi hfj hij hsi hsj

/-- a new row of cells -/
theorem Rel.fresh {C : Ctx} {E : Env} {H : Mem} (hR : Rel C E H) (id : Nat) (hk : id ∉ C.keep) (c : Array Value) (t : TypeId) (cs : List AV) (hlen : cs.length ≤ c.size)
    (hat : AtCells E c 0 cs) : Rel C (E.upd (E.heap.push (.cells c t)) id ⟨E.heap.size, 0, c.size⟩) (put (scrubH id H) id (.cells (scrubL id cs))) ∧
      E.Le (E.upd (E.heap.push (.cells c t)) id ⟨E.heap.size, 0, c.size⟩) (· ≠ id) := by
  have hm : Moves C E H (E.heap.push (.cells c t)) id ⟨E.heap.size, 0, c.size⟩ :=
    ⟨by simp, fun b hb hne => by rw [Array.getElem?_push]; simp [Nat.ne_of_lt hb], .inr (.inl (Nat.le_refl _))⟩
  have hle := hm.le hR
  refine ⟨hR.moves hm hk ?_ _ (find_put_scrub H id _), hle⟩
  by_cases h0 : c.size = 0
  · refine .inl ⟨by simpa using h0, ?_⟩
    have : cs.length = 0 := by omega
    have := List.length_eq_zero_iff.1 this
    subst this; rfl
  · refine .inr ⟨by simp; omega, c, t, (0, 0), by simp, by simp, by simpa [scrubL] using hlen, FzOk.zero _, ?_⟩
    simpa using hat.scrub hle

/-- an object that is written no more becomes data -/
theorem Rel.shut {C : Ctx} {E : Env} {H : Mem} (hR : Rel C E H) (id : Nat) (b : Blk) (hf : find H id = some b) (he : id ∉ C.ent) :
    Rel C { E with S1 := fun j => E.S1 j ∨ (0 < (E.β id).sz ∧ j = (E.β id).blk) } (erase H id) ∧ E.Le { E with S1 := fun j => E.S1 j ∨ (0 < (E.β id).sz ∧ j = (E.β id).blk) } (fun _ => True) := by
  have hle : E.Le { E with S1 := fun j => E.S1 j ∨ (0 < (E.β id).sz ∧ j = (E.β id).blk) } (fun _ => True) :=
    ⟨fun b hb => ⟨.inl hb, rfl⟩, fun b hb => ⟨.inl hb, rfl⟩, fun _ _ => rfl⟩
  refine ⟨⟨hR.size, hR.frame, hR.s0eq, hR.s0, ?_, hR.keep, ?_, ?_, ?_, hle.mrk hR.mrk, hR.os⟩, hle⟩
  · rintro j (hj | ⟨hs, rfl⟩)
    · exact hR.s1 j hj
    · refine ⟨?_, (hR.blk id b hf).lt hs⟩
      rcases (hR.own id b hf hs).1 with ⟨h1, _⟩ | h1
      · exact absurd h1 he
      · exact h1
  · intro i bb hfi
    rw [find_erase] at hfi
    by_cases hi : i = id
    · simp [hi] at hfi
    · rw [if_neg hi] at hfi
      have hbb := hR.blk i bb hfi
      cases bb with
      | cells cs =>
        rcases hbb with h0 | ⟨hs', c, t, fz, hh, hsz', hlen, hfz, hat⟩
        · exact .inl h0
        · exact .inr ⟨hs', c, t, fz, hh, hsz', hlen, hfz, hat.mono hle (fun _ _ => trivial)⟩
      | map es =>
        obtain ⟨hs', c, clk, hh, hat⟩ := hbb
        exact ⟨hs', c, clk, hh, hat.mono hle⟩
      | oth k xs =>
        obtain ⟨hs', o, us, hh, hd, hk⟩ := hbb
        exact ⟨hs', o, us, hh, DenL.mono hle xs us (fun _ _ => trivial) hd, hk⟩
  · intro i bb hfi hsi
    rw [find_erase] at hfi
    by_cases hi : i = id
    · simp [hi] at hfi
    · rw [if_neg hi] at hfi
      refine ⟨(hR.own i bb hfi hsi).1, ?_⟩
      rintro (h1 | ⟨hs, h1⟩)
      · exact (hR.own i bb hfi hsi).2 h1
      · exact hR.dist i bb id b hfi hf hi hsi hs h1
  · intro i bb j bb2 hfi hfj hij hsi hsj
    rw [find_erase] at hfi hfj
    by_cases hi : i = id
    · simp [hi] at hfi
    · by_cases hj : j = id
      · simp [hj] at hfj
      · rw [if_neg hi] at hfi; rw [if_neg hj] at hfj
        exact hR.dist i bb j bb2 hfi hfj hij hsi hsj

end Go.Dk

/-
  Dk, part D: what the model's loads, stores, new rows and appends do to a heap, said of whole rows of cells.
-/
namespace Go.Dk
set_option autoImplicit false
set_option linter.unusedSectionVars false
set_option linter.unusedVariables false

def tyAgg (P : Program) (t : TypeId) : Option Bool :=
  match P.underlying t with
  | some (.struct _) => some true
  | some (.array _ _) => some true
  | some _ => some false
  | none => none
def tySize (P : Program) (t : TypeId) : Option Nat := (P.info? t).map (·.size)
def tyBytes (P : Program) (t : TypeId) : Option Nat := (P.info? t).map (·.bytes)
def tyZero (P : Program) (t : TypeId) : Option (List Value) := (P.info? t).bind fun i => i.zero.map fun z => z.cells.toList

section
variable {P : Program} {w : World}

theorem run_sizeOf' {t : TypeId} {n : Nat} (h : tySize P t = some n) : (sizeOf t).run P w = .ok n w := by
  unfold tySize at h
  cases hi : P.info? t with
  | none => simp [hi] at h
  | some i => simp [hi] at h; subst h; simp [sizeOf, typeInfo, hi]

theorem run_typeInfo' {t : TypeId} {n : Nat} (h : tyBytes P t = some n) : ∃ i, (typeInfo t).run P w = .ok i w ∧ i.bytes = n := by
  unfold tyBytes at h
  cases hi : P.info? t with
  | none => simp [hi] at h
  | some i => simp [hi] at h; exact ⟨i, by simp [typeInfo, hi], h⟩

theorem run_zeroValue' {t : TypeId} {l : List Value} (h : tyZero P t = some l) : ∃ z, (zeroValue t).run P w = .ok z w ∧ z.cells.toList = l := by
  unfold tyZero at h
  cases hi : P.info? t with
  | none => simp [hi] at h
  | some i =>
    simp [hi] at h
    obtain ⟨z, hz, hl⟩ := h
    exact ⟨z, by simp [zeroValue, typeInfo, hi, hz], hl⟩

theorem run_isAgg' {t : TypeId} {b : Bool} (h : tyAgg P t = some b) : (isAgg t).run P w = .ok b w := by
  unfold tyAgg at h
  unfold isAgg
  split at h <;> simp at h <;> subst h
  · rename_i hu; simp [run_underlying' hu]
  · rename_i hu; simp [run_underlying' hu]
  · rename_i d h1 h2 hu
    simp only [Sem.run_bind, run_underlying' hu, Result.andThen_ok]
    cases d <;> first | rfl | exact (h1 _ hu).elim | exact (h2 _ _ hu).elim

theorem addr_add (b o j : Nat) : (⟨b, o, none⟩ : Addr).add j = ⟨b, o + j, none⟩ := by
  unfold Addr.add; split
  · rename_i h; simp [h]
  · rfl

theorem run_load_at {b o : Nat} {v : Value} (h : cellOf w.heap b o = some v) : (load ⟨b, o, none⟩).run P w = .ok v w := by
  rw [← cellOf_world] at h
  simp [h]

theorem run_loadCells' {b o : Nat} (us : List Value) (h : ∀ (j : Nat) v, us[j]? = some v → cellOf w.heap b (o + j) = some v) : (loadCells ⟨b, o, none⟩ us.length).run P w = .ok us.toArray w :=
  run_loadCells_list w ⟨b, o, none⟩ us fun j v hj => by rw [addr_add, cellOf_world]; exact h j v hj

end

/-- cells denote a list of abstract values -/
theorem atCells_take {E : Env} {c : Array Value} {o : Nat} {cs : List AV} (h : AtCells E c o cs) (i n : Nat) (hl : i + n ≤ cs.length) :
    ∃ us : List Value, us.length = n ∧ DenL E ((cs.drop i).take n) us ∧ ∀ (j : Nat) v, us[j]? = some v → c[o + i + j]? = some v := by
  refine ⟨(List.range n).map fun j => c.getD (o + i + j) undef, by simp, ?_, ?_⟩
  · rw [denL_iff]
    refine ⟨by simp; omega, fun j x hx => ?_⟩
    have hj : j < n := by
      have := (List.getElem?_eq_some_iff.1 hx).1
      simp at this; omega
    have hx' : cs[i + j]? = some x := by
      rw [List.getElem?_take] at hx
      simp only [hj, if_true, List.getElem?_drop] at hx
      exact hx
    obtain ⟨u, hu, hd⟩ := h (i + j) x hx'
    refine ⟨u, ?_, hd⟩
    simp only [List.getElem?_map, List.getElem?_range hj, Option.map_some]
    rw [Nat.add_assoc, Array.getD_eq_getD_getElem?, hu]
    rfl
  · intro j v hj
    have hjn : j < n := by
      have := (List.getElem?_eq_some_iff.1 hj).1
      simpa using this
    simp only [List.getElem?_map, List.getElem?_range hjn, Option.map_some, Option.some.injEq] at hj
    obtain ⟨u, hu, _⟩ := h (i + j) (cs[i + j]'(by omega)) (List.getElem?_eq_getElem _)
    rw [Nat.add_assoc] at hj ⊢
    rw [Array.getD_eq_getD_getElem?, hu] at hj
    rw [hu, ← hj]; rfl

theorem denCs_len {h : Array Obj} {ok : Nat → Prop} {b : Nat} : ∀ {cs : List Dat} {o : Nat}, DenCs h ok b o cs → ∀ (i : Nat) (d : Dat), cs[i]? = some d → ∃ u, cellOf h b (o + i) = some u ∧ DenD h ok d u := by
  intro cs
  induction cs with
  | nil => intro o _ i d hd; simp at hd
  | cons c cs ih =>
    intro o hc i d hd
    simp only [DenCs] at hc
    cases i with
    | zero => simp at hd; subst hd; exact hc.1
    | succ i =>
      obtain ⟨u, hu, hdd⟩ := ih hc.2 i d (by simpa using hd)
      exact ⟨u, by rw [show o + (i + 1) = o + 1 + i by omega]; exact hu, hdd⟩

theorem denCs_of {h : Array Obj} {ok : Nat → Prop} {b : Nat} : ∀ {cs : List Dat} {o : Nat}, (∀ (i : Nat) (d : Dat), cs[i]? = some d → ∃ u, cellOf h b (o + i) = some u ∧ DenD h ok d u) → DenCs h ok b o cs := by
  intro cs
  induction cs with
  | nil => intro o _; simp [DenCs]
  | cons c cs ih =>
    intro o hc
    simp only [DenCs]
    refine ⟨by simpa using hc 0 c rfl, ih fun i d hd => ?_⟩
    obtain ⟨u, hu, hdd⟩ := hc (i + 1) d (by simpa using hd)
    exact ⟨u, by rw [show o + 1 + i = o + (i + 1) by omega]; exact hu, hdd⟩

theorem den_av {E : Env} {g : Bool} {d : Dat} {u : Value} (h : DenD E.heap (E.ok g) d u) : Den E (d.av g) u := by
  cases d with
  | v x => simp only [DenD] at h; simp only [Dat.av, Den]; exact h.1
  | sl k xs => simpa only [Dat.av, Den] using h

theorem denCs_take {E : Env} {g : Bool} {b o : Nat} {cs : List Dat} (h : DenCs E.heap (E.ok g) b o cs) (i n : Nat) (hl : i + n ≤ cs.length) :
    ∃ us : List Value, us.length = n ∧ DenL E (((cs.map (Dat.av g)).drop i).take n) us ∧ (∀ u ∈ us, u.oneCell' = true) ∧ ∀ (j : Nat) v, us[j]? = some v → cellOf E.heap b (o + i + j) = some v := by
  have one : ∀ {d : Dat} {u : Value}, DenD E.heap (E.ok g) d u → u.oneCell' = true := by
    intro d u hd
    cases d with
    | v x => simp only [DenD] at hd; exact hd.2
    | sl k xs => simp only [DenD] at hd; obtain ⟨a, cap, rfl, _⟩ := hd; rfl
  have h' := denCs_len h
  refine ⟨(List.range n).map fun j => (cellOf E.heap b (o + i + j)).getD undef, by simp, ?_, ?_, ?_⟩
  · rw [denL_iff]
    refine ⟨by simp; omega, fun j x hx => ?_⟩
    have hj : j < n := by
      have := (List.getElem?_eq_some_iff.1 hx).1
      simp at this; omega
    rw [List.getElem?_take] at hx
    simp only [hj, if_true, List.getElem?_drop, List.getElem?_map, Option.map_eq_some_iff] at hx
    obtain ⟨d, hd, rfl⟩ := hx
    obtain ⟨u, hu, hdd⟩ := h' (i + j) d hd
    refine ⟨u, ?_, den_av hdd⟩
    simp only [List.getElem?_map, List.getElem?_range hj, Option.map_some]
    rw [Nat.add_assoc, hu]; rfl
  · intro u hu
    simp only [List.mem_map, List.mem_range] at hu
    obtain ⟨j, hj, rfl⟩ := hu
    obtain ⟨u, hu, hdd⟩ := h' (i + j) (cs[i + j]'(by omega)) (List.getElem?_eq_getElem _)
    rw [Nat.add_assoc, hu]; exact one hdd
  · intro j v hj
    have hjn : j < n := by
      have := (List.getElem?_eq_some_iff.1 hj).1
      simpa using this
    simp only [List.getElem?_map, List.getElem?_range hjn, Option.map_some, Option.some.injEq] at hj
    obtain ⟨u, hu, _⟩ := h' (i + j) (cs[i + j]'(by omega)) (List.getElem?_eq_getElem _)
    rw [Nat.add_assoc] at hj ⊢
    rw [hu] at hj ⊢; rw [← hj]; rfl

section stores
variable {P : Program}

theorem run_storeCells' (b o : Nat) (t : TypeId) (fz : Nat × Nat) : ∀ (vs : List Value) (i : Nat) (c : Array Value) (w : World), w.heap[b]? = some (.cells c t fz) →
    (∀ i, i < c.size → ¬ (fz.1 ≤ i ∧ i < fz.2)) → o + i + vs.length ≤ c.size → (∀ v ∈ vs, v.oneCell' = true) →
    ∃ w' c', (storeCells ⟨b, o, none⟩ vs i).run P w = .ok () w' ∧ w'.heap = w.heap.setIfInBounds b (.cells c' t fz) ∧ c'.size = c.size ∧ (w'.os = w.os ∧ w'.output = w.output) ∧
      ∀ j, c'[j]? = if o + i ≤ j ∧ j < o + i + vs.length then vs[j - (o + i)]? else c[j]? := by
  intro vs
  induction vs with
  | nil =>
    intro i c w hb hfz hl hv
    refine ⟨w, c, rfl, ?_, rfl, ⟨rfl, rfl⟩, fun j => by simp; omega⟩
    apply Array.ext_getElem?
    intro j
    by_cases hj : b = j
    · subst hj
      have := (Array.getElem?_eq_some_iff.1 hb).1
      rw [Array.getElem?_setIfInBounds_self, if_pos this, hb]
    · rw [Array.getElem?_setIfInBounds_ne hj]
  | cons v vs ih =>
    intro i c w hb hfz hl hv
    simp only [List.length_cons] at hl
    have hcell : w.cell? ⟨b, o + i, none⟩ = some (c[o + i]'(by omega)) := by rw [cellOf_world]; simp [cellOf, hb, Array.getElem?_eq_getElem (show o + i < c.size by omega)]
    have hfr : w.frozen? ⟨b, o + i, none⟩ = false := by
      have := hfz (o + i) (by omega)
      simp [World.frozen?, hb]; omega
    have hst := run_store P w ⟨b, o + i, none⟩ v .plain (hv v (by simp))
    rw [hcell, hfr] at hst
    simp at hst
    have hb1 : (w.setCell ⟨b, o + i, none⟩ v).heap[b]? = some (.cells (c.setIfInBounds (o + i) v) t fz) := by
      simp [World.setCell, Array.getElem?_modify, hb]
    obtain ⟨w', c', hr, hh, hs, hos, hc⟩ := ih (i + 1) (c.setIfInBounds (o + i) v) _ hb1 (by simpa using hfz) (by simpa using (by omega)) (fun u hu => hv u (by simp [hu]))
    refine ⟨w', c', ?_, ?_, by simpa using hs, ⟨hos.1.trans rfl, hos.2.trans rfl⟩, ?_⟩
    · simp only [storeCells, Sem.run_bind, addr_add, hst, Result.andThen_ok]; exact hr
    · rw [hh]
      apply Array.ext_getElem?
      intro j
      by_cases hj : b = j
      · subst hj
        have := (Array.getElem?_eq_some_iff.1 hb).1
        rw [Array.getElem?_setIfInBounds_self, Array.getElem?_setIfInBounds_self]; simp [World.setCell, this]
      · rw [Array.getElem?_setIfInBounds_ne hj, Array.getElem?_setIfInBounds_ne hj]
        simp [World.setCell, Array.getElem?_modify, hj]
    · intro j
      rw [hc j]
      by_cases h1 : j = o + i
      · subst h1
        rw [if_neg (by omega), if_pos (by simp)]
        simp [show o + i < c.size by omega]
      · by_cases h2 : o + (i + 1) ≤ j ∧ j < o + (i + 1) + vs.length
        · rw [if_pos h2, if_pos (by simp; omega), show j - (o + i) = (j - (o + (i + 1))) + 1 by omega]
          simp
        · rw [if_neg h2, if_neg (by simp; omega), Array.getElem?_setIfInBounds_ne (fun e => h1 e.symm)]

theorem run_newRow' (w : World) (t : TypeId) (c : Array Value) : (newRow t c).run P w = .ok ⟨w.heap.size, 0, none⟩ { w with heap := w.heap.push (.cells c t) } := by
  simp [newRow]

end stores
end Go.Dk

/-
  Dk, part E: operations that write no memory, on abstract values; the model gives the same.
-/
namespace Go.Dk
set_option autoImplicit false
set_option linter.unusedSectionVars false
set_option linter.unusedVariables false

def look : List (Nat × AV) → Nat → AV
  | [], _ => .any
  | (i, x) :: r, t => if i == t then x else look r t

def getA (env : List (Nat × AV)) : Operand → AV
  | .tmp t => look env t
  | .const v => .v v
  | .global _ => .any
  | .func f => .fn (.func f) []

def AV.cells : AV → Option (List AV)
  | .any => none
  | .tup _ => none
  | .v (.tuple _) => none
  | .v (.agg us) => some (us.toList.map .v)
  | .agg cs => some cs
  | x => some [x]

theorem denL_v {E : Env} : ∀ (us : List Value), DenL E (us.map .v) us
  | [] => by simp [DenL]
  | u :: us => by
    simp only [List.map_cons, DenL]
    exact ⟨u, us, rfl, by simp [Den], denL_v us⟩

theorem den_cells {E : Env} {x : AV} {u : Value} {cs : List AV} (hc : x.cells = some cs) (h : Den E x u) : DenL E cs u.cells.toList := by
  have one : ∀ {x : AV} {u : Value}, (∀ us, u ≠ .agg us) → Den E x u → DenL E [x] u.cells.toList := by
    intro x u hu hd
    have : u.cells = #[u] := by cases u <;> first | rfl | exact absurd rfl (hu _)
    rw [this]; simp [DenL, hd]
  cases x with
  | any => simp [AV.cells] at hc
  | tup vs => simp [AV.cells] at hc
  | v y =>
    simp only [Den] at h; subst h
    cases u <;> simp [AV.cells] at hc <;> subst hc <;> first | (exact one (by intro us; simp) (by simp [Den])) | (simp [Value.cells, denL_v])
  | agg cs' =>
    simp [AV.cells] at hc; subst hc
    simp only [Den] at h
    obtain ⟨us, rfl, hd⟩ := h
    simpa [Value.cells] using hd
  | ptr a b => simp [AV.cells] at hc; subst hc; refine one ?_ h; simp only [Den] at h; subst h; simp
  | slc a b c d => simp [AV.cells] at hc; subst hc; refine one ?_ h; simp only [Den] at h; rcases h with ⟨_, a, rfl⟩ | ⟨cap, _, _, _, _, rfl⟩ <;> simp
  | imm a b c => simp [AV.cells] at hc; subst hc; refine one ?_ h; simp only [Den, DenD] at h; obtain ⟨a, cap, rfl, _⟩ := h; simp
  | iptr a b => simp [AV.cells] at hc; subst hc; refine one ?_ h; simp only [Den] at h; obtain ⟨b, o, rfl, _⟩ := h; simp
  | mp a => simp [AV.cells] at hc; subst hc; refine one ?_ h; simp only [Den] at h; subst h; simp
  | fn f cap => simp [AV.cells] at hc; subst hc; refine one ?_ h; simp only [Den] at h; obtain ⟨us, rfl, _⟩ := h; simp

def fieldA (P : Program) (s : TypeId) (f : Nat) (x : AV) : Option AV :=
  match P.underlying s with
  | some (.struct fs) => match fs[f]? with
    | some fld => match tySize P fld.type with
      | some (n + 1) => match x with
        | .ptr id off => some (.ptr id (off + fld.offset))
        | .iptr g cs => some (.iptr g (cs.drop fld.offset))
        | _ => none
      | _ => none
    | none => none
  | _ => none

theorem denCs_drop {h : Array Obj} {ok : Nat → Prop} {b o : Nat} {cs : List Dat} (hc : DenCs h ok b o cs) (k : Nat) : DenCs h ok b (o + k) (cs.drop k) := by
  refine denCs_of fun i d hd => ?_
  rw [List.getElem?_drop] at hd
  obtain ⟨u, hu, hdd⟩ := denCs_len hc (k + i) d hd
  exact ⟨u, by rw [Nat.add_assoc]; exact hu, hdd⟩

theorem run_fieldA {E : Env} {P : Program} {w : World} {s : TypeId} {f : Nat} {x y : AV} {u : Value} (h : fieldA P s f x = some y) (hx : Den E x u) :
    ∃ v, (Instr.fieldAt s u f).run P w = .ok v w ∧ Den E y v := by
  unfold fieldA at h
  split at h <;> try simp at h
  rename_i fs hu
  split at h <;> try simp at h
  rename_i fld hf
  split at h <;> try simp at h
  rename_i n hn
  split at h <;> simp at h <;> subst h <;> simp only [Den] at hx
  · subst hx
    exact ⟨_, by simp [Instr.fieldAt, run_underlying' hu, hf, Instr.sureAddr, fieldPlace, run_sizeOf' hn, addr_add]; rfl, by simp [Den, Nat.add_assoc]⟩
  · obtain ⟨b, o, rfl, hb, hc⟩ := hx
    exact ⟨_, by simp [Instr.fieldAt, run_underlying' hu, hf, Instr.sureAddr, fieldPlace, run_sizeOf' hn, addr_add]; rfl, by simp only [Den]; exact ⟨b, o + fld.offset, rfl, hb, denCs_drop hc _⟩⟩

def partA (P : Program) (s : TypeId) (f : Nat) (cs : List AV) : Option AV :=
  match P.underlying s with
  | some (.struct fs) => match fs[f]? with
    | some fld => match tyAgg P fld.type with
      | some true => match tySize P fld.type with
        | some n => some (.agg ((cs.drop fld.offset).take n))
        | none => none
      | some false => cs[fld.offset]?
      | none => none
    | none => none
  | _ => none

theorem denL_drop_take {E : Env} {xs : List AV} {us : List Value} (h : DenL E xs us) (i n : Nat) : DenL E ((xs.drop i).take n) ((us.drop i).take n) := by
  rw [denL_iff] at h ⊢
  obtain ⟨h1, h2⟩ := h
  refine ⟨by simp [h1], fun j x hx => ?_⟩
  rw [List.getElem?_take] at hx ⊢
  split at hx <;> simp at hx
  rename_i hj
  rw [if_pos hj]
  simpa using h2 (i + j) x hx

theorem run_partA {E : Env} {P : Program} {w : World} {s : TypeId} {f : Nat} {cs : List AV} {y : AV} {u : Value} (h : partA P s f cs = some y) (hx : Den E (.agg cs) u) :
    ∃ v, (Instr.field s u f).run P w = .ok v w ∧ Den E y v := by
  simp only [Den] at hx
  obtain ⟨us, rfl, hd⟩ := hx
  unfold partA at h
  split at h <;> try simp at h
  rename_i fs hu
  split at h <;> try simp at h
  rename_i fld hf
  split at h <;> try simp at h
  · rename_i ha
    split at h <;> simp at h
    rename_i n hn
    subst h
    refine ⟨_, by simp [Instr.field, run_underlying' hu, hf, asAgg, part, run_isAgg' ha, run_sizeOf' hn]; rfl, ?_⟩
    simp only [Den]
    exact ⟨_, rfl, by have := denL_drop_take hd fld.offset n; simpa [List.extract_eq_take_drop] using this⟩
  · rename_i ha
    obtain ⟨v, hv, hdv⟩ := (denL_iff.1 hd).2 _ _ h
    exact ⟨v, by simp [Instr.field, run_underlying' hu, hf, asAgg, part, run_isAgg' ha, hv], hdv⟩

def indexA (P : Program) (t : TypeId) (x i : AV) : Option AV :=
  match i with
  | .v (.int k n) => match P.underlying t with
    | some (.slice e) => match tySize P e with
      | some sz => match x with
        | .slc id k' off len => if k' = sz ∧ 0 ≤ n ∧ n < (len : Int) then some (.ptr id (off + n.toNat * sz)) else none
        | .imm g k' xs => if k' = sz ∧ 0 ≤ n then (xs[n.toNat]?).map (.iptr g) else none
        | _ => none
      | none => none
    | some (.array l e) => match tySize P e with
      | some sz => match x with
        | .ptr id off => if 0 ≤ n ∧ n < (l : Int) then some (.ptr id (off + n.toNat * sz)) else none
        | .iptr g cs => if 0 ≤ n ∧ n < (l : Int) then some (.iptr g (cs.drop (n.toNat * sz))) else none
        | _ => none
      | none => none
    | _ => none
  | _ => none

theorem denRows_at {h : Array Obj} {ok : Nat → Prop} {b k : Nat} : ∀ {xs : List (List Dat)} {o : Nat}, DenRows h ok b o k xs → ∀ (i : Nat) (r : List Dat), xs[i]? = some r → r.length = k ∧ DenCs h ok b (o + i * k) r := by
  intro xs
  induction xs with
  | nil => intro o _ i r hr; simp at hr
  | cons x xs ih =>
    intro o hd i r hr
    simp only [DenRows] at hd
    cases i with
    | zero => simp at hr; subst hr; simpa using ⟨hd.1, hd.2.1⟩
    | succ i =>
      have := ih hd.2.2 i r (by simpa using hr)
      rw [show o + (i + 1) * k = o + k + i * k by rw [Nat.succ_mul]; omega]; exact this

theorem run_indexA {E : Env} {P : Program} {w : World} {t : TypeId} {x i y : AV} {u u' : Value} (h : indexA P t x i = some y) (hx : Den E x u) (hi : Den E i u') :
    ∃ v, (Instr.indexAt t u u').run P w = .ok v w ∧ Den E y v := by
  unfold indexA at h
  split at h <;> try simp at h
  rename_i k n
  simp only [Den] at hi; subst hi
  split at h <;> try simp at h
  · rename_i e hu
    split at h <;> try simp at h
    rename_i sz hsz
    split at h <;> try simp at h
    · rename_i id k' off len
      obtain ⟨⟨rfl, h0, hlt⟩, rfl⟩ := h
      simp only [Den] at hx
      rcases hx with ⟨hl, _⟩ | ⟨cap, hl, hc, hs, hsz', rfl⟩
      · omega
      · refine ⟨_, by simp [Instr.indexAt, asIntOf, run_underlying' hu, h0, hlt, run_sizeOf' hsz, addr_add]; rfl, by simp [Den, Nat.add_assoc]⟩
    · rename_i g k' xs
      obtain ⟨⟨rfl, h0⟩, r, hr, rfl⟩ := h
      simp only [Den, DenD] at hx
      obtain ⟨a, cap, rfl, hl, hx⟩ := hx
      have hlt : n.toNat < xs.length := (List.getElem?_eq_some_iff.1 hr).1
      rcases hx with rfl | ⟨b, o, rfl, hb, hrow⟩
      · simp at hlt
      · obtain ⟨_, hc⟩ := denRows_at hrow _ _ hr
        refine ⟨_, by simp [Instr.indexAt, asIntOf, run_underlying' hu, h0, show n < (xs.length : Int) by omega, run_sizeOf' hsz, addr_add]; rfl, ?_⟩
        simp only [Den]; exact ⟨b, _, rfl, hb, hc⟩
  · rename_i l e hu
    split at h <;> try simp at h
    rename_i sz hsz
    split at h <;> try simp at h
    · rename_i id off
      obtain ⟨⟨h0, hlt⟩, rfl⟩ := h
      simp only [Den] at hx; subst hx
      refine ⟨_, by simp [Instr.indexAt, asIntOf, Instr.sureAddr, run_underlying' hu, h0, hlt, run_sizeOf' hsz, addr_add]; rfl, by simp [Den, Nat.add_assoc]⟩
    · rename_i g cs
      obtain ⟨⟨h0, hlt⟩, rfl⟩ := h
      simp only [Den] at hx
      obtain ⟨b, o, rfl, hb, hc⟩ := hx
      refine ⟨_, by simp [Instr.indexAt, asIntOf, Instr.sureAddr, run_underlying' hu, h0, hlt, run_sizeOf' hsz, addr_add]; rfl, ?_⟩
      simp only [Den]; exact ⟨b, _, rfl, hb, denCs_drop hc _⟩

def indexV (P : Program) (t : TypeId) (x i : AV) : Option AV :=
  match i, x with
  | .v (.int k n), .v (.string s) => match P.underlying t with
    | some .string => if 0 ≤ n then ((sL s)[n.toNat]?).map fun b => .v (.int .u8 b.toNat) else none
    | _ => none
  | .v (.int k n), .agg cs => match P.underlying t with
    | some (.array l e) => match tyAgg P e, tySize P e with
      | some false, some sz => if 0 ≤ n ∧ n < (l : Int) then cs[n.toNat * sz]? else none
      | some true, some sz => if 0 ≤ n ∧ n < (l : Int) then some (.agg ((cs.drop (n.toNat * sz)).take sz)) else none
      | _, _ => none
    | _ => none
  | _, _ => none

theorem run_indexV {E : Env} {P : Program} {w : World} {t : TypeId} {x i y : AV} {u u' : Value} (h : indexV P t x i = some y) (hx : Den E x u) (hi : Den E i u') :
    ∃ v, (Instr.index t u u').run P w = .ok v w ∧ Den E y v := by
  unfold indexV at h
  split at h <;> try simp at h
  · rename_i k n s
    simp only [Den] at hi hx; subst hi hx
    split at h <;> try simp at h
    rename_i hu
    obtain ⟨h0, b, hb, rfl⟩ := h
    have hs : s[n.toNat]? = some b := by
      have : s.data[n.toNat]? = some b := by simpa [sL] using hb
      rw [← this]
      obtain ⟨⟨l⟩⟩ := s
      simp only [getElem?_def]
      rfl
    exact ⟨_, by simp [Instr.index, asIntOf, run_underlying' hu, h0, hs]; rfl, by simp [Den]⟩
  · rename_i k n cs
    simp only [Den] at hi hx; subst hi
    obtain ⟨us, rfl, hd⟩ := hx
    split at h <;> try simp at h
    rename_i l e hu
    split at h <;> try simp at h
    · rename_i sz ha hsz
      obtain ⟨⟨h0, hlt⟩, h⟩ := h
      obtain ⟨v, hv, hdv⟩ := (denL_iff.1 hd).2 _ _ h
      exact ⟨v, by simp [Instr.index, asIntOf, run_underlying' hu, h0, hlt, part, run_isAgg' ha, run_sizeOf' hsz, hv], hdv⟩
    · rename_i sz ha hsz
      obtain ⟨⟨h0, hlt⟩, rfl⟩ := h
      refine ⟨_, by simp [Instr.index, asIntOf, run_underlying' hu, h0, hlt, part, run_isAgg' ha, run_sizeOf' hsz]; rfl, ?_⟩
      simp only [Den]
      exact ⟨_, rfl, by have := denL_drop_take hd (n.toNat * sz) sz; simpa [List.extract_eq_take_drop] using this⟩

/-- a bound of a slice expression -/
def bnd : Option AV → Nat → Option Nat
  | none, d => some d
  | some (.v (.int _ n)), _ => if 0 ≤ n then some n.toNat else none
  | some _, _ => none

def sliceA (P : Program) (t : TypeId) (x : AV) (lo hi mx : Option AV) : Option AV :=
  match P.underlying t with
  | some .string => match x, mx with
    | .v (.string s), none => match bnd lo 0, bnd hi (sL s).length with
      | some l, some h => if l ≤ h ∧ h ≤ (sL s).length then some (.v (.string (mkS (((sL s).drop l).take (h - l))))) else none
      | _, _ => none
    | _, _ => none
  | some (.slice e) => match tySize P e with
    | some sz => match x with
      | .slc id k off len => match bnd lo 0, bnd hi len, bnd mx len, hi.isSome || mx.isNone with
        | some l, some h, some m, true => if k = sz ∧ l ≤ h ∧ h ≤ m ∧ m ≤ len then some (.slc id k (off + l * sz) (h - l)) else none
        | _, _, _, _ => none
      | .imm g k xs => match bnd lo 0, bnd hi xs.length, bnd mx xs.length, hi.isSome || mx.isNone with
        | some l, some h, some m, true => if k = sz ∧ l ≤ h ∧ h ≤ m ∧ m ≤ xs.length then some (.imm g k ((xs.drop l).take (h - l))) else none
        | _, _, _, _ => none
      | .v (.slice none 0 0) => match bnd lo 0, bnd hi 0, mx with
        | some 0, some 0, none => some (.v (.slice none 0 0))
        | _, _, _ => none
      | _ => none
    | none => none
  | _ => none

def DenO (E : Env) : Option AV → Option Value → Prop
  | none, none => True
  | some x, some u => Den E x u
  | _, _ => False

theorem bnd_run {E : Env} {P : Program} {w : World} {x : Option AV} {u : Option Value} {d n : Nat} (hx : DenO E x u) (h : bnd x d = some n) :
    (u = none ∧ n = d) ∨ ∃ k, u = some (.int k (n : Int)) := by
  unfold bnd at h
  split at h
  · cases u with
    | none => left; simpa using h.symm
    | some u => simp [DenO] at hx
  · rename_i k i
    split at h <;> simp at h
    subst h
    cases u with
    | none => simp [DenO] at hx
    | some u => simp only [DenO, Den] at hx; subst hx; right; exact ⟨k, by congr 2; omega⟩
  · simp at h

theorem run_bounds {P : Program} {w : World} {isSl : Bool} {lo hi mx : Option Value} {len cap l h m : Nat}
    (hl : (lo = none ∧ l = 0) ∨ ∃ k, lo = some (.int k (l : Int))) (hh : (hi = none ∧ h = len) ∨ ∃ k, hi = some (.int k (h : Int))) (hm : (mx = none ∧ m = cap) ∨ ∃ k, mx = some (.int k (m : Int)))
    (hc : hi.isSome = true ∨ mx = none) (h1 : l ≤ h) (h2 : h ≤ m) (h3 : m ≤ cap) : (Instr.sliceBounds isSl len cap lo hi mx).run P w = .ok (l, h, m) w := by
  have sb : ∀ (k : IntKind) (i y : Nat) (c : BoundsCode), i ≤ y → (Instr.sliceBound (.int k (i : Int)) y c).run P w = .ok i w := by
    intro k i y c hiy
    simp [Instr.sliceBound, asIntOf, hiy]
  rcases hl with ⟨rfl, rfl⟩ | ⟨kl, rfl⟩ <;> rcases hh with ⟨rfl, rfl⟩ | ⟨kh, rfl⟩ <;> rcases hm with ⟨rfl, rfl⟩ | ⟨km, rfl⟩ <;> simp at hc <;>
    simp [Instr.sliceBounds, sb, h1, h2, h3]

theorem slc_cap {E : Env} {id k off len : Nat} {u : Value} (h : Den E (.slc id k off len) u) : ∃ a cap, u = .slice a len cap ∧ len ≤ cap ∧
    ((cap = 0) ∨ (0 < (E.β id).sz ∧ (E.β id).base + off + cap * k ≤ (E.β id).sz ∧ a = some ⟨(E.β id).blk, (E.β id).base + off, none⟩)) := by
  simp only [Den] at h
  rcases h with ⟨rfl, a, rfl⟩ | ⟨cap, h1, h2, h3, h4, rfl⟩
  · exact ⟨a, 0, rfl, Nat.le_refl _, .inl rfl⟩
  · exact ⟨_, cap, rfl, h1, .inr ⟨h3, h4, rfl⟩⟩

theorem run_sliceA {E : Env} {P : Program} {w : World} {t : TypeId} {x y : AV} {lo hi mx : Option AV} {u : Value} {lo' hi' mx' : Option Value} (h : sliceA P t x lo hi mx = some y)
    (hx : Den E x u) (hlo : DenO E lo lo') (hhi : DenO E hi hi') (hmx : DenO E mx mx') : ∃ v, (Instr.sliceAt t u lo' hi' mx').run P w = .ok v w ∧ Den E y v := by
  have isS : ∀ {x : Option AV} {u : Option Value}, DenO E x u → x.isSome = u.isSome := by
    intro x u h; cases x <;> cases u <;> simp_all [DenO]
  unfold sliceA at h
  split at h <;> try simp at h
  · rename_i hu
    split at h <;> try simp at h
    rename_i s
    have hm : mx' = none := by cases mx' <;> simp_all [DenO]
    subst hm
    split at h <;> try simp at h
    rename_i l hh hl hhh
    obtain ⟨⟨h1, h2⟩, rfl⟩ := h
    simp only [Den] at hx; subst hx
    have b1 := bnd_run (P := P) (w := w) hlo hl
    have b2 := bnd_run (P := P) (w := w) hhi hhh
    rw [sL_length] at b2 h2
    have hb := run_bounds (P := P) (w := w) (isSl := false) (cap := s.size) (mx := none) b1 b2 (.inl ⟨rfl, rfl⟩) (.inr rfl) h1 h2 (Nat.le_refl _)
    refine ⟨.string (s.extract l hh), by simp [Instr.sliceAt, Instr.slice, run_underlying' hu, hb], ?_⟩
    simp only [Den]
    congr 1
    apply sL_inj
    rw [sL_mkS]
    simp [sL, ByteArray.data_extract, List.extract_eq_take_drop]
  · rename_i e hu
    split at h <;> try simp at h
    rename_i sz hsz
    split at h <;> try simp at h
    · rename_i id k off len
      split at h <;> try simp at h
      rename_i l hh m hl hhh hmm hor
      obtain ⟨⟨rfl, h1, h2, h3⟩, rfl⟩ := h
      obtain ⟨a, cap, rfl, hc, hcase⟩ := slc_cap hx
      have b1 := bnd_run (P := P) (w := w) hlo hl
      have b2 := bnd_run (P := P) (w := w) hhi hhh
      have b3 := bnd_run (P := P) (w := w) hmx hmm
      obtain ⟨m', b3', hm1, hm2⟩ : ∃ m', ((mx' = none ∧ m' = cap) ∨ ∃ k, mx' = some (.int k (m' : Int))) ∧ hh ≤ m' ∧ m' ≤ cap := by
        rcases b3 with ⟨rfl, rfl⟩ | ⟨k, rfl⟩
        · exact ⟨cap, .inl ⟨rfl, rfl⟩, by omega, Nat.le_refl _⟩
        · exact ⟨m, .inr ⟨k, rfl⟩, h2, by omega⟩
      have hcond : hi'.isSome = true ∨ mx' = none := by
        rw [isS hhi] at hor
        have := isS hmx
        cases mx' <;> cases mx <;> simp_all
      have hb := run_bounds (P := P) (w := w) (isSl := true) b1 b2 b3' hcond h1 hm1 hm2
      refine ⟨.slice (if m' = l then a else a.map (·.add (l * k))) (hh - l) (m' - l), by simp [Instr.sliceAt, Instr.slice, run_underlying' hu, hb, run_sizeOf' hsz], ?_⟩
      simp only [Den]
      by_cases hml : m' = l
      · left
        have : hh - l = 0 := by omega
        exact ⟨this, a, by simp [hml, this]⟩
      · right
        rcases hcase with rfl | ⟨hs, hle, rfl⟩
        · omega
        · refine ⟨m' - l, by omega, by omega, hs, ?_, by simp [hml, addr_add, Nat.add_assoc]⟩
          have e : (E.β id).base + (off + l * k) + (m' - l) * k = (E.β id).base + off + m' * k := by
            have : m' * k = l * k + (m' - l) * k := by rw [← Nat.add_mul]; congr 1; omega
            omega
          rw [e]
          have : m' * k ≤ cap * k := Nat.mul_le_mul_right _ hm2
          omega
    · rename_i g k xs
      split at h <;> try simp at h
      rename_i l hh m hl hhh hmm hor
      obtain ⟨⟨rfl, h1, h2, h3⟩, rfl⟩ := h
      simp only [Den, DenD] at hx
      obtain ⟨a, cap, rfl, hc, hcase⟩ := hx
      have b1 := bnd_run (P := P) (w := w) hlo hl
      have b2 := bnd_run (P := P) (w := w) hhi hhh
      have b3 := bnd_run (P := P) (w := w) hmx hmm
      obtain ⟨m', b3', hm1, hm2⟩ : ∃ m', ((mx' = none ∧ m' = cap) ∨ ∃ k, mx' = some (.int k (m' : Int))) ∧ hh ≤ m' ∧ m' ≤ cap := by
        rcases b3 with ⟨rfl, rfl⟩ | ⟨k, rfl⟩
        · exact ⟨cap, .inl ⟨rfl, rfl⟩, by omega, Nat.le_refl _⟩
        · exact ⟨m, .inr ⟨k, rfl⟩, h2, by omega⟩
      have hcond : hi'.isSome = true ∨ mx' = none := by
        rw [isS hhi] at hor
        have := isS hmx
        cases mx' <;> cases mx <;> simp_all
      have hb := run_bounds (P := P) (w := w) (isSl := true) b1 b2 b3' hcond h1 hm1 hm2
      refine ⟨.slice (if m' = l then a else a.map (·.add (l * k))) (hh - l) (m' - l), by simp [Instr.sliceAt, Instr.slice, run_underlying' hu, hb, run_sizeOf' hsz], ?_⟩
      simp only [Den, DenD]
      have hlen : ((xs.drop l).take (hh - l)).length = hh - l := by simp; omega
      refine ⟨_, m' - l, by rw [hlen], by rw [hlen]; omega, ?_⟩
      by_cases hhl : hh = l
      · left; simp [hhl]
      · right
        rcases hcase with rfl | ⟨b, o, rfl, hok, hrow⟩
        · simp at h3; omega
        · refine ⟨b, o + l * k, by simp [show m' ≠ l by omega, addr_add], hok, ?_⟩
          have aux : ∀ (ys : List (List Dat)) (o : Nat) (n : Nat), DenRows E.heap (E.ok g) b o k ys → DenRows E.heap (E.ok g) b o k (ys.take n) := by
            intro ys
            induction ys with
            | nil => intro o n h; simpa using h
            | cons y ys ih =>
              intro o n h
              cases n with
              | zero => simp [DenRows]
              | succ n =>
                simp only [DenRows, List.take_succ_cons] at h ⊢
                exact ⟨h.1, h.2.1, ih _ n h.2.2⟩
          have aux2 : ∀ (n : Nat) (ys : List (List Dat)) (o : Nat), DenRows E.heap (E.ok g) b o k ys → DenRows E.heap (E.ok g) b (o + n * k) k (ys.drop n) := by
            intro n
            induction n with
            | zero => intro ys o h; simpa using h
            | succ n ih =>
              intro ys o h
              cases ys with
              | nil => simp [DenRows]
              | cons y ys =>
                simp only [DenRows] at h
                have := ih ys (o + k) h.2.2
                rw [List.drop_succ_cons, show o + (n + 1) * k = o + k + n * k by rw [Nat.succ_mul]; omega]; exact this
          exact aux _ _ _ (aux2 l xs o hrow)
    · split at h <;> try simp at h
      subst h
      rename_i h1 h2
      simp only [Den] at hx; subst hx
      have b1 := bnd_run (P := P) (w := w) hlo h1
      have b2 := bnd_run (P := P) (w := w) hhi h2
      have hm : mx' = none := by cases mx' <;> simp_all [DenO]
      subst hm
      have hb := run_bounds (P := P) (w := w) (isSl := true) (cap := 0) (mx := none) b1 b2 (.inl ⟨rfl, rfl⟩) (.inr rfl) (Nat.le_refl _) (Nat.le_refl _) (Nat.le_refl _)
      exact ⟨.slice none 0 0, by simp [Instr.sliceAt, Instr.slice, run_underlying' hu, hb, run_sizeOf' hsz], by simp [Den]⟩

end Go.Dk

/-
  Dk, part F: operations on memory: loads, stores, new variables, structs and slices that are built.
-/
namespace Go.Dk
set_option autoImplicit false
set_option linter.unusedSectionVars false
set_option linter.unusedVariables false

def loadL (P : Program) (t : TypeId) (cs : List AV) : Option AV :=
  match tyAgg P t with
  | some true => match tySize P t with
    | some n => if n ≤ cs.length then some (.agg (cs.take n)) else none
    | none => none
  | some false => cs.head?
  | none => none

def loadA (P : Program) (H : Mem) (t : TypeId) (a : AV) : Option AV :=
  match a with
  | .ptr id off => match find H id with
    | some (.cells cs) => loadL P t (cs.drop off)
    | _ => none
  | .iptr g cs => loadL P t (cs.map (Dat.av g))
  | _ => none

theorem run_loadL {E : Env} {P : Program} {w : World} {t : TypeId} {cs : List AV} {y : AV} {b o : Nat} (hW : E.At w) (h : loadL P t cs = some y)
    (hc : ∀ n, n ≤ cs.length → ∃ us : List Value, us.length = n ∧ DenL E (cs.take n) us ∧ ∀ (j : Nat) v, us[j]? = some v → cellOf E.heap b (o + j) = some v) :
    ∃ v, (loadVar t ⟨b, o, none⟩).run P w = .ok v w ∧ Den E y v := by
  have hw := hW.1
  unfold loadL at h
  split at h <;> try simp at h
  · rename_i ha
    split at h <;> simp at h
    rename_i n hn
    obtain ⟨hle, rfl⟩ := h
    obtain ⟨us, hl, hd, hcell⟩ := hc n hle
    have hr := run_loadCells' (P := P) (w := w) (b := b) (o := o) us (by rw [← hw]; exact hcell)
    rw [hl] at hr
    exact ⟨.agg us.toArray, by simp [loadVar, run_isAgg' ha, run_sizeOf' hn, hr], by simp only [Den]; exact ⟨us, rfl, hd⟩⟩
  · rename_i ha
    cases cs with
    | nil => simp at h
    | cons c cs =>
      simp at h; subst h
      obtain ⟨us, hl, hd, hcell⟩ := hc 1 (by simp)
      simp only [List.take_succ_cons, List.take_zero, DenL] at hd
      obtain ⟨u, us', rfl, hdu, rfl⟩ := hd
      have hr := run_load_at (P := P) (w := w) (b := b) (o := o) (v := u) (by rw [← hw]; exact hcell 0 u rfl)
      exact ⟨u, by simp only [loadVar, Sem.run_bind, run_isAgg' ha, Result.andThen_ok, Bool.false_eq_true, if_false]; exact hr, hdu⟩

theorem blk_cells {C : Ctx} {E : Env} {H : Mem} (hR : Rel C E H) {id : Nat} {cs : List AV} (hf : find H id = some (.cells cs)) (hne : cs ≠ []) :
    0 < (E.β id).sz ∧ ∃ c t fz, E.heap[(E.β id).blk]? = some (.cells c t fz) ∧ c.size = (E.β id).sz ∧ (E.β id).base + cs.length ≤ (E.β id).sz ∧ FzOk c.size fz ∧ AtCells E c (E.β id).base cs := by
  rcases hR.blk id _ hf with ⟨_, h⟩ | h
  · exact absurd h hne
  · exact h

theorem run_loadA {C : Ctx} {E : Env} {H : Mem} {P : Program} {w : World} {t : TypeId} {a y : AV} {u : Value} (hR : Rel C E H) (hW : E.At w) (h : loadA P H t a = some y) (ha : Den E a u) :
    ∃ v, (Instr.loadAt t u).run P w = .ok v w ∧ Den E y v := by
  have hw := hW.1
  unfold loadA at h
  split at h <;> try simp at h
  · rename_i id off
    split at h <;> try simp at h
    rename_i cs hf
    simp only [Den] at ha; subst ha
    have := run_loadL (E := E) (b := (E.β id).blk) (o := (E.β id).base + off) hW h (by
      intro n hn
      by_cases hcs : cs.drop off = []
      · rw [hcs] at hn ⊢; simp at hn; subst hn
        exact ⟨[], rfl, by simp [DenL], by simp⟩
      · have hne : cs ≠ [] := by rintro rfl; simp at hcs
        obtain ⟨_, c, tt, fz, hh, _, _, _, hat⟩ := blk_cells hR hf hne
        have hl : off + n ≤ cs.length := by
          simp at hn hcs; omega
        obtain ⟨us, h1, h2, h3⟩ := atCells_take hat off n hl
        exact ⟨us, h1, h2, fun j v hj => by unfold cellOf; rw [hh]; exact h3 j v hj⟩)
    obtain ⟨v, h1, h2⟩ := this
    exact ⟨v, by simpa [Instr.loadAt, Instr.sureAddr] using h1, h2⟩
  · rename_i g cs
    simp only [Den] at ha
    obtain ⟨b, o, rfl, hb, hc⟩ := ha
    have := run_loadL (E := E) (b := b) (o := o) hW h (by
      intro n hn
      simp at hn
      obtain ⟨us, h1, h2, _, h3⟩ := denCs_take hc 0 n (by omega)
      exact ⟨us, h1, by simpa using h2, by simpa using h3⟩)
    obtain ⟨v, h1, h2⟩ := this
    exact ⟨v, by simpa [Instr.loadAt, Instr.sureAddr] using h1, h2⟩

def splice (cs : List AV) (off : Nat) : List AV → List AV
  | [x] => cs.set off x
  | xs => cs.take off ++ xs ++ cs.drop (off + xs.length)

theorem splice_get (cs : List AV) (off : Nat) (xs : List AV) (hl : off + xs.length ≤ cs.length) (i : Nat) :
    (splice cs off xs)[i]? = if off ≤ i ∧ i < off + xs.length then xs[i - off]? else cs[i]? := by
  unfold splice
  split
  · rename_i x
    simp only [List.length_cons, List.length_nil] at hl ⊢
    by_cases h : i = off
    · subst h
      rw [if_pos (by omega), List.getElem?_set_self (by omega)]; simp
    · rw [List.getElem?_set_ne (fun e => h e.symm), if_neg (by omega)]
  · rw [List.append_assoc, List.getElem?_append]
    have h1 : (cs.take off).length = off := by simp; omega
    rw [h1]
    by_cases hi : i < off
    · rw [if_pos hi, if_neg (by omega), List.getElem?_take, if_pos hi]
    · rw [if_neg hi, List.getElem?_append]
      by_cases h2 : i - off < xs.length
      · rw [if_pos h2, if_pos (by omega)]
      · rw [if_neg h2, if_neg (by omega), List.getElem?_drop]; congr 1; omega

theorem splice_length (cs : List AV) (off : Nat) (xs : List AV) (hl : off + xs.length ≤ cs.length) : (splice cs off xs).length = cs.length := by
  unfold splice
  split
  · simp
  · simp; omega

def storeA (P : Program) (H : Mem) (t : TypeId) (a x : AV) : Option Mem :=
  match a with
  | .ptr id off => match find H id with
    | some (.cells cs) => match x.cells, tySize P t with
      | some xs, some n => if xs.length = n ∧ n ≠ 0 ∧ xs.all AV.cell = true ∧ off + n ≤ cs.length then some (put H id (.cells (splice cs off xs))) else none
      | _, _ => none
    | _ => none
  | _ => none

theorem denL_cells_one {E : Env} {xs : List AV} {us : List Value} (h : DenL E xs us) (hc : xs.all AV.cell = true) : ∀ u ∈ us, u.oneCell' = true := by
  intro u hu
  obtain ⟨i, hi⟩ := List.getElem?_of_mem hu
  obtain ⟨h1, h2⟩ := denL_iff.1 h
  have hlt : i < xs.length := by rw [← h1]; exact (List.getElem?_eq_some_iff.1 hi).1
  obtain ⟨u', hu', hd⟩ := h2 i (xs[i]) (List.getElem?_eq_getElem hlt)
  rw [hi] at hu'
  obtain rfl := Option.some.inj hu'
  exact den_cell (by rw [List.all_eq_true] at hc; exact hc _ (List.getElem_mem hlt)) hd

theorem atCells_splice {E : Env} {c c' : Array Value} {o off : Nat} {cs xs : List AV} {us : List Value} (hl : off + xs.length ≤ cs.length) (hat : AtCells E c o cs) (hd : DenL E xs us)
    (hc : ∀ j, c'[j]? = if o + off ≤ j ∧ j < o + off + us.length then us[j - (o + off)]? else c[j]?) : AtCells E c' o (splice cs off xs) := by
  obtain ⟨h1, h2⟩ := denL_iff.1 hd
  intro i x hx
  rw [splice_get cs off xs hl] at hx
  rw [hc (o + i)]
  by_cases hi : off ≤ i ∧ i < off + xs.length
  · rw [if_pos hi] at hx
    rw [if_pos (by omega)]
    obtain ⟨u, hu, hdu⟩ := h2 _ _ hx
    exact ⟨u, by rw [show o + i - (o + off) = i - off by omega]; exact hu, hdu⟩
  · rw [if_neg hi] at hx
    rw [if_neg (by omega)]
    exact hat i x hx

theorem Rel.stored {C : Ctx} {E : Env} {H : Mem} {P : Program} {w : World} {id off : Nat} {cs xs : List AV} {us : List Value} (hR : Rel C E H) (hW : E.At w)
    (hf : find H id = some (.cells cs)) (hne : cs ≠ []) (hl : off + xs.length ≤ cs.length) (hd : DenL E xs us) (hone : ∀ u ∈ us, u.oneCell' = true) :
    ∃ w' E', (storeCells ⟨(E.β id).blk, (E.β id).base + off, none⟩ us).run P w = .ok () w' ∧ E'.At w' ∧ Rel C E' (put H id (.cells (splice cs off xs))) ∧ E.Le E' (fun _ => True) := by
  have hw := hW.1
  obtain ⟨hs, c, tt, fz, hh, hsz, hlen, hfz, hat⟩ := blk_cells hR hf hne
  have hul : us.length = xs.length := denL_length hd
  obtain ⟨w', c', hr, hheap, hcs, hos, hget⟩ := run_storeCells' (P := P) (E.β id).blk ((E.β id).base + off) tt fz us 0 c w (by rw [← hw]; exact hh) hfz.1 (by omega) hone
  have hsz' : w'.heap.size = E.heap.size := by rw [hheap, hw]; simp
  have hb : w'.heap[(E.β id).blk]? = some (.cells c' tt fz) := by
    rw [hheap, Array.getElem?_setIfInBounds_self, ← hw, if_pos (Array.getElem?_eq_some_iff.1 hh).1]
  have hrest : ∀ j, j ≠ (E.β id).blk → w'.heap[j]? = E.heap[j]? := by
    intro j hj
    rw [hheap, Array.getElem?_setIfInBounds_ne (fun e => hj e.symm), hw]
  have hle0 : E.Le { E with heap := w'.heap } (fun _ => True) := by
    have hlive := hR.own id _ hf hs
    refine ⟨fun j hj => ⟨.inl hj, hrest j ?_⟩, fun j hj => ⟨hj, hrest j ?_⟩, fun _ _ => rfl⟩
    · rw [hR.s0eq] at hj
      rintro rfl
      rcases hlive.1 with ⟨_, h1⟩ | h1
      · exact (hR.s0 _ hj).2 h1
      · have := (hR.s0 _ hj).1; omega
    · rintro rfl; exact hlive.2 hj
  have hblk : BlkOk { E with heap := w'.heap } id (.cells (splice cs off xs)) := by
    refine .inr ⟨hs, c', tt, fz, hb, hcs.trans hsz, by rw [splice_length _ _ _ hl]; exact hlen, by rw [hcs]; exact hfz, ?_⟩
    exact atCells_splice hl (hat.mono hle0 (fun _ _ => trivial)) (DenL.mono hle0 xs us (fun _ _ => trivial) hd) (by simpa using hget)
  have := hR.write (h' := w'.heap) hf hs hsz' hrest hblk
  exact ⟨w', { E with heap := w'.heap }, by simpa using hr, hW.to rfl hos, this.1, this.2⟩

theorem run_storeA {C : Ctx} {E : Env} {H H' : Mem} {P : Program} {w : World} {t : TypeId} {a x : AV} {u u' : Value} (hR : Rel C E H) (hW : E.At w) (h : storeA P H t a x = some H')
    (ha : Den E a u) (hx : Den E x u') : ∃ w' E', (Instr.storeAt t u u').run P w = .ok () w' ∧ E'.At w' ∧ Rel C E' H' ∧ E.Le E' (fun _ => True) := by
  have hw := hW.1
  unfold storeA at h
  split at h <;> try simp at h
  rename_i id off
  split at h <;> try simp at h
  rename_i cs hf
  split at h <;> try simp at h
  rename_i xs n hxs hn
  obtain ⟨⟨hxl, hn0, hall, hle⟩, rfl⟩ := h
  simp only [Den] at ha; subst ha
  have hd := den_cells hxs hx
  have hne : cs ≠ [] := by rintro rfl; simp at hle; omega
  have hone := denL_cells_one hd (List.all_eq_true.2 hall)
  obtain ⟨w', E', hr, h1, h2, h3⟩ := hR.stored (P := P) (off := off) (xs := xs) hW hf hne (by rw [hxl]; exact hle) hd hone
  have hsz : u'.cells.size = n := by rw [← Array.length_toList, denL_length hd, hxl]
  exact ⟨w', E', by simp [Instr.storeAt, Instr.sureAddr, storeVar, run_sizeOf' hn, hsz]; exact hr, h1, h2, h3⟩

/-- a new object -/
theorem Rel.made {C : Ctx} {E : Env} {H : Mem} {P : Program} {w : World} (hR : Rel C E H) (hW : E.At w) (id : Nat) (hk : id ∉ C.keep) (t : TypeId) (c : Array Value) (cs : List AV) (hlen : cs.length ≤ c.size)
    (hat : AtCells E c 0 cs) : ∃ w' E', (newRow t c).run P w = .ok ⟨(E'.β id).blk, 0, none⟩ w' ∧ E'.At w' ∧ Rel C E' (put (scrubH id H) id (.cells (scrubL id cs))) ∧ E.Le E' (· ≠ id) ∧
      (E'.β id).base = 0 ∧ (E'.β id).sz = c.size := by
  have hw := hW.1
  obtain ⟨h1, h2⟩ := hR.fresh id hk c t cs hlen hat
  refine ⟨{ w with heap := w.heap.push (.cells c t) }, E.upd (E.heap.push (.cells c t)) id ⟨E.heap.size, 0, c.size⟩, ?_, ?_, h1, h2, by simp, by simp⟩
  · rw [run_newRow']; simp [hw]
  · exact hW.to (by simp [hw])

theorem denL_at {E : Env} {xs : List AV} {us : List Value} (h : DenL E xs us) : AtCells E us.toArray 0 xs := by
  intro i x hx
  obtain ⟨u, hu, hd⟩ := (denL_iff.1 h).2 i x hx
  exact ⟨u, by simpa using hu, hd⟩

end Go.Dk

/-
  Dk, part G: variables, structs and slices that are made; append; copy; strings and bytes.
-/
namespace Go.Dk
set_option autoImplicit false
set_option linter.unusedSectionVars false
set_option linter.unusedVariables false

structure Out where
  x : AV
  H : Mem
  scr : Option Nat

/-- what an operation gives, held against the model -/
def Gives (C : Ctx) (E : Env) (P : Program) (w : World) (s : Sem Value) (out : Out) : Prop :=
  ∃ v w' E', s.run P w = .ok v w' ∧ E'.At w' ∧ Rel C E' out.H ∧ E.Le E' (fun i => some i ≠ out.scr) ∧ Den E' out.x v

def newCells (keep : List Nat) (H : Mem) (id : Nat) (x : AV) (cs : List AV) : Option Out :=
  if keep.contains id then none else some ⟨x, put (scrubH id H) id (.cells (scrubL id cs)), some id⟩

section
variable {C : Ctx} {E : Env} {H : Mem} {P : Program} {w : World}

theorem gives_new {keep : List Nat} (hkeep : keep = C.keep) (hR : Rel C E H) (hW : E.At w) {id : Nat} {t : TypeId} {c : Array Value} {cs : List AV} {x : AV} {out : Out} {s : Sem Value} (hlen : cs.length ≤ c.size)
    (hat : AtCells E c 0 cs) (h : newCells keep H id x cs = some out) (f : Addr → Value)
    (hs : ∀ w : World, s.run P w = ((newRow t c).run P w).andThen fun a w' => .ok (f a) w')
    (hx : ∀ E' : Env, (E'.β id).base = 0 → (E'.β id).sz = c.size → Den E' x (f ⟨(E'.β id).blk, 0, none⟩)) : Gives C E P w s out := by
  have hw := hW.1
  unfold newCells at h
  split at h <;> simp at h
  rename_i hk
  subst h
  have hk' : id ∉ C.keep := by rw [← hkeep]; simpa using hk
  obtain ⟨w', E', hr, h1, h2, h3, h4, h5⟩ := hR.made (P := P) hW id hk' t c cs hlen hat
  refine ⟨_, w', E', by rw [hs, hr]; rfl, h1, h2, ?_, hx E' h4 h5⟩
  have e : (fun i => some i ≠ some id) = (fun i : Nat => i ≠ id) := by funext i; simp
  rw [e]; exact h3

def allocA (P : Program) (keep : List Nat) (H : Mem) (d : Nat) (e : TypeId) : Option Out :=
  match tyZero P e with
  | some zs => newCells keep H d (.ptr d 0) (zs.map .v)
  | none => none

theorem run_allocA {keep : List Nat} (hkeep : keep = C.keep) (hR : Rel C E H) (hW : E.At w) {d : Nat} {e : TypeId} {out : Out} (h : allocA P keep H d e = some out) :
    Gives C E P w (Instr.alloc e true (.tuple #[])) out := by
  have hw := hW.1
  unfold allocA at h
  split at h <;> try simp at h
  rename_i zs hz
  obtain ⟨z, _, hzl⟩ := run_zeroValue' (w := w) hz
  refine gives_new hkeep hR hW (t := e) (c := z.cells) (cs := zs.map .v) (by rw [← hzl]; simp) ?_ h (fun a => .pointer (some a)) ?_ ?_
  · have := denL_at (E := E) (denL_v zs)
    rw [← hzl] at this ⊢; simpa using this
  · intro w
    obtain ⟨z', hz', hzl'⟩ := run_zeroValue' (w := w) hz
    have : z.cells = z'.cells := by
      apply Array.ext'; rw [hzl, hzl']
    simp [Instr.alloc, hz', newVar, this]
  · intro E' h1 h2
    simp [Den, h1]

def boxA (keep : List Nat) (H : Mem) (d : Nat) (x : AV) : Option Out :=
  match x.cells with
  | some xs => newCells keep H d (.ptr d 0) xs
  | none => none

theorem run_boxA {keep : List Nat} (hkeep : keep = C.keep) (hR : Rel C E H) (hW : E.At w) {d : Nat} {e : TypeId} {x : AV} {u : Value} {out : Out} (h : boxA keep H d x = some out) (hx : Den E x u) :
    Gives C E P w (Instr.box e u) out := by
  have hw := hW.1
  unfold boxA at h
  split at h <;> try simp at h
  rename_i xs hxs
  have hd := den_cells hxs hx
  refine gives_new hkeep hR hW (t := e) (c := u.cells) (cs := xs) (by rw [← Array.length_toList, denL_length hd]; exact Nat.le_refl _) (by simpa using denL_at hd) h (fun a => .pointer (some a)) ?_ ?_
  · intro w; simp [Instr.box, newVar]
  · intro E' h1 h2; simp [Den, h1]

/-- parts laid over cells -/
def fillL (place : Nat → Option (Nat × Nat)) : List AV → List (Nat × AV) → Option (List AV)
  | cs, [] => some cs
  | cs, (i, x) :: r => match place i, x.cells with
    | some (off, n), some xs => if xs.length = n ∧ off + n ≤ cs.length then fillL place (splice cs off xs) r else none
    | _, _ => none

theorem foldl_set (off : Nat) : ∀ (vs : List Value) (j : Nat) (c : Array Value),
    ((vs.zipIdx j).foldl (fun (cs : Array Value) p => cs.setIfInBounds (off + p.2) p.1) c).size = c.size ∧
    ∀ i, ((vs.zipIdx j).foldl (fun (cs : Array Value) p => cs.setIfInBounds (off + p.2) p.1) c)[i]? = if off + j ≤ i ∧ i < off + j + vs.length ∧ i < c.size then vs[i - (off + j)]? else c[i]? := by
  intro vs
  induction vs with
  | nil => intro j c; refine ⟨rfl, fun i => ?_⟩; rw [if_neg (by simp; omega)]; rfl
  | cons v vs ih =>
    intro j c
    simp only [List.zipIdx_cons, List.foldl_cons]
    obtain ⟨h1, h2⟩ := ih (j + 1) (c.setIfInBounds (off + j) v)
    refine ⟨by rw [h1]; simp, fun i => ?_⟩
    rw [h2 i]
    simp only [Array.size_setIfInBounds, List.length_cons]
    by_cases hi : i = off + j
    · subst hi
      rw [if_neg (by omega), Array.getElem?_setIfInBounds_self]
      by_cases hc : off + j < c.size
      · rw [if_pos hc, if_pos (by omega)]; simp
      · rw [if_neg hc, if_neg (by omega)]; simp; omega
    · by_cases hb : off + (j + 1) ≤ i ∧ i < off + (j + 1) + vs.length ∧ i < c.size
      · rw [if_pos hb, if_pos (by omega), show i - (off + j) = (i - (off + (j + 1))) + 1 by omega]; simp
      · rw [if_neg hb, if_neg (by omega), Array.getElem?_setIfInBounds_ne (fun e => hi e.symm)]

theorem fill_run {E : Env} (place : Nat → Option (Nat × Nat)) : ∀ (ps : List (Nat × AV)) (qs : List (Nat × Value)) (cs cs' : List AV) (us : List Value), fillL place cs ps = some cs' → DenL E cs us →
    (ps.length = qs.length ∧ ∀ (i : Nat) p q, ps[i]? = some p → qs[i]? = some q → p.1 = q.1 ∧ Den E p.2 q.2) → ∃ us' : List Value, Instr.fill place us.toArray qs = some us'.toArray ∧ DenL E cs' us' := by
  intro ps
  induction ps with
  | nil =>
    intro qs cs cs' us h hd hq
    simp [fillL] at h; subst h
    cases qs with
    | nil => exact ⟨us, rfl, hd⟩
    | cons q qs => simp at hq
  | cons p ps ih =>
    intro qs cs cs' us h hd hq
    obtain ⟨i, x⟩ := p
    cases qs with
    | nil => simp at hq
    | cons q qs =>
      obtain ⟨i', u⟩ := q
      obtain ⟨rfl, hxu⟩ := hq.2 0 (i, x) (i', u) rfl rfl
      simp only at hxu
      simp only [fillL] at h
      split at h <;> try simp at h
      rename_i off n xs hpl hxs
      obtain ⟨⟨hxl, hle⟩, h⟩ := h
      have hdx := den_cells hxs hxu
      have hus : us.length = cs.length := denL_length hd
      have hul : u.cells.size = n := by rw [← Array.length_toList, denL_length hdx, hxl]
      obtain ⟨hs1, hs2⟩ := foldl_set off u.cells.toList 0 us.toArray
      have hfold : ∃ us1 : List Value, (u.cells.zipIdx.foldl (fun (cs : Array Value) p => cs.setIfInBounds (off + p.2) p.1) us.toArray) = us1.toArray ∧ DenL E (splice cs off xs) us1 := by
        refine ⟨((u.cells.toList.zipIdx 0).foldl (fun (cs : Array Value) p => cs.setIfInBounds (off + p.2) p.1) us.toArray).toList, ?_, ?_⟩
        · rw [← Array.foldl_toList, Array.toList_zipIdx]
        · rw [denL_iff]
          refine ⟨by rw [Array.length_toList, hs1, splice_length _ _ _ (by omega)]; simpa using hus, fun j y hy => ?_⟩
          rw [splice_get _ _ _ (by omega)] at hy
          rw [Array.getElem?_toList, hs2 j]
          simp only [Nat.add_zero, Array.length_toList, hul]
          by_cases hj : off ≤ j ∧ j < off + xs.length
          · rw [if_pos hj] at hy
            rw [if_pos ⟨hj.1, by omega, by simp; omega⟩]
            exact (denL_iff.1 hdx).2 _ _ hy
          · rw [if_neg hj] at hy
            rw [if_neg (by omega)]
            simpa using (denL_iff.1 hd).2 _ _ hy
      obtain ⟨us1, hf1, hd1⟩ := hfold
      obtain ⟨us', h3, h4⟩ := ih qs (splice cs off xs) cs' us1 h hd1 ⟨by simpa using hq.1, fun j p q hp hqq => hq.2 (j + 1) p q (by simpa using hp) (by simpa using hqq)⟩
      refine ⟨us', ?_, h4⟩
      simp only [Instr.fill, hpl]
      rw [if_neg (by simp [hul, hus]; omega)]
      rw [show (Array.foldl (fun cs x => match x with | (c, j) => cs.setIfInBounds (off + j) c) us.toArray u.cells.zipIdx) = us1.toArray from hf1]
      exact h3

def zrep (zs : List Value) (n : Nat) : List AV := (List.replicate n (zs.map AV.v)).flatten

theorem zrep_get (zs : List Value) : ∀ (n i : Nat), (zrep zs n)[i]? = if i < n * zs.length then (zs[i % zs.length]?).map .v else none := by
  intro n
  induction n with
  | zero => intro i; simp [zrep]
  | succ n ih =>
    intro i
    have : zrep zs (n + 1) = zs.map AV.v ++ zrep zs n := by simp [zrep, List.replicate_succ]
    rw [this, List.getElem?_append]
    simp only [List.length_map]
    have hm : (n + 1) * zs.length = n * zs.length + zs.length := Nat.succ_mul _ _
    rw [hm]
    generalize n * zs.length = m at *
    by_cases h : i < zs.length
    · rw [if_pos h, Nat.mod_eq_of_lt h, if_pos (by omega)]; simp
    · have e : i % zs.length = (i - zs.length) % zs.length := Nat.mod_eq_sub_mod (by omega)
      rw [if_neg h, ih, e]
      by_cases h2 : i - zs.length < m
      · rw [if_pos h2, if_pos (by omega)]
      · rw [if_neg h2, if_neg (by omega)]

theorem zrep_length (zs : List Value) (n : Nat) : (zrep zs n).length = n * zs.length := by
  simp [zrep, List.length_flatten]

theorem zrows_at {E : Env} (z : Array Value) (zs : List Value) (hz : z.toList = zs) (n m sz : Nat) (hsz : zs.length = sz) (hm : n * sz ≤ m) (z' : Array Value) (hz' : m = 0 ∨ z' = z) :
    AtCells E ((Array.range m).map (z'[· % z'.size]!)) 0 (zrep zs n) := by
  intro i x hx
  rw [zrep_get] at hx
  split at hx <;> simp at hx
  rename_i hi
  obtain ⟨u, hu, rfl⟩ := hx
  have him : i < m := by rw [← hsz] at hm; omega
  rcases hz' with h0 | rfl
  · omega
  · refine ⟨u, ?_, by simp [Den]⟩
    have hzs : z'.size = zs.length := by rw [← hz]; simp
    have : z'[i % z'.size]? = some u := by rw [hzs, ← Array.getElem?_toList, hz]; exact hu
    simp [him, getElem!_def, this]

def buildSliceA (P : Program) (keep : List Nat) (H : Mem) (d : Nat) (t : TypeId) (len : Nat) (parts : List (Nat × AV)) : Option Out :=
  match P.underlying t with
  | some (.slice e) => match tySize P e, tyZero P e with
    | some sz, some zs => if zs.length = sz ∧ len * sz ≤ 16777216 then
        (match fillL (fun i => some (i * sz, sz)) (zrep zs len) parts with
        | some cs => newCells keep H d (.slc d sz 0 len) cs
        | none => none) else none
    | _, _ => none
  | _ => none

theorem den_slc_new {E : Env} {id k len cap : Nat} (hb : (E.β id).base = 0) (hs : (E.β id).sz = cap * k) (hk : 0 < k) (hl : len ≤ cap) :
    Den E (.slc id k 0 len) (.slice (some ⟨(E.β id).blk, 0, none⟩) len cap) := by
  simp only [Den]
  by_cases h0 : cap = 0
  · left; subst h0; simp at hl; subst hl; exact ⟨rfl, _, rfl⟩
  · right
    refine ⟨cap, hl, by omega, ?_, by rw [hb, hs]; simp, by rw [hb]⟩
    rw [hs]; exact Nat.mul_pos (by omega) hk

theorem run_buildSliceA {keep : List Nat} (hkeep : keep = C.keep) (hR : Rel C E H) (hW : E.At w) {d len : Nat} {t : TypeId} {ps : List (Nat × AV)} {qs : List (Nat × Value)} {out : Out}
    (h : buildSliceA P keep H d t len ps = some out) (hq : ps.length = qs.length ∧ ∀ (i : Nat) p q, ps[i]? = some p → qs[i]? = some q → p.1 = q.1 ∧ Den E p.2 q.2) (hpos : ∀ e sz, P.underlying t = some (.slice e) → tySize P e = some sz → 0 < sz) :
    Gives C E P w (Instr.buildSlice t len qs.toArray) out := by
  have hw := hW.1
  unfold buildSliceA at h
  split at h <;> try simp at h
  rename_i e hu
  split at h <;> try simp at h
  rename_i sz zs hsz hz
  obtain ⟨⟨hzl, hlim⟩, h⟩ := h
  split at h <;> try simp at h
  rename_i cs hfill
  have hp := hpos e sz hu hsz
  obtain ⟨z0, _, hz0⟩ := run_zeroValue' (w := w) hz
  have hbase : DenL E (zrep zs len) (((Array.range (len * sz)).map (z0.cells[· % z0.cells.size]!)).toList) := by
    have := zrows_at (E := E) z0.cells zs hz0 len (len * sz) sz hzl (Nat.le_refl _) z0.cells (.inr rfl)
    rw [denL_iff]
    refine ⟨by simp [zrep_length, hzl], fun i x hx => ?_⟩
    obtain ⟨u, hu', hd⟩ := this i x hx
    exact ⟨u, by rw [Array.getElem?_toList]; simpa using hu', hd⟩
  obtain ⟨us', hf, hd'⟩ := fill_run (fun i => some (i * sz, sz)) ps qs _ cs _ hfill hbase hq
  have hlen' : us'.length = len * sz := by
    have l1 : ∀ (ps : List (Nat × AV)) (cs cs' : List AV) , fillL (fun i => some (i * sz, sz)) cs ps = some cs' → cs'.length = cs.length := by
      intro ps
      induction ps with
      | nil => intro cs cs' h; simp [fillL] at h; rw [h]
      | cons p ps ih =>
        intro cs cs' h
        obtain ⟨i, x⟩ := p
        simp only [fillL] at h
        split at h <;> try simp at h
        rename_i off n xs ho hxs
        obtain ⟨⟨ha, hb⟩, h⟩ := h
        rw [ih _ _ h, splice_length _ _ _ (by omega)]
    rw [denL_length hd', l1 _ _ _ hfill, zrep_length, hzl]
  refine gives_new hkeep hR hW (t := e) (c := us'.toArray) (cs := cs) (by simp [← denL_length hd']) (denL_at hd') h (fun a => .slice (some a) len len) ?_ ?_
  · intro w
    have hle : ¬ (len * sz > 2 ^ 24) := by omega
    obtain ⟨z', hz', hzl'⟩ := run_zeroValue' (w := w) hz
    have hzz : z'.cells = z0.cells := by apply Array.ext'; rw [hz0, hzl']
    simp only [Array.toArray_toList] at hf
    by_cases h0 : len * sz = 0
    · have e2 : ∀ f : Nat → Value, Array.map f (Array.range 0) = #[] := by intro f; simp
      have e1 : (Array.range (len * sz)).map (z0.cells[· % z0.cells.size]!) = #[] := by rw [h0]; simp
      rw [e1] at hf
      have hf' : Instr.fill (fun i => some (i * sz, sz)) #[] qs = some us'.toArray := hf
      simp [Instr.buildSlice, run_underlying' hu, run_sizeOf' hsz, h0, e2, hf']
    · have hf' : Instr.fill (fun i => some (i * sz, sz)) ((Array.range (len * sz)).map (z0.cells[· % z0.cells.size]!)) qs = some us'.toArray := hf
      simp [Instr.buildSlice, run_underlying' hu, run_sizeOf' hsz, hle, h0, hz', hzz, hf']
  · intro E' h1 h2
    exact den_slc_new h1 (by rw [h2]; simpa using hlen') hp (Nat.le_refl _)

end
end Go.Dk

/-
  Dk, part H: structs that are built; make; append; copy; strings and bytes.
-/
namespace Go.Dk
set_option autoImplicit false
set_option linter.unusedSectionVars false
set_option linter.unusedVariables false

section
variable {C : Ctx} {E : Env} {H : Mem} {P : Program} {w : World}

def placeF (P : Program) (fs : Array Field) (i : Nat) : Option (Nat × Nat) := (fs[i]?).bind fun f => (tySize P f.type).map fun n => (f.offset, n)

def buildA (P : Program) (t : TypeId) (parts : List (Nat × AV)) : Option AV :=
  match P.underlying t, tyZero P t with
  | some (.struct fs), some zs => if fs.toList.all (fun f => (tySize P f.type).isSome) = true then (fillL (placeF P fs) (zs.map .v) parts).map .agg else none
  | some (.array _ e), some zs => match tySize P e with
    | some sz => (fillL (fun i => some (i * sz, sz)) (zs.map .v) parts).map .agg
    | none => none
  | _, _ => none

theorem run_places (w : World) : ∀ (l : List Field), l.all (fun f => (tySize P f.type).isSome) = true →
    ∃ ps : List (Nat × Nat), (l.mapM (m := Sem) fun f => do pure (f.offset, ← sizeOf f.type)).run P w = .ok ps w ∧ ∀ i : Nat, ps[i]? = (l[i]?).bind fun f => (tySize P f.type).map fun n => (f.offset, n) := by
  intro l
  induction l with
  | nil => intro _; exact ⟨[], by simp, by simp⟩
  | cons f l ih =>
    intro h
    simp only [List.all_cons, Bool.and_eq_true] at h
    obtain ⟨ps, h1, h2⟩ := ih h.2
    obtain ⟨n, hn⟩ := Option.isSome_iff_exists.1 h.1
    refine ⟨(f.offset, n) :: ps, ?_, fun i => ?_⟩
    · rw [List.mapM_cons]
      simp only [Sem.run_bind, run_sizeOf' hn, Result.andThen_ok, Sem.run_pure, h1]
    · cases i with
      | zero => simp [hn]
      | succ i => simpa using h2 i

theorem run_buildA {t : TypeId} {ps : List (Nat × AV)} {qs : List (Nat × Value)} {y : AV} (h : buildA P t ps = some y)
    (hq : ps.length = qs.length ∧ ∀ (i : Nat) p q, ps[i]? = some p → qs[i]? = some q → p.1 = q.1 ∧ Den E p.2 q.2) :
    ∃ v, (Instr.build t qs.toArray).run P w = .ok v w ∧ Den E y v := by
  unfold buildA at h
  split at h <;> try simp at h
  · rename_i fs zs hu hz
    obtain ⟨hall, cs, hfill, rfl⟩ := h
    obtain ⟨z, hz1, hz2⟩ := run_zeroValue' (w := w) hz
    obtain ⟨pl, hp1, hp2⟩ := run_places (P := P) w fs.toList (by rw [List.all_eq_true]; intro f hf; obtain ⟨i, hi⟩ := List.getElem?_of_mem hf; have := (Array.getElem?_toList ▸ hi); obtain ⟨hlt, he⟩ := Array.getElem?_eq_some_iff.1 this; rw [← he]; exact hall i hlt)
    obtain ⟨us', hf, hd⟩ := fill_run (placeF P fs) ps qs (zs.map .v) cs zs hfill (denL_v zs) hq
    have hpl : (fun i => pl.toArray[i]?) = placeF P fs := by
      funext i; simp only [placeF, List.getElem?_toArray, hp2]; simp
    refine ⟨.agg us'.toArray, ?_, by simp only [Den]; exact ⟨us', rfl, hd⟩⟩
    have hzc : z.cells = zs.toArray := by apply Array.ext'; simpa using hz2
    have hm : (fs.mapM (m := Sem) fun f => do pure (f.offset, ← sizeOf f.type)).run P w = .ok pl.toArray w := by
      rw [Array.mapM_eq_mapM_toList]
      simp only [Sem.run_map, hp1, Result.andThen_ok]
    simp only [Instr.build, Sem.run_bind, hz1, Result.andThen_ok, run_underlying' hu, hm, hzc]
    have hf' : Instr.fill (fun x => pl.toArray[x]?) zs.toArray qs = some us'.toArray := by rw [hpl]; exact hf
    rw [hf']; rfl
  · rename_i n e zs hu hz
    split at h <;> try simp at h
    rename_i sz hsz
    obtain ⟨cs, hfill, rfl⟩ := h
    obtain ⟨z, hz1, hz2⟩ := run_zeroValue' (w := w) hz
    obtain ⟨us', hf, hd⟩ := fill_run (fun i => some (i * sz, sz)) ps qs (zs.map .v) cs zs hfill (denL_v zs) hq
    refine ⟨.agg us'.toArray, ?_, by simp only [Den]; exact ⟨us', rfl, hd⟩⟩
    have hzc : z.cells = zs.toArray := by apply Array.ext'; simpa using hz2
    simp only [Instr.build, Sem.run_bind, hz1, Result.andThen_ok, run_underlying' hu, run_sizeOf' hsz, hzc]
    rw [hf]; rfl

def makeSliceA (P : Program) (keep : List Nat) (H : Mem) (d : Nat) (t : TypeId) (l c : AV) : Option Out :=
  match l, c, P.underlying t with
  | .v (.int _ l), .v (.int _ c), some (.slice e) => match tySize P e, tyBytes P e, tyZero P e with
    | some sz, some bt, some zs => if zs.length = sz ∧ 0 < sz ∧ 0 ≤ l ∧ l ≤ c ∧ c ≤ 9223372036854775807 ∧ (bt : Int) * c ≤ 281474976710656 then newCells keep H d (.slc d sz 0 l.toNat) (zrep zs l.toNat) else none
    | _, _, _ => none
  | _, _, _ => none

theorem wrap_i64 {n : Int} (h0 : -9223372036854775808 ≤ n) (h1 : n ≤ 9223372036854775807) : IntKind.i64.wrap n = n := by
  have e : IntKind.i64.wrap n = if n % 18446744073709551616 ≥ 9223372036854775808 then n % 18446744073709551616 - 18446744073709551616 else n % 18446744073709551616 := by
    simp [IntKind.wrap, IntKind.bits, IntKind.signed]
  rw [e]; split <;> omega

theorem run_makeSliceA {keep : List Nat} (hkeep : keep = C.keep) (hR : Rel C E H) (hW : E.At w) {d : Nat} {t : TypeId} {l c : AV} {u u' : Value} {out : Out}
    (h : makeSliceA P keep H d t l c = some out) (hl : Den E l u) (hc : Den E c u') : Gives C E P w (Instr.makeSlice t u u') out := by
  have hw := hW.1
  unfold makeSliceA at h
  split at h <;> try simp at h
  rename_i kl ln kc cn e hu
  simp only [Den] at hl hc; subst hl hc
  split at h <;> try simp at h
  rename_i sz bt zs hsz hbt hz
  obtain ⟨⟨hzl, hpos, h0, hlc, hmax, hroom⟩, h⟩ := h
  obtain ⟨z0, _, hz0⟩ := run_zeroValue' (w := w) hz
  have hwl : IntKind.i64.wrap ln = ln := wrap_i64 (by omega) (by omega)
  have hwc : IntKind.i64.wrap cn = cn := wrap_i64 (by omega) (by omega)
  have hat := zrows_at (E := E) z0.cells zs hz0 ln.toNat (cn.toNat * sz) sz hzl (Nat.mul_le_mul_right _ (by omega)) z0.cells (.inr rfl)
  refine gives_new hkeep hR hW (t := e) (c := (Array.range (cn.toNat * sz)).map (z0.cells[· % z0.cells.size]!)) (cs := zrep zs ln.toNat) ?_ hat h (fun a => .slice (some a) ln.toNat cn.toNat) ?_ ?_
  · simp [zrep_length, hzl]; exact Nat.mul_le_mul_right _ (by omega)
  · intro w
    obtain ⟨z', hz', hzl'⟩ := run_zeroValue' (w := w) hz
    have hzz : z'.cells = z0.cells := by apply Array.ext'; rw [hz0, hzl']
    obtain ⟨i, hi, hib⟩ := run_typeInfo' (w := w) hbt
    have hn1 : ¬ (cn < 0) := by omega
    have hn2 : ¬ (ln < 0) := by omega
    have hn3 : ¬ (ln > cn) := by omega
    have hn4 : ¬ ((i.bytes : Int) * cn > 2 ^ 48) := by rw [hib]; omega
    by_cases h0' : cn.toNat * sz = 0
    · have e2 : ∀ f : Nat → Value, Array.map f (Array.range 0) = #[] := by intro f; simp
      have hc0 : cn.toNat = 0 := by
        rcases Nat.mul_eq_zero.1 h0' with h | h <;> omega
      simp only [Instr.makeSlice, Sem.run_bind, run_underlying' hu, Result.andThen_ok, asInt, asIntOf, Sem.run_pure, hi, hwl, hwc]
      simp [hn1, hn2, hn3, hn4, run_sizeOf' hsz, hc0, e2]
      intro hcc; rw [← hib] at hroom; exact absurd hcc (Int.not_lt.2 hroom)
    · have hc0 : ¬ cn.toNat = 0 := by rintro h; rw [h] at h0'; simp at h0'
      simp only [Instr.makeSlice, Sem.run_bind, run_underlying' hu, Result.andThen_ok, asInt, asIntOf, Sem.run_pure, hi, hwl, hwc]
      simp [hn1, hn2, hn3, hn4, run_sizeOf' hsz, h0', hz', hzz]
      intro hcc; rw [← hib] at hroom; exact absurd hcc (Int.not_lt.2 hroom)
  · intro E' h1 h2
    exact den_slc_new h1 (by rw [h2]; simp) hpos (by omega)

end
end Go.Dk

/-
  Dk, part I: append; copy; strings and bytes.
-/
namespace Go.Dk
set_option autoImplicit false
set_option linter.unusedSectionVars false
set_option linter.unusedVariables false
set_option linter.unusedSimpArgs false

def cB (b : UInt8) : AV := .v (.int .u8 b.toNat)
def cellsB (l : List UInt8) : List AV := l.map cB

section
variable {C : Ctx} {E : Env} {H : Mem} {P : Program} {w : World}

def srcCells (H : Mem) (k : Nat) : AV → Option (List AV × Nat)
  | .slc id k' off len => match find H id with
    | some (.cells cs) => if k' = k ∧ off + len * k ≤ cs.length ∧ ((cs.drop off).take (len * k)).all AV.cell = true then some ((cs.drop off).take (len * k), len) else none
    | _ => none
  | .imm g k' xs => if k' = k then some (xs.flatten.map (Dat.av g), xs.length) else none
  | .v (.string s) => if k = 1 then some (cellsB (sL s), (sL s).length) else none
  | .v (.slice _ 0 _) => some ([], 0)
  | _ => none

theorem denRows_flat {h : Array Obj} {ok : Nat → Prop} {b k : Nat} : ∀ {xs : List (List Dat)} {o : Nat}, DenRows h ok b o k xs → xs.flatten.length = xs.length * k ∧ DenCs h ok b o xs.flatten := by
  intro xs
  induction xs with
  | nil => intro o _; simp [DenCs]
  | cons x xs ih =>
    intro o hd
    simp only [DenRows] at hd
    obtain ⟨h1, h2, h3⟩ := hd
    obtain ⟨h4, h5⟩ := ih h3
    refine ⟨by simp only [List.flatten_cons, List.length_append, h1, h4, List.length_cons, Nat.succ_mul]; omega, denCs_of fun i d hi => ?_⟩
    simp only [List.flatten_cons, List.getElem?_append] at hi
    split at hi
    · exact denCs_len h2 i d hi
    · rename_i hlt
      obtain ⟨u, hu, hd⟩ := denCs_len h5 _ d hi
      exact ⟨u, by rw [show o + i = o + k + (i - x.length) by omega]; exact hu, hd⟩

theorem run_srcCells (hR : Rel C E H) (hW : E.At w) {k n : Nat} {x : AV} {cs : List AV} {u : Value} (h : srcCells H k x = some (cs, n)) (hx : Den E x u) :
    (∀ w : World, (Builtin.lenOf u).run P w = .ok n w) ∧ ∃ us : List Value, us.length = n * k ∧ DenL E cs us ∧ (∀ v ∈ us, v.oneCell' = true) ∧
      ∀ w' : World, w'.heap = w.heap → (Builtin.firstCells k n u).run P w' = .ok us.toArray w' := by
  have hw := hW.1
  unfold srcCells at h
  split at h
  rotate_right
  · simp at h
  · rename_i id k' off len
    split at h <;> try simp at h
    rename_i cs0 hf
    obtain ⟨⟨rfl, hle, hall⟩, rfl, rfl⟩ := h
    obtain ⟨a, cap, rfl, hcap, hcase⟩ := slc_cap hx
    refine ⟨fun w => by simp [Builtin.lenOf], ?_⟩
    by_cases h0 : len * k' = 0
    · refine ⟨[], by simp [h0], by simp [h0, DenL], by simp, fun w' _ => ?_⟩
      cases a <;> simp [Builtin.firstCells, h0, loadCells, loadCellsFrom]
    · have hne : cs0 ≠ [] := by rintro rfl; simp only [List.length_nil] at hle; omega
      obtain ⟨_, c, tt, fz, hh, _, _, _, hat⟩ := blk_cells hR hf hne
      obtain ⟨us, h1, h2, h3⟩ := atCells_take hat off (len * k') hle
      refine ⟨us, h1, h2, denL_cells_one h2 (by simpa [List.all_eq_true] using hall), fun w' hw' => ?_⟩
      have hlen : len ≠ 0 := by rintro rfl; simp at h0
      rcases hcase with rfl | ⟨_, _, rfl⟩
      · omega
      · have := run_loadCells' (P := P) (w := w') (b := (E.β id).blk) (o := (E.β id).base + off) us (fun j v hj => by unfold cellOf; rw [hw', ← hw, hh]; exact h3 j v hj)
        rw [h1] at this
        simpa [Builtin.firstCells] using this
  · rename_i g k' xs
    simp only [Option.ite_none_right_eq_some, Option.some.injEq, Prod.mk.injEq] at h
    obtain ⟨rfl, rfl, rfl⟩ := h
    simp only [Den, DenD] at hx
    obtain ⟨a, cap, rfl, hcap, hcase⟩ := hx
    refine ⟨fun w => by simp [Builtin.lenOf], ?_⟩
    rcases hcase with rfl | ⟨b, o, rfl, hok, hrow⟩
    · refine ⟨[], by simp, by simp [DenL], by simp, fun w' _ => ?_⟩
      cases a <;> simp [Builtin.firstCells, loadCells, loadCellsFrom]
    · obtain ⟨hl, hc⟩ := denRows_flat hrow
      obtain ⟨us, h1, h2, h3, h4⟩ := denCs_take hc 0 (xs.length * k') (by omega)
      refine ⟨us, h1, ?_, h3, fun w' hw' => ?_⟩
      · simp only [List.drop_zero] at h2
        rw [List.take_of_length_le (by simp only [List.length_map]; omega)] at h2
        exact h2
      · have := run_loadCells' (P := P) (w := w') (b := b) (o := o) us (by rw [hw', ← hw]; simpa using h4)
        rw [h1] at this
        simpa [Builtin.firstCells] using this
  · rename_i s
    simp only [Option.ite_none_right_eq_some, Option.some.injEq, Prod.mk.injEq] at h
    obtain ⟨rfl, rfl, rfl⟩ := h
    simp only [Den] at hx; subst hx
    refine ⟨fun w => by simp [Builtin.lenOf, sL_length], (sL s).map fun b => .int .u8 b.toNat, by simp, ?_, ?_, fun w' _ => ?_⟩
    · rw [denL_iff]
      refine ⟨by simp [cellsB], fun i x hx => ?_⟩
      simp only [cellsB, List.getElem?_map, Option.map_eq_some_iff] at hx
      obtain ⟨b, hb, rfl⟩ := hx
      exact ⟨.int .u8 b.toNat, by simp [hb], by simp [Den, cB]⟩
    · intro v hv; simp only [List.mem_map] at hv; obtain ⟨b, _, rfl⟩ := hv; rfl
    · have : (s.extract 0 s.size).data = s.data := by
        simp [ByteArray.data_extract]
      simp only [Builtin.firstCells, sL_length, Sem.run_pure, this]
      congr 1
      apply Array.ext'; simp [sL]
  · simp only [Option.some.injEq, Prod.mk.injEq] at h
    obtain ⟨rfl, rfl⟩ := h
    simp only [Den] at hx; subst hx
    refine ⟨fun w => by simp [Builtin.lenOf], [], by simp, by simp [DenL], by simp, fun w' _ => ?_⟩
    rename_i a c _
    cases a <;> simp [Builtin.firstCells, loadCells, loadCellsFrom]

theorem growBy_le (need : Nat) : ∀ (r c : Nat), Builtin.growBy need r c ≤ max c (need + (need + 768) / 4) := by
  intro r
  induction r with
  | zero => intro c; simp [Builtin.growBy]; omega
  | succ r ih =>
    intro c
    simp only [Builtin.growBy]
    split
    · omega
    · have := ih (c + (c + 768) / 4)
      omega

theorem nextslicecap_le (need old : Nat) (h : old < need) : Builtin.nextslicecap need old ≤ 2 * need + 192 := by
  unfold Builtin.nextslicecap
  split
  · omega
  · split
    · omega
    · have := growBy_le need 4 old
      omega

/-- where an append begins: what is kept, and under which number the outcome lies -/
def baseOf (H : Mem) (k d : Nat) : AV → Option (List AV × Nat × Nat)
  | .v (.slice none 0 0) => some ([], 0, d)
  | .slc id k' off len => match find H id with
    | some (.cells cs) => if k' = k ∧ off + len * k ≤ cs.length then some ((cs.drop off).take (len * k), len, id) else none
    | _ => none
  | _ => none

def appendA (P : Program) (keep : List Nat) (H : Mem) (d : Nat) (st xt : TypeId) (s x : AV) : Option Out :=
  match P.underlying st, P.underlying xt with
  | some (.slice e), some dx => match dx with
    | .int _ => none
    | _ => match tySize P e, tyBytes P e, tyZero P e with
      | some k, some bt, some zs => match baseOf H k d s, srcCells H k x with
        | some (pre, len, rid), some (new, n) =>
          if zs.length = k ∧ 0 < k ∧ 0 < bt ∧ (2 * (len + n) + 192) * bt ≤ 281474976710656 then newCells keep H rid (.slc rid k 0 (len + n)) (pre ++ new) else none
        | _, _ => none
      | _, _, _ => none
  | _, _ => none

theorem atCells_append {E : Env} {us vs : List Value} {xs ys : List AV} (rest : List Value) (h1 : DenL E xs us) (h2 : DenL E ys vs) : AtCells E (us ++ vs ++ rest).toArray 0 (xs ++ ys) := by
  intro i x hx
  have l1 := denL_length h1
  have l2 := denL_length h2
  rw [List.getElem?_append] at hx
  split at hx
  · rename_i hi
    obtain ⟨u, hu, hd⟩ := (denL_iff.1 h1).2 i x hx
    refine ⟨u, ?_, hd⟩
    simp only [Nat.zero_add, List.getElem?_toArray, List.append_assoc]
    rw [List.getElem?_append_left (by omega)]; exact hu
  · rename_i hi
    obtain ⟨u, hu, hd⟩ := (denL_iff.1 h2).2 _ x hx
    have hlt : i - xs.length < ys.length := (List.getElem?_eq_some_iff.1 hx).1
    refine ⟨u, ?_, hd⟩
    simp only [Nat.zero_add, List.getElem?_toArray, List.append_assoc]
    rw [List.getElem?_append_right (by omega), List.getElem?_append_left (by omega), l1]; exact hu

theorem run_appendA {keep : List Nat} (hkeep : keep = C.keep) (hR : Rel C E H) (hW : E.At w) {d : Nat} {st xt ty : TypeId} {s x : AV} {u u' : Value} {out : Out}
    (h : appendA P keep H d st xt s x = some out) (hs : Den E s u) (hx : Den E x u') : Gives C E P w (Builtin.append_ #[st, xt] ty #[u, u']) out := by
  have hw := hW.1
  unfold appendA at h
  split at h <;> try simp at h
  rename_i e dx hu hxt
  have hdx : ∀ k, dx ≠ .int k := by rintro k rfl; simp at h
  have hz0 : (match dx with | .int _ => true | _ => false) = false := by cases dx <;> first | rfl | exact absurd rfl (hdx _)
  have h : (match tySize P e, tyBytes P e, tyZero P e with
      | some k, some bt, some zs => match baseOf H k d s, srcCells H k x with
        | some (pre, len, rid), some (new, n) =>
          if zs.length = k ∧ 0 < k ∧ 0 < bt ∧ (2 * (len + n) + 192) * bt ≤ 281474976710656 then newCells keep H rid (.slc rid k 0 (len + n)) (pre ++ new) else none
        | _, _ => none
      | _, _, _ => none) = some out := by
    cases dx <;> first | exact h | exact absurd rfl (hdx _)
  split at h <;> try simp at h
  rename_i k bt zs hk hbt hz
  split at h <;> try simp at h
  rename_i pre len rid new n hbase hsrc
  obtain ⟨⟨hzl, hkpos, hbpos, hroom⟩, h⟩ := h
  obtain ⟨hlen, us, hul, hud, huone, hufirst⟩ := run_srcCells (P := P) hR hW hsrc hx
  -- the base
  have hB : ∃ base cap, u = .slice base len cap ∧ len ≤ cap ∧ ∃ ps : List Value, ps.length = len * k ∧ DenL E pre ps ∧ (∀ w' : World, w'.heap = w.heap → (Builtin.firstCells k len u).run P w' = .ok ps.toArray w') ∧
      (cap = 0 ∨ (∃ off cs, find H rid = some (.cells cs) ∧ pre = (cs.drop off).take (len * k) ∧ off + len * k ≤ cs.length ∧ 0 < (E.β rid).sz ∧ (E.β rid).base + off + cap * k ≤ (E.β rid).sz ∧ base = some ⟨(E.β rid).blk, (E.β rid).base + off, none⟩)) := by
    unfold baseOf at hbase
    split at hbase <;> try simp at hbase
    · obtain ⟨rfl, rfl, rfl⟩ := hbase
      simp only [Den] at hs; subst hs
      exact ⟨none, 0, rfl, Nat.le_refl _, [], by simp, by simp [DenL], fun w' _ => by simp [Builtin.firstCells], .inl rfl⟩
    · rename_i id k' off len'
      split at hbase <;> try simp at hbase
      rename_i cs hf
      obtain ⟨⟨rfl, hle⟩, rfl, rfl, rfl⟩ := hbase
      obtain ⟨a, cap, rfl, hcap, hcase⟩ := slc_cap hs
      refine ⟨a, cap, rfl, hcap, ?_⟩
      by_cases h0 : len' * k' = 0
      · refine ⟨[], by simp [h0], by simp [h0, DenL], fun w' _ => ?_, ?_⟩
        · cases a <;> simp [Builtin.firstCells, h0, loadCells, loadCellsFrom]
        · rcases hcase with h | ⟨h1, h2, h3⟩
          · exact .inl h
          · exact .inr ⟨off, cs, hf, rfl, hle, h1, h2, h3⟩
      · have hne : cs ≠ [] := by rintro rfl; simp only [List.length_nil] at hle; omega
        obtain ⟨_, c, tt, fz, hh, _, _, _, hat⟩ := blk_cells hR hf hne
        obtain ⟨ps, h1, h2, h3⟩ := atCells_take hat off (len' * k') hle
        have hlen0 : len' ≠ 0 := by rintro rfl; simp at h0
        rcases hcase with h | ⟨h4, h5, rfl⟩
        · omega
        · refine ⟨ps, h1, h2, fun w' hw' => ?_, .inr ⟨off, cs, hf, rfl, hle, h4, h5, rfl⟩⟩
          have := run_loadCells' (P := P) (w := w') (b := (E.β id).blk) (o := (E.β id).base + off) ps (fun j v hj => by unfold cellOf; rw [hw', ← hw, hh]; exact h3 j v hj)
          rw [h1] at this
          simpa [Builtin.firstCells] using this
  obtain ⟨base, cap, rfl, hcap, ps, hpl, hpd, hpfirst, hcase⟩ := hB
  have hkn : rid ∉ C.keep := by
    unfold newCells at h; split at h <;> simp at h
    rename_i hc; rw [← hkeep]; simpa using hc
  have hout : out = ⟨.slc rid k 0 (len + n), put (scrubH rid H) rid (.cells (scrubL rid (pre ++ new))), some rid⟩ := by
    unfold newCells at h; split at h <;> simp at h; exact h.symm
  have hprel : pre.length = len * k := by rw [← denL_length hpd, hpl]
  have hnewl : new.length = n * k := by rw [← denL_length hud, hul]
  have hscr : (fun i => some i ≠ some rid) = (fun i : Nat => i ≠ rid) := by funext i; simp
  subst hout
  have hrun : (Builtin.append_ #[st, xt] ty #[.slice base len cap, u']).run P w = 
      if len + n ≤ cap then
        ((match base with | some a => storeCells (a.add (len * k)) us | none => (pure () : Sem Unit)).run P w).andThen fun _ w' => .ok (.slice base (len + n) cap) w'
      else ((newRow e (ps.toArray ++ us.toArray ++ Builtin.zeroCells zs.toArray ((Question.appendCap (len + n) cap e).cut (w.tape w.drawn (.appendCap (len + n) cap e)) - (len + n)))).run P w.drew).andThen
        fun a w' => .ok (.slice (some a) (len + n) ((Question.appendCap (len + n) cap e).cut (w.tape w.drawn (.appendCap (len + n) cap e)))) w' := by
    obtain ⟨i, hi, hib⟩ := run_typeInfo' (w := w) hbt
    obtain ⟨z, hz1, hz2⟩ := run_zeroValue' (w := w.drew) hz
    have hzc : z.cells = zs.toArray := by apply Array.ext'; simpa using hz2
    have hxi : ((do pure ((← underlying xt) matches .int _)) : Sem Bool).run P w = .ok false w := by
      simp only [Sem.run_bind, run_underlying' hxt, Result.andThen_ok]
      cases dx <;> first | rfl | exact absurd rfl (hdx _)
    by_cases hc : len + n ≤ cap
    · rw [if_pos hc]
      simp [Builtin.append_, run_underlying' hu, run_underlying' hxt, run_sizeOf' hk, hz0, hlen, hc, hufirst w rfl]
      cases base <;> simp
    · rw [if_neg hc]
      have hnb : ¬ (281474976710656 < Builtin.nextslicecap (len + n) cap * i.bytes) := by
        rw [hib]
        have := nextslicecap_le (len + n) cap (by omega)
        have : Builtin.nextslicecap (len + n) cap * bt ≤ (2 * (len + n) + 192) * bt := Nat.mul_le_mul_right _ this
        omega
      have hib0 : ¬ (i.bytes = 0) := by omega
      have hfo : (Question.appendCap (len + n) cap e).forced = false := rfl
      simp [Builtin.append_, run_underlying' hu, run_underlying' hxt, run_sizeOf' hk, hz0, hlen, hc, hufirst w.drew rfl, hpfirst w.drew rfl, hi, hnb, hib0, hfo]
      have hi2 : (typeInfo e).run P w.drew = .ok i w.drew := by
        obtain ⟨i2, h2, h3⟩ := run_typeInfo' (w := w.drew) hbt
        have : P.info? e = some i := by
          unfold typeInfo at hi
          cases hh : P.info? e with
          | none => simp [hh] at hi
          | some i' => simp [hh] at hi; rw [hi]
        simp [typeInfo, this]
      simp [hi2, hufirst w.drew rfl, hpfirst w.drew rfl, hz1, hzc]
      have e3 : ∀ Z : Array Value, ps.toArray ++ (us.toArray ++ Z) = (ps ++ us).toArray ++ Z := by intro Z; apply Array.ext'; simp
      rw [e3]
  -- the two ways
  rcases Nat.lt_or_ge cap (len + n) with hc | hc
  · -- a new array
    rw [if_neg (by omega)] at hrun
    generalize hcapq : (Question.appendCap (len + n) cap e).cut (w.tape w.drawn (.appendCap (len + n) cap e)) = newCap at hrun
    have hnc : len + n ≤ newCap := by rw [← hcapq]; exact Nat.le_add_right _ _
    have hzc : (Builtin.zeroCells zs.toArray (newCap - (len + n))).size = (newCap - (len + n)) * k := by
      simp [Builtin.zeroCells, hzl]
    obtain ⟨w', E', hr, h1, h2, h3, h4, h5⟩ := hR.made (P := P) (w := w.drew) hW rid hkn e (ps ++ us ++ (Builtin.zeroCells zs.toArray (newCap - (len + n))).toList).toArray (pre ++ new)
      (by simp [hpl, hul, hprel, hnewl, hzc]) (atCells_append _ hpd hud)
    have hsz : (E'.β rid).sz = newCap * k := by
      rw [h5]
      simp [hpl, hul, hzc]
      rw [← Nat.add_mul, ← Nat.add_mul]; congr 1; omega
    refine ⟨_, w', E', ?_, h1, h2, by rw [hscr]; exact h3, den_slc_new h4 hsz hkpos hnc⟩
    rw [hrun]
    have e1 : ps.toArray ++ us.toArray ++ Builtin.zeroCells zs.toArray (newCap - (len + n)) = (ps ++ us ++ (Builtin.zeroCells zs.toArray (newCap - (len + n))).toList).toArray := by
      apply Array.ext'; simp
    rw [e1, hr]; rfl
  · -- where it lies
    rw [if_pos hc] at hrun
    rcases hcase with h0 | ⟨off, cs, hf, hpre, hle, hsz, hroom', hbase'⟩
    · -- nothing, onto nothing
      have hl0 : len = 0 := by omega
      have hn0 : n = 0 := by omega
      subst hl0 hn0
      have hus : us = [] := List.length_eq_zero_iff.1 (by rw [hul]; simp)
      subst hus
      have hpre0 : pre = [] := List.length_eq_zero_iff.1 (by rw [hprel]; simp)
      have hnew0 : new = [] := List.length_eq_zero_iff.1 (by rw [hnewl]; simp)
      subst hpre0 hnew0
      have hm : Moves C E H E.heap rid ⟨0, 0, 0⟩ := ⟨Nat.le_refl _, fun _ _ _ => rfl, .inr (.inr ⟨rfl, rfl⟩)⟩
      refine ⟨.slice base 0 cap, w, E.upd E.heap rid ⟨0, 0, 0⟩, ?_, hW.to hw, ?_, ?_, ?_⟩
      · rw [hrun]; cases base <;> simp [storeCells]
      · have hb : BlkOk (E.upd E.heap rid ⟨0, 0, 0⟩) rid (.cells (scrubL rid ([] ++ []))) := Or.inl ⟨by simp, rfl⟩
        exact hR.moves hm hkn hb _ (find_put_scrub H rid _)
      · rw [hscr]; exact hm.le hR
      · show (_ ∨ _); left; exact ⟨rfl, base, by rw [h0]⟩
    · subst hbase'
      obtain ⟨c, tt, fz, hh, hcsz, hcl, hfz, hat⟩ : ∃ c t fz, E.heap[(E.β rid).blk]? = some (.cells c t fz) ∧ c.size = (E.β rid).sz ∧ (E.β rid).base + cs.length ≤ (E.β rid).sz ∧ FzOk c.size fz ∧ AtCells E c (E.β rid).base cs := by
        rcases hR.blk rid _ hf with ⟨h1, _⟩ | ⟨_, h2⟩
        · omega
        · exact h2
      have hmul : (len + n) * k ≤ cap * k := Nat.mul_le_mul_right _ hc
      have hadd : (len + n) * k = len * k + n * k := Nat.add_mul _ _ _
      obtain ⟨w', c', hr, hheap, hcs', hos, hget⟩ := run_storeCells' (P := P) (E.β rid).blk ((E.β rid).base + off + len * k) tt fz us 0 c w (by rw [← hw]; exact hh) hfz.1 (by omega) huone
      have hm : Moves C E H w'.heap rid ⟨(E.β rid).blk, (E.β rid).base + off, (E.β rid).sz⟩ := by
        refine ⟨by rw [hheap, hw]; simp, fun b _ hb => ?_, .inl ⟨_, hf, hsz, rfl⟩⟩
        rw [hheap, Array.getElem?_setIfInBounds_ne (fun e => hb e.symm), hw]
      have hleE := hm.le hR
      refine ⟨.slice (some ⟨(E.β rid).blk, (E.β rid).base + off, none⟩) (len + n) cap, w', E.upd w'.heap rid ⟨(E.β rid).blk, (E.β rid).base + off, (E.β rid).sz⟩, ?_, hW.to rfl hos, ?_, ?_, ?_⟩
      · rw [hrun]
        simp only [addr_add]
        have : (storeCells ⟨(E.β rid).blk, (E.β rid).base + off + len * k, none⟩ us).run P w = .ok () w' := by simpa using hr
        rw [this]; rfl
      · refine hR.moves hm hkn ?_ _ (find_put_scrub H rid _)
        refine .inr ⟨by simpa using hsz, c', tt, fz, ?_, ?_, ?_, by rw [hcs']; exact hfz, ?_⟩
        · simp only [Env.upd_heap, Env.upd_same]
          rw [hheap, Array.getElem?_setIfInBounds_self, ← hw, if_pos (Array.getElem?_eq_some_iff.1 hh).1]
        · simp only [Env.upd_same]; omega
        · simp only [Env.upd_same, scrubL, List.length_map, List.length_append, hprel, hnewl]; omega
        · refine AtCells.scrub hleE ?_
          intro i y hy
          simp only [Env.upd_same]
          rw [List.getElem?_append] at hy
          rw [hget]
          simp only [Nat.add_zero]
          split at hy
          · rename_i hi
            rw [if_neg (by omega)]
            rw [hpre, List.getElem?_take] at hy
            split at hy <;> simp at hy
            obtain ⟨u, hu', hd'⟩ := hat (off + i) y hy
            exact ⟨u, by rw [show (E.β rid).base + off + i = (E.β rid).base + (off + i) by omega]; exact hu', hd'⟩
          · rename_i hi
            have hlt : i - pre.length < new.length := (List.getElem?_eq_some_iff.1 hy).1
            rw [if_pos (by omega)]
            obtain ⟨u, hu', hd'⟩ := (denL_iff.1 hud).2 _ y hy
            exact ⟨u, by rw [show (E.β rid).base + off + i - ((E.β rid).base + off + len * k) = i - pre.length by omega]; exact hu', hd'⟩
      · rw [hscr]; exact hleE
      · simp only [Den, Env.upd_same]
        by_cases h0 : cap = 0
        · left; subst h0; exact ⟨by omega, _, by rw [show len + n = 0 by omega]⟩
        · right; exact ⟨cap, hc, by omega, hsz, by omega, by simp⟩

end
end Go.Dk

/-
  Dk, part J: copy; strings and bytes; len, max, min.
-/
namespace Go.Dk
set_option autoImplicit false
set_option linter.unusedSectionVars false
set_option linter.unusedVariables false
set_option linter.unusedSimpArgs false

section
variable {C : Ctx} {E : Env} {H : Mem} {P : Program} {w : World}

def copyA (P : Program) (H : Mem) (dt : TypeId) (dst src : AV) : Option Out :=
  match P.underlying dt, dst with
  | some (.slice e), .slc id k off len => match tySize P e, find H id, srcCells H k src with
    | some k', some (.cells cs), some (new, n) => if k' = k ∧ 0 < k ∧ n ≤ len ∧ off + len * k ≤ cs.length then
        (if n = 0 then some ⟨.v (.int .i64 0), H, none⟩ else some ⟨.v (.int .i64 n), put H id (.cells (cs.take off ++ (new ++ cs.drop (off + n * k)))), none⟩) else none
    | _, _, _ => none
  | _, _ => none

theorem Rel.stored' {id off : Nat} {cs xs : List AV} {us : List Value} (hR : Rel C E H) (hW : E.At w)
    (hf : find H id = some (.cells cs)) (hne : cs ≠ []) (hl : off + xs.length ≤ cs.length) (hd : DenL E xs us) (hone : ∀ u ∈ us, u.oneCell' = true) :
    ∃ w' E', (storeCells ⟨(E.β id).blk, (E.β id).base + off, none⟩ us).run P w = .ok () w' ∧ E'.At w' ∧ Rel C E' (put H id (.cells (cs.take off ++ xs ++ cs.drop (off + xs.length)))) ∧ E.Le E' (fun _ => True) := by
  have hw := hW.1
  obtain ⟨w', E', h1, h2, h3, h4⟩ := hR.stored (P := P) hW hf hne hl hd hone
  refine ⟨w', E', h1, h2, ?_, h4⟩
  have e : splice cs off xs = cs.take off ++ xs ++ cs.drop (off + xs.length) := by
    apply List.ext_getElem?
    intro i
    rw [splice_get cs off xs hl]
    rw [List.append_assoc, List.getElem?_append]
    have h1 : (cs.take off).length = off := by simp; omega
    rw [h1]
    by_cases hi : i < off
    · rw [if_neg (by omega), if_pos hi, List.getElem?_take, if_pos hi]
    · rw [if_neg hi, List.getElem?_append]
      by_cases h2 : i - off < xs.length
      · rw [if_pos (by omega), if_pos h2]
      · rw [if_neg (by omega), if_neg h2, List.getElem?_drop]; congr 1; omega
  rw [← e]; exact h3

theorem run_copyA (hR : Rel C E H) (hW : E.At w) {dt ty : TypeId} {ts : Array TypeId} {dst src : AV} {u u' : Value} {out : Out} (hts : ts[0]? = some dt)
    (h : copyA P H dt dst src = some out) (hs : Den E dst u) (hx : Den E src u') : Gives C E P w (Builtin.copy_ ts ty #[u, u']) out := by
  have hw := hW.1
  unfold copyA at h
  split at h <;> try simp at h
  rename_i e id k off len hu
  split at h <;> try simp at h
  rename_i k' cs new n hk hf hsrc
  obtain ⟨⟨rfl, hkpos, hnl, hle⟩, h⟩ := h
  obtain ⟨hlen, us, hul, hud, huone, hufirst⟩ := run_srcCells (P := P) hR hW hsrc hx
  obtain ⟨a, cap, rfl, hcap, hcase⟩ := slc_cap hs
  have hnewl : new.length = n * k' := by rw [← denL_length hud, hul]
  have hmin : Nat.min n len = n := Nat.min_eq_left hnl
  have hle0 : E.Le E (fun i => some i ≠ (none : Option Nat)) := ⟨fun b hb => ⟨.inl hb, rfl⟩, fun b hb => ⟨hb, rfl⟩, fun _ _ => rfl⟩
  have hmin' : n.min len = n := hmin
  by_cases h0 : n = 0
  · rw [if_pos h0] at h
    obtain rfl := Option.some.inj h
    subst h0
    have hus : us = [] := List.length_eq_zero_iff.1 (by rw [hul]; simp)
    subst hus
    refine ⟨.int .i64 0, w, E, ?_, hW, hR, hle0, by simp [Den]⟩
    cases a <;> simp [Builtin.copy_, hts, run_underlying' hu, hlen, run_sizeOf' hk, hmin', hufirst w rfl, storeCells, goInt]
  · rw [if_neg h0] at h
    obtain rfl := Option.some.inj h
    have hne : cs ≠ [] := by
      rintro rfl
      simp only [List.length_nil] at hle
      have : 0 < len * k' := Nat.mul_pos (by omega) hkpos
      omega
    rcases hcase with rfl | ⟨hsz, hroom, rfl⟩
    · omega
    · have hnk : n * k' ≤ len * k' := Nat.mul_le_mul_right _ hnl
      obtain ⟨w', E', hr, h1, h2, h3⟩ := hR.stored' (P := P) (off := off) (xs := new) hW hf hne (by rw [hnewl]; omega) hud huone
      rw [hnewl, List.append_assoc] at h2
      refine ⟨.int .i64 n, w', E', ?_, h1, h2, ⟨h3.s0, h3.s1, fun i _ => h3.at_ i trivial⟩, by simp [Den]⟩
      simp [Builtin.copy_, hts, run_underlying' hu, hlen, run_sizeOf' hk, hmin', hufirst w rfl, hr, goInt]

def asBytes : List AV → Option (List UInt8)
  | [] => some []
  | .v (.int .u8 n) :: r => (asBytes r).map (UInt8.ofNat n.toNat :: ·)
  | _ => none

@[simp] theorem asBytes_cellsB (l : List UInt8) : asBytes (cellsB l) = some l := by
  induction l with
  | nil => rfl
  | cons b l ih => simp only [cellsB, List.map_cons, cB, asBytes] at ih ⊢; rw [ih]; simp

def toStrA (P : Program) (H : Mem) (src dst : TypeId) (x : AV) : Option AV :=
  match P.underlying src, P.underlying dst with
  | some (.slice e), some .string => match P.underlying e, srcCells H 1 x with
    | some (.int .u8), some (cs, n) => match x with
      | .v (.string _) => none
      | _ => (asBytes cs).map fun l => .v (.string (mkS l))
    | _, _ => none
  | _, _ => none

theorem run_bytesLoop (f : Value → ByteArray → Sem (ForInStep ByteArray)) (hf : ∀ (n : Int) s, f (.int .u8 n) s = pure (ForInStep.yield (s.push (UInt8.ofNat n.toNat)))) {cs : List AV} :
    ∀ {us : List Value} {l : List UInt8} (s : ByteArray) (w : World), asBytes cs = some l → DenL E cs us → (forIn us s f).run P w = .ok (mkS (sL s ++ l)) w := by
  induction cs with
  | nil =>
    intro us l s w h hd
    simp only [DenL] at hd; subst hd
    simp [asBytes] at h; subst h
    simp
  | cons c cs ih =>
    intro us l s w h hd
    simp only [DenL] at hd
    obtain ⟨u, us', rfl, hu, hd⟩ := hd
    unfold asBytes at h
    split at h <;> try simp at h
    · rename_i hh; simp at hh
    rename_i n r he
    obtain ⟨rfl, rfl⟩ := List.cons.inj he
    obtain ⟨l', hl', rfl⟩ := h
    simp only [Den] at hu; subst hu
    simp only [List.forIn_cons, Sem.run_bind, hf, Sem.run_pure, Result.andThen_ok]
    rw [ih _ _ hl' hd]
    congr 2
    simp [sL, ByteArray.push]

theorem run_toStrA (hR : Rel C E H) (hW : E.At w) {src dst : TypeId} {x y : AV} {u : Value} (h : toStrA P H src dst x = some y) (hx : Den E x u) :
    ∃ v, (convert src dst u).run P w = .ok v w ∧ Den E y v := by
  have hw := hW.1
  unfold toStrA at h
  split at h <;> try simp at h
  rename_i e hs hd
  split at h <;> try simp at h
  rename_i cs n he hsrc
  split at h <;> try simp at h
  rename_i hnos
  obtain ⟨l, hl, rfl⟩ := h
  obtain ⟨hlen, us, hul, hud, huone, hufirst⟩ := run_srcCells (P := P) hR hW hsrc hx
  refine ⟨.string (mkS l), ?_, by simp [Den]⟩
  have hsl : ∃ a cap, u = .slice a n cap := by
    unfold srcCells at hsrc
    split at hsrc <;> try simp at hsrc
    · rename_i id k' off len
      split at hsrc <;> try simp at hsrc
      obtain ⟨_, _, rfl⟩ := hsrc
      obtain ⟨a, cap, rfl, _⟩ := slc_cap hx
      exact ⟨a, cap, rfl⟩
    · obtain ⟨_, _, rfl⟩ := hsrc
      simp only [Den, DenD] at hx
      obtain ⟨a, cap, rfl, _⟩ := hx
      exact ⟨a, cap, rfl⟩
    · exact absurd rfl (hnos _)
    · simp only [Den] at hx; subst hx; obtain ⟨_, rfl⟩ := hsrc; exact ⟨_, _, rfl⟩
  obtain ⟨a, cap, rfl⟩ := hsl
  cases a with
  | none =>
    have hf := hufirst w rfl
    simp [Builtin.firstCells] at hf
    have : us = [] := hf
    subst this
    have : cs = [] := by have := denL_length hud; simpa using this.symm
    subst this
    simp [asBytes] at hl; subst hl
    simp [convert, run_underlying' hs, run_underlying' hd, run_underlying' he, Conv.bytesToString]
    rfl
  | some a =>
    have hf := hufirst w rfl
    simp [Builtin.firstCells] at hf
    simp only [convert, Sem.run_bind, run_underlying' hs, run_underlying' hd, run_underlying' he, Result.andThen_ok, Conv.bytesToString, hf]
    rw [← Array.forIn_toList]
    simp only [List.toList_toArray]
    have e0 : mkS (sL ByteArray.empty ++ l) = mkS l := by
      apply sL_inj; simp; rfl
    rw [run_bytesLoop (P := P) _ (fun _ _ => rfl) (us := us) (l := l) ByteArray.empty w hl hud, e0]
    rfl

def lenA (P : Program) (t : TypeId) (x : AV) : Option AV :=
  match P.underlying t with
  | some .string => match x with
    | .v (.string s) => some (.v (.int .i64 (sL s).length))
    | _ => none
  | some (.slice _) => match x with
    | .slc _ _ _ len => some (.v (.int .i64 len))
    | .imm _ _ xs => some (.v (.int .i64 xs.length))
    | .v (.slice _ 0 _) => some (.v (.int .i64 0))
    | _ => none
  | some (.array n _) => some (.v (.int .i64 n))
  | _ => none

theorem run_lenA {ty : TypeId} {ts : Array TypeId} {t : TypeId} {x y : AV} {u : Value} (hts : ts[0]? = some t) (h : lenA P t x = some y) (hx : Den E x u) :
    ∃ v, (Builtin.len_ ts ty #[u]).run P w = .ok v w ∧ Den E y v := by
  unfold lenA at h
  split at h <;> try simp at h
  · rename_i hu
    split at h <;> simp at h
    subst h
    simp only [Den] at hx; subst hx
    exact ⟨_, by simp [Builtin.len_, hts, run_underlying' hu, goInt]; rfl, by simp [Den, sL_length]⟩
  · rename_i e hu
    split at h <;> simp at h <;> subst h
    · obtain ⟨a, cap, rfl, _⟩ := slc_cap hx
      exact ⟨_, by simp [Builtin.len_, hts, run_underlying' hu, goInt]; rfl, by simp [Den]⟩
    · simp only [Den, DenD] at hx
      obtain ⟨a, cap, rfl, _⟩ := hx
      exact ⟨_, by simp [Builtin.len_, hts, run_underlying' hu, goInt]; rfl, by simp [Den]⟩
    · simp only [Den] at hx; subst hx
      exact ⟨_, by simp [Builtin.len_, hts, run_underlying' hu, goInt]; rfl, by simp [Den]⟩
  · rename_i n e hu
    subst h
    refine ⟨.int .i64 n, ?_, by simp [Den]⟩
    simp [Builtin.len_, hts, run_underlying' hu, goInt]

def maxA (mx : Bool) (xs : List AV) : Option AV :=
  match xs with
  | [.v (.int k a), .v (.int _ b)] => some (.v (.int k (if mx then (if a < b then b else a) else (if b < a then b else a))))
  | _ => none

theorem run_maxA {ty : TypeId} {ts : Array TypeId} {xs : List AV} {us : List Value} {y : AV} {mx : Bool} (h : maxA mx xs = some y) (hx : DenL E xs us) :
    ∃ v, (if mx then Builtin.max_ ts ty us.toArray else Builtin.min_ ts ty us.toArray).run P w = .ok v w ∧ Den E y v := by
  unfold maxA at h
  split at h <;> simp at h
  subst h
  simp only [DenL] at hx
  obtain ⟨u, us1, rfl, hu, u2, us2, rfl, hu2, rfl⟩ := hx
  simp only [Den] at hu hu2; subst hu hu2
  cases mx
  · exact ⟨_, by simp [Builtin.min_, Builtin.min2]; rfl, by simp [Den]⟩
  · exact ⟨_, by simp [Builtin.max_, Builtin.max2]; rfl, by simp [Den]⟩

/-- the bytes of a string, in memory of their own -/
def toBytesA (P : Program) (keep : List Nat) (H : Mem) (d : Nat) (src dst : TypeId) (x : AV) : Option Out :=
  match P.underlying src, P.underlying dst, x with
  | some .string, some (.slice e), .v (.string s) => match P.underlying e with
    | some (.int .u8) => newCells keep H d (.slc d 1 0 (sL s).length) (cellsB (sL s))
    | _ => none
  | _, _, _ => none

theorem run_toBytesA {keep : List Nat} (hkeep : keep = C.keep) (hR : Rel C E H) (hW : E.At w) {d : Nat} {src dst : TypeId} {x : AV} {u : Value} {out : Out} (h : toBytesA P keep H d src dst x = some out) (hx : Den E x u) :
    Gives C E P w (convert src dst u) out := by
  have hw := hW.1
  unfold toBytesA at h
  split at h <;> try simp at h
  rename_i e s hs hd
  split at h <;> try simp at h
  rename_i he
  simp only [Den] at hx; subst hx
  unfold newCells at h
  split at h <;> simp at h
  rename_i hk
  subst h
  have hk' : d ∉ C.keep := by rw [← hkeep]; simpa using hk
  have hscr : (fun i => some i ≠ some d) = (fun i : Nat => i ≠ d) := by funext i; simp
  generalize hcap : (Question.appendCap s.size 0 e).cut (w.tape w.drawn (.appendCap s.size 0 e)) = cap
  have hcl : s.size ≤ cap := by rw [← hcap]; exact Nat.le_add_right _ _
  have hsl : (sL s).length = s.size := sL_length s
  generalize hc : (s.data.map fun b => (Value.int .u8 b.toNat)) ++ Array.replicate (cap - s.size) (Value.int .u8 0) = c
  have hcs : c.size = cap := by rw [← hc]; simp; show s.size + _ = _; omega
  have hm : Moves C E H (E.heap.push (.cells c e (c.size, c.size + 1))) d ⟨E.heap.size, 0, c.size⟩ :=
    ⟨by simp, fun b hb hne => by rw [Array.getElem?_push]; simp [Nat.ne_of_lt hb], .inr (.inl (Nat.le_refl _))⟩
  have hle := hm.le hR
  have hat : AtCells E c 0 (cellsB (sL s)) := by
    intro i y hy
    simp only [cellsB, List.getElem?_map, Option.map_eq_some_iff] at hy
    obtain ⟨b, hb, rfl⟩ := hy
    refine ⟨.int .u8 b.toNat, ?_, by simp [Den, cB]⟩
    have hlt : i < (sL s).length := (List.getElem?_eq_some_iff.1 hb).1
    have hb' : s.data[i]? = some b := by simpa [sL] using hb
    rw [← hc, Nat.zero_add, Array.getElem?_append_left (by simp; show i < s.size; omega)]
    simp [hb']
  refine ⟨.slice (some ⟨E.heap.size, 0, none⟩) s.size cap, { w.drew with heap := E.heap.push (.cells c e (c.size, c.size + 1)) }, E.upd (E.heap.push (.cells c e (c.size, c.size + 1))) d ⟨E.heap.size, 0, c.size⟩, ?_, hW.to rfl, ?_, ?_, ?_⟩
  · have hfo : (Question.appendCap s.size 0 e).forced = false := rfl
    have hpush : ∀ f : Obj → Obj, f (.cells c e) = .cells c e (c.size, c.size + 1) → (w.heap.push (.cells c e)).modify w.heap.size f = w.heap.push (.cells c e (c.size, c.size + 1)) := by
      intro f hf
      apply Array.ext_getElem?
      intro i
      rw [Array.getElem?_modify, Array.getElem?_push, Array.getElem?_push]
      by_cases hi : i = w.heap.size
      · subst hi; simp [hf]
      · rw [if_neg hi, if_neg hi, if_neg (fun e => hi e.symm)]
    have hsh : World.shape? (w.drew.alloc (.cells c e)) w.heap.size = some (e, c.size) := by
      have hg : (w.drew.alloc (.cells c e)).heap[w.heap.size]? = some (.cells c e) := by
        show (w.heap.push (.cells c e))[w.heap.size]? = _
        rw [Array.getElem?_push_size]
      simp only [World.shape?, hg]
    have hfr : (w.drew.alloc (.cells c e)).freeze { block := w.heap.size, off := c.size } 1 = { w.drew with heap := w.heap.push (.cells c e (c.size, c.size + 1)) } := by
      simp only [World.freeze, World.alloc, World.drew]
      rw [if_neg (by omega)]
      congr 1
      exact hpush _ (by simp)
    have hmk : (markStringish ⟨w.heap.size, 0, none⟩).run P (w.drew.alloc (.cells c e)) = .ok () { w.drew with heap := w.heap.push (.cells c e (c.size, c.size + 1)) } := by
      simp only [markStringish, Sem.run_bind, run_shape, Result.andThen_ok, hsh, run_freeze, hfr]
    simp only [convert, Sem.run_bind, run_underlying' hs, run_underlying' hd, run_underlying' he, Conv.stringToBytes, run_choose, hfo, hcap, hc, Bool.false_eq_true, if_false, Result.andThen_ok, World.drew_eq]
    have hnr : (newRow e c).run P w.drew = .ok ⟨w.heap.size, 0, none⟩ (w.drew.alloc (.cells c e)) := run_newRow' w.drew e c
    simp only [hnr, Result.andThen_ok, hmk, Sem.run_pure, hw]
  · refine hR.moves hm hk' ?_ _ (find_put_scrub H d _)
    by_cases h0 : c.size = 0
    · refine Or.inl ⟨by simpa using h0, ?_⟩
      have : sL s = [] := List.length_eq_zero_iff.1 (by omega)
      rw [this]; rfl
    · refine Or.inr ⟨by simp; omega, c, e, (c.size, c.size + 1), by simp, by simp, by simp [scrubL, cellsB]; omega, FzOk.behind _, ?_⟩
      simpa using hat.scrub hle
  · rw [hscr]; exact hle
  · have := den_slc_new (E := E.upd (E.heap.push (.cells c e (c.size, c.size + 1))) d ⟨E.heap.size, 0, c.size⟩) (id := d) (k := 1) (len := s.size) (cap := cap) (by simp) (by simp [hcs]) (by omega) hcl
    rw [hsl]; simpa using this

end
end Go.Dk

/-
  Dk, part Jb: a slice of bytes that is made a slice of bytes (the model marks its block; the value is the same).
-/
namespace Go.Dk
set_option autoImplicit false
set_option linter.unusedVariables false
section
variable {C : Ctx} {E : Env} {H : Mem} {P : Program} {w : World}

def convSlA (P : Program) (H : Mem) (src dst : TypeId) (x : AV) : Option AV :=
  match P.underlying src, P.underlying dst, x with
  | some (.slice _), some (.slice e), .slc id k off (len + 1) => match P.underlying e, find H id with
    | some (.int .u8), some (.cells (c :: cs)) => if src = dst then some (.slc id k off (len + 1)) else none
    | _, _ => none
  | _, _, _ => none

def cvO (z w : Option AV) : Option AV := match z with | some z => some z | none => w
def cvA (P : Program) (H : Mem) (src dst : TypeId) (x : AV) : Option AV := cvO (toStrA P H src dst x) (convSlA P H src dst x)

theorem run_convSlA (hR : Rel C E H) (hW : E.At w) {src dst : TypeId} {x y : AV} {u : Value} (h : convSlA P H src dst x = some y) (hx : Den E x u) :
    Gives C E P w (convert src dst u) ⟨y, H, none⟩ := by
  have hw := hW.1
  unfold convSlA at h
  split at h <;> try simp at h
  rename_i e0 e id k off len hs hd
  split at h <;> try simp at h
  rename_i c0 cs0 he hf
  obtain ⟨rfl, rfl⟩ := h
  have hx' := hx
  simp only [Den] at hx
  rcases hx with ⟨h0, _⟩ | ⟨cap, hcap, hc0, hsz0, hle0, rfl⟩
  · omega
  obtain ⟨hs0, c, tt, fz, hh, hsz, hlen, hfz, hat⟩ := blk_cells hR hf (by simp)
  obtain ⟨lo, hi⟩ := fz
  have hblt : (E.β id).blk < E.heap.size := (Array.getElem?_eq_some_iff.1 hh).1
  let fz' : Nat × Nat := if lo == hi then (c.size, c.size + 1) else (min lo c.size, max hi (c.size + 1))
  have hfz' : FzOk c.size fz' := by
    simp only [fz']
    split
    · exact FzOk.behind _
    · rename_i hne
      have hne' : lo ≠ hi := by simpa using hne
      have := hfz.2
      simp only at this
      refine ⟨fun i hi' h => ?_, .inr ?_⟩ <;> simp only at * <;> omega
  let h' : Array Obj := E.heap.setIfInBounds (E.β id).blk (.cells c tt fz')
  have hget : h'[(E.β id).blk]? = some (.cells c tt fz') := by simp [h', hblt]
  have hrest : ∀ j, j ≠ (E.β id).blk → h'[j]? = E.heap[j]? := fun j hj => by
    simp only [h']; rw [Array.getElem?_setIfInBounds_ne (by exact fun e => hj e.symm)]
  have hsz' : h'.size = E.heap.size := by simp [h']
  have hle := (Rel.write (b' := .cells []) hR hf hs0 hsz' hrest (.inr ⟨hs0, c, tt, fz', hget, hsz, by simp only [List.length_nil, Nat.add_zero]; exact Nat.le_trans (Nat.le_add_right _ _) hlen, hfz', fun i x hx => by simp at hx⟩)).2
  have hR' := (Rel.write (b' := .cells (c0 :: cs0)) hR hf hs0 hsz' hrest (.inr ⟨hs0, c, tt, fz', hget, hsz, hlen, hfz', hat.mono hle (fun _ _ => trivial)⟩)).1
  have hput : ∀ i b, find H i = some b → find (put H id (.cells (c0 :: cs0))) i = some b := by
    intro i b hi
    simp only [put, find]
    by_cases h : id = i
    · subst h; rw [if_pos (by simp)]; rw [hf] at hi; exact hi
    · rw [if_neg (by simpa using h), find_erase, if_neg (fun e => h e.symm)]; exact hi
  refine ⟨_, { w with heap := h' }, { E with heap := h' }, ?_, hW.to rfl, ⟨hR'.size, hR'.frame, hR'.s0eq, hR'.s0, hR'.s1, hR'.keep, fun i b h => hR'.blk i b (hput i b h), fun i b h => hR'.own i b (hput i b h), fun i b j b' h h' => hR'.dist i b j b' (hput i b h) (hput j b' h'), hR'.mrk, hR'.os⟩, ⟨hle.s0, hle.s1, fun i _ => hle.at_ i trivial⟩, Den.mono hle _ _ (fun _ _ => trivial) hx'⟩
  obtain rfl : e0 = e := by rw [hs] at hd; simpa using hd
  have hg : w.heap[(E.β id).blk]? = some (.cells c tt (lo, hi)) := by rw [← hw]; exact hh
  have hsh : World.shape? w (E.β id).blk = some (tt, c.size) := by simp only [World.shape?, hg]
  have hfr : w.freeze { block := (E.β id).blk, off := c.size } 1 = { w with heap := h' } := by
    simp only [World.freeze]
    rw [if_neg (by omega)]
    congr 1
    apply Array.ext_getElem?
    intro j
    rw [Array.getElem?_modify, ← hw]
    by_cases hj : (E.β id).blk = j
    · subst hj; rw [hget, hh]; simp [fz']
    · rw [if_neg hj, hrest j (fun e => hj e.symm)]
  simp only [convert, Sem.run_bind, run_underlying' hs, run_underlying' he, Result.andThen_ok, markStringish, run_shape, hsh, run_freeze, hfr]
  simp [hsh, hfr]
end
end Go.Dk

/-
  Dk, part Jm: maps with whole numbers for keys; structs that are compared.
-/
namespace Go.Dk
set_option autoImplicit false
set_option linter.unusedVariables false
set_option linter.unusedSimpArgs false

/-! ### maps -/
def isK (kk : IntKind) (e : Value × AV) : Bool := match e.1 with | .int k _ => decide (k = kk) | _ => false
def keyN (n : Int) (e : Value × AV) : Bool := match e.1 with | .int _ a => decide (a = n) | _ => false
def lookI (n : Int) : List (Value × AV) → Option AV
  | [] => none
  | e :: r => if keyN n e = true then some e.2 else lookI n r
def updI (kk : IntKind) (n : Int) (x : AV) : List (Value × AV) → List (Value × AV)
  | [] => [(.int kk n, x)]
  | e :: r => if keyN n e = true then (.int kk n, x) :: r else e :: updI kk n x r
def delI (n : Int) : List (Value × AV) → List (Value × AV)
  | [] => []
  | e :: r => if keyN n e = true then r else e :: delI n r
def tyZV (P : Program) (t : TypeId) : Option Value := (P.info? t).bind (·.zero)
def lkRes (ok : Bool) (z : Value) (r : Option AV) : AV := match ok with
  | true => .tup [r.getD (.v z), .v (.bool r.isSome)]
  | false => r.getD (.v z)

def EntL (E : Env) : List MapEntry → List (Value × AV) → Prop
  | [], [] => True
  | e :: l, p :: r => e.key = p.1 ∧ Den E p.2 e.val ∧ EntL E l r
  | _, _ => False

theorem entL_of {E : Env} {c : Array MapEntry} {clk : Nat} {es : List (Value × AV)} (h : AtEntries E c clk es) : EntL E c.toList es := by
  obtain ⟨h1, _, _, h4⟩ := h
  have : ∀ (l : List MapEntry) (es : List (Value × AV)), l.length = es.length → (∀ (i : Nat) (k : Value) (x : AV), es[i]? = some (k, x) → ∃ e, l[i]? = some e ∧ e.key = k ∧ Den E x e.val) → EntL E l es := by
    intro l
    induction l with
    | nil => intro es hl _; cases es with | nil => trivial | cons p r => simp at hl
    | cons e l ih =>
      intro es hl hh
      cases es with
      | nil => simp at hl
      | cons p r =>
        obtain ⟨e', he, hk, hd⟩ := hh 0 p.1 p.2 rfl
        simp at he; subst he
        exact ⟨hk, hd, ih r (by simpa using hl) fun i k x hx => hh (i + 1) k x (by simpa using hx)⟩
  exact this _ _ (by simpa using h1) fun i k x hx => by
    obtain ⟨e, he, h⟩ := h4 i k x hx
    exact ⟨e, by simpa using he, h⟩

theorem entL_at {E : Env} {c : Array MapEntry} {clk : Nat} {es : List (Value × AV)} (h : EntL E c.toList es) (hb : ∀ (i : Nat) (e : MapEntry), c[i]? = some e → e.born < clk)
    (hd : ∀ (i j : Nat) (e e' : MapEntry), c[i]? = some e → c[j]? = some e' → e.born = e'.born → i = j) : AtEntries E c clk es := by
  have : ∀ (l : List MapEntry) (es : List (Value × AV)), EntL E l es → l.length = es.length ∧ (∀ (i : Nat) (k : Value) (x : AV), es[i]? = some (k, x) → ∃ e, l[i]? = some e ∧ e.key = k ∧ Den E x e.val) := by
    intro l
    induction l with
    | nil => intro es hh; cases es with | nil => simp | cons p r => exact hh.elim
    | cons e l ih =>
      intro es hh
      cases es with
      | nil => exact hh.elim
      | cons p r =>
        obtain ⟨h1, h2, h3⟩ := hh
        obtain ⟨h4, h5⟩ := ih r h3
        refine ⟨by simp [h4], fun i k x hx => ?_⟩
        cases i with
        | zero => simp at hx; subst hx; exact ⟨e, rfl, h1, h2⟩
        | succ i => simpa using h5 i k x (by simpa using hx)
  obtain ⟨h1, h2⟩ := this _ _ h
  exact ⟨by simpa using h1, hb, hd, fun i k x hx => by
    obtain ⟨e, he, hh⟩ := h2 i k x hx
    exact ⟨e, by simpa using he, hh⟩⟩

theorem findNow_int {E : Env} {kk : IntKind} {n : Int} : ∀ (l : List MapEntry) (es : List (Value × AV)) (i0 : Nat), EntL E l es → es.all (isK kk) = true →
    (lookI n es = none ∧ Instr.findNow (.int kk) (.int kk n) l i0 = some none) ∨
    ∃ j x e, lookI n es = some x ∧ Instr.findNow (.int kk) (.int kk n) l i0 = some (some (i0 + j, e.val)) ∧ l[j]? = some e ∧ Den E x e.val ∧ e.key = .int kk n ∧ (∀ q : List MapEntry, True) := by
  intro l
  induction l with
  | nil => intro es i0 h _; cases es with | nil => left; exact ⟨rfl, rfl⟩ | cons p r => exact h.elim
  | cons e l ih =>
    intro es i0 h hk
    cases es with
    | nil => exact h.elim
    | cons p r =>
      obtain ⟨h1, h2, h3⟩ := h
      simp only [List.all_cons, Bool.and_eq_true] at hk
      obtain ⟨hk1, hk2⟩ := hk
      obtain ⟨k, x⟩ := p
      cases k <;> simp [isK] at hk1
      rename_i k a
      obtain rfl : kk = k := hk1.symm
      simp only at h1 h2
      by_cases ha : a = n
      · subst ha
        right
        exact ⟨0, x, e, by simp [lookI, keyN], by simp [Instr.findNow, Instr.sameNow, h1], rfl, h2, h1, fun _ => trivial⟩
      · have hs : Instr.sameNow (.int kk) (.int kk n) e.key = some false := by
          rw [h1]; simp [Instr.sameNow]; exact fun h => ha h.symm
        rcases ih r (i0 + 1) h3 hk2 with ⟨h4, h5⟩ | ⟨j, y, e', h4, h5, h6, h7, h8, _⟩
        · left; exact ⟨by simp [lookI, keyN, ha, h4], by simp [Instr.findNow, hs, h5]⟩
        · right
          exact ⟨j + 1, y, e', by simp [lookI, keyN, ha, h4], by simp [Instr.findNow, hs, h5]; omega, by simpa using h6, h7, h8, fun _ => trivial⟩

section
variable {C : Ctx} {E : Env} {H : Mem} {P : Program} {w : World}

theorem run_checkKey_int {b : Bool} {t : TypeId} {kk k : IntKind} {n : Int} (hk : P.underlying t = some (.int kk)) : (Instr.checkKey b 10000 t (.int k n)).run P w = .ok () w := by
  have : ∀ d, (Instr.checkKey b (d + 1) t (.int k n)).run P w = .ok () w := fun d => by simp [Instr.checkKey, run_underlying' hk]
  exact this 9999
theorem run_stays {kk : IntKind} {n : Int} : (Instr.keyThatStays (.int kk n) (.int kk n)).run P w = .ok (.int kk n) w := by
  have : ∀ d, Instr.sameBits d (.int kk n) (.int kk n) = true := fun d => by cases d <;> simp [Instr.sameBits]
  simp only [Instr.keyThatStays, this, if_true, Sem.run_pure]

theorem run_zeroV {t : TypeId} {z : Value} (h : tyZV P t = some z) : (zeroValue t).run P w = .ok z w := by
  unfold tyZV at h
  cases hi : P.info? t with
  | none => simp [hi] at h
  | some i => simp [hi] at h; simp [zeroValue, typeInfo, hi, h]

theorem run_getObj' {r : Nat} {es : Array MapEntry} {clock : Nat} (hb : w.heap[r]? = some (.map es clock)) : (getObj r).run P w = .ok (.map es clock) w := by simp [getObj, Sem.run, hb]
theorem run_setObj' {r : Nat} {es : Array MapEntry} {clock : Nat} (o : Obj) (hb : w.heap[r]? = some (.map es clock)) : (setObj r o).run P w = .ok () (w.putObj r o) := by simp [setObj, Sem.run, hb, World.putObj]

def mapKE (P : Program) (t : TypeId) : Option (IntKind × TypeId) := match P.underlying t with
  | some (.map kt et) => match P.underlying kt with
    | some (.int kk) => some (kk, et)
    | _ => none
  | _ => none
theorem mapKE_some {t : TypeId} {kk : IntKind} {et : TypeId} (h : mapKE P t = some (kk, et)) : ∃ kt, P.underlying t = some (.map kt et) ∧ P.underlying kt = some (.int kk) := by
  unfold mapKE at h
  split at h <;> try (cases h; done)
  rename_i kt et' hu
  split at h <;> simp at h
  rename_i k hk
  obtain ⟨rfl, rfl⟩ := h
  exact ⟨kt, hu, hk⟩

def mapOf : Option Blk → Option (List (Value × AV))
  | some (.map es) => some es
  | _ => none

def lookupA (P : Program) (H : Mem) (t : TypeId) (m i : AV) (ok : Bool) : Option AV :=
  match i with
  | .v (.int kk n) => match m with
    | .mp id => (mapKE P t).bind fun p => (tyZV P p.2).bind fun z => (mapOf (find H id)).bind fun es => if kk = p.1 ∧ es.all (isK p.1) = true then some (lkRes ok z (lookI n es)) else none
    | .v (.map none) => (mapKE P t).bind fun p => (tyZV P p.2).bind fun z => if kk = p.1 then some (lkRes ok z none) else none
    | _ => none
  | _ => none

theorem run_lookupA (hR : Rel C E H) (hW : E.At w) {t : TypeId} {m i y : AV} {ok : Bool} {u u' : Value} (h : lookupA P H t m i ok = some y) (hm : Den E m u) (hi : Den E i u') :
    ∃ v, (Instr.lookup t u u' ok).run P w = .ok v w ∧ Den E y v := by
  have hw := hW.1
  unfold lookupA at h
  split at h <;> try (cases h; done)
  rename_i kk n
  simp only [Den] at hi; subst hi
  split at h <;> try (cases h; done)
  · rename_i id
    simp only [Option.bind_eq_some_iff] at h
    obtain ⟨⟨kk', et⟩, hke, z, hz, es, hf, h⟩ := h
    split at h <;> simp at h
    rename_i hc
    obtain ⟨rfl, hall⟩ := hc
    subst h
    obtain ⟨kt, hu, hk⟩ := mapKE_some hke
    cases hfind : find H id with
    | none => rw [hfind] at hf; cases hf
    | some b =>
      cases b with
      | cells _ => rw [hfind] at hf; cases hf
      | oth _ _ => rw [hfind] at hf; cases hf
      | map es' =>
        rw [hfind] at hf
        obtain rfl := Option.some.inj hf
        obtain ⟨hs, c, clk, hh, hat⟩ := hR.blk id _ hfind
        simp only [Den] at hm; subst hm
        have hg : (getObj (E.β id).blk).run P w = .ok (.map c clk) w := run_getObj' (by rw [← hw]; exact hh)
        simp only at hall
        rcases findNow_int (n := n) c.toList es' 0 (entL_of hat) hall with ⟨h1, h2⟩ | ⟨j, x, e, h1, h2, h3, h4, h5, _⟩
        · rw [h1]
          refine ⟨if ok then .tuple #[z, .bool false] else z, ?_, ?_⟩
          · simp [Instr.lookup, run_underlying' hu, hg, run_checkKey_int hk, Instr.findKey, run_underlying' hk, h2, run_zeroV hz]
          · cases ok <;> simp [lkRes, Den, DenL]
        · rw [h1]
          refine ⟨if ok then .tuple #[e.val, .bool true] else e.val, ?_, ?_⟩
          · simp [Instr.lookup, run_underlying' hu, hg, run_checkKey_int hk, Instr.findKey, run_underlying' hk, h2]
          · cases ok <;> simp [lkRes, Den, DenL, h4]
  · simp only [Option.bind_eq_some_iff] at h
    obtain ⟨⟨kk', et⟩, hke, z, hz, h⟩ := h
    split at h <;> simp at h
    rename_i hc
    subst hc h
    obtain ⟨kt, hu, hk⟩ := mapKE_some hke
    simp only [Den] at hm; subst hm
    refine ⟨if ok then .tuple #[z, .bool false] else z, ?_, ?_⟩
    · simp [Instr.lookup, run_underlying' hu, run_checkKey_int hk, Instr.findKey, run_underlying' hk, Instr.findNow, run_zeroV hz]
    · cases ok <;> simp [lkRes, Den, DenL]

def updateA (P : Program) (H : Mem) (t : TypeId) (m i x : AV) : Option Mem :=
  match i, m with
  | .v (.int kk n), .mp id => (mapKE P t).bind fun p => (mapOf (find H id)).bind fun es => if kk = p.1 ∧ es.all (isK p.1) = true then some (put H id (.map (updI kk n x es))) else none
  | _, _ => none

theorem Rel.putMap {id : Nat} {es es' : List (Value × AV)} {c' : Array MapEntry} {clk' : Nat} (hR : Rel C E H) (hW : E.At w) (hf : find H id = some (.map es)) (hs : 0 < (E.β id).sz)
    (hat : ∀ E' : Env, E.Le E' (fun _ => True) → AtEntries E' c' clk' es') : ∃ E', E'.At (w.putObj (E.β id).blk (.map c' clk')) ∧ Rel C E' (put H id (.map es')) ∧ E.Le E' (fun _ => True) := by
  have hw := hW.1
  have hlt : (E.β id).blk < w.heap.size := by rw [← hw]; exact (hR.blk id _ hf).lt hs
  have hrest : ∀ j, j ≠ (E.β id).blk → (w.putObj (E.β id).blk (.map c' clk')).heap[j]? = E.heap[j]? := fun j hj => by rw [hw]; exact World.putObj_heap_other hj
  have hlive := hR.own id _ hf hs
  have hle : E.Le { E with heap := (w.putObj (E.β id).blk (.map c' clk')).heap } (fun _ => True) := by
    refine ⟨fun j hj => ⟨.inl hj, hrest j ?_⟩, fun j hj => ⟨hj, hrest j ?_⟩, fun _ _ => rfl⟩
    · rw [hR.s0eq] at hj
      rintro rfl
      rcases hlive.1 with ⟨_, h1⟩ | h1
      · exact (hR.s0 _ hj).2 h1
      · have := (hR.s0 _ hj).1; omega
    · rintro rfl; exact hlive.2 hj
  have := hR.write (b' := .map es') hf hs (by simp [hw]) hrest ⟨hs, c', clk', World.putObj_heap_same hlt, hat _ hle⟩
  exact ⟨{ E with heap := (w.putObj (E.β id).blk (.map c' clk')).heap }, hW.to rfl, this.1, this.2⟩

theorem EntL.mono {E' : Env} (hle : E.Le E' (fun _ => True)) : ∀ {l : List MapEntry} {es : List (Value × AV)}, EntL E l es → EntL E' l es
  | [], [], _ => trivial
  | _ :: _, _ :: _, ⟨h1, h2, h3⟩ => ⟨h1, Den.mono hle _ _ (fun _ _ => trivial) h2, h3.mono hle⟩
  | [], _ :: _, h => h.elim
  | _ :: _, [], h => h.elim

theorem entL_upd {kk : IntKind} {n : Int} {x : AV} {v : Value} (hx : Den E x v) : ∀ (l : List MapEntry) (es : List (Value × AV)) (i0 : Nat), EntL E l es → es.all (isK kk) = true →
    (∀ j e, Instr.findNow (.int kk) (.int kk n) l i0 = some (some (i0 + j, e)) → EntL E (l.modify j fun e => { e with key := .int kk n, val := v }) (updI kk n x es)) ∧
    (∀ clk, Instr.findNow (.int kk) (.int kk n) l i0 = some none → EntL E (l ++ [{ key := .int kk n, val := v, born := clk }]) (updI kk n x es)) := by
  intro l
  induction l with
  | nil =>
    intro es i0 h _
    cases es with
    | nil => exact ⟨fun j e hh => by simp [Instr.findNow] at hh, fun clk _ => ⟨rfl, hx, trivial⟩⟩
    | cons p r => exact h.elim
  | cons e l ih =>
    intro es i0 h hk
    cases es with
    | nil => exact h.elim
    | cons p r =>
      obtain ⟨h1, h2, h3⟩ := h
      simp only [List.all_cons, Bool.and_eq_true] at hk
      obtain ⟨hk1, hk2⟩ := hk
      obtain ⟨k, y⟩ := p
      cases k <;> simp [isK] at hk1
      rename_i k a
      obtain rfl : kk = k := hk1.symm
      simp only at h1 h2
      by_cases ha : a = n
      · subst ha
        have hs : Instr.sameNow (.int kk) (.int kk a) e.key = some true := by rw [h1]; simp [Instr.sameNow]
        refine ⟨fun j e' hh => ?_, fun clk hh => by simp [Instr.findNow, hs] at hh⟩
        simp only [Instr.findNow, hs, Option.some.injEq, Prod.mk.injEq] at hh
        have : j = 0 := by omega
        subst this
        simp only [updI, keyN, decide_true, if_true]
        exact ⟨rfl, hx, h3⟩
      · have hs : Instr.sameNow (.int kk) (.int kk n) e.key = some false := by
          rw [h1]; simp [Instr.sameNow]; exact fun h => ha h.symm
        obtain ⟨i1, i2⟩ := ih r (i0 + 1) h3 hk2
        have hu : updI kk n x ((.int kk a, y) :: r) = (.int kk a, y) :: updI kk n x r := by simp [updI, keyN, ha]
        rw [hu]
        refine ⟨fun j e' hh => ?_, fun clk hh => ?_⟩
        · simp only [Instr.findNow, hs] at hh
          cases j with
          | zero =>
            exfalso
            rcases findNow_int (n := n) l r (i0 + 1) h3 hk2 with ⟨_, h5⟩ | ⟨j, _, e2, _, h5, _⟩
            · rw [h5] at hh; cases hh
            · rw [h5] at hh; simp at hh; omega
          | succ j =>
            exact ⟨h1, h2, i1 j e' (by rw [hh]; simp; omega)⟩
        · simp only [Instr.findNow, hs] at hh
          exact ⟨h1, h2, i2 clk hh⟩

theorem run_updateA (hR : Rel C E H) (hW : E.At w) {t : TypeId} {m i x : AV} {H' : Mem} {u u' u'' : Value} (h : updateA P H t m i x = some H') (hm : Den E m u) (hi : Den E i u') (hx : Den E x u'') :
    ∃ w' E', (Instr.mapUpdate t u u' u'').run P w = .ok () w' ∧ E'.At w' ∧ Rel C E' H' ∧ E.Le E' (fun _ => True) := by
  have hw := hW.1
  unfold updateA at h
  split at h <;> try (cases h; done)
  rename_i kk n id
  simp only [Den] at hi hm; subst hi hm
  simp only [Option.bind_eq_some_iff] at h
  obtain ⟨⟨kk', et⟩, hke, es, hf, h⟩ := h
  split at h <;> simp at h
  rename_i hc
  obtain ⟨rfl, hall⟩ := hc
  subst h
  obtain ⟨kt, hu, hk⟩ := mapKE_some hke
  cases hfind : find H id with
  | none => rw [hfind] at hf; cases hf
  | some b =>
    cases b with
    | cells _ => rw [hfind] at hf; cases hf
    | oth _ _ => rw [hfind] at hf; cases hf
    | map es' =>
      rw [hfind] at hf
      obtain rfl := Option.some.inj hf
      obtain ⟨hs, c, clk, hh, hat⟩ := hR.blk id _ hfind
      have hh' : w.heap[(E.β id).blk]? = some (.map c clk) := by rw [← hw]; exact hh
      have hg : (getObj (E.β id).blk).run P w = .ok (.map c clk) w := run_getObj' hh'
      have hset : ∀ o, (setObj (E.β id).blk o).run P w = .ok () (w.putObj (E.β id).blk o) := fun o => run_setObj' o hh'
      simp only at hall
      obtain ⟨hh1, hh2, hh3, hh4⟩ := hat
      have hent := entL_of ⟨hh1, hh2, hh3, hh4⟩
      rcases findNow_int (n := n) c.toList es' 0 hent hall with ⟨h1, h2⟩ | ⟨j, y, e, h1, h2, h3, h4, h5, _⟩
      · have hrel := hR.putMap (w := w) (c' := c.push { key := .int kk n, val := u'', born := clk }) (clk' := clk + 1) (es' := updI kk n x es') hW hfind hs (fun E' hle => by
          refine entL_at (by simpa using ((entL_upd hx c.toList es' 0 hent hall).2 clk h2).mono hle) ?_ ?_
          · intro q e hq
            rw [Array.getElem?_push] at hq
            split at hq
            · simp at hq; subst hq; simp
            · have := hh2 q e hq; omega
          · intro q r e e' hq hr hb
            rw [Array.getElem?_push] at hq hr
            split at hq <;> split at hr
            · omega
            · simp at hq; subst hq; have := hh2 r e' hr; simp at hb; omega
            · simp at hr; subst hr; have := hh2 q e hq; simp at hb; omega
            · exact hh3 q r e e' hq hr hb)
        obtain ⟨E', e1, e2, e3⟩ := hrel
        refine ⟨_, E', ?_, e1, e2, e3⟩
        simp [Instr.mapUpdate, run_underlying' hu, hg, run_checkKey_int hk, Instr.findKey, run_underlying' hk, h2, hset]
      · have hj : c[j]? = some e := by simpa using h3
        have hrel := hR.putMap (w := w) (c' := c.modify j fun e => { e with key := .int kk n, val := u'' }) (clk' := clk) (es' := updI kk n x es') hW hfind hs (fun E' hle => by
          refine entL_at (by simpa using ((entL_upd hx c.toList es' 0 hent hall).1 j e.val h2).mono hle) ?_ ?_
          · intro q e' hq
            rw [Array.getElem?_modify] at hq
            split at hq
            · rw [Option.map_eq_some_iff] at hq; obtain ⟨e2, h, rfl⟩ := hq; exact hh2 q e2 h
            · exact hh2 q e' hq
          · intro q r e1 e2 hq hr hb
            rw [Array.getElem?_modify] at hq hr
            split at hq <;> split at hr
            · omega
            · rw [Option.map_eq_some_iff] at hq; obtain ⟨e3, h, rfl⟩ := hq; exact hh3 q r e3 e2 h hr hb
            · rw [Option.map_eq_some_iff] at hr; obtain ⟨e3, h, rfl⟩ := hr; exact hh3 q r e1 e3 hq h hb
            · exact hh3 q r e1 e2 hq hr hb)
        obtain ⟨E', e1, e2, e3⟩ := hrel
        refine ⟨_, E', ?_, e1, e2, e3⟩
        have hkeep : (Instr.keyThatStays e.key (.int kk n)).run P w = .ok (.int kk n) w := by
          rw [h5]; exact run_stays
        simp [Instr.mapUpdate, run_underlying' hu, hg, run_checkKey_int hk, Instr.findKey, run_underlying' hk, h2, hset, hj, hkeep]

/-! ### a new map; how many a map has -/
def makeMapA (keep : List Nat) (H : Mem) (d : Nat) : Option Out :=
  if keep.contains d then none else some ⟨.mp d, put (scrubH d H) d (.map []), some d⟩

theorem run_makeMapA {keep : List Nat} (hkeep : keep = C.keep) (hR : Rel C E H) (hW : E.At w) {d : Nat} {t : TypeId} {out : Out} (h : makeMapA keep H d = some out) :
    Gives C E P w (Instr.makeMap t none) out := by
  have hw := hW.1
  unfold makeMapA at h
  split at h <;> simp at h
  rename_i hk
  subst h
  have hk' : d ∉ C.keep := by rw [← hkeep]; simpa using hk
  have hm : Moves C E H (E.heap.push (.map #[] 0)) d ⟨E.heap.size, 0, 1⟩ := ⟨by simp, fun b hb hne => by rw [Array.getElem?_push]; simp [Nat.ne_of_lt hb], .inr (.inl (Nat.le_refl _))⟩
  have hle := hm.le hR
  refine ⟨.map (some w.heap.size), w.alloc (.map #[] 0), E.upd (E.heap.push (.map #[] 0)) d ⟨E.heap.size, 0, 1⟩, ?_, hW.to (by rw [Env.upd_heap, hw]; rfl), ?_, ?_, by simp [Den, hw]⟩
  · simp [Instr.makeMap]
  · refine hR.moves hm hk' ?_ _ (find_put_scrub H d _)
    exact ⟨by simp, #[], 0, by simp, by simp [AtEntries]⟩
  · have e : (fun i => some i ≠ some d) = (fun i : Nat => i ≠ d) := by funext i; simp
    rw [e]; exact hle

def lenMA (P : Program) (H : Mem) (t : TypeId) (x : AV) : Option AV :=
  match P.underlying t with
  | some (.map _ _) => match x with
    | .mp id => (mapOf (find H id)).map fun es => .v (.int .i64 es.length)
    | .v (.map none) => some (.v (.int .i64 0))
    | _ => none
  | _ => none

theorem run_lenMA (hR : Rel C E H) (hW : E.At w) {ty : TypeId} {ts : Array TypeId} {t : TypeId} {x y : AV} {u : Value} (hts : ts[0]? = some t) (h : lenMA P H t x = some y) (hx : Den E x u) :
    ∃ v, (Builtin.len_ ts ty #[u]).run P w = .ok v w ∧ Den E y v := by
  have hw := hW.1
  unfold lenMA at h
  split at h <;> try (cases h; done)
  rename_i kt et hu
  split at h <;> try (cases h; done)
  · rename_i id
    rw [Option.map_eq_some_iff] at h
    obtain ⟨es, hf, rfl⟩ := h
    cases hfind : find H id with
    | none => rw [hfind] at hf; cases hf
    | some b =>
      cases b with
      | cells _ => rw [hfind] at hf; cases hf
      | oth _ _ => rw [hfind] at hf; cases hf
      | map es' =>
        rw [hfind] at hf
        obtain rfl := Option.some.inj hf
        obtain ⟨hs, c, clk, hh, hat⟩ := hR.blk id _ hfind
        simp only [Den] at hx; subst hx
        have hg : (getObj (E.β id).blk).run P w = .ok (.map c clk) w := run_getObj' (by rw [← hw]; exact hh)
        exact ⟨.int .i64 c.size, by simp [Builtin.len_, hts, run_underlying' hu, hg, goInt], by simp [Den, hat.1]⟩
  · simp at h; subst h
    simp only [Den] at hx; subst hx
    exact ⟨.int .i64 0, by simp [Builtin.len_, hts, run_underlying' hu, goInt], by simp [Den]⟩
end

/-! ### structs that are compared -/
inductive CK where
  | i
  | s
  | b
  deriving DecidableEq

def ckEq : CK → AV → AV → Option Bool
  | .i, .v (.int k a), .v (.int k' b) => if k = k' then some (decide (a = b)) else none
  | .s, .v (.string a), .v (.string b) => some (decide (sL a = sL b))
  | .b, .v (.bool a), .v (.bool b) => some (decide (a = b))
  | _, _, _ => none
def andO : Option Bool → Option Bool → Option Bool
  | some a, some b => some (a && b)
  | _, _ => none
def eqFlat : List CK → List AV → List AV → Option Bool
  | [], [], [] => some true
  | k :: ks, x :: xs, y :: ys => andO (ckEq k x y) (eqFlat ks xs ys)
  | _, _, _ => none

def tyEqF (P : Program) (rec_ : TypeId → Option (List CK)) : List Field → Nat → Option (List CK)
  | [], _ => some []
  | f :: r, off => match rec_ f.type, tySize P f.type, tyEqF P rec_ r (off + (tySize P f.type).getD 0) with
    | some ks, some n, some ks' => if f.name ≠ "_" ∧ f.offset = off ∧ ks.length = n then some (ks ++ ks') else none
    | _, _, _ => none
def tyEq (P : Program) : Nat → TypeId → Option (List CK)
  | 0, _ => none
  | d + 1, t => match P.underlying t with
    | some (.int _) => some [.i]
    | some .string => some [.s]
    | some .bool => some [.b]
    | some (.struct fs) => if P.stoodInHeld t = false then tyEqF P (tyEq P d) fs.toList 0 else none
    | _ => none
def tyEqT (P : Program) (t : TypeId) : Option (List CK) := match P.underlying t with
  | some (.struct _) => if P.eqGuardType P.depth t = false then tyEq P 20 t else none
  | _ => none
def aggCells : AV → Option (List AV)
  | .agg cs => some cs
  | .v (.agg us) => some (us.toList.map .v)
  | _ => none
def eqSA (P : Program) (op : BinOp) (t : TypeId) (x y : AV) : Option Value :=
  (tyEqT P t).bind fun ks => (aggCells x).bind fun xs => (aggCells y).bind fun ys => (eqFlat ks xs ys).bind (eqlAns op)

theorem eqFlat_append : ∀ {ks ks' : List CK} {xs ys : List AV} {b : Bool}, eqFlat (ks ++ ks') xs ys = some b → ∃ b1 b2, eqFlat ks (xs.take ks.length) (ys.take ks.length) = some b1 ∧ eqFlat ks' (xs.drop ks.length) (ys.drop ks.length) = some b2 ∧ b = (b1 && b2) ∧ ks.length ≤ xs.length ∧ ks.length ≤ ys.length
  | [], ks', xs, ys, b, h => ⟨true, b, by simp [eqFlat], by simpa using h, by simp, by simp, by simp⟩
  | k :: ks, ks', xs, ys, b, h => by
    cases xs with
    | nil => simp [eqFlat] at h
    | cons x xs =>
      cases ys with
      | nil => simp [eqFlat] at h
      | cons y ys =>
        simp only [List.cons_append, eqFlat] at h
        cases h1 : ckEq k x y with
        | none => rw [h1] at h; simp [andO] at h
        | some c =>
          cases h2 : eqFlat (ks ++ ks') xs ys with
          | none => rw [h1, h2] at h; simp [andO] at h
          | some e =>
            rw [h1, h2] at h
            simp only [andO, Option.some.injEq] at h
            obtain ⟨b1, b2, h3, h4, rfl, h5, h6⟩ := eqFlat_append h2
            exact ⟨c && b1, b2, by simp [eqFlat, h1, h3, andO], by simpa using h4, by rw [← h, Bool.and_assoc], by simpa using h5, by simpa using h6⟩

theorem denL_drop {E : Env} {xs : List AV} {us : List Value} (h : DenL E xs us) (n : Nat) : DenL E (xs.drop n) (us.drop n) := by
  rw [denL_iff] at h ⊢
  refine ⟨by simp [h.1], fun i x hi => ?_⟩
  rw [List.getElem?_drop] at hi ⊢
  exact h.2 _ x hi
theorem ckEq_i {x y : AV} {b : Bool} (h : ckEq .i x y = some b) : ∃ k a c, x = .v (.int k a) ∧ y = .v (.int k c) ∧ b = decide (a = c) := by
  cases x <;> try (simp [ckEq] at h; done)
  rename_i x
  cases x <;> try (simp [ckEq] at h; done)
  cases y <;> try (simp [ckEq] at h; done)
  rename_i y
  cases y <;> try (simp [ckEq] at h; done)
  rename_i k a k' c
  simp only [ckEq] at h
  split at h <;> simp at h
  rename_i hk; subst hk
  exact ⟨k, a, c, rfl, rfl, by rw [← h]⟩
theorem ckEq_s {x y : AV} {b : Bool} (h : ckEq .s x y = some b) : ∃ a c, x = .v (.string a) ∧ y = .v (.string c) ∧ b = decide (sL a = sL c) := by
  cases x <;> try (simp [ckEq] at h; done)
  rename_i x
  cases x <;> try (simp [ckEq] at h; done)
  cases y <;> try (simp [ckEq] at h; done)
  rename_i y
  cases y <;> try (simp [ckEq] at h; done)
  rename_i a c
  simp only [ckEq, Option.some.injEq] at h
  exact ⟨a, c, rfl, rfl, h.symm⟩
theorem ckEq_b {x y : AV} {b : Bool} (h : ckEq .b x y = some b) : ∃ a c, x = .v (.bool a) ∧ y = .v (.bool c) ∧ b = decide (a = c) := by
  cases x <;> try (simp [ckEq] at h; done)
  rename_i x
  cases x <;> try (simp [ckEq] at h; done)
  cases y <;> try (simp [ckEq] at h; done)
  rename_i y
  cases y <;> try (simp [ckEq] at h; done)
  rename_i a c
  simp only [ckEq, Option.some.injEq] at h
  exact ⟨a, c, rfl, rfl, h.symm⟩

section
variable {E : Env} {P : Program} {w : World}

theorem run_equalIn_flat (d : Nat) : ∀ (t : TypeId) (ks : List CK), tyEq P d t = some ks → ∀ (D : Nat), d ≤ D →
    (∀ (k : CK) (x y : AV) (u u' : Value) (b : Bool), ks = [k] → (∀ fs, P.underlying t ≠ some (.struct fs)) → Den E x u → Den E y u' → ckEq k x y = some b → (Op.equalIn D t u u').run P w = .ok b w) ∧
    (∀ (xs ys : List AV) (us us' : List Value) (b : Bool), (∃ fs, P.underlying t = some (.struct fs)) → DenL E xs us → DenL E ys us' → eqFlat ks xs ys = some b → (Op.equalIn D t (.agg us.toArray) (.agg us'.toArray)).run P w = .ok b w) := by
  induction d with
  | zero => intro t ks h; simp [tyEq] at h
  | succ d ih =>
    intro t ks h D hD
    obtain ⟨D, rfl⟩ : ∃ q, D = q + 1 := ⟨D - 1, by omega⟩
    simp only [tyEq] at h
    split at h
    · rename_i kk hu
      simp at h; subst h
      refine ⟨?_, fun xs ys us us' b ⟨fs, hfs⟩ => by rw [hu] at hfs; cases hfs⟩
      intro k x y u u' b hk _ hx hy hb
      simp at hk; subst hk
      obtain ⟨kk', a, c, rfl, rfl, rfl⟩ := ckEq_i hb
      simp only [Den] at hx hy; subst hx hy
      rw [run_equalIn_int w D t _ _ _ _ hu]
      congr 1
    · rename_i hu
      simp at h; subst h
      refine ⟨?_, fun xs ys us us' b ⟨fs, hfs⟩ => by rw [hu] at hfs; cases hfs⟩
      intro k x y u u' b hk _ hx hy hb
      simp at hk; subst hk
      obtain ⟨a, c, rfl, rfl, rfl⟩ := ckEq_s hb
      simp only [Den] at hx hy; subst hx hy
      rw [run_equalIn_string w D t _ _ hu, sL_toList, sL_toList]
      congr 1
      by_cases he : sL a = sL c <;> simp [he]
    · rename_i hu
      simp at h; subst h
      refine ⟨?_, fun xs ys us us' b ⟨fs, hfs⟩ => by rw [hu] at hfs; cases hfs⟩
      intro k x y u u' b hk _ hx hy hb
      simp at hk; subst hk
      obtain ⟨a, c, rfl, rfl, rfl⟩ := ckEq_b hb
      simp only [Den] at hx hy; subst hx hy
      rw [run_equalIn_bool' w D t _ _ hu]
      cases a <;> cases c <;> rfl
    · rename_i fs hu
      split at h <;> try (cases h; done)
      rename_i hst
      refine ⟨fun k x y u u' b _ hns => absurd hu (hns fs), ?_⟩
      intro xs ys us us' b _ hx hy hb
      have hfo : P.fieldsOf t = fs := by simp [Program.fieldsOf, hu]
      rw [run_equalIn_struct w D t us.toArray us'.toArray (by rw [hfo]; exact hu) hst, hfo]
      have key : ∀ (l : List Field) (off : Nat) (ks : List CK) (xs ys : List AV) (b : Bool), tyEqF P (tyEq P d) l off = some ks → DenL E xs (us.drop off) → DenL E ys (us'.drop off) → eqFlat ks xs ys = some b →
          (Op.eqFields D us.toArray us'.toArray l).run P w = .ok b w := by
        intro l
        induction l with
        | nil =>
          intro off ks xs ys b h _ _ hb
          simp [tyEqF] at h; subst h
          cases xs <;> cases ys <;> simp [eqFlat] at hb
          subst hb; simp [Op.eqFields]
        | cons f r ihl =>
          intro off ks xs ys b h hx hy hb
          simp only [tyEqF] at h
          split at h <;> try (cases h; done)
          rename_i ks1 n ks2 h1 h2 h3
          split at h <;> simp at h
          rename_i hc
          obtain ⟨hname, hoff, hlen⟩ := hc
          subst h
          rw [h2] at h3
          simp only [Option.getD_some] at h3
          obtain ⟨b1, b2, e1, e2, rfl, e3, e4⟩ := eqFlat_append hb
          have hxt : DenL E (xs.take ks1.length) ((us.drop off).take n) := by
            have := denL_drop_take hx 0 n
            rw [hlen]; simpa using this
          have hyt : DenL E (ys.take ks1.length) ((us'.drop off).take n) := by
            have := denL_drop_take hy 0 n
            rw [hlen]; simpa using this
          have hxd : DenL E (xs.drop ks1.length) (us.drop (off + n)) := by
            rw [hlen, ← List.drop_drop]
            exact denL_drop hx n
          have hyd : DenL E (ys.drop ks1.length) (us'.drop (off + n)) := by
            rw [hlen, ← List.drop_drop]
            exact denL_drop hy n
          have hrest := ihl (off + n) ks2 _ _ b2 h3 hxd hyd e2
          obtain ⟨c1, c2⟩ := ih f.type ks1 h1 D (by omega)
          have heq : ∃ a a', (part f.type us.toArray f.offset).run P w = .ok a w ∧ (part f.type us'.toArray f.offset).run P w = .ok a' w ∧ (Op.equalIn D f.type a a').run P w = .ok b1 w := by
            by_cases hs : ∃ fs, P.underlying f.type = some (.struct fs)
            · obtain ⟨fs', hfs'⟩ := hs
              have hagg : tyAgg P f.type = some true := by simp [tyAgg, hfs']
              refine ⟨_, _, ?_, ?_, c2 _ _ _ _ b1 ⟨fs', hfs'⟩ hxt hyt e1⟩
              · simp [part, run_isAgg' hagg, run_sizeOf' h2, hoff, List.extract_eq_take_drop]
              · simp [part, run_isAgg' hagg, run_sizeOf' h2, hoff, List.extract_eq_take_drop]
            · have hns : ∀ fs, P.underlying f.type ≠ some (.struct fs) := fun fs h => hs ⟨fs, h⟩
              obtain ⟨k, hk, hagg⟩ : ∃ k, ks1 = [k] ∧ tyAgg P f.type = some false := by
                cases d with
                | zero => simp [tyEq] at h1
                | succ d =>
                  simp only [tyEq] at h1
                  split at h1
                  · rename_i hu'; simp at h1; exact ⟨_, h1.symm, by simp [tyAgg, hu']⟩
                  · rename_i hu'; simp at h1; exact ⟨_, h1.symm, by simp [tyAgg, hu']⟩
                  · rename_i hu'; simp at h1; exact ⟨_, h1.symm, by simp [tyAgg, hu']⟩
                  · rename_i hu'; exact absurd hu' (hns _)
                  · cases h1
              subst hk
              have hn1 : n = 1 := by rw [← hlen]; rfl
              subst hn1
              cases xs with
              | nil => simp at e3
              | cons x xs =>
                cases ys with
                | nil => simp at e4
                | cons y ys =>
                  simp only [List.length_cons, List.length_nil, Nat.zero_add, List.take_succ_cons, List.take_zero, eqFlat] at e1
                  simp only [DenL] at hx hy
                  obtain ⟨u, ul, hu1, hu2, _⟩ := hx
                  obtain ⟨u', ul', hu1', hu2', _⟩ := hy
                  have g1 : us[off]? = some u := by
                    have : (us.drop off)[0]? = some u := by rw [hu1]; rfl
                    simpa using this
                  have g2 : us'[off]? = some u' := by
                    have : (us'.drop off)[0]? = some u' := by rw [hu1']; rfl
                    simpa using this
                  cases hck : ckEq k x y with
                  | none => rw [hck] at e1; simp [andO] at e1
                  | some c =>
                    rw [hck] at e1; simp [andO] at e1; subst e1
                    exact ⟨u, u', by simp [part, run_isAgg' hagg, hoff, g1], by simp [part, run_isAgg' hagg, hoff, g2], c1 k x y u u' c rfl hns hu2 hu2' hck⟩
          obtain ⟨a, a', p1, p2, p3⟩ := heq
          simp only [Op.eqFields, if_pos hname, Sem.run_bind, p1, p2, p3, Result.andThen_ok]
          cases b1
          · simp
          · simp only [Bool.not_true, Bool.false_eq_true, if_false, Bool.true_and]
            exact hrest
      exact key fs.toList 0 ks xs ys b h (by simpa using hx) (by simpa using hy) hb
    · cases h

theorem run_eqSA {op : BinOp} {t : TypeId} {x y : AV} {u u' v : Value} (h : eqSA P op t x y = some v) (hx : Den E x u) (hy : Den E y u') (ox oy : Operand) : (do eqGuard op t ox oy u u'; binOp op t u u').run P w = .ok v w := by
  have hagg : ∀ {x : AV} {u : Value} {xs : List AV}, aggCells x = some xs → Den E x u → ∃ us : List Value, u = .agg us.toArray ∧ DenL E xs us := by
    intro x u xs hc hd
    unfold aggCells at hc
    split at hc <;> simp at hc <;> subst hc
    · simpa only [Den] using hd
    · rename_i us
      simp only [Den] at hd
      exact ⟨us.toList, by rw [hd], denL_v _⟩
  unfold eqSA at h
  simp only [Option.bind_eq_some_iff] at h
  obtain ⟨ks, hks, xs, hxs, ys, hys, b, hb, ha⟩ := h
  obtain ⟨us, rfl, hdx⟩ := hagg hxs hx
  obtain ⟨us', rfl, hdy⟩ := hagg hys hy
  unfold tyEqT at hks
  split at hks <;> try (cases hks; done)
  rename_i fs hu
  split at hks <;> try (cases hks; done)
  rename_i hg
  have he : (Op.equal t (.agg us.toArray) (.agg us'.toArray)).run P w = .ok b w := (run_equalIn_flat 20 t ks hks 10000 (by decide)).2 xs ys us us' b ⟨fs, hu⟩ hdx hdy hb
  have hgd : (eqGuard op t ox oy (.agg us.toArray) (.agg us'.toArray)).run P w = .ok () w := by
    unfold eqGuard
    cases op <;> simp [hg]
  cases op <;> simp [eqlAns] at ha <;> subst ha <;> simp only [Sem.run_bind, hgd, Result.andThen_ok] <;> simp [binOp, he]
end
end Go.Dk

/-
  Dk, part K: one operation on abstract values, and the model gives the same.
-/
namespace Go.Dk
set_option autoImplicit false
set_option linter.unusedSectionVars false
set_option linter.unusedVariables false
set_option linter.unusedSimpArgs false

def pureO (H : Mem) (x : AV) : Out := ⟨x, H, none⟩

def orO {α : Type} : Option α → Option α → Option α
  | some a, _ => some a
  | none, b => b

def evalOp (P : Program) (keep : List Nat) (env : List (Nat × AV)) (H : Mem) (o : Oper) : Option Out :=
  match o.op with
  | .move x => some (pureO H (getA env x))
  | .assign x => some (pureO H (getA env x))
  | .pick c a b => match getA env c with
    | .v (.bool t) => some (pureO H (if t = true then getA env a else getA env b))
    | _ => none
  | .alloc e => match o.dst with
    | some d => allocA P keep H d e
    | none => none
  | .box e x => match o.dst with
    | some d => boxA keep H d (getA env x)
    | none => none
  | .build t ps => (buildA P t (ps.toList.map fun p => (p.1, getA env p.2))).map (pureO H)
  | .buildSlice t len ps => match o.dst, P.underlying t with
    | some d, some (.slice e) => match tySize P e with
      | some (_ + 1) => buildSliceA P keep H d t len (ps.toList.map fun p => (p.1, getA env p.2))
      | _ => none
    | _, _ => none
  | .load t a => (loadA P H t (getA env a)).map (pureO H)
  | .store t a x => (storeA P H t (getA env a) (getA env x)).map fun H' => ⟨.any, H', none⟩
  | .nilCheck x => match getA env x with
    | .ptr i k => some (pureO H (.ptr i k))
    | .iptr g cs => some (pureO H (.iptr g cs))
    | .fn (.func f) cs => some (pureO H (.fn (.func f) cs))
    | _ => none
  | .binOp op t x y _ => (orO (binA P op t (getA env x) (getA env y)) (eqSA P op t (getA env x) (getA env y))).map fun v => pureO H (.v v)
  | .unOp op _ x => match getA env x with
    | .v v => (unV op v).map fun v => pureO H (.v v)
    | _ => none
  | .convert s d x => match getA env x, o.dst with
    | .v (.int k n), _ => (convV P s d (.int k n)).map fun v => pureO H (.v v)
    | .v (.string b), some dd => match convV P s d (.string b) with
      | some v => some (pureO H (.v v))
      | none => toBytesA P keep H dd s d (.v (.string b))
    | y, _ => (cvA P H s d y).map (pureO H)
  | .makeFunc f first cap => if first.toList = [] then some (pureO H (.fn f (cap.toList.map (getA env)))) else none
  | .makeSlice t l c => match o.dst with
    | some d => makeSliceA P keep H d t (getA env l) (getA env c)
    | none => none
  | .slice t x lo hi mx => (sliceA P t (getA env x) (lo.map (getA env)) (hi.map (getA env)) (mx.map (getA env))).map (pureO H)
  | .fieldAddr s x f => (fieldA P s f (getA env x)).map (pureO H)
  | .field s x f => match getA env x with
    | .agg cs => (partA P s f cs).map (pureO H)
    | .v (.agg us) => (partA P s f (us.toList.map .v)).map (pureO H)
    | _ => none
  | .indexAddr t x i => (indexA P t (getA env x) (getA env i)).map (pureO H)
  | .index t x i => (indexV P t (getA env x) (getA env i)).map (pureO H)
  | .extract t i => match getA env t with
    | .tup vs => (vs[i]?).map (pureO H)
    | _ => none
  | .call c => match c.callee, c.args.toList, c.argTypes.toList, o.dst with
    | .builtin .len, [x], t :: _, _ => (orO (lenA P t (getA env x)) (lenMA P H t (getA env x))).map (pureO H)
    | .builtin .append, [s, x], [st, xt], some d => appendA P keep H d st xt (getA env s) (getA env x)
    | .builtin .copy, [s, x], t :: _, _ => copyA P H t (getA env s) (getA env x)
    | .builtin .max, xs, _, _ => (maxA true (xs.map (getA env))).map (pureO H)
    | .builtin .min, xs, _, _ => (maxA false (xs.map (getA env))).map (pureO H)
    | _, _, _, _ => none
  | .makeMap _ r => match o.dst, r with
    | some d, none => makeMapA keep H d
    | _, _ => none
  | .lookup t m i ok => (lookupA P H t (getA env m) (getA env i) ok).map (pureO H)
  | .mapUpdate t m i x => (updateA P H t (getA env m) (getA env i) (getA env x)).map fun H' => ⟨.any, H', none⟩
  | .insert t m i x => (updateA P H t (getA env m) (getA env i) (getA env x)).map fun H' => ⟨.any, H', none⟩
  | _ => none

/-- what is shown of an operation -/
def Steps1 (C : Ctx) (E : Env) (P : Program) (w : World) (s : Sem Next) (out : Out) : Prop :=
  ∃ v w' E', (s.run P w = .ok (.value v) w' ∨ (s.run P w = .ok .skip w' ∧ v = undef)) ∧ E'.At w' ∧ Rel C E' out.H ∧ E.Le E' (fun i => some i ≠ out.scr) ∧ Den E' out.x v

section
variable {C : Ctx} {E : Env} {H : Mem} {P : Program} {w : World}

theorem Env.Le.refl (E : Env) (ids : Nat → Prop) : E.Le E ids := ⟨fun b hb => ⟨.inl hb, rfl⟩, fun b hb => ⟨hb, rfl⟩, fun _ _ => rfl⟩

theorem steps_pure (hR : Rel C E H) (hW : E.At w) {s : Sem Next} {x : AV} {v : Value} (hs : s.run P w = .ok (.value v) w) (hx : Den E x v) : Steps1 C E P w s (pureO H x) :=
  ⟨v, w, E, .inl hs, hW, hR, Env.Le.refl _ _, hx⟩

theorem steps_gives {s : Sem Value} {out : Out} (h : Gives C E P w s out) : Steps1 C E P w (do pure (.value (← s))) out := by
  obtain ⟨v, w', E', h1, h2, h3, h4, h5⟩ := h
  exact ⟨v, w', E', .inl (by simp [h1]), h2, h3, h4, h5⟩

theorem steps_value (hR : Rel C E H) (hW : E.At w) {s : Sem Value} {x : AV} (h : ∃ v, s.run P w = .ok v w ∧ Den E x v) : Steps1 C E P w (do pure (.value (← s))) (pureO H x) := by
  obtain ⟨v, h1, h2⟩ := h
  exact steps_pure hR hW (by simp [h1]) h2

theorem denL_map {ρ : Operand → Value} {g : Operand → AV} (hg : ∀ x, Den E (g x) (ρ x)) : ∀ l : List Operand, DenL E (l.map g) (l.map ρ)
  | [] => by simp [DenL]
  | x :: l => by
    simp only [List.map_cons, DenL]
    exact ⟨_, _, rfl, hg x, denL_map hg l⟩

theorem denO_map {ρ : Operand → Value} {g : Operand → AV} (hg : ∀ x, Den E (g x) (ρ x)) : ∀ o : Option Operand, DenO E (o.map g) (o.map ρ)
  | none => by simp [DenO]
  | some x => by simp [DenO, hg x]

theorem parts_ok {ρ : Operand → Value} {g : Operand → AV} (hg : ∀ x, Den E (g x) (ρ x)) (ps : List (Nat × Operand)) :
    (ps.map fun p => (p.1, g p.2)).length = (ps.map fun p => (p.1, ρ p.2)).length ∧
    ∀ (i : Nat) p q, (ps.map fun p => (p.1, g p.2))[i]? = some p → (ps.map fun p => (p.1, ρ p.2))[i]? = some q → p.1 = q.1 ∧ Den E p.2 q.2 := by
  refine ⟨by simp, fun i p q hp hq => ?_⟩
  simp only [List.getElem?_map, Option.map_eq_some_iff] at hp hq
  obtain ⟨a, ha, rfl⟩ := hp
  obtain ⟨b, hb, rfl⟩ := hq
  rw [ha] at hb
  obtain rfl := Option.some.inj hb
  exact ⟨rfl, hg _⟩

theorem evalOp_sound {keep : List Nat} (hkeep : keep = C.keep) (hR : Rel C E H) (hW : E.At w) {env : List (Nat × AV)} {ρ : Operand → Value} (hg : ∀ x, Den E (getA env x) (ρ x))
    {o : Oper} {out : Out} (h : evalOp P keep env H o = some out) : Steps1 C E P w (execOp ρ o) out := by
  have hw := hW.1
  unfold evalOp at h
  unfold execOp
  split at h <;> (first | (cases h; done) | (rename_i hop; rw [hop]; simp only []))
  · simp at h; subst h; exact steps_pure hR hW rfl (hg _)
  · simp at h; subst h; exact steps_pure hR hW rfl (hg _)
  · rename_i c a b
    split at h <;> simp at h
    rename_i t ht
    subst h
    have hc := hg c
    rw [ht] at hc; simp only [Den] at hc
    refine steps_pure (v := if t then ρ a else ρ b) hR hW (by simp [hc, asBool]) ?_
    cases t
    · simpa using hg b
    · simpa using hg a
  · split at h <;> try simp at h
    exact steps_gives (run_allocA hkeep hR hW h)
  · split at h <;> try simp at h
    exact steps_gives (run_boxA hkeep hR hW h (hg _))
  · rename_i t ps
    simp at h
    obtain ⟨y, hy, rfl⟩ := h
    have hps := parts_ok hg ps.toList
    have := run_buildA (P := P) (w := w) hy hps
    have e : (ps.map fun p => (p.1, ρ p.2)) = (ps.toList.map fun p => (p.1, ρ p.2)).toArray := by apply Array.ext'; simp
    refine steps_value hR hW ?_
    show ∃ v, (Instr.build t (ps.map fun p => (p.1, ρ p.2))).run P w = _ ∧ _
    rw [e]; exact this
  · rename_i t len ps
    split at h <;> try simp at h
    rename_i d e hd hu
    split at h <;> try simp at h
    rename_i n hn
    have hps := parts_ok hg ps.toList
    have := run_buildSliceA hkeep hR hW h hps (fun e' sz h1 h2 => by rw [hu] at h1; obtain rfl := TypeDesc.slice.inj (Option.some.inj h1); rw [hn] at h2; have := Option.some.inj h2; omega)
    have e : (ps.map fun p => (p.1, ρ p.2)) = (ps.toList.map fun p => (p.1, ρ p.2)).toArray := by apply Array.ext'; simp
    rw [← e] at this
    exact steps_gives this
  · simp at h
    obtain ⟨y, hy, rfl⟩ := h
    exact steps_value hR hW (run_loadA hR hW hy (hg _))
  · simp at h
    obtain ⟨H', hy, rfl⟩ := h
    obtain ⟨w', E', h1, h2, h3, h4⟩ := run_storeA (P := P) hR hW hy (hg _) (hg _)
    exact ⟨undef, w', E', .inr ⟨by simp [h1], rfl⟩, h2, h3, ⟨h4.s0, h4.s1, fun i _ => h4.at_ i trivial⟩, by simp [Den]⟩
  · rename_i x
    have hx := hg x
    split at h <;> simp at h <;> subst h <;> rename_i hh <;> rw [hh] at hx <;> simp only [Den] at hx
    · exact steps_pure hR hW (by rw [hx]; rfl) (by simp [Den, hx])
    · obtain ⟨b, oo, hu, hb, hc⟩ := hx
      exact steps_pure hR hW (by rw [hu]; rfl) (by simp only [Den]; exact ⟨b, oo, rfl, hb, hc⟩)
    · obtain ⟨us, hu, hc⟩ := hx
      exact steps_pure hR hW (by rw [hu]; rfl) (by simp only [Den]; exact ⟨us, rfl, hc⟩)
  · simp at h
    obtain ⟨v, hv, rfl⟩ := h
    rename_i op t x y _
    cases hb : binA P op t (getA env x) (getA env y) with
    | some v' =>
      rw [hb] at hv
      obtain rfl := Option.some.inj hv
      exact steps_value hR hW ⟨_, run_binA hb (hg _) (hg _) _ _, by simp [Den]⟩
    | none =>
      rw [hb] at hv
      exact steps_value hR hW ⟨v, run_eqSA hv (hg _) (hg _) _ _, by simp [Den]⟩
  · rename_i op t x
    have hx := hg x
    split at h <;> simp at h
    rename_i v hh
    obtain ⟨v', hv, rfl⟩ := h
    rw [hh] at hx; simp only [Den] at hx
    exact steps_value hR hW ⟨v', by rw [hx]; exact run_unV hv, by simp [Den]⟩
  · rename_i s d x
    have hx := hg x
    split at h
    · rename_i hh
      simp at h
      obtain ⟨v', hv, rfl⟩ := h
      rw [hh] at hx; simp only [Den] at hx
      exact steps_value hR hW ⟨v', by rw [hx]; exact run_convV hv, by simp [Den]⟩
    · rename_i b dd hh hd
      rw [hh] at hx
      split at h
      · rename_i v' hv
        simp at h; subst h
        simp only [Den] at hx
        exact steps_value hR hW ⟨v', by rw [hx]; exact run_convV hv, by simp [Den]⟩
      · exact steps_gives (run_toBytesA hkeep hR hW h hx)
    · simp at h
      obtain ⟨y, hy, rfl⟩ := h
      unfold cvA cvO at hy
      split at hy
      · rename_i z hz
        obtain rfl := Option.some.inj hy
        exact steps_value hR hW (run_toStrA hR hW hz hx)
      · exact steps_gives (run_convSlA hR hW hy hx)
  · rename_i f first cap
    split at h <;> simp at h
    rename_i hf
    subst h
    have hfe : first = #[] := by apply Array.ext'; simpa using hf
    refine steps_pure (v := .func f #[] (cap.map ρ)) hR hW (by simp [Instr.makeFunc, hfe]) ?_
    simp only [Den]
    exact ⟨cap.toList.map ρ, by congr 1; apply Array.ext'; simp, denL_map hg _⟩
  · split at h <;> try simp at h
    exact steps_gives (run_makeSliceA hkeep hR hW h (hg _) (hg _))
  · simp at h
    obtain ⟨y, hy, rfl⟩ := h
    exact steps_value hR hW (run_sliceA hy (hg _) (denO_map hg _) (denO_map hg _) (denO_map hg _))
  · simp at h
    obtain ⟨y, hy, rfl⟩ := h
    exact steps_value hR hW (run_fieldA hy (hg _))
  · rename_i s x f
    have hx := hg x
    split at h <;> simp at h <;> rename_i hh <;> rw [hh] at hx <;> obtain ⟨y, hy, rfl⟩ := h
    · exact steps_value hR hW (run_partA hy hx)
    · rename_i us
      simp only [Den] at hx
      exact steps_value hR hW (run_partA hy (by simp only [Den]; exact ⟨us.toList, by rw [hx], denL_v _⟩))
  · simp at h
    obtain ⟨y, hy, rfl⟩ := h
    exact steps_value hR hW (run_indexA hy (hg _) (hg _))
  · simp at h
    obtain ⟨y, hy, rfl⟩ := h
    exact steps_value hR hW (run_indexV hy (hg _) (hg _))
  · rename_i t i
    have hx := hg t
    split at h <;> simp at h
    rename_i vs hh
    rw [hh] at hx; simp only [Den] at hx
    obtain ⟨us, hu, hd⟩ := hx
    obtain ⟨y, hy, rfl⟩ := h
    obtain ⟨v, hv, hdv⟩ := (denL_iff.1 hd).2 _ _ hy
    exact steps_value hR hW ⟨v, by rw [hu]; simp [Instr.extract, hv], hdv⟩
  · rename_i c
    have hargs : ∀ l : List Operand, c.args.toList = l → c.args.map ρ = (l.map ρ).toArray := by
      intro l hl; apply Array.ext'; simp [hl]
    have hres : ∀ b, c.callee = .builtin b → ((do let d ← resolve ρ c o.type; invoke d.target d.args : Sem Next)).run P w =
        (builtin b c.argTypes o.type (c.args.map fun | .const _ => true | _ => false) (c.args.map ρ)).run P w := by
      intro b hb
      simp only [resolve, hb, Sem.run_bind, Sem.run_pure, Result.andThen_ok, invoke]
      rfl
    have hst : ∀ b out, c.callee = .builtin b → Steps1 C E P w (builtin b c.argTypes o.type (c.args.map fun | .const _ => true | _ => false) (c.args.map ρ)) out →
        Steps1 C E P w (do let d ← resolve ρ c o.type; invoke d.target d.args) out := by
      intro b out hb ⟨v, w', E', h1, h2⟩
      refine ⟨v, w', E', ?_, h2⟩
      rw [hres b hb]; exact h1
    have h0 : ∀ t r, c.argTypes.toList = t :: r → c.argTypes[0]? = some t := by
      intro t r ht
      rw [← Array.getElem?_toList, ht]; rfl
    split at h
    · rename_i x t r hc ha ht
      simp at h
      obtain ⟨y, hy, rfl⟩ := h
      refine hst _ _ hc ?_
      rw [hargs _ ha]
      cases hl : lenA P t (getA env x) with
      | some y' =>
        rw [hl] at hy
        obtain rfl := Option.some.inj hy
        exact steps_value hR hW (run_lenA (h0 _ _ ht) hl (hg _))
      | none =>
        rw [hl] at hy
        exact steps_value hR hW (run_lenMA hR hW (h0 _ _ ht) hy (hg _))
    · rename_i s x st xt d hc ha ht hd
      refine hst _ _ hc ?_
      rw [hargs _ ha]
      have : c.argTypes = #[st, xt] := by apply Array.ext'; rw [ht]
      rw [this]
      exact steps_gives (run_appendA hkeep hR hW h (hg _) (hg _))
    · rename_i s x t r hc ha ht
      refine hst _ _ hc ?_
      rw [hargs _ ha]
      exact steps_gives (run_copyA hR hW (h0 _ _ ht) h (hg _) (hg _))
    · rename_i hc
      simp at h
      obtain ⟨y, hy, rfl⟩ := h
      refine hst _ _ hc ?_
      rw [hargs _ rfl]
      exact steps_value hR hW (by simpa using run_maxA (P := P) (w := w) (ts := c.argTypes) (ty := o.type) hy (denL_map hg _))
    · rename_i hc
      simp at h
      obtain ⟨y, hy, rfl⟩ := h
      refine hst _ _ hc ?_
      rw [hargs _ rfl]
      exact steps_value hR hW (by simpa using run_maxA (P := P) (w := w) (ts := c.argTypes) (ty := o.type) hy (denL_map hg _))
    · simp at h
  · split at h <;> try simp at h
    exact steps_gives (run_makeMapA hkeep hR hW h)
  · simp at h
    obtain ⟨y, hy, rfl⟩ := h
    exact steps_value hR hW (run_lookupA hR hW hy (hg _) (hg _))
  · simp at h
    obtain ⟨H', hy, rfl⟩ := h
    obtain ⟨w', E', h1, h2, h3, h4⟩ := run_updateA (P := P) hR hW hy (hg _) (hg _) (hg _)
    exact ⟨undef, w', E', .inr ⟨by simp [h1], rfl⟩, h2, h3, ⟨h4.s0, h4.s1, fun i _ => h4.at_ i trivial⟩, by simp [Den]⟩
  · simp at h
    obtain ⟨H', hy, rfl⟩ := h
    obtain ⟨w', E', h1, h2, h3, h4⟩ := run_updateA (P := P) hR hW hy (hg _) (hg _) (hg _)
    exact ⟨undef, w', E', .inr ⟨by simp [h1], rfl⟩, h2, h3, ⟨h4.s0, h4.s1, fun i _ => h4.at_ i trivial⟩, by simp [Den]⟩

end
end Go.Dk

/-
  Dk, part L: the code of a function on abstract states, and that the model's code comes to what is shown there.
-/
namespace Go.Dk
set_option autoImplicit false
set_option linter.unusedSectionVars false
set_option linter.unusedVariables false
set_option linter.unusedSimpArgs false

def FW (r : Option Nat) : Fence := { Fence.wide with round := r }
@[simp] theorem FW_fn (r : Option Nat) (f : FuncId) : (FW r).fn f = True := rfl
@[simp] theorem FW_depth (r : Option Nat) : (FW r).depth = none := rfl
theorem FW_calls {r : Option Nat} {n : Nat} {P : Program} {f : FuncId} {args : Array Value} {w : World} {R : Ending → World → Prop} (h : Calls P f args w R) : CallsIn (FW r) n P f args w R :=
  (callsIn_wide (n := n)).2 h

structure Sg where
  env : List (Nat × AV)
  H : Mem

def scrubE (id : Nat) : List (Nat × AV) → List (Nat × AV)
  | [] => []
  | (t, x) :: r => (t, scrub1 id x) :: scrubE id r
def scrubEs : List Nat → List (Nat × AV) → List (Nat × AV)
  | [], e => e
  | i :: is, e => scrubEs is (scrubE i e)
def eraseE : List (Nat × AV) → Nat → List (Nat × AV)
  | [], _ => []
  | (t, x) :: r, d => if t == d then eraseE r d else (t, x) :: eraseE r d
def putE (env : List (Nat × AV)) (d : Nat) (x : AV) : List (Nat × AV) := (d, x) :: eraseE env d

theorem look_scrubE (id : Nat) (env : List (Nat × AV)) (t : Nat) : look (scrubE id env) t = scrub1 id (look env t) := by
  induction env with
  | nil => simp [scrubE, look, scrub1, AV.has]
  | cons p r ih =>
    obtain ⟨i, x⟩ := p
    simp only [scrubE, look, ih]
    split <;> rfl

theorem look_eraseE (env : List (Nat × AV)) (d t : Nat) : look (eraseE env d) t = if t = d then .any else look env t := by
  induction env with
  | nil => simp [eraseE, look]
  | cons p r ih =>
    obtain ⟨i, x⟩ := p
    by_cases hi : i = d
    · subst hi
      simp only [eraseE, beq_self_eq_true, if_true, ih, look]
      by_cases ht : t = i
      · simp [ht]
      · have : (i == t) = false := by simp; exact fun e => ht e.symm
        simp [ht, this]
    · have hb : (i == d) = false := by simpa using hi
      simp only [eraseE, hb, Bool.false_eq_true, if_false, look, ih]
      by_cases ht : t = d
      · subst ht; simp [hb]
      · simp [ht]

theorem look_putE (env : List (Nat × AV)) (d t : Nat) (x : AV) : look (putE env d x) t = if t = d then x else look env t := by
  simp only [putE, look, look_eraseE]
  by_cases h : t = d
  · simp [h]
  · have : (d == t) = false := by simp; exact fun e => h e.symm
    simp [h, this]

def Entered (P : Program) (f : FuncId) : Prop := ∃ fn c, P.funcs[f]? = some fn ∧ fn.body = some c ∧ (fn.name == "runtime.NumGoroutine") = false

/-- who is called: a function, or a loop over a function for its next round -/
inductive Tgt where
  | fn (f : FuncId)
  | yl (l : Nat)

def Tgt.calls (P : Program) : Tgt → List Value → World → (Ending → World → Prop) → Prop
  | .fn f, us, w, R => (Entered P f ∧ Calls P f us.toArray w R) ∨ ∃ v w', (callFunc f us.toArray).run P w = .ok (.value v) w' ∧ R (.returned v) w'
  | .yl l, us, w, R => YieldAt (FW none) 0 P l us.toArray w R

theorem Tgt.calls_mono {P : Program} {t : Tgt} {us : List Value} {w : World} {R R' : Ending → World → Prop} (h : t.calls P us w R) (hr : ∀ e w', R e w' → R' e w') : t.calls P us w R' := by
  cases t with
  | fn f =>
    rcases h with ⟨h1, h2⟩ | ⟨v, w', h1, h2⟩
    · exact .inl ⟨h1, h2.mono hr⟩
    · exact .inr ⟨v, w', h1, hr _ _ h2⟩
  | yl l =>
    obtain ⟨fn, tmps, asg, body, h1, h2⟩ := h
    exact ⟨fn, tmps, asg, body, h1, h2.mono hr⟩

def tgtOf : AV → Option (Tgt × List AV)
  | .fn (.func f) caps => some (.fn f, caps)
  | .v (.func (.yield l) ⟨[]⟩ ⟨[]⟩) => some (.yl l, [])
  | _ => none

theorem tgt_run {P : Program} {E : Env} {x : AV} {u : Value} {t : Tgt} {caps : List AV} (ht : tgtOf x = some (t, caps)) (hx : Den E x u) : ∃ us, DenL E caps us ∧
    ∀ {r : Option Nat} {a : Act} {w : World} {o : Oper} {c : Call} {fo : Operand} {next : Act → World → Prop} {Q : Exit → Act → World → Prop}, o.op = .call c → c.callee = .value fo → a.eval fo = u →
      t.calls P (c.args.toList.map a.eval ++ us) w (fun e w' => ∃ v, e = .returned v ∧ next (a.put o.dst v) w') → o.uponIn (FW r) 0 P a next Q ((execOp a.eval o).run P w) := by
  unfold tgtOf at ht
  split at ht <;> simp at ht
  · rename_i f caps'
    obtain ⟨rfl, rfl⟩ := ht
    simp only [Den] at hx
    obtain ⟨us, rfl, hd⟩ := hx
    refine ⟨us, hd, ?_⟩
    intro r a w o c fo next Q hop hcal hu hc
    have hinv : (execOp a.eval o).run P w = (callFunc f (c.args.toList.map a.eval ++ us).toArray).run P w := by
      unfold execOp
      rw [hop]
      simp only [resolve, hcal, hu, Deferred.ofValue, Sem.run_bind, Sem.run_pure, Result.andThen_ok, invoke]
      congr 2
      apply Array.ext'; simp
    rcases hc with ⟨⟨fn, cd, hfn, hbody, hname⟩, hcall⟩ | ⟨v, w', hrun, v', hv, hn⟩
    · have hrun : (execOp a.eval o).run P w = .ok (.enter f (c.args.toList.map a.eval ++ us).toArray) w := by
        rw [hinv]
        simp only [callFunc, run_program, Sem.run_bind, Result.andThen_ok, hfn, hname, Bool.false_eq_true, if_false, hbody, Option.isNone_some, Sem.run_pure]
      rw [hrun]
      simp only [Oper.uponIn]
      refine ⟨by simp, FW_calls (hcall.mono ?_)⟩
      rintro e w' ⟨v, rfl, hn⟩
      exact hn
    · rw [hinv, hrun]
      simp only [Ending.returned.injEq] at hv
      subst hv
      exact hn
  · rename_i l
    obtain ⟨rfl, rfl⟩ := ht
    simp only [Den] at hx
    subst hx
    refine ⟨[], by simp [DenL], ?_⟩
    intro r a w o c fo next Q hop hcal hu hc
    obtain ⟨fn, tmps, asg, body, h1, h2⟩ := hc
    have hrun : (execOp a.eval o).run P w = .ok (.round l fn tmps asg body) w := by
      unfold execOp
      rw [hop]
      simp only [resolve, hcal, hu, Deferred.ofValue, Sem.run_bind, Sem.run_pure, Result.andThen_ok, invoke]
      rw [← h1]; congr 2; apply Array.ext'; simp
    rw [hrun]
    simp only [Oper.uponIn]
    refine ⟨by simp, ?_⟩
    have h3 : RoundIn (FW r) (0 - 1) P l fn tmps asg body w (fun e w' => ∃ v, e = .returned v ∧ next (a.put o.dst v) w') := h2
    refine h3.mono ?_
    rintro e w' ⟨v, rfl, hn⟩
    exact hn

/-- what a call gives: the world's own frame is in Rel -/
def CallGives (P : Program) (keep ent : List Nat) (H : Mem) (t : Tgt) (xs : List AV) (x : AV) (H' : Mem) (scr : List Nat) : Prop :=
  ∀ (C : Ctx) (E : Env) (w : World) (us : List Value), C.keep = keep → C.ent = ent → Rel C E H → E.At w → DenL E xs us →
    t.calls P us w fun e w' => ∃ u E', e = .returned u ∧ E'.At w' ∧ Rel C E' H' ∧ E.Le E' (fun i => i ∉ scr) ∧ Den E' x u

def awPut (n : Nat) (dst : Option Tmp) (x : AV) (env : List (Nat × AV)) (H : Mem) (K : Sg → Prop) : Prop :=
  match dst with
  | none => K ⟨env, H⟩
  | some d => d < n ∧ K ⟨putE env d x, H⟩

def awCall (P : Program) (keep ent : List Nat) (n : Nat) (t : Tgt) (xs : List AV) (dst : Option Tmp) (K : Sg → Prop) (σ : Sg) : Prop :=
  ∃ x H' scr, CallGives P keep ent σ.H t xs x H' scr ∧ awPut n dst x (scrubEs scr σ.env) H' K

def awOp (P : Program) (keep ent : List Nat) (n : Nat) (o : Oper) (K : Sg → Prop) (σ : Sg) : Prop :=
  match evalOp P keep σ.env σ.H o with
  | some out => awPut n o.dst out.x (scrubEs out.scr.toList σ.env) out.H K
  | none => match o.op with
    | .call c => match c.callee with
      | .value fo => match tgtOf (getA σ.env fo) with
        | some (t, caps) => awCall P keep ent n t (c.args.toList.map (getA σ.env) ++ caps) o.dst K σ
        | _ => False
      | _ => False
    | _ => False

def awOps (P : Program) (keep ent : List Nat) (n : Nat) (ops : Array Oper) (K : Sg → Prop) : List Oper → Sg → Prop
  | [], σ => K σ
  | o :: rest, σ => match o.guard with
    | none => awOp P keep ent n o (awOps P keep ent n ops K rest) σ
    | some (j, b) => match (ops[j]?).bind (·.dst) with
      | some d => match look σ.env d with
        | .v (.bool c) => (c = b → awOp P keep ent n o (awOps P keep ent n ops K rest) σ) ∧ (c ≠ b → awPut n o.dst .any σ.env σ.H (awOps P keep ent n ops K rest))
        | _ => False
      | none => False

structure Fun where
  P : Program
  keep : List Nat
  ent : List Nat
  n : Nat
  cross : List Nat
  /-- there is no loop over a function -/
  nod : Bool

/-- the marks that loops over functions leave among the deferred calls -/
def Dfr (b : Bool) (M : Nat → Prop) (E : Env) (ds : List Deferred) : Prop := (b = true → ds = []) ∧ ∃ Ds : List Nat, Ds.Nodup ∧ ds = Ds.map (fun D => { target := .collected D, args := #[] }) ∧ ∀ D ∈ Ds, E.S1 D ∧ E.heap[D]? = some (.deferred (some [])) ∧ ¬ M D
theorem Dfr.nil (b : Bool) (M : Nat → Prop) (E : Env) : Dfr b M E [] := ⟨fun _ => rfl, [], List.nodup_nil, rfl, by simp⟩
theorem Dfr.le {b : Bool} {M : Nat → Prop} {E E' : Env} {ids : Nat → Prop} (hle : E.Le E' ids) {ds : List Deferred} (h : Dfr b M E ds) : Dfr b M E' ds := by
  obtain ⟨h0, Ds, h1, h2, h3⟩ := h
  exact ⟨h0, Ds, h1, h2, fun D hD => ⟨(hle.s1 D (h3 D hD).1).1, by rw [(hle.s1 D (h3 D hD).1).2]; exact (h3 D hD).2.1, (h3 D hD).2.2⟩⟩

structure St (F : Fun) (C : Ctx) (a : Act) (w : World) (σ : Sg) : Prop where
  keep : F.keep = C.keep
  ent : F.ent = C.ent
  size : a.tmps.size = F.n
  mem : ∃ E : Env, E.At w ∧ Rel C E σ.H ∧ Dfr F.nod C.M E a.defers ∧ ∀ t, Den E (look σ.env t) (a.tmps.getD t undef)

theorem getA_den {E : Env} {env : List (Nat × AV)} {a : Act} (h : ∀ t, Den E (look env t) (a.tmps.getD t undef)) (x : Operand) : Den E (getA env x) (a.eval x) := by
  cases x with
  | tmp t => exact h t
  | const v => simp [getA, Den, Act.eval]
  | global g => simp [getA, Den]
  | func f => simp only [getA, Den, Act.eval]; exact ⟨[], rfl, by simp [DenL]⟩

theorem den_scrubs {E E' : Env} : ∀ (scr : List Nat), E.Le E' (fun i => i ∉ scr) → ∀ (env : List (Nat × AV)) (t : Nat) (u : Value), Den E (look env t) u → Den E' (look (scrubEs scr env) t) u := by
  intro scr hle env t u h
  have key : ∀ (is : List Nat) (env : List (Nat × AV)), look (scrubEs is env) t = .any ∨ (look (scrubEs is env) t = look env t ∧ ∀ i ∈ is, (look env t).has i = false) := by
    intro is
    induction is with
    | nil => intro env; exact .inr ⟨rfl, by simp⟩
    | cons i is ih =>
      intro env
      simp only [scrubEs]
      rcases ih (scrubE i env) with h1 | ⟨h1, h2⟩
      · exact .inl h1
      · rw [look_scrubE] at h1 h2
        unfold scrub1 at h1 h2
        by_cases hh : (look env t).has i = true
        · rw [if_pos hh] at h1; exact .inl h1
        · rw [if_neg hh] at h1 h2
          refine .inr ⟨h1, fun j hj => ?_⟩
          rcases List.mem_cons.1 hj with rfl | hj
          · simpa using hh
          · exact h2 j hj
  rcases key scr env with h1 | ⟨h1, h2⟩
  · rw [h1]; simp [Den]
  · rw [h1]
    exact Den.mono hle _ u (fun i hi hin => by rw [h2 i hin] at hi; cases hi) h

section
variable {F : Fun} {C : Ctx} {Q : Exit → Act → World → Prop}

theorem St.put {a : Act} {w w' : World} {σ : Sg} (hS : St F C a w σ) {E E' : Env} (hD : Dfr F.nod C.M E a.defers) (hd : ∀ t, Den E (look σ.env t) (a.tmps.getD t undef)) (hh : E'.At w') {H' : Mem} (hR : Rel C E' H') {scr : List Nat}
    (hle : E.Le E' (fun i => i ∉ scr)) {x : AV} {v : Value} (hx : Den E' x v) {dst : Option Tmp} {K : Sg → Prop} {next : Act → World → Prop}
    (hK : awPut F.n dst x (scrubEs scr σ.env) H' K) (hn : ∀ σ' a' w', K σ' → St F C a' w' σ' → next a' w') : next (a.put dst v) w' := by
  have hd' : ∀ t, Den E' (look (scrubEs scr σ.env) t) (a.tmps.getD t undef) := fun t => den_scrubs scr hle σ.env t _ (hd t)
  cases dst with
  | none => exact hn _ _ _ hK ⟨hS.keep, hS.ent, hS.size, E', hh, hR, hD.le hle, hd'⟩
  | some d =>
    obtain ⟨hlt, hK⟩ := hK
    refine hn _ _ _ hK ⟨hS.keep, hS.ent, by simp [Act.put, hS.size], E', hh, hR, hD.le hle, fun t => ?_⟩
    rw [look_putE]
    by_cases ht : t = d
    · subst ht
      rw [if_pos rfl]
      have : (a.put (some t) v).tmps.getD t undef = v := by
        simp [Act.put, Array.getD_eq_getD_getElem?, hS.size, hlt]
      rw [this]; exact hx
    · rw [if_neg ht]
      have : (a.put (some d) v).tmps.getD t undef = a.tmps.getD t undef := by
        simp [Act.put, Array.getD_eq_getD_getElem?, Array.getElem?_setIfInBounds_ne (fun e => ht e.symm)]
      rw [this]; exact hd' t

theorem awOp_sound {r : Option Nat} {a : Act} {w : World} {σ : Sg} (hS : St F C a w σ) {o : Oper} {K : Sg → Prop} {next : Act → World → Prop} (h : awOp F.P F.keep F.ent F.n o K σ)
    (hn : ∀ σ' a' w', K σ' → St F C a' w' σ' → next a' w') : o.wpIn (FW r) 0 F.P a w next Q := by
  obtain ⟨E, hw, hR, hD, hd⟩ := hS.mem
  have hg := getA_den hd
  refine ⟨fun f _ => trivial, ?_⟩
  have hsem : o.op = .defer (default : Call) ∨ True := .inr trivial
  unfold awOp at h
  split at h
  · rename_i out hout
    have hndef : ∀ c, o.op ≠ .defer c := by
      intro c hc
      unfold evalOp at hout
      rw [hc] at hout; simp at hout
    rw [show (FW r).round = r from rfl, Oper.semAt_eq r _ o hndef]
    obtain ⟨v, w', E', hrun, h1, h2, h3, h4⟩ := evalOp_sound hS.keep hR hw hg hout
    have hle : E.Le E' (fun i => i ∉ out.scr.toList) := ⟨h3.s0, h3.s1, fun i hi => h3.at_ i (by
      cases hs : out.scr with
      | none => simp
      | some j => rw [hs] at hi; simp at hi; simpa using hi)⟩
    rcases hrun with hrun | ⟨hrun, rfl⟩
    · rw [hrun]; exact hS.put hD hd h1 h2 hle h4 h hn
    · rw [hrun]; exact hS.put hD hd h1 h2 hle h4 h hn
  · split at h <;> try (exact h.elim)
    rename_i c hop
    split at h <;> try (exact h.elim)
    rename_i fo hcal
    split at h <;> try (exact h.elim)
    rename_i t caps hf
    obtain ⟨x, H', scr, hcall, hput⟩ := h
    obtain ⟨us, hdus, hup⟩ := tgt_run (P := F.P) hf (hg fo)
    have hargs : DenL E (c.args.toList.map (getA σ.env) ++ caps) (c.args.toList.map a.eval ++ us) := by
      have h1 := denL_iff.1 (denL_map hg c.args.toList)
      have h2 := denL_iff.1 hdus
      rw [denL_iff]
      refine ⟨by simp [h2.1], fun i y hy => ?_⟩
      rw [List.getElem?_append] at hy ⊢
      simp only [List.length_map] at hy ⊢
      split at hy
      · rename_i hi; rw [if_pos hi]; exact h1.2 i y hy
      · rename_i hi; rw [if_neg hi]; exact h2.2 _ y hy
    rw [show (FW r).round = r from rfl, Oper.semAt_eq r _ o (by rw [hop]; intro c; simp)]
    refine hup hop hcal rfl (Tgt.calls_mono (hcall C E w _ hS.keep.symm hS.ent.symm hR hw hargs) ?_)
    rintro e w' ⟨u, E', rfl, h1, h2, h3, h4⟩
    exact ⟨u, rfl, hS.put hD hd h1 h2 h3 h4 hput hn⟩

theorem awOps_sound {r : Option Nat} {ops : Array Oper} {K : Sg → Prop} (hn : ∀ σ' a' w', K σ' → St F C a' w' σ' → Q .normal a' w') : ∀ (l : List Oper) (a : Act) (w : World) (σ : Sg), St F C a w σ → awOps F.P F.keep F.ent F.n ops K l σ →
    wpListIn (FW r) 0 F.P ops Q l a w := by
  intro l
  induction l with
  | nil => intro a w σ hS h; exact hn σ a w h hS
  | cons o rest ih =>
    intro a w σ hS h
    simp only [awOps] at h
    simp only [wpListIn]
    split at h
    · rename_i hg
      simp only [Region.wanted, hg, if_true]
      exact awOp_sound hS h fun σ' a' w' hK hS' => ih a' w' σ' hS' hK
    · rename_i j b hg
      split at h <;> try (exact h.elim)
      rename_i d hd
      split at h <;> try (exact h.elim)
      rename_i c hc
      obtain ⟨E, hw, hR, hD, hden⟩ := hS.mem
      have hcd := hden d
      rw [hc] at hcd; simp only [Den] at hcd
      have hdn : a.tmps[d]? = some (.bool c) := by
        rw [Array.getD_eq_getD_getElem?] at hcd
        cases hh : a.tmps[d]? with
        | none => rw [hh] at hcd; simp [undef] at hcd
        | some v => rw [hh] at hcd; simp at hcd; rw [hcd]
      have hy : yielded ops a.tmps j = some c := by
        simp [yielded, hd, hdn]
      simp only [Region.wanted, hg, hy]
      by_cases hcb : c = b
      · rw [if_pos (by simp [hcb])]
        exact awOp_sound hS (h.1 hcb) fun σ' a' w' hK hS' => ih a' w' σ' hS' hK
      · rw [if_neg (by simpa using hcb)]
        refine ⟨fun f _ => trivial, ?_⟩
        exact hS.put hD hden hw hR (scr := []) (Env.Le.refl _ _) (x := .any) (v := undef) (by simp [Den]) (h.2 hcb) fun σ' a' w' hK hS' => ih a' w' σ' hS' hK

end
end Go.Dk
