/-
  An abstract machine beside the model: parts DkZe, DkZf, DkZg, DkRa, DkRf, DkZi, DkSw, DkSx, DkYc, DkRd, DkRe.
-/
import Derived.Test.YtjmkgpkgagohoaaDk2
import Derived.ChangeArms
import Derived.ChangeReads
import Derived.ChangeOld
import Derived.ChangeShapes
import Derived.WideKeyArgs
import Derived.JoinedCond
import Derived.OpenShut
set_option linter.all false

/-! Views of bytes; nil in a cell. -/
namespace Go.Dk
open Go
set_option linter.unusedVariables false

theorem rowsB_cons (b : UInt8) (l : List UInt8) : rowsB (b :: l) = [.v (.int .u8 (b.toNat : Int))] :: rowsB l := rfl

theorem cellsB_cons (b : UInt8) (l : List UInt8) : cellsB (b :: l) = .v (.int .u8 (b.toNat : Int)) :: cellsB l := rfl

def viewIn (k off len : Nat) : Option Blk → AV
  | some (.cells cs) => (match datsL ((cs.drop off).take (len * k)) with
      | some ds => if off + len * k ≤ cs.length then .imm false k (chunk k len ds) else .any
      | none => .any)
  | _ => .any
def viewIf (b : Bool) (H : Mem) (id k off len : Nat) : AV := if b = true then viewIn k off len (find H id) else .slc id k off len
theorem viewSl_e {H : Mem} {V : List Nat} {id k off len : Nat} : viewSl H V id k off len = viewIf (V.contains id) H id k off len := by
  unfold viewSl viewIf viewIn
  split
  · cases find H id with
    | none => rfl
    | some b => cases b <;> rfl
  · rfl
theorem viewIf_t {H : Mem} {id k off len : Nat} : viewIf true H id k off len = viewIn k off len (find H id) := rfl
theorem viewIf_f {H : Mem} {id k off len : Nat} : viewIf false H id k off len = .slc id k off len := rfl
theorem viewIn_bytes {off len : Nat} {l : List UInt8} (hl : off + len ≤ l.length) : viewIn 1 off len (some (.cells (cellsB l))) = .imm false 1 (rowsB ((l.drop off).take len)) := by
  unfold viewIn
  simp only [cellsB_drop, Nat.mul_one, cellsB_take, datsL_cellsB, cellsB_length]
  rw [if_pos hl]
  have : ((l.drop off).take len).length = len := by simp; omega
  congr 1
  conv => lhs; arg 2; rw [← this]
  exact chunk_cellsB _

def buildAu (P : Program) (t : TypeId) (parts : List (Nat × AV)) : Option TypeDesc → Option AV
  | some (.struct fs) => bindO (tyZero P t) fun zs => needO (fs.toList.all (fun f => (tySize P f.type).isSome) = true) ((fillL (placeF P fs) (zs.map .v) parts).map .agg)
  | some (.array _ e) => bindO (tyZero P t) fun zs => bindO (tySize P e) fun sz => (fillL (fun i => some (i * sz, sz)) (zs.map .v) parts).map .agg
  | _ => none
theorem buildA_e {P : Program} {t : TypeId} {parts : List (Nat × AV)} : buildA P t parts = buildAu P t parts (P.underlying t) := by
  unfold buildA buildAu bindO needO
  cases P.underlying t with
  | none => rfl
  | some d =>
    cases hz : tyZero P t with
    | none => cases d <;> rfl
    | some zs =>
      cases d <;> try rfl
      rename_i e
      show (match tySize P e with | some sz => _ | none => _) = _
      simp only [Option.bind_some]
      cases tySize P e <;> rfl
theorem buildAu_struct {P : Program} {t : TypeId} {parts : List (Nat × AV)} {fs : Array Field} : buildAu P t parts (some (.struct fs)) = bindO (tyZero P t) fun zs => needO (fs.toList.all (fun f => (tySize P f.type).isSome) = true) ((fillL (placeF P fs) (zs.map .v) parts).map .agg) := rfl
theorem buildAu_array {P : Program} {t : TypeId} {parts : List (Nat × AV)} {n : Nat} {e : TypeId} : buildAu P t parts (some (.array n e)) = bindO (tyZero P t) fun zs => bindO (tySize P e) fun sz => (fillL (fun i => some (i * sz, sz)) (zs.map .v) parts).map .agg := rfl

/-- a nil slice in a cell is an empty object's -/
theorem weak_cellnil {F : Fun} {env : List (Nat × AV)} {H : Mem} (i p j k : Nat) (cs : List AV) (hf : find H i = some (.cells cs)) (hp : cs[p]? = some (.v (.slice none 0 0))) (hk : F.keep.contains j = false)
    (h1 : envHas j env = false) (h2 : memHas j H = false) :
    Weak F ⟨env, H⟩ ⟨env, (i, .cells (cs.set p (.slc j k 0 0))) :: (j, .cells []) :: erase H i⟩ := by
  intro C a w hS
  obtain ⟨E, hw, hR, hD, hd⟩ := hS.mem
  have hm : Moves C E H E.heap j ⟨0, 0, 0⟩ := ⟨Nat.le_refl _, fun _ _ _ => rfl, .inr (.inr ⟨rfl, rfl⟩)⟩
  have hle := hm.le hR
  obtain ⟨h3, h4⟩ := memHas_find h2
  have hij : i ≠ j := by rintro rfl; rw [h3] at hf; cases hf
  have hb : BlkOk (E.upd E.heap j ⟨0, 0, 0⟩) j (.cells []) := Or.inl ⟨by simp, rfl⟩
  have hR1 : Rel C (E.upd E.heap j ⟨0, 0, 0⟩) ((j, .cells []) :: H) := by
    refine hR.moves hm (by rw [← hS.keep]; simpa using hk) hb _ ?_
    intro t
    simp only [find]
    by_cases ht : t = j
    · subst ht; simp
    · have hbb : (j == t) = false := by simp; exact fun e => ht e.symm
      rw [hbb, if_neg ht]
      simp only [Bool.false_eq_true, if_false]
      cases hf : find H t with
      | none => rfl
      | some b => simp [scrubB_of (h4 t b hf)]
  have key : ∀ t b, find ((i, Blk.cells (cs.set p (.slc j k 0 0))) :: (j, .cells []) :: erase H i) t = some b → (t = i ∧ b = .cells (cs.set p (.slc j k 0 0))) ∨ (t ≠ i ∧ find ((j, Blk.cells []) :: H) t = some b) := by
    intro t b ht
    simp only [find] at ht ⊢
    split at ht
    · rename_i h; left; exact ⟨(by simpa using h : i = t).symm, (Option.some.inj ht).symm⟩
    · rename_i h
      have hne : t ≠ i := by rintro rfl; simp at h
      right; refine ⟨hne, ?_⟩
      split at ht
      · rename_i h'; rw [if_pos h']; exact ht
      · rename_i h'; rw [if_neg h']; rw [find_erase, if_neg hne] at ht; exact ht
  have hfi : find ((j, Blk.cells []) :: H) i = some (.cells cs) := by
    simp only [find]
    rw [if_neg (by simpa using fun e => hij e.symm)]; exact hf
  have hmem : ∀ t b, find ((i, Blk.cells (cs.set p (.slc j k 0 0))) :: (j, .cells []) :: erase H i) t = some b → ∃ b', find ((j, Blk.cells []) :: H) t = some b' := by
    intro t b ht
    rcases key t b ht with ⟨rfl, _⟩ | ⟨_, h⟩
    · exact ⟨_, hfi⟩
    · exact ⟨_, h⟩
  refine ⟨hS.keep, hS.ent, hS.size, E.upd E.heap j ⟨0, 0, 0⟩, hw, ⟨hR1.size, hR1.frame, hR1.s0eq, hR1.s0, hR1.s1, hR1.keep, ?_, ?_, ?_, hR1.mrk, hR1.os⟩, hD.le hle, fun t' => ?_⟩
  · intro t b ht
    rcases key t b ht with ⟨rfl, rfl⟩ | ⟨_, h⟩
    · have := hR1.blk _ _ hfi
      simp only [BlkOk, List.length_set, List.set_eq_nil_iff] at this ⊢
      refine this.imp id ?_
      rintro ⟨hs, c, tt, fz, g1, g2, g3, g4, g5⟩
      refine ⟨hs, c, tt, fz, g1, g2, g3, g4, fun q x hx => ?_⟩
      rw [List.getElem?_set] at hx
      split at hx
      · rename_i hpq
        subst hpq
        split at hx
        · obtain rfl := Option.some.inj hx
          obtain ⟨u, hu, hdu⟩ := g5 p _ hp
          simp only [Den] at hdu
          exact ⟨u, hu, by simp only [Den]; left; exact ⟨trivial, none, hdu⟩⟩
        · cases hx
      · exact g5 q x hx
    · exact hR1.blk t b h
  · intro t b ht
    obtain ⟨b', hb'⟩ := hmem t b ht
    exact hR1.own t b' hb'
  · intro t b t' b' ht ht'
    obtain ⟨b1, hb1⟩ := hmem t b ht
    obtain ⟨b2, hb2⟩ := hmem t' b' ht'
    exact hR1.dist t b1 t' b2 hb1 hb2
  · exact Den.mono hle _ _ (fun x hi e => by subst e; rw [envHas_look h1 t'] at hi; cases hi) (hd t')
end Go.Dk

/-! A value that says less; a reader of bytes, plainly. -/
namespace Go.Dk
open Go
set_option linter.unusedVariables false

theorem eqT {b : Bool} : (b == true) = b := by cases b <;> rfl
theorem eqF {b : Bool} : (b == false) = !b := by cases b <;> rfl

theorem weak_put {F : Fun} {env : List (Nat × AV)} {H : Mem} (t : Nat) (y : AV) (h : ∀ E u, Den E (look env t) u → Den E y u) : Weak F ⟨env, H⟩ ⟨putE env t y, H⟩ := by
  intro C a w hS
  obtain ⟨E, hw, hR, hD, hd⟩ := hS.mem
  refine ⟨hS.keep, hS.ent, hS.size, E, hw, hR, hD, fun t' => ?_⟩
  simp only
  rw [look_putE]
  split
  · rename_i e; subst e; exact h E _ (hd t')
  · exact hd t'
theorem den_nil_imm {E : Env} {g : Bool} {k : Nat} {u : Value} (h : Den E (.v (.slice none 0 0)) u) : Den E (.imm g k []) u := by
  simp only [Den] at h; subst h
  simp only [Den, DenD]; exact ⟨none, 0, rfl, Nat.le_refl _, .inl trivial⟩
theorem den_imm_false {E : Env} {g : Bool} {k : Nat} {xs : List (List Dat)} {u : Value} (h : Den E (.imm g k xs) u) : Den E (.imm false k xs) u := by
  simp only [Den] at h ⊢
  exact DenD.mono (fun b hb => ⟨by cases g; exact hb; exact .inr hb, rfl⟩) _ _ h

/-- the bytes that are left, and what is amiss -/
abbrev RS := List UInt8 × Int
def takeR (n : Nat) (r : RS) : Option (List UInt8) × RS :=
  if r.2 = 0 ∧ r.1.length < n then (none, (r.1, 10)) else if r.2 ≠ 0 then (none, r) else (some (r.1.take n), (r.1.drop n, 0))
def numB (l : List UInt8) : Nat := l.foldl (fun a b => a * 256 + b.toNat) 0
theorem numB_snoc (l : List UInt8) (b : UInt8) : numB (l ++ [b]) = numB l * 256 + b.toNat := by simp [numB]
theorem numB_aux : ∀ (l : List UInt8) (a : Nat), l.foldl (fun a b => a * 256 + b.toNat) a < (a + 1) * 256 ^ l.length
  | [], a => by simp
  | b :: l, a => by
    have h := numB_aux l (a * 256 + b.toNat)
    have hb := b.toNat_lt
    simp only [List.foldl_cons, List.length_cons, Nat.pow_succ]
    refine Nat.lt_of_lt_of_le h ?_
    rw [Nat.mul_comm (256 ^ l.length) 256, ← Nat.mul_assoc]
    exact Nat.mul_le_mul_right _ (by omega)
theorem numB_lt (l : List UInt8) : numB l < 256 ^ l.length := by simpa [numB] using numB_aux l 0
theorem or_byte (a c : Nat) (ha : a < 72057594037927936) (hc : c < 256) :
    IntKind.u64.wrap (((BitVec.ofInt IntKind.u64.bits ((a : Int) * 256) ||| BitVec.ofInt IntKind.u64.bits (c : Int)).toNat : Nat) : Int) = ((a * 256 + c : Nat) : Int) := by
  have e1 : (BitVec.ofInt IntKind.u64.bits ((a : Int) * 256)).toNat = a * 256 := by
    rw [BitVec.toNat_ofInt, bits_u64]; omega
  have e2 : (BitVec.ofInt IntKind.u64.bits (c : Int)).toNat = c := by
    rw [BitVec.toNat_ofInt, bits_u64]; omega
  have e3 : a * 256 ||| c = a * 256 + c := by
    have := Nat.two_pow_add_eq_or_of_lt (i := 8) (b := c) (by omega) a
    rw [Nat.mul_comm a 256]; exact this.symm
  rw [BitVec.toNat_or, e1, e2, e3]
  exact wrapU (by omega)
theorem or_byte' (a c : Nat) (ha : a < 72057594037927936) (hc : c < 256) :
    ((BitVec.ofInt 64 ((a : Int) * 256) ||| BitVec.ofInt 64 (c : Int)).toNat : Int) = ((a * 256 + c : Nat) : Int) := by
  have e1 : (BitVec.ofInt 64 ((a : Int) * 256)).toNat = a * 256 := by
    rw [BitVec.toNat_ofInt]; omega
  have e2 : (BitVec.ofInt 64 (c : Int)).toNat = c := by
    rw [BitVec.toNat_ofInt]; omega
  have e3 : a * 256 ||| c = a * 256 + c := by
    have := Nat.two_pow_add_eq_or_of_lt (i := 8) (b := c) (by omega) a
    rw [Nat.mul_comm a 256]; exact this.symm
  rw [BitVec.toNat_or, e1, e2, e3]
def highR (k : Nat) (r : RS) : Nat × RS := (numB ((takeR k r).1.getD []), (takeR k r).2)
theorem takeR_le (k : Nat) (r : RS) : (takeR k r).2.1.length ≤ r.1.length := by
  unfold takeR; split <;> (try split) <;> simp
theorem highR_le {k n1 : Nat} {r : RS} {rs1 : List UInt8} {e1 : Int} (h : highR k r = (n1, rs1, e1)) : rs1.length ≤ r.1.length := by
  have := takeR_le k r
  simp only [highR, Prod.mk.injEq] at h
  rw [h.2] at this; exact this
theorem highR_lt {k n1 : Nat} {r : RS} {r' : RS} (h : highR k r = (n1, r')) : n1 < 256 ^ k := by
  simp only [highR, Prod.mk.injEq] at h
  rw [← h.1]
  refine Nat.lt_of_lt_of_le (numB_lt _) (Nat.pow_le_pow_right (by decide) ?_)
  unfold takeR; split <;> (try split) <;> simp; omega
/-- a number that tells how long it is, and the least that stands so -/
def var1 (r : RS) : Nat × Nat × RS :=
  if (highR 1 r).1 = 253 then ((highR 2 (highR 1 r).2).1, 253, (highR 2 (highR 1 r).2).2)
  else if (highR 1 r).1 = 254 then ((highR 4 (highR 1 r).2).1, 65536, (highR 4 (highR 1 r).2).2)
  else if (highR 1 r).1 = 255 then ((highR 8 (highR 1 r).2).1, 4294967296, (highR 8 (highR 1 r).2).2)
  else ((highR 1 r).1, 0, (highR 1 r).2)
def varFin (most : Nat) (r : RS) (x : Nat × Nat × RS) : Nat × RS :=
  if x.2.2.2 ≠ 0 then (0, (r.1, x.2.2.2)) else if x.1 < x.2.1 then (0, (r.1, 11)) else if most < x.1 then (0, (r.1, 12)) else (x.1, x.2.2)
def varR (most : Nat) (r : RS) : Nat × RS := varFin most r (var1 r)
def roomR (most : Int) (r : RS) : Nat × RS := if most < 0 ∧ (varR most.toNat r).2.2 = 0 then (0, (r.1, 12)) else varR most.toNat r
def getT (n : Nat) (r : RS) : List UInt8 × RS := ((takeR n r).1.getD [], (takeR n r).2)
def rawR (n : Int) (r : RS) : List UInt8 × RS := if n < 0 then ([], (r.1, if r.2 = 0 then 12 else r.2)) else getT n.toNat r
def textR (most : Int) (r : RS) : List UInt8 × RS :=
  getT (roomR most r).1 (if (roomR most r).2.2 = 0 ∧ (roomR most r).2.1.length < (roomR most r).1 then (r.1, 10) else (roomR most r).2)
theorem varR_le {most n : Nat} {r : RS} {rs1 : List UInt8} {e1 : Int} (h : varR most r = (n, rs1, e1)) : rs1.length ≤ r.1.length ∧ n ≤ most := by
  have k1 : ∀ k (r : RS), (highR k r).2.1.length ≤ r.1.length := fun k r => takeR_le k r
  have h2 : (var1 r).2.2.1.length ≤ r.1.length := by
    unfold var1
    split
    · exact Nat.le_trans (k1 _ _) (k1 _ _)
    · split
      · exact Nat.le_trans (k1 _ _) (k1 _ _)
      · split
        · exact Nat.le_trans (k1 _ _) (k1 _ _)
        · exact k1 _ _
  unfold varR varFin at h
  split at h
  · simp only [Prod.mk.injEq] at h; obtain ⟨rfl, rfl, rfl⟩ := h; simp
  · split at h
    · simp only [Prod.mk.injEq] at h; obtain ⟨rfl, rfl, rfl⟩ := h; simp
    · split at h
      · simp only [Prod.mk.injEq] at h; obtain ⟨rfl, rfl, rfl⟩ := h; simp
      · rename_i h3
        simp only [Prod.mk.injEq] at h
        obtain ⟨h4, h5⟩ := h
        rw [h5] at h2
        exact ⟨h2, by omega⟩
theorem roomR_le {most : Int} {n : Nat} {r : RS} {rs1 : List UInt8} {e1 : Int} (h : roomR most r = (n, rs1, e1)) : rs1.length ≤ r.1.length ∧ n ≤ most.toNat := by
  unfold roomR at h
  split at h
  · simp only [Prod.mk.injEq] at h; obtain ⟨rfl, rfl, rfl⟩ := h; simp
  · exact varR_le h
end Go.Dk

/-! The rules of the evaluation, gathered. -/
namespace Go.Dk
open Go
attribute [go_sem] argEnv ev_seq z_region z_cond ev_block ev_skip ev_exit ev_ret awThen_normal awThen_ret awThen_exit awIn_normal awIn_ret awIn_exit evOps_nil evOps_un z_gu evGu2_some evG2_bool putK_app evCond2_bool awIf2_t awIf2_f eqT eqF eq_self Int.cast_ofNat_Int asBytes_cellsB sL_mkS Option.getD_none Option.getD_some Option.isSome_none Int.toNat_natCast List.length_drop List.length_take evE_app evK_app dstOf awRes_some awPut_some awPut_none evOp_call evO_move evO_assign evO_pick evO_alloc evO_box evO_build evO_buildSlice evO_load evO_store evO_nilCheck evO_binOp evO_unOp evO_convert evO_makeFunc evO_makeSlice evO_slice evO_fieldAddr evO_field evO_indexAddr evO_index evO_extract evO_bcall evalOp_move evalOp_assign evalOp_pick evalOp_alloc evalOp_box evalOp_build evalOp_load evalOp_store evalOp_nilCheck evalOp_binOp evalOp_unOp evalOp_convert evalOp_makeFunc evalOp_makeSlice evalOp_slice evalOp_fieldAddr evalOp_field evalOp_indexAddr evalOp_index evalOp_extract evalOp_len evalOp_append evalOp_copy evalOp_max evalOp_min getA_tmp getA_const getA_func look_n look_c lookIf_t lookIf_f putE_e eraseE_n eraseE_c eraseEIf_t eraseEIf_f pruneE_n pruneE_c pruneIf_t pruneIf_f List.contains_cons List.contains_nil true_and and_true Bool.false_eq_true beq_self_eq_true pureO Option.map_some Option.map_none Option.bind_some Option.toList_none Option.toList_some scrubEs scrubE scrubH scrubB scrubL_nil scrubL_cons scrubL_append scrubL_cellsB scrubL_av scrubL_rep scrubL_zrep scrub1_e scrub1If_t scrub1If_f AV.has hasL erase_n erase_c eraseIf_t eraseIf_f put_e find_n find_c findIf_t findIf_f List.map_cons List.map_nil fieldA loadA_ptr loadA_iptr loadL_eq storeA_ptr splice AV.cells AV.cell newCells_eq buildSliceA_eq fillL_cons fillL_nil zrep appendA_eq baseOf_nil baseOf_slc srcCells_slc srcCells_imm srcCells_str srcCells_nil allocA boxA indexA_slc indexA_imm indexV bnd_none bnd_int lenA maxA binA_int binA_str intV_add intV_sub intV_mul intV_quo intV_rem intV_shl intV_shr intV_and intV_or intV_xor intV_eql intV_neq intV_lss intV_leq intV_gtr intV_geq strV binA eqlV eqlAns unV convV toStrA cvA cvO convSlA toBytesA makeSliceA_eq copyA_slc partA needO_pos needO_true bindO_some cellsOf elemOf? notInt wrapI wrapU wrap32 wrap8 decide_true decide_false Bool.not_true Bool.not_false List.set_cons_zero List.set_cons_succ List.drop_zero List.drop_succ_cons List.take_zero List.take_succ_cons List.head?_cons List.length_cons List.length_nil List.all_cons List.all_nil List.cons_append List.nil_append List.append_nil List.replicate_zero List.replicate_succ List.flatten_cons List.flatten_nil Bool.or_false Bool.false_or Bool.or_true Bool.true_or Bool.and_true Bool.true_and List.getElem?_cons_zero List.getElem?_cons_succ List.getElem?_toArray List.getElem?_nil cellsB_nil cellsB_length cellsB_append cellsB_snoc cellsB_take cellsB_drop cellsB_all cellsB_get cellsB_head cellsB_set buildA_e buildAu_struct buildAu_array placeF List.toList_toArray Option.isSome_some Dat.av rowsB_nil rowsB_length rowsB_take rowsB_drop rowsB_get rowsB_flat Nat.zero_add Nat.add_zero Nat.mul_one Nat.one_mul List.append_assoc plOps_nil plOps_cons plAt List.getD_cons_zero List.getD_cons_succ evD_nil z_eff z_flo evDn_t evDn_f evFin_app evStep_un z_stepgu evRunK_app skipK_app evRun_call evR_move evR_assign evR_pick evR_alloc evR_box evR_build evR_buildSlice evR_load evR_store evR_nilCheck evR_binOp evR_unOp evR_convert evR_makeFunc evR_makeSlice evR_slice evR_fieldAddr evR_field evR_indexAddr evR_index evR_extract evR_bcall evRes_t evRes_f envD valD lkS_n lkS_c lkSIf_t lkSIf_f lkC_n lkC_c lkCIf_t lkCIf_f evChk_nil evChk_cons evChkIf_t evChkIf_f pureOp evChks evSame evNeed noHas callScr ids List.filter_cons List.filter_nil mOf_n mOf_c mOfIf_t mOfIf_f renMem renB renL_nil renL_cons renL_append renL_cellsB renL_dat AV.ren eraseAll scrubHs
end Go.Dk

/-! Objects of other kinds: written where they lie; new ones. -/
namespace Go.Dk
open Go
set_option linter.unusedVariables false
set_option linter.unusedSectionVars false

theorem Rel.leWrite {C : Ctx} {E : Env} {H : Mem} {h' : Array Obj} {id : Nat} {b : Blk} (hR : Rel C E H) (hf : find H id = some b) (hs : 0 < (E.β id).sz)
    (hrest : ∀ j, j ≠ (E.β id).blk → h'[j]? = E.heap[j]?) : E.Le { E with heap := h' } (fun _ => True) := by
  have hlive := hR.own id b hf hs
  refine ⟨fun j hj => ⟨.inl hj, hrest j ?_⟩, fun j hj => ⟨hj, hrest j ?_⟩, fun _ _ => rfl⟩
  · rw [hR.s0eq] at hj
    rintro rfl
    rcases hlive.1 with ⟨_, h1⟩ | h1
    · exact (hR.s0 _ hj).2 h1
    · have := (hR.s0 _ hj).1; omega
  · rintro rfl; exact hlive.2 hj

/-- an object is laid anew where it lies -/
theorem Rel.putObj {C : Ctx} {E : Env} {H : Mem} {w : World} {id : Nat} {b b' : Blk} {o : Obj} (hR : Rel C E H) (hW : E.At w) (hf : find H id = some b) (hs : 0 < (E.β id).sz)
    (hb : ∀ E' : Env, E.Le E' (fun _ => True) → E'.heap[(E'.β id).blk]? = some o → (E'.β id) = E.β id → BlkOk E' id b') :
    Rel C { E with heap := (w.putObj (E.β id).blk o).heap } (put H id b') ∧ E.Le { E with heap := (w.putObj (E.β id).blk o).heap } (fun _ => True) := by
  have hw := hW.1
  have hlt : (E.β id).blk < w.heap.size := by rw [← hw]; exact (hR.blk id b hf).lt hs
  have hrest : ∀ j, j ≠ (E.β id).blk → (w.putObj (E.β id).blk o).heap[j]? = E.heap[j]? := fun j hj => by rw [hw]; exact World.putObj_heap_other hj
  have hle := hR.leWrite hf hs hrest
  exact hR.write hf hs (by simp [hw]) hrest (hb _ hle (World.putObj_heap_same hlt) rfl)

/-- a new object -/
theorem Rel.newObj {C : Ctx} {E : Env} {H : Mem} {id : Nat} {b' : Blk} {o : Obj} (hR : Rel C E H) (hk : id ∉ C.keep)
    (hb : ∀ E' : Env, E.Le E' (· ≠ id) → E'.heap[(E'.β id).blk]? = some o → E'.β id = ⟨E.heap.size, 0, 1⟩ → BlkOk E' id b') (H' : Mem) (hH' : ∀ i, find H' i = if i = id then some b' else (find H i).map (scrubB id)) :
    Rel C (E.upd (E.heap.push o) id ⟨E.heap.size, 0, 1⟩) H' ∧ E.Le (E.upd (E.heap.push o) id ⟨E.heap.size, 0, 1⟩) (· ≠ id) := by
  have hm : Moves C E H (E.heap.push o) id ⟨E.heap.size, 0, 1⟩ := ⟨by simp, fun b hb hne => by rw [Array.getElem?_push]; simp [Nat.ne_of_lt hb], .inr (.inl (Nat.le_refl _))⟩
  have hle := hm.le hR
  exact ⟨hR.moves hm hk (hb _ hle (by simp) (by simp)) H' hH', hle⟩

theorem find_cons_scrub {H : Mem} {id : Nat} {b' : Blk} (hH : memHas id H = false) (i : Nat) : find ((id, b') :: H) i = if i = id then some b' else (find H i).map (scrubB id) := by
  obtain ⟨h1, h2⟩ := memHas_find hH
  simp only [find]
  by_cases hi : i = id
  · subst hi; simp
  · have hbb : (id == i) = false := by simp; exact fun e => hi e.symm
    rw [hbb, if_neg hi]
    simp only [Bool.false_eq_true, if_false]
    cases hf : find H i with
    | none => rfl
    | some b => simp [scrubB_of (h2 i b hf)]

/-- a block of the machine's own that stays as it is -/
theorem Rel.pushS1 {C : Ctx} {E : Env} {H : Mem} {o : Obj} (hR : Rel C E H) :
    Rel C { E with heap := E.heap.push o, S1 := fun b => E.S1 b ∨ b = E.heap.size } H ∧ E.Le { E with heap := E.heap.push o, S1 := fun b => E.S1 b ∨ b = E.heap.size } (fun _ => True) := by
  have hlow : ∀ b, b < E.heap.size → (E.heap.push o)[b]? = E.heap[b]? := fun b hb => by rw [Array.getElem?_push]; simp [Nat.ne_of_lt hb]
  have hle : E.Le { E with heap := E.heap.push o, S1 := fun b => E.S1 b ∨ b = E.heap.size } (fun _ => True) := by
    refine ⟨fun b hb => ⟨.inl hb, hlow b ?_⟩, fun b hb => ⟨.inl hb, hlow b (hR.s1 b hb).2⟩, fun _ _ => rfl⟩
    rw [hR.s0eq] at hb
    have := (hR.s0 b hb).1
    have := hR.size
    omega
  refine ⟨⟨by have := hR.size; simp; omega, ?_, hR.s0eq, hR.s0, ?_, hR.keep, ?_, ?_, hR.dist, hle.mrk hR.mrk, hR.os⟩, hle⟩
  · intro b hb hx
    rw [← hR.frame b hb hx]
    exact hlow b (by have := hR.size; omega)
  · rintro b (hb | rfl)
    · have := hR.s1 b hb; simp; omega
    · have := hR.size; simp; omega
  · intro id b hf
    have hbb := hR.blk id b hf
    have hsame : 0 < (E.β id).sz → (E.heap.push o)[(E.β id).blk]? = E.heap[(E.β id).blk]? := fun hs => hlow _ (hbb.lt hs)
    cases b with
    | cells cs =>
      rcases hbb with h0 | ⟨hs, c, t, fz, g1, g2, g3, g4, g5⟩
      · exact .inl h0
      · exact .inr ⟨hs, c, t, fz, (hsame hs).trans g1, g2, g3, g4, g5.mono hle (fun _ _ => trivial)⟩
    | map es =>
      obtain ⟨hs, c, clk, g1, g2⟩ := hbb
      exact ⟨hs, c, clk, (hsame hs).trans g1, g2.mono hle⟩
    | oth k xs =>
      obtain ⟨hs, o', us, g1, g2, g3⟩ := hbb
      exact ⟨hs, o', us, (hsame hs).trans g1, DenL.mono hle xs us (fun _ _ => trivial) g2, g3⟩
  · intro id b hf hs
    obtain ⟨h1, h2⟩ := hR.own id b hf hs
    refine ⟨h1, ?_⟩
    rintro (h3 | h3)
    · exact h2 h3
    · have := (hR.blk id b hf).lt hs
      have h3' : (E.β id).blk = E.heap.size := h3
      omega

theorem oth_blk {C : Ctx} {E : Env} {H : Mem} (hR : Rel C E H) {j : Nat} {k : Kind} {xs : List AV} (hf : find H j = some (.oth k xs)) :
    0 < (E.β j).sz ∧ ∃ o us, E.heap[(E.β j).blk]? = some o ∧ DenL E xs us ∧ k.ok (E.β j).blk o us := hR.blk j _ hf
end Go.Dk

/-! Loops over a function: the round as a contract, the loop as the walk of what is ranged over. -/
namespace Go.Dk
open Go
set_option linter.unusedVariables false
set_option linter.unusedSectionVars false

def putPs : List Nat → List AV → List (Nat × AV) → List (Nat × AV)
  | p :: ps, x :: xs, e => putPs ps xs (putE e p x)
  | _, _, e => e

theorem loop_obj {C : Ctx} {E : Env} {H : Mem} {w : World} (hR : Rel C E H) (hW : E.At w) {j l : Nat} {ts : List Nat} {tm : Array Value} {fid : FuncId} {ps : Array Tmp} {asg body : Code} {st : LoopState} {pend : Option Code} {vs : List AV}
    (hf : find H j = some (.oth (.loop l ts tm fid ps asg body st pend) vs)) : ∃ D, w.heap[l]? = some (.loop ⟨st, pend, fid, tm, ps, asg, body, D⟩) ∧
      (∀ (i t : Nat) x, ts[i]? = some t → vs[i]? = some x → Den E x (tm.getD t undef)) ∧
      ∀ st' pend', ∃ E', E'.At (w.putObj l (.loop ⟨st', pend', fid, tm, ps, asg, body, D⟩)) ∧ Rel C E' (put H j (.oth (.loop l ts tm fid ps asg body st' pend') vs)) ∧ E.Le E' (fun _ => True) := by
  have hw := hW.1
  obtain ⟨hs, o, us, hh, hd, hbl, hlen, hget, D, rfl⟩ := oth_blk hR hf
  refine ⟨D, by rw [← hw, ← hbl]; exact hh, fun i t x ht hx => ?_, fun st' pend' => ?_⟩
  · obtain ⟨u, hu, hdu⟩ := (denL_iff.1 hd).2 i x hx
    have := hget i t u ht hu
    rw [show tm.getD t undef = u from this]; exact hdu
  · have h := hR.putObj (w := w) (b' := .oth (.loop l ts tm fid ps asg body st' pend') vs) (o := .loop ⟨st', pend', fid, tm, ps, asg, body, D⟩) hW hf hs
      (fun E' hle hh' hβ => ⟨by rw [hβ]; exact hs, _, us, hh', DenL.mono hle vs us (fun _ _ => trivial) hd, by rw [hβ]; exact hbl, hlen, hget, D, rfl⟩)
    rw [hbl] at h
    exact ⟨_, hW.to rfl, h.1, h.2⟩

theorem St.setLoop {F : Fun} {C : Ctx} {a : Act} {w : World} {env : List (Nat × AV)} {H : Mem} (hS : St F C a w ⟨env, H⟩) {j l : Nat} {ts : List Nat} {tm : Array Value} {fid : FuncId} {ps : Array Tmp} {asg body : Code} {st : LoopState} {pend : Option Code} {vs : List AV}
    (hf : find H j = some (.oth (.loop l ts tm fid ps asg body st pend) vs)) : ∃ D, w.heap[l]? = some (.loop ⟨st, pend, fid, tm, ps, asg, body, D⟩) ∧
      ∀ st' pend', St F C a (w.putObj l (.loop ⟨st', pend', fid, tm, ps, asg, body, D⟩)) ⟨env, Dk.put H j (.oth (.loop l ts tm fid ps asg body st' pend') vs)⟩ := by
  obtain ⟨E, hw, hR, hD, hd⟩ := hS.mem
  obtain ⟨D, h1, _, h2⟩ := loop_obj hR hw hf
  refine ⟨D, h1, fun st' pend' => ?_⟩
  obtain ⟨E', h3, h4, h5⟩ := h2 st' pend'
  exact ⟨hS.keep, hS.ent, hS.size, E', h3, h4, hD.le h5, fun t => Den.mono h5 _ _ (fun _ _ => trivial) (hd t)⟩

/-- how a round ends -/
def RoundEnd (F : Fun) (j : Nat) (mk : LoopState → Option Code → Kind) (ret : AV) (H' : Mem) : Ex → Sg → Prop
  | .normal, σ => ∃ σ', Weak F σ σ' ∧ ∃ vs, find σ'.H j = some (.oth (mk .busy none) vs) ∧ ret = .v (.bool true) ∧ subMem H' (Dk.put σ'.H j (.oth (mk .ready none) vs))
  | .ret, σ => ∃ σ', Weak F σ σ' ∧ ∃ vs, find σ'.H j = some (.oth (mk .busy none) vs) ∧ ret = .v (.bool false) ∧ subMem H' (Dk.put σ'.H j (.oth (mk .done (some .ret)) vs))
  | .exit i, σ => ∃ σ', Weak F σ σ' ∧ ∃ vs, find σ'.H j = some (.oth (mk .busy none) vs) ∧ ret = .v (.bool false) ∧ subMem H' (Dk.put σ'.H j (.oth (mk .done (some (.exit i))) vs))

/-- the assignments of a round are made: the loop is busy -/
def RoundBegin (F : Fun) (j : Nat) (mk : LoopState → Option Code → Kind) (K : Sg → Prop) (σ : Sg) : Prop :=
  ∃ vs, find σ.H j = some (.oth (mk .ready none) vs) ∧ K ⟨σ.env, Dk.put σ.H j (.oth (mk .busy none) vs)⟩

theorem look_zip {env : List (Nat × AV)} {ts : List Nat} {vs : List AV} {E : Env} {tm : Array Value} (h : ∀ (i t : Nat) x, ts[i]? = some t → vs[i]? = some x → Den E x (tm.getD t undef)) : ∀ t, Den E (look (ts.zip vs) t) (tm.getD t undef) := by
  induction ts generalizing vs with
  | nil => intro t; simp [look, Den]
  | cons q ts ih =>
    cases vs with
    | nil => intro t; simp [look, Den]
    | cons v vs =>
      intro t
      simp only [List.zip_cons_cons, look]
      split
      · rename_i hq
        obtain rfl : q = t := by simpa using hq
        exact h 0 q v rfl rfl
      · exact ih (fun i t x ht hx => h (i + 1) t x (by simpa using ht) (by simpa using hx)) t

theorem putPs_den {E : Env} : ∀ (ps : List Nat) (xs : List AV) (us : List Value) (env : List (Nat × AV)) (tm : Array Value), DenL E xs us → ps.length = xs.length → (∀ p ∈ ps, p < tm.size) → (∀ t, Den E (look env t) (tm.getD t undef)) →
    ((ps.zip us).foldl (fun (t : Array Value) (q : Nat × Value) => t.setIfInBounds q.1 q.2) tm).size = tm.size ∧
    ∀ t, Den E (look (putPs ps xs env) t) (((ps.zip us).foldl (fun (t : Array Value) (q : Nat × Value) => t.setIfInBounds q.1 q.2) tm).getD t undef) := by
  intro ps
  induction ps with
  | nil => intro xs us env tm _ _ _ h; exact ⟨by simp, by cases xs <;> simpa [putPs] using h⟩
  | cons p ps ih =>
    intro xs us env tm hd hl hp h
    cases xs with
    | nil => simp at hl
    | cons x xs =>
      simp only [DenL] at hd
      obtain ⟨u, us', rfl, hu, hd'⟩ := hd
      have hps : p < tm.size := hp p (by simp)
      simp only [List.zip_cons_cons, List.foldl_cons, putPs]
      have := ih xs us' (putE env p x) (tm.setIfInBounds p u) hd' (by simpa using hl) (fun q hq => by simpa using hp q (by simp [hq])) (fun t => by
        rw [look_putE]
        split
        · rename_i ht; subst ht
          simpa [Array.getD_eq_getD_getElem?, hps] using hu
        · rename_i ht
          have := h t
          rw [Array.getD_eq_getD_getElem?] at this ⊢
          rw [Array.getElem?_setIfInBounds_ne (fun e => ht e.symm)]; exact this)
      exact ⟨by rw [this.1]; simp, this.2⟩

/-- **a round's contract out of its code** -/
theorem con_of_round {P : Program} {c : Con} (j l : Nat) {ts : List Nat} {tm : Array Value} {fid : FuncId} {ps : List Tmp} {asg body : Code} {vs : List AV} (cross : List Nat) (n : Nat)
    (hj : find c.H j = some (.oth (.loop l ts tm fid ps.toArray asg body .ready none) vs)) (htm : tm.size = n) (hps : ps.length = c.args.length) (hpn : ∀ p ∈ ps, p < n) (hn1 : noR asg = true) (hn2 : noR body = true)
    (h : ev ⟨P, c.keep, ids c.H, n, cross, true⟩ asg (awThen (RoundBegin ⟨P, c.keep, ids c.H, n, cross, true⟩ j (fun st pe => .loop l ts tm fid ps.toArray asg body st pe)
        (ev ⟨P, c.keep, ids c.H, n, cross, true⟩ body (RoundEnd ⟨P, c.keep, ids c.H, n, cross, true⟩ j (fun st pe => .loop l ts tm fid ps.toArray asg body st pe) c.ret c.H'))) (fun _ _ => False))
        ⟨putPs ps c.args (ts.zip vs), c.H⟩) : c.holdsT P (.yl l) := by
  intro C E us hk he hs1 hheap hR hus
  obtain ⟨D, hl, hden, _⟩ := loop_obj hR hheap hj
  have hul : us.length = c.args.length := denL_length hus
  have hy := run_yield (P := P) (args := us.toArray) hl (by simp [hul, hps])
  refine ⟨fid, _, asg, body, hy, roundIn_of_wpIn trivial ?_⟩
  have hz := putPs_den ps c.args us (ts.zip vs) tm hus hps (by rw [htm]; exact hpn) (look_zip (env := []) hden)
  have hfold : ((ps.toArray.zip us.toArray).foldl (fun (tmps : Array Value) x => tmps.setIfInBounds x.1 x.2) tm) = (ps.zip us).foldl (fun (t : Array Value) (q : Nat × Value) => t.setIfInBounds q.1 q.2) tm := by
    rw [← Array.foldl_toList]; simp
  have hS : St ⟨P, c.keep, ids c.H, n, cross, true⟩ C { tmps := (ps.toArray.zip us.toArray).foldl (fun (tmps : Array Value) x => tmps.setIfInBounds x.1 x.2) tm, defers := [] } C.w0 ⟨putPs ps c.args (ts.zip vs), c.H⟩ := by
    refine ⟨hk.symm, he.symm, by simp only [hfold, hz.1, htm], E, hheap, hR, Dfr.nil _ _ _, fun t => ?_⟩
    simp only [hfold]
    exact hz.2 t
  refine wpIn_mono (aw_sound (some l) asg (.inr hn1) _ _ _ _ hS (ev_sound _ _ _ h)) ?_
  intro e a1 w1 hend
  cases e with
  | exit _ => obtain ⟨σ, hf, _⟩ := hend; exact hf.elim
  | ret => obtain ⟨σ, hf, _⟩ := hend; exact hf.elim
  | goto _ => exact hend.elim
  | panic _ => exact hend.elim
  | outgrown => exact hend.elim
  | normal =>
    obtain ⟨⟨env1, H1⟩, ⟨vs1, hf1, hbody⟩, hS1⟩ := hend
    obtain ⟨D1, hl1, hset1⟩ := hS1.setLoop hf1
    refine ⟨_, run_beginRound hl1 rfl, ?_⟩
    refine wpIn_mono (aw_sound (some l) body (.inr hn2) _ _ _ _ (hset1 .busy none) (ev_sound _ _ _ hbody)) ?_
    have fin : ∀ (jump : Option Code) (a2 : Act) (w2 : World) (σ2 : Sg), St ⟨P, c.keep, ids c.H, n, cross, true⟩ C a2 w2 σ2 →
        (∃ σ', Weak ⟨P, c.keep, ids c.H, n, cross, true⟩ σ2 σ' ∧ ∃ vs, find σ'.H j = some (.oth (.loop l ts tm fid ps.toArray asg body .busy none) vs) ∧ c.ret = .v (.bool jump.isNone) ∧
          subMem c.H' (Dk.put σ'.H j (.oth (.loop l ts tm fid ps.toArray asg body (if jump.isNone then .ready else .done) jump) vs))) →
        ∃ v w4, (Instr.endRound l jump).run P w2 = .ok v w4 ∧ ∃ u E', Ending.returned v = .returned u ∧ E'.At w4 ∧ Rel C E' c.H' ∧ Den E' c.ret u := by
      rintro jump a2 w2 σ2 hS2 ⟨⟨env3, H3⟩, hweak, vs3, hf3, hret, hsub⟩
      have hS3 := hweak _ _ _ hS2
      obtain ⟨D3, hl3, hset3⟩ := hS3.setLoop hf3
      have := hset3 (if jump.isNone then .ready else .done) jump
      obtain ⟨E', hw', hR', _, _⟩ := this.mem
      refine ⟨_, _, run_endRound jump hl3, _, E', rfl, hw', hR'.drop (subMem_find hsub), ?_⟩
      rw [hret]; simp [Den]
    intro e a2 w2 hend
    cases e with
    | normal => obtain ⟨σ, hf, hS2⟩ := hend; exact fin none a2 w2 σ hS2 hf
    | ret => obtain ⟨σ, hf, hS2⟩ := hend; exact fin (some .ret) a2 w2 σ hS2 hf
    | exit i => obtain ⟨σ, hf, hS2⟩ := hend; exact fin (some (.exit i)) a2 w2 σ hS2 hf
    | goto _ => exact hend.elim
    | panic _ => exact hend.elim
    | outgrown => exact hend.elim

def exOf : Option Code → Option Ex
  | none => some .normal
  | some .ret => some .ret
  | some (.exit i) => some (.exit i)
  | _ => none

/-- how a loop over a function ends, where that function has returned -/
def RangeEnd (F' : Fun) (j : Nat) (ts : List Nat) (mk : LoopState → Option Code → Kind) (Q : Ex → Sg → Prop) : Ex → Sg → Prop
  | .exit _, _ => False
  | _, σ => ∃ σ', Weak F' σ σ' ∧ ∃ vs st pend e, find σ'.H j = some (.oth (mk st pend) vs) ∧ st ≠ .busy ∧ exOf pend = some e ∧ Q e ⟨ts.zip vs, erase σ'.H j⟩

theorem keys_den {E : Env} {tm : Array Value} : ∀ (env : List (Nat × AV)), (env.map (·.1)).Nodup → (∀ t, Den E (look env t) (tm.getD t undef)) → ∃ us, DenL E (env.map (·.2)) us ∧ us.length = (env.map (·.1)).length ∧
    ∀ (i t : Nat) u, (env.map (·.1))[i]? = some t → us[i]? = some u → tm.getD t undef = u := by
  intro env hn h
  refine ⟨env.map fun p => tm.getD p.1 undef, ?_, by simp, ?_⟩
  · rw [denL_iff]
    refine ⟨by simp, fun i x hx => ?_⟩
    rw [List.getElem?_map, Option.map_eq_some_iff] at hx
    obtain ⟨⟨t, y⟩, hi, rfl⟩ := hx
    refine ⟨tm.getD t undef, by simp [hi], ?_⟩
    have hlook : look env t = y := by
      clear h
      induction env generalizing i with
      | nil => simp at hi
      | cons p r ih =>
        obtain ⟨q, z⟩ := p
        simp only [List.map_cons, List.nodup_cons] at hn
        cases i with
        | zero => simp at hi; obtain ⟨rfl, rfl⟩ := hi; simp [look]
        | succ i =>
          have hne : (q == t) = false := by
            simp only [beq_eq_false_iff_ne, ne_eq]
            rintro rfl
            exact hn.1 (List.mem_map.2 ⟨_, List.mem_of_getElem? (by simpa using hi), rfl⟩)
          simp only [look, hne, Bool.false_eq_true, if_false]
          exact ih hn.2 i (by simpa using hi)
    rw [← hlook]; exact h t
  · intro i t u ht hu
    rw [List.getElem?_map, Option.map_eq_some_iff] at ht hu
    obtain ⟨p, hp, rfl⟩ := ht
    obtain ⟨p', hp', rfl⟩ := hu
    rw [hp] at hp'
    obtain rfl := Option.some.inj hp'
    rfl

theorem hasL_env (i : Nat) : ∀ (env : List (Nat × AV)), hasL i (env.map (·.2)) = true → envHas i env = true
  | [], h => by simp [hasL] at h
  | (t, x) :: r, h => by
    simp only [List.map_cons, hasL, Bool.or_eq_true] at h
    simp only [envHas, Bool.or_eq_true]
    exact h.imp (fun h => h) (hasL_env i r)

/-- **a loop over a function: the walk of that function, with the loop among the objects** -/
theorem awRange_intro {F : Fun} {g : Operand} {ps : List Tmp} {asg body : Code} {Q : Ex → Sg → Prop} {env : List (Nat × AV)} {H : Mem} (j : Nat) {f : FuncId} {caps : List AV} {fn : Func} {code : Code} (cross' : List Nat) (n' : Nat)
    (hg : getA env g = .fn (.func f) caps) (hfn : F.P.funcs[f]? = some fn) (hb : fn.body = some code) (hname : (fn.name == "runtime.NumGoroutine") = false) (hn : fn.ntmps = n') (hcl : caps.length + 1 ≤ n') (hres : fn.results.toList = [])
    (hnr : noR code = true) (hnod : F.nod = false) (hkj : F.keep.contains j = false) (hjE : envHas j env = false) (hjH : memHas j H = false) (hnd : (env.map (·.1)).Nodup) (hjc : hasL j caps = false)
    (h : ∀ (l fid : Nat) (tm : Array Value), tm.size = F.n → ev ⟨F.P, F.keep, F.ent, n', cross', true⟩ code
      (RangeEnd ⟨F.P, F.keep, F.ent, n', cross', true⟩ j (env.map (·.1)) (fun st pe => .loop l (env.map (·.1)) tm fid ps.toArray asg body st pe) Q)
      ⟨argEnv 0 (.v (.func (.yield l) ⟨[]⟩ ⟨[]⟩) :: caps), (j, .oth (.loop l (env.map (·.1)) tm fid ps.toArray asg body .ready none) (env.map (·.2))) :: H⟩) :
    AwRange F g ps.toArray asg body Q ⟨env, H⟩ := by
  refine ⟨hnod, fun C a w hS => ?_⟩
  obtain ⟨E, hW, hR, ⟨_, Ds, hDn, hDs, hDh⟩, hd⟩ := hS.mem
  have hw := hW.1
  refine wpIn_rangeFunc fun fid hfid => ?_
  have hgd := getA_den hd g
  rw [hg] at hgd
  simp only [Den] at hgd
  obtain ⟨cus, hcu, hcd⟩ := hgd
  -- the two new blocks
  obtain ⟨hR1, hle1⟩ := hR.pushS1 (o := .deferred (some []))
  let E1 : Env := { E with heap := E.heap.push (.deferred (some [])), S1 := fun b => E.S1 b ∨ b = E.heap.size }
  have hsz1 : E1.heap.size = w.heap.size + 1 := by simp [E1, hw]
  obtain ⟨us, hus, husl, husg⟩ := keys_den env hnd hd
  let rec_ : Loop := { state := .ready, pending := none, fn := fid, tmps := a.tmps, params := ps.toArray, assign := asg, body := body, defers := w.heap.size }
  have hkj' : j ∉ C.keep := by rw [← hS.keep]; simpa using hkj
  have hasenv : ∀ i, hasL i (env.map (·.2)) = true → envHas i env = true := fun i => hasL_env i env
  obtain ⟨hR2, hle2⟩ := Rel.newObj (id := j) (b' := .oth (.loop (w.heap.size + 1) (env.map (·.1)) a.tmps fid ps.toArray asg body .ready none) (env.map (·.2))) (o := .loop rec_) (E := E1) hR1 hkj'
    (fun E' hle hh hβ => ⟨by rw [hβ]; exact Nat.one_pos, _, us, hh, DenL.mono hle _ _ (fun i hi e => by subst e; rw [hasenv _ hi] at hjE; cases hjE) (DenL.mono hle1 _ _ (fun _ _ => trivial) hus),
      by rw [hβ]; exact hsz1, husl, husg, w.heap.size, rfl⟩) _ (find_cons_scrub hjH)
  let E2 : Env := E1.upd (E1.heap.push (.loop rec_)) j ⟨E1.heap.size, 0, 1⟩
  let w2 : World := (w.alloc (.deferred (some []))).alloc (.loop rec_)
  have hw2 : E2.At w2 := by
    refine hW.to ?_
    show (E.heap.push (.deferred (some []))).push (.loop rec_) = _
    rw [hw]; rfl
  -- the marks that stay
  let M' : Nat → Prop := fun D => C.M D ∨ D ∈ w.heap.size :: Ds
  let C' : Ctx := { C with M := M' }
  have hS1 : ∀ b, E.S1 b → E2.S1 b ∧ E2.heap[b]? = E.heap[b]? := by
    intro b hb
    have h1 := hle1.s1 b hb
    have h2 := hle2.s1 b h1.1
    exact ⟨h2.1, h2.2.trans h1.2⟩
  have hnew : E2.S1 w.heap.size ∧ E2.heap[w.heap.size]? = some (.deferred (some [])) := by
    have h0 : E1.S1 w.heap.size := .inr (by rw [hw])
    have h2 := hle2.s1 _ h0
    refine ⟨h2.1, h2.2.trans ?_⟩
    show (E.heap.push (.deferred (some [])))[w.heap.size]? = _
    rw [← hw, Array.getElem?_push_size]
  have hR2' : Rel C' E2 ((j, .oth (.loop (w.heap.size + 1) (env.map (·.1)) a.tmps fid ps.toArray asg body .ready none) (env.map (·.2))) :: H) := by
    refine ⟨hR2.size, hR2.frame, hR2.s0eq, hR2.s0, hR2.s1, hR2.keep, hR2.blk, hR2.own, hR2.dist, ?_, hR2.os⟩
    rintro D (hD | hD)
    · exact hR2.mrk D hD
    · rcases List.mem_cons.1 hD with rfl | hD
      · exact hnew
      · obtain ⟨h1, h2, _⟩ := hDh D hD
        have := hS1 D h1
        exact ⟨this.1, this.2.trans h2⟩
  refine ⟨w.heap.size + 1, [{ target := .collected w.heap.size, args := #[] }], w2, { target := .fn (.func f) cus.toArray, args := #[.func (.yield (w.heap.size + 1)) #[] #[]] }, w2, f,
    #[.func (.yield (w.heap.size + 1)) #[] #[]] ++ cus.toArray, w2, ?_, ?_, ?_, ?_, fun h => by simp at h, ?_⟩
  · exact run_enterLoop_outer _ _ _ _ _
  · simp only [resolve, hcu, Deferred.ofValue, Sem.run_bind, Sem.run_pure, Result.andThen_ok]
    simp [Act.eval]
  · intro f' _; trivial
  · simp only [invoke, callFunc, run_program, Sem.run_bind, Result.andThen_ok, hfn, hname, Bool.false_eq_true, if_false, hb, Option.isNone_some, Sem.run_pure]
  refine callsIn_of_wp_marks hfn hb trivial ?_
  have hcl' : cus.length = caps.length := denL_length hcd
  have hcd2 : DenL E2 caps cus := DenL.mono hle2 _ _ (fun i hi e => by subst e; rw [hjc] at hi; cases hi) (DenL.mono hle1 _ _ (fun _ _ => trivial) hcd)
  have hS2 : St ⟨F.P, F.keep, F.ent, n', cross', true⟩ C' { tmps := (#[.func (.yield (w.heap.size + 1)) #[] #[]] ++ cus.toArray) ++ Array.replicate (fn.ntmps - (#[Value.func (.yield (w.heap.size + 1)) #[] #[]] ++ cus.toArray).size) undef, defers := [] } w2
      ⟨argEnv 0 (.v (.func (.yield (w.heap.size + 1)) ⟨[]⟩ ⟨[]⟩) :: caps), (j, .oth (.loop (w.heap.size + 1) (env.map (·.1)) a.tmps fid ps.toArray asg body .ready none) (env.map (·.2))) :: H⟩ := by
    refine ⟨hS.keep, hS.ent, by simp [hn]; omega, E2, hw2, hR2', Dfr.nil _ _ _, fun t => ?_⟩
    rw [look_argEnv]
    simp only [Nat.not_lt_zero, if_false, Nat.sub_zero]
    have hall : DenL E2 (.v (.func (.yield (w.heap.size + 1)) ⟨[]⟩ ⟨[]⟩) :: caps) (.func (.yield (w.heap.size + 1)) #[] #[] :: cus) := by
      simp only [DenL]; exact ⟨_, _, rfl, by simp [Den], hcd2⟩
    cases hx : (AV.v (.func (.yield (w.heap.size + 1)) ⟨[]⟩ ⟨[]⟩) :: caps)[t]? with
    | none => simp [Den]
    | some x =>
      obtain ⟨u, hu, hdu⟩ := (denL_iff.1 hall).2 t x hx
      have hlt : t < (Value.func (.yield (w.heap.size + 1)) #[] #[] :: cus).length := (List.getElem?_eq_some_iff.1 hu).1
      have he : (#[Value.func (.yield (w.heap.size + 1)) #[] #[]] ++ cus.toArray) = (Value.func (.yield (w.heap.size + 1)) #[] #[] :: cus).toArray := by simp
      show Den E2 ((some x).getD .any) _
      rw [he, Array.getD_eq_getD_getElem?, Array.getElem?_append_left (by simpa using hlt)]
      simp only [List.getElem?_toArray, hu]
      exact hdu
  refine wpIn_mono (aw_sound (F := ⟨F.P, F.keep, F.ent, n', cross', true⟩) (C := C') none code (.inl rfl) _ _ _ _ hS2 (ev_sound _ _ _ (h _ fid a.tmps hS.size))) ?_
  have fin : ∀ (σ : Sg) (a' : Act) (w' : World), (∃ σ', Weak ⟨F.P, F.keep, F.ent, n', cross', true⟩ σ σ' ∧ ∃ vs st pend e, find σ'.H j = some (.oth (.loop (w.heap.size + 1) (env.map (·.1)) a.tmps fid ps.toArray asg body st pend) vs) ∧ st ≠ .busy ∧
        exOf pend = some e ∧ Q e ⟨(env.map (·.1)).zip vs, erase σ'.H j⟩) → St ⟨F.P, F.keep, F.ent, n', cross', true⟩ C' a' w' σ →
      LeavesInM (FW none) (0 - 1) F.P fn a'.tmps (rangePost (FW none) 0 F.P (w.heap.size + 1) (Ends F C Q) { a with defers := [{ target := .collected w.heap.size, args := #[] }] ++ a.defers }) a'.defers .returning w' := by
    rintro σ a' w' ⟨⟨env3, H3⟩, hweak, vs, st, pend, e, hf3, hst, hex, hQ⟩ hS'
    have hS3 := hweak _ _ _ hS'
    obtain ⟨E3, hw3, hR3, ⟨hD3, _⟩, hd3⟩ := hS3.mem
    rw [hD3 rfl]
    obtain ⟨D3, hl3, hden3, hset3⟩ := loop_obj hR3 hw3 hf3
    have hrs : resA F.P fn.results.toList ⟨env3, H3⟩ = some (.tup []) := by rw [hres]; rfl
    obtain ⟨u, hu, _⟩ := run_resA hR3 hw3 hd3 hrs
    refine ⟨u, hu, pend, _, run_endLoop hl3 (by simpa using hst), ?_⟩
    obtain ⟨E4, hw4, hR4, hle4⟩ := hset3 .exhausted pend
    have hS4 : St F C { a with defers := [{ target := .collected w.heap.size, args := #[] }] ++ a.defers } (w'.putObj (w.heap.size + 1) (.loop ⟨.exhausted, pend, fid, a.tmps, ps.toArray, asg, body, D3⟩)) ⟨(env.map (·.1)).zip vs, erase H3 j⟩ := by
      refine ⟨hS.keep, hS.ent, hS.size, E4, hw4, ?_, ⟨fun hh => (by rw [hnod] at hh; cases hh), w.heap.size :: Ds, ?_, by simp [hDs], ?_⟩, ?_⟩
      · have hR4' : Rel C E4 (Dk.put H3 j (.oth (.loop (w.heap.size + 1) (env.map (·.1)) a.tmps fid ps.toArray asg body .exhausted pend) vs)) :=
          ⟨hR4.size, hR4.frame, hR4.s0eq, hR4.s0, hR4.s1, hR4.keep, hR4.blk, hR4.own, hR4.dist, fun D hD => hR4.mrk D (.inl hD), hR4.os⟩
        refine hR4'.drop fun i b hi => ?_
        rw [find_put]
        rw [find_erase] at hi
        split at hi
        · cases hi
        · rename_i hne; rw [if_neg hne]; exact hi
      · refine List.nodup_cons.2 ⟨fun hin => ?_, hDn⟩
        have := (hDh _ hin).2.1
        rw [hw] at this
        have := (Array.getElem?_eq_some_iff.1 this).1
        omega
      · intro D hD
        have h1 := hR4.mrk D (.inr hD)
        refine ⟨h1.1, h1.2, fun hM => ?_⟩
        rcases List.mem_cons.1 hD with rfl | hD
        · have := (hR.mrk _ hM).2
          rw [hw] at this
          have := (Array.getElem?_eq_some_iff.1 this).1
          omega
        · exact (hDh D hD).2.2 hM
      · exact look_zip (env := []) fun i t x ht hx => Den.mono hle4 x _ (fun _ _ => trivial) (hden3 i t x ht hx)
    cases pend with
    | none =>
      simp [exOf] at hex; subst hex
      exact ⟨_, hQ, hS4⟩
    | some c =>
      cases c with
      | ret => simp [exOf] at hex; subst hex; exact wpIn_ret ⟨_, hQ, hS4⟩
      | exit i => simp [exOf] at hex; subst hex; exact wpIn_exit ⟨_, hQ, hS4⟩
      | _ => simp [exOf] at hex
  intro e a' w' he
  cases e with
  | normal => obtain ⟨σ, hf, hS'⟩ := he; exact fin σ a' w' hf hS'
  | ret => obtain ⟨σ, hf, hS'⟩ := he; exact fin σ a' w' hf hS'
  | exit i => obtain ⟨σ, hf, hS'⟩ := he; exact hf.elim
  | goto l => exact he.elim
  | panic ch => exact he.elim
  | outgrown => exact he.elim
end Go.Dk

/-! More equations, none with a premise. -/
namespace Go.Dk
open Go
set_option linter.unusedVariables false

def sliceU (P : Program) (x : AV) (lo hi : Option AV) : Option TypeDesc → Option AV
  | some .string => match x with
    | .v (.string s) => bindO (bnd lo 0) fun l => bindO (bnd hi (sL s).length) fun h => needO (l ≤ h ∧ h ≤ (sL s).length) (some (.v (.string (mkS (((sL s).drop l).take (h - l))))))
    | _ => none
  | some (.slice e) => match x with
    | .slc id k off len => bindO (tySize P e) fun sz => bindO (bnd lo 0) fun l => bindO (bnd hi len) fun h => needO (k = sz ∧ l ≤ h ∧ h ≤ len) (some (.slc id k (off + l * sz) (h - l)))
    | .imm g k xs => bindO (tySize P e) fun sz => bindO (bnd lo 0) fun l => bindO (bnd hi xs.length) fun h => needO (k = sz ∧ l ≤ h ∧ h ≤ xs.length) (some (.imm g k ((xs.drop l).take (h - l))))
    | .v (.slice none 0 0) => bindO (tySize P e) fun _ => bindO (bnd lo 0) fun l => bindO (bnd hi 0) fun h => needO (l = 0 ∧ h = 0) (some (.v (.slice none 0 0)))
    | _ => none
  | _ => none
theorem sliceA_u {P : Program} {t : TypeId} {x : AV} {lo hi : Option AV} : sliceA P t x lo hi none = sliceU P x lo hi (P.underlying t) := by
  cases hu : P.underlying t with
  | none => simp [sliceA, hu, sliceU]
  | some d =>
    cases d with
    | string =>
      cases x with
      | v x =>
        cases x with
        | string s => rw [sliceA_str hu]; rfl
        | _ => simp [sliceA, hu, sliceU]
      | _ => simp [sliceA, hu, sliceU]
    | slice e =>
      cases x with
      | slc id k off len => rw [sliceA_slc hu]; rfl
      | imm g k xs => rw [sliceA_imm hu]; rfl
      | v x =>
        cases x with
        | slice a l c =>
          cases a with
          | none =>
            cases l with
            | zero =>
              cases c with
              | zero =>
                simp only [sliceA, hu, sliceU, bindO, needO]
                cases tySize P e with
                | none => rfl
                | some n =>
                  simp only [Option.bind_some]
                  cases bnd lo 0 with
                  | none => rfl
                  | some l =>
                    cases bnd hi 0 with
                    | none => cases l <;> rfl
                    | some h => cases l <;> cases h <;> simp
              | succ c => simp only [sliceA, hu, sliceU]; cases tySize P e <;> rfl
            | succ l => simp only [sliceA, hu, sliceU]; cases tySize P e <;> rfl
          | some a => simp only [sliceA, hu, sliceU]; cases tySize P e <;> rfl
        | _ => simp only [sliceA, hu, sliceU]; cases tySize P e <;> rfl
      | _ => simp only [sliceA, hu, sliceU]; cases tySize P e <;> rfl
    | _ => simp [sliceA, hu, sliceU]
section
variable {P : Program} {lo hi : Option AV}
theorem sliceU_str {s : ByteArray} : sliceU P (.v (.string s)) lo hi (some .string) = bindO (bnd lo 0) fun l => bindO (bnd hi (sL s).length) fun h => needO (l ≤ h ∧ h ≤ (sL s).length) (some (.v (.string (mkS (((sL s).drop l).take (h - l)))))) := rfl
theorem sliceU_slc {e id k off len : Nat} : sliceU P (.slc id k off len) lo hi (some (.slice e)) = bindO (tySize P e) fun sz => bindO (bnd lo 0) fun l => bindO (bnd hi len) fun h => needO (k = sz ∧ l ≤ h ∧ h ≤ len) (some (.slc id k (off + l * sz) (h - l))) := rfl
theorem sliceU_imm {e k : Nat} {g : Bool} {xs : List (List Dat)} : sliceU P (.imm g k xs) lo hi (some (.slice e)) = bindO (tySize P e) fun sz => bindO (bnd lo 0) fun l => bindO (bnd hi xs.length) fun h => needO (k = sz ∧ l ≤ h ∧ h ≤ xs.length) (some (.imm g k ((xs.drop l).take (h - l)))) := rfl
theorem sliceU_nil {e : Nat} : sliceU P (.v (.slice none 0 0)) lo hi (some (.slice e)) = bindO (tySize P e) fun _ => bindO (bnd lo 0) fun l => bindO (bnd hi 0) fun h => needO (l = 0 ∧ h = 0) (some (.v (.slice none 0 0))) := rfl
end

def arrOf? : Option TypeDesc → Option (Nat × TypeId)
  | some (.array l e) => some (l, e)
  | _ => none
theorem indexA_ptr {P : Program} {t : TypeId} {id off : Nat} {kk : IntKind} {n : Int} : indexA P t (.ptr id off) (.v (.int kk n)) = bindO (arrOf? (P.underlying t)) fun p => bindO (tySize P p.2) fun sz => needO (0 ≤ n ∧ n < (p.1 : Int)) (some (.ptr id (off + n.toNat * sz))) := by
  unfold indexA bindO arrOf? needO
  try dsimp only
  cases P.underlying t with
  | none => rfl
  | some d => cases d <;> simp <;> cases tySize P _ <;> rfl

theorem orO_s {α : Type} {a : α} {b : Option α} : orO (some a) b = some a := rfl
theorem orO_n {α : Type} {b : Option α} : orO none b = b := rfl
theorem lookupA_mp {P : Program} {H : Mem} {t : TypeId} {id : Nat} {kk : IntKind} {n : Int} {ok : Bool} : lookupA P H t (.mp id) (.v (.int kk n)) ok =
    bindO (mapKE P t) fun p => bindO (tyZV P p.2) fun z => bindO (mapOf (find H id)) fun es => needO (kk = p.1 ∧ es.all (isK p.1) = true) (some (lkRes ok z (lookI n es))) := rfl
theorem lookupA_nil {P : Program} {H : Mem} {t : TypeId} {kk : IntKind} {n : Int} {ok : Bool} : lookupA P H t (.v (.map none)) (.v (.int kk n)) ok =
    bindO (mapKE P t) fun p => bindO (tyZV P p.2) fun z => needO (kk = p.1) (some (lkRes ok z none)) := rfl
theorem updateA_mp {P : Program} {H : Mem} {t : TypeId} {id : Nat} {kk : IntKind} {n : Int} {x : AV} : updateA P H t (.mp id) (.v (.int kk n)) x =
    bindO (mapKE P t) fun p => bindO (mapOf (find H id)) fun es => needO (kk = p.1 ∧ es.all (isK p.1) = true) (some (Dk.put H id (.map (updI kk n x es)))) := rfl
theorem mapOf_map {es : List (Value × AV)} : mapOf (some (.map es)) = some es := rfl
theorem lkRes_t {z : Value} {r : Option AV} : lkRes true z r = .tup [r.getD (.v z), .v (.bool r.isSome)] := rfl
theorem lkRes_f {z : Value} {r : Option AV} : lkRes false z r = r.getD (.v z) := rfl
theorem makeMapA_e {keep : List Nat} {H : Mem} {d : Nat} : makeMapA keep H d = needO (keep.contains d = false) (some ⟨.mp d, Dk.put (scrubH d H) d (.map []), some d⟩) := by
  unfold makeMapA needO; cases keep.contains d <;> rfl
def lenMU (H : Mem) (x : AV) : Option TypeDesc → Option AV
  | some (.map _ _) => match x with
    | .mp id => bindO (mapOf (find H id)) fun es => some (.v (.int .i64 es.length))
    | .v (.map none) => some (.v (.int .i64 0))
    | _ => none
  | _ => none
theorem lenMA_u {P : Program} {H : Mem} {t : TypeId} {x : AV} : lenMA P H t x = lenMU H x (P.underlying t) := by
  unfold lenMA lenMU bindO
  cases P.underlying t with
  | none => rfl
  | some d =>
    cases d <;> try rfl
    cases x with
    | mp id =>
      simp only []
      cases mapOf (find H id) <;> rfl
    | v y =>
      cases y with
      | map r => cases r <;> rfl
      | _ => rfl
    | _ => rfl
theorem lenMU_mp {H : Mem} {id kt et : Nat} : lenMU H (.mp id) (some (.map kt et)) = bindO (mapOf (find H id)) fun es => some (.v (.int .i64 es.length)) := rfl
theorem ckEq_ii {k : IntKind} {a b : Int} : ckEq .i (.v (.int k a)) (.v (.int k b)) = some (decide (a = b)) := by simp [ckEq]
theorem ckEq_ss {a b : ByteArray} : ckEq .s (.v (.string a)) (.v (.string b)) = some (decide (sL a = sL b)) := rfl
theorem ckEq_bb {a b : Bool} : ckEq .b (.v (.bool a)) (.v (.bool b)) = some (decide (a = b)) := rfl
theorem andO_ss {a b : Bool} : andO (some a) (some b) = some (a && b) := rfl
theorem eqFlat_n : eqFlat [] [] [] = some true := rfl
theorem eqFlat_c {k : CK} {ks : List CK} {x y : AV} {xs ys : List AV} : eqFlat (k :: ks) (x :: xs) (y :: ys) = andO (ckEq k x y) (eqFlat ks xs ys) := rfl
theorem aggCells_a {cs : List AV} : aggCells (.agg cs) = some cs := rfl
theorem aggCells_v {us : List Value} : aggCells (.v (.agg ⟨us⟩)) = some (us.map .v) := rfl
theorem eqSA_e {P : Program} {op : BinOp} {t : TypeId} {x y : AV} : eqSA P op t x y = bindO (tyEqT P t) fun ks => bindO (aggCells x) fun xs => bindO (aggCells y) fun ys => bindO (eqFlat ks xs ys) (eqlAns op) := rfl
theorem buildSlice_u {P : Program} {keep : List Nat} {H : Mem} {env : List (Nat × AV)} {ty : TypeId} {pos : String} {af : Array Edge} {g : Option (Nat × Bool)} {d t len : Nat} {l : List (Nat × Operand)} : evalOp P keep env H ⟨some d, .buildSlice t len l.toArray, ty, pos, af, g⟩ =
    bindO (elemOf? (P.underlying t)) fun e => bindO (tySize P e) fun sz => needO (0 < sz) (buildSliceA P keep H d t len (l.map fun p => (p.1, getA env p.2))) := by
  rw [evalOp_buildSliceE]
  unfold bindO elemOf? needO
  cases P.underlying t with
  | none => rfl
  | some dd => cases dd <;> rfl
theorem lookI_nil {n : Int} : lookI n [] = none := rfl
theorem bindO_none {α β : Type} {f : α → Option β} : bindO none f = none := rfl

attribute [go_sem] sliceA_u sliceU_str sliceU_slc sliceU_imm sliceU_nil arrOf? indexA_ptr orO_s orO_n lookupA_mp lookupA_nil updateA_mp mapOf_map lkRes_t lkRes_f makeMapA_e lenMA_u lenMU_mp
  ckEq_ii ckEq_ss ckEq_bb andO_ss eqFlat_n eqFlat_c aggCells_a aggCells_v eqSA_e buildSlice_u lookI_nil bindO_none mapKE evO_makeMap evO_lookup evO_mapUpdate evO_insert evR_makeMap evR_lookup evR_mapUpdate evR_insert
  evalOp_makeMap evalOp_lookup evalOp_mapUpdate evalOp_insert
  viewL_nil viewL_cons viewL_cellsB AV.view viewSl_e viewIf_t viewIf_f viewIn_bytes viewB memOk Option.bind_none
end Go.Dk

/-
  Dk, part Sw: two objects change their numbers.
-/
namespace Go.Dk
set_option autoImplicit false

def renE (m : Nat → Nat) : List (Nat × AV) → List (Nat × AV)
  | [] => []
  | (t, x) :: r => (t, x.ren m) :: renE m r

theorem look_renE (m : Nat → Nat) : ∀ (env : List (Nat × AV)) (t : Nat), look (renE m env) t = (look env t).ren m
  | [], t => rfl
  | (i, x) :: r, t => by simp only [renE, look, look_renE m r t]; split <;> rfl

theorem mOf_two (i j k : Nat) : mOf [(i, j), (j, i)] k = if i = k then j else if j = k then i else k := by
  simp only [mOf]
  by_cases h1 : i = k
  · rw [if_pos h1, beq_iff_eq.2 h1]; rfl
  · rw [if_neg h1, beq_eq_false_iff_ne.2 h1]
    by_cases h2 : j = k
    · rw [if_pos h2, beq_iff_eq.2 h2]; rfl
    · rw [if_neg h2, beq_eq_false_iff_ne.2 h2]; rfl

theorem mOf_swap (i j k : Nat) : mOf [(i, j), (j, i)] (mOf [(i, j), (j, i)] k) = k := by
  simp only [mOf_two]
  by_cases h1 : i = k <;> by_cases h2 : j = k <;> by_cases h3 : i = j <;> simp_all

theorem weak_swap {F : Fun} {env : List (Nat × AV)} {H : Mem} (i j : Nat) (hk : F.keep.contains i = false ∧ F.keep.contains j = false) (he : F.ent.contains i = false ∧ F.ent.contains j = false) :
    Weak F ⟨env, H⟩ ⟨renE (mOf [(i, j), (j, i)]) env, renMem (mOf [(i, j), (j, i)]) H⟩ := by
  intro C a w hS
  obtain ⟨E, hw, hR, hD, hd⟩ := hS.mem
  have hm := mOf_swap i j
  have hfix : ∀ k, k ≠ i → k ≠ j → mOf [(i, j), (j, i)] k = k := fun k h1 h2 => by rw [mOf_two, if_neg (Ne.symm h1), if_neg (Ne.symm h2)]
  have hinj : ∀ a b, mOf [(i, j), (j, i)] a = mOf [(i, j), (j, i)] b → a = b := fun a b h => by rw [← hm a, ← hm b, h]
  generalize mOf [(i, j), (j, i)] = m at hm hfix hinj
  let E' : Env := { E with β := fun k => E.β (m k) }
  have hβ : ∀ k, E'.β (m k) = E.β k := fun k => by show E.β (m (m k)) = _; rw [hm]
  have one : ∀ x u, Den E x u → Den E' (x.ren m) u := fun x u h => den_ren (E := E) (E' := E') rfl (fun g b hb => hb) x u (fun k _ => hβ k) h
  have all : ∀ xs us, DenL E xs us → DenL E' (renL m xs) us := fun xs us h => denL_ren (E := E) (E' := E') rfl (fun g b hb => hb) xs us (fun k _ => hβ k) h
  have hfind : ∀ k b, find (renMem m H) k = some b → ∃ id b0, k = m id ∧ b = renB m b0 ∧ find H id = some b0 := by
    intro k b h
    obtain ⟨id, b0, h1, h2, h3⟩ := (find_renMem m H (fun a b _ _ h => hinj a b h) k b).1 h
    exact ⟨id, b0, by simp_all, by simp_all, by simp_all⟩
  refine ⟨hS.keep, hS.ent, hS.size, E', hw, ⟨hR.size, hR.frame, hR.s0eq, hR.s0, hR.s1, ?_, ?_, ?_, ?_, hR.mrk, hR.os⟩, hD, fun t => ?_⟩
  · intro id hid
    rw [← hR.keep id hid]
    show E.β (m id) = E.β id
    rw [hfix id (by rintro rfl; rw [← hS.keep] at hid; simp_all) (by rintro rfl; rw [← hS.keep] at hid; simp_all)]
  · intro k b hf
    obtain ⟨id, b0, rfl, rfl, h⟩ := hfind k b hf
    have := hR.blk id b0 h
    cases b0 with
    | cells cs =>
      simp only [renB, BlkOk, hβ, renL_map, List.length_map, List.map_eq_nil_iff] at this ⊢
      refine this.imp (fun h => h) ?_
      rintro ⟨hs, c, t, fz, h1, h2, h3, h4, h5⟩
      refine ⟨hs, c, t, fz, h1, h2, h3, h4, fun q x hx => ?_⟩
      simp only [List.getElem?_map, Option.map_eq_some_iff] at hx
      obtain ⟨x0, hx0, rfl⟩ := hx
      obtain ⟨u, hu, hdu⟩ := h5 q x0 hx0
      exact ⟨u, hu, one _ _ hdu⟩
    | map es =>
      simp only [renB, BlkOk, hβ] at this ⊢
      obtain ⟨hs, c, clk, h1, h2, h3, h4, h5⟩ := this
      refine ⟨hs, c, clk, h1, by simpa using h2, h3, h4, fun q key x hx => ?_⟩
      simp only [List.getElem?_map, Option.map_eq_some_iff, Prod.mk.injEq] at hx
      obtain ⟨⟨k0, x0⟩, hx0, rfl, rfl⟩ := hx
      obtain ⟨e, he1, he2, he3⟩ := h5 q k0 x0 hx0
      exact ⟨e, he1, he2, one _ _ he3⟩
    | oth kk xs =>
      simp only [renB, BlkOk, hβ] at this ⊢
      obtain ⟨hs, o, us, h1, h2, h3⟩ := this
      exact ⟨hs, o, us, h1, all _ _ h2, h3⟩
  · intro k b hf hs
    obtain ⟨id, b0, rfl, rfl, h⟩ := hfind k b hf
    rw [hβ] at hs ⊢
    have := hR.own id b0 h hs
    refine ⟨this.1.imp ?_ (fun h => h), this.2⟩
    rintro ⟨h1, h2⟩
    refine ⟨?_, h2⟩
    rw [hfix id (by rintro rfl; rw [← hS.ent] at h1; simp_all) (by rintro rfl; rw [← hS.ent] at h1; simp_all)]
    exact h1
  · intro k b k' b' hf hf' hne hs hs'
    obtain ⟨id, b0, rfl, rfl, h⟩ := hfind k b hf
    obtain ⟨id', b0', rfl, rfl, h'⟩ := hfind k' b' hf'
    rw [hβ] at hs ⊢
    rw [hβ] at hs' ⊢
    exact hR.dist id b0 id' b0' h h' (fun e => hne (by rw [e])) hs hs'
  · rw [look_renE]
    exact one _ _ (hd t)
end Go.Dk

/-
  Dk, part Sx: an object's data may be anyone's.
-/
namespace Go.Dk
set_option autoImplicit false

/-- data of whatever owner -/
def soft : AV → AV
  | .imm _ k xs => .imm false k xs
  | .iptr _ cs => .iptr false cs
  | x => x
theorem den_soft {E : Env} {x : AV} {u : Value} (h : Den E x u) : Den E (soft x) u := by
  have hok : ∀ g b, E.ok g b → E.ok false b := fun g b hb => by
    cases g with
    | true => exact .inr hb
    | false => exact hb
  cases x with
  | imm g k xs =>
    simp only [soft, Den] at h ⊢
    exact DenD.mono (fun b hb => ⟨hok g b hb, rfl⟩) _ _ h
  | iptr g cs =>
    simp only [soft, Den] at h ⊢
    obtain ⟨b, o, hu, hb, hc⟩ := h
    exact ⟨b, o, hu, hok g b hb, DenCs.mono (fun b hb => ⟨hok g b hb, rfl⟩) b o cs hb hc⟩
  | _ => exact h

theorem weak_soft {F : Fun} {env : List (Nat × AV)} {H : Mem} {cs : List AV} (i : Nat) (hf : find H i = some (.cells cs)) : Weak F ⟨env, H⟩ ⟨env, put H i (.cells (cs.map soft))⟩ := by
  intro C a w hS
  obtain ⟨E, hw, hR, hD, hd⟩ := hS.mem
  have key : ∀ k b, find (put H i (.cells (cs.map soft))) k = some b → (k = i ∧ b = .cells (cs.map soft)) ∨ (k ≠ i ∧ find H k = some b) := by
    intro k b h
    rw [find_put] at h
    split at h
    · rename_i e; obtain rfl := Option.some.inj h; exact .inl ⟨by simp_all, rfl⟩
    · rename_i e; exact .inr ⟨by simp_all, h⟩
  have there : ∀ k b, find (put H i (.cells (cs.map soft))) k = some b → ∃ b', find H k = some b' := by
    intro k b h
    rcases key k b h with ⟨rfl, _⟩ | ⟨_, h⟩
    · exact ⟨_, hf⟩
    · exact ⟨_, h⟩
  refine ⟨hS.keep, hS.ent, hS.size, E, hw, ⟨hR.size, hR.frame, hR.s0eq, hR.s0, hR.s1, hR.keep, ?_, ?_, ?_, hR.mrk, hR.os⟩, hD, hd⟩
  · intro k b h
    rcases key k b h with ⟨rfl, rfl⟩ | ⟨_, h⟩
    · have := hR.blk _ _ hf
      simp only [BlkOk, List.length_map, List.map_eq_nil_iff] at this ⊢
      refine this.imp (fun h => h) ?_
      rintro ⟨hs, c, t, fz, h1, h2, h3, h4, h5⟩
      refine ⟨hs, c, t, fz, h1, h2, h3, h4, fun q x hx => ?_⟩
      simp only [List.getElem?_map, Option.map_eq_some_iff] at hx
      obtain ⟨x0, hx0, rfl⟩ := hx
      obtain ⟨u, hu, hdu⟩ := h5 q x0 hx0
      exact ⟨u, hu, den_soft hdu⟩
    · exact hR.blk k b h
  · intro k b h
    obtain ⟨b', h'⟩ := there k b h
    exact hR.own k b' h'
  · intro k b k' b' h h'
    obtain ⟨b1, h1⟩ := there k b h
    obtain ⟨b2, h2⟩ := there k' b' h'
    exact hR.dist k b1 k' b2 h1 h2
end Go.Dk

/-
  Dk, part Yc: a round of a loop over a function is called by its contract.
-/
namespace Go.Dk
set_option autoImplicit false
set_option linter.unusedVariables false

structure Con.okY (c : Con) (P : Program) (l : Nat) : Prop where
  holds : c.holdsT P (.yl l)
  wf : c.wf

theorem awYield_con {P : Program} {keep ent : List Nat} {n : Nat} {l : Nat} {xs : List AV} {dst : Option Tmp} {K : Sg → Prop} {env : List (Nat × AV)} {H : Mem} {c : Con}
    (mm : List (Nat × Nat)) (V : List Nat) (hc : c.okY P l) (hb : callB (ids c.H) (ids c.H') c.keep mm V keep ent = true)
    (hs : V = [] ∨ (c.ret.strong = true ∧ strongM c.H' = true))
    (ha : viewL H V (xs ++ []) = renL (mOf mm) c.args) (hm : memOk H V (mOf mm) c.H)
    (h : ∀ scr, scr = callScr c (mOf mm) → awPut n dst (c.ret.ren (mOf mm)) (scrubEs scr env) (renMem (mOf mm) c.H' ++ eraseAll ((ids c.H ++ ids c.H').map (mOf mm)) (scrubHs scr H)) K) :
    awCallAt P keep ent n (.v (.func (.yield l) ⟨[]⟩ ⟨[]⟩)) xs dst K env H := awYield_intro (call_gives hc.holds (callOk_of hc.wf hb ha hm hs)) (h _ rfl)
theorem awRange_weak {F : Fun} {g : Operand} {ps : Array Tmp} {asg body : Code} {Q : Ex → Sg → Prop} {σ σ' : Sg} (hw : Weak F σ σ') (h : AwRange F g ps asg body Q σ') : AwRange F g ps asg body Q σ :=
  ⟨h.1, fun C a w hS => h.2 C a w (hw C a w hS)⟩
theorem awRange_intro2 {F : Fun} {g : Operand} {ps : List Tmp} {asg body : Code} {Q : Ex → Sg → Prop} {env : List (Nat × AV)} {H : Mem} (j : Nat) {f : FuncId} {caps : List AV} {fn : Func} {code : Code} (cross' : List Nat) (n' : Nat)
    (hg : getA env g = .fn (.func f) caps) (hfn : F.P.funcs[f]? = some fn) (hb : fn.body = some code) (hname : (fn.name == "runtime.NumGoroutine") = false) (hn : fn.ntmps = n') (hcl : caps.length + 1 ≤ n') (hres : fn.results.toList = [])
    (hnr : noR code = true) (hnod : F.nod = false) (hkj : F.keep.contains j = false) (hjE : envHas j env = false) (hjH : memHas j H = false) (hnd : (env.map (·.1)).Nodup) (hjc : hasL j caps = false)
    (h : ∀ (l fid : Nat) (tm : Array Value) (mk : LoopState → Option Code → Kind), mk = (fun st pe => .loop l (env.map (·.1)) tm fid ps.toArray asg body st pe) → tm.size = F.n → ev ⟨F.P, F.keep, F.ent, n', cross', true⟩ code
      (RangeEnd ⟨F.P, F.keep, F.ent, n', cross', true⟩ j (env.map (·.1)) mk Q)
      ⟨argEnv 0 (.v (.func (.yield l) ⟨[]⟩ ⟨[]⟩) :: caps), (j, .oth (mk .ready none) (env.map (·.2))) :: H⟩) :
    AwRange F g ps.toArray asg body Q ⟨env, H⟩ :=
  awRange_intro j cross' n' hg hfn hb hname hn hcl hres hnr hnod hkj hjE hjH hnd hjc fun l fid tm htm => h l fid tm _ rfl htm
end Go.Dk

/-
  Dk, part Rd: from a function's contract to a statement: what was handed in is read as data; behind the call it reads as it did.
-/
namespace Go.Dk
open Go.ChangeShapes Go.RowKit
set_option autoImplicit false

/-- a measure of what is handed in -/
structure Bulk (H : Type) where
  b : DataW H → Nat
  a : List (DataW H) → Nat
  nil : a [] = 0
  cons : ∀ d r, a (d :: r) = b d + a r
  str : ∀ s, b (.lit (.string s)) = s.length + 1
  slice : ∀ xs ys, b (.slice xs ys) = a xs + a ys + 1
  agg : ∀ xs, b (.agg xs) = a xs + 1
  nl : b .nil = 1
  lit : ∀ l, 1 ≤ b (.lit l)

def DenDs (w : World) (ds : List Dat) (cs : List Value) : Prop :=
  ds.length = cs.length ∧ ∀ (i : Nat) d, ds[i]? = some d → ∃ u, cs[i]? = some u ∧ DenD w.heap (· < w.heap.size) d u

theorem denDs_append {w : World} {ds ds' : List Dat} {cs cs' : List Value} (h : DenDs w ds cs) (h' : DenDs w ds' cs') : DenDs w (ds ++ ds') (cs ++ cs') := by
  refine ⟨by simp [h.1, h'.1], fun i d hi => ?_⟩
  rw [List.getElem?_append] at hi ⊢
  rw [← h.1]
  split at hi
  · rename_i hl; rw [if_pos hl]; exact h.2 i d hi
  · rename_i hl; rw [if_neg hl]; exact h'.2 _ d hi

theorem denDs_one {w : World} {d : Dat} {u : Value} (h : DenD w.heap (· < w.heap.size) d u) : DenDs w [d] [u] := by
  refine ⟨rfl, fun i d' hi => ?_⟩
  cases i with
  | zero => simp at hi; subst hi; exact ⟨u, rfl, h⟩
  | succ n => simp at hi

/-- a type's values are read as data of a plain Lean type -/
structure Reads (P : Program) {H : Type} (B : Bulk H) (t : TypeId) {α : Type} (n : Nat) (en : α → List Dat) (ok : α → Prop) (bk : α → Nat) : Prop where
  size : P.cellsOf t = n
  len : ∀ a, (en a).length = n
  read : ∀ (enc : TypeId × Value → H) (w : World) (fuel : Nat) (cs : List Value) (x : DataW H × List MemPlace), DataW.trod enc P w 0 (fun _ => true) true fuel t cs = some x →
    ∃ a, ok a ∧ DenDs w (en a) cs ∧ bk a ≤ B.b x.1

section
variable {P : Program} {H : Type} {B : Bulk H} {t : TypeId} {α β : Type} {n : Nat} {en : α → List Dat} {ok : α → Prop} {bk : α → Nat}

theorem Reads.to (h : Reads P B t n en ok bk) {en' : β → List Dat} {ok' : β → Prop} {bk' : β → Nat} (f : α → β) (h1 : ∀ a, ok a → ok' (f a) ∧ en' (f a) = en a ∧ bk' (f a) ≤ bk a)
    (hl : ∀ b, (en' b).length = n) : Reads P B t n en' ok' bk' :=
  ⟨h.size, hl, fun enc w fuel cs x hx => by
    obtain ⟨a, h2, h3, h4⟩ := h.read enc w fuel cs x hx
    obtain ⟨h5, h6, h7⟩ := h1 a h2
    exact ⟨f a, h5, by rw [h6]; exact h3, by omega⟩⟩

theorem reads_bool (ht : P.underlying t = some .bool) (hs : P.cellsOf t = 1) : Reads P B t 1 (fun b : Bool => [.v (.bool b)]) (fun _ => True) (fun _ => 1) :=
  ⟨hs, fun _ => rfl, fun enc w fuel cs x hx => by
    obtain ⟨b, rfl, rfl⟩ := DataW.trod_bool ht hx
    exact ⟨b, trivial, denDs_one (by simp [DenD, Value.oneCell']), B.lit _⟩⟩

theorem reads_int {k : IntKind} (ht : P.underlying t = some (.int k)) (hs : P.cellsOf t = 1) : Reads P B t 1 (fun z : Int => [.v (.int k z)]) (fun z => k.min ≤ z ∧ z ≤ k.max) (fun _ => 1) :=
  ⟨hs, fun _ => rfl, fun enc w fuel cs x hx => by
    obtain ⟨z, rfl, rfl, hw⟩ := DataW.trod_int ht hx
    exact ⟨z, by simpa [Lit.wf] using hw, denDs_one (by simp [DenD, Value.oneCell']), B.lit _⟩⟩

theorem reads_nat {k : IntKind} (ht : P.underlying t = some (.int k)) (hs : P.cellsOf t = 1) (hk : k.signed = false) : Reads P B t 1 (fun z : Nat => [.v (.int k z)]) (fun z => z < 2 ^ k.bits) (fun _ => 1) :=
  (reads_int ht hs).to Int.toNat (fun z h => by
    have h1 : (0 : Int) ≤ z := by have := h.1; cases k <;> simp_all [IntKind.min, IntKind.signed]
    have h2 : z.toNat < 2 ^ k.bits := by
      have h3 := h.2
      clear h
      cases k <;> simp [IntKind.max, IntKind.signed, IntKind.bits] at h3 hk ⊢ <;> omega
    exact ⟨h2, by simp [Int.toNat_of_nonneg h1], Nat.le_refl _⟩) (fun _ => rfl)

theorem reads_byte (ht : P.underlying t = some (.int .u8)) (hs : P.cellsOf t = 1) : Reads P B t 1 (fun z : UInt8 => [.v (.int .u8 z.toNat)]) (fun _ => True) (fun _ => 1) :=
  (reads_nat ht hs rfl).to UInt8.ofNat (fun z h => ⟨trivial, by
    have h' : z < 256 := h
    have e : (UInt8.ofNat z).toNat = z := by rw [UInt8.toNat_ofNat']; exact Nat.mod_eq_of_lt h'
    rw [e], Nat.le_refl _⟩) (fun _ => rfl)

theorem reads_string (ht : P.underlying t = some .string) (hs : P.cellsOf t = 1) : Reads P B t 1 (fun s : ByteArray => [.v (.string s)]) (fun _ => True) (fun s => s.size + 1) :=
  ⟨hs, fun _ => rfl, fun enc w fuel cs x hx => by
    obtain ⟨s, rfl, rfl, hw⟩ := DataW.trod_string ht hx
    refine ⟨s, trivial, denDs_one (by simp [DenD, Value.oneCell']), ?_⟩
    show _ ≤ B.b (.lit (.string s.data.toList))
    rw [B.str, Array.length_toList]; exact Nat.le_refl _⟩

/-- the bulk of a list -/
def bulks (bk : α → Nat) : List α → Nat
  | [] => 0
  | x :: xs => bk x + bulks bk xs

theorem bulks_one : ∀ xs : List α, bulks (fun _ => 1) xs = xs.length
  | [] => rfl
  | _ :: xs => by simp [bulks, bulks_one xs]; omega

theorem denRows_of {w : World} {b k : Nat} : ∀ (rs : List (List Dat)) (o : Nat), (∀ r ∈ rs, r.length = k) →
    (∀ (i j : Nat) r d, rs[i]? = some r → r[j]? = some d → ∃ u, cellOf w.heap b (o + i * k + j) = some u ∧ DenD w.heap (· < w.heap.size) d u) → DenRows w.heap (· < w.heap.size) b o k rs := by
  intro rs
  induction rs with
  | nil => intro o _ _; simp [DenRows]
  | cons r rs ih =>
    intro o hl h
    simp only [DenRows]
    refine ⟨hl r (by simp), ?_, ih (o + k) (fun r hr => hl r (by simp [hr])) fun i j r' d hi hj => ?_⟩
    · have h0 : ∀ (j : Nat) d, r[j]? = some d → ∃ u, cellOf w.heap b (o + j) = some u ∧ DenD w.heap (· < w.heap.size) d u := fun j d hj => by
        have := h 0 j r d rfl hj; simpa using this
      clear h ih hl
      induction r generalizing o with
      | nil => simp [DenCs]
      | cons c cs ih =>
        simp only [DenCs]
        refine ⟨by simpa using h0 0 c rfl, ih (o + 1) fun j d hj => ?_⟩
        have := h0 (j + 1) d (by simpa using hj)
        rwa [show o + 1 + j = o + (j + 1) by omega]
    · have := h (i + 1) j r' d (by simpa using hi) hj
      rwa [show o + k + i * k + j = o + (i + 1) * k + j by rw [Nat.succ_mul]; omega]

theorem elems_list {w : World} {enc : TypeId × Value → H} {e : TypeId} {m : Nat} (h : Reads P B e n en ok bk) (a : Addr) : ∀ (elems : List (DataW H × List MemPlace)) (s : Nat),
    (∀ i, i < elems.length → (w.cells? 0 (a.add ((s + i) * n)) n).bind (DataW.trod enc P w 0 (fun _ => true) true m e) = elems[i]?) →
    ∃ xs : List α, xs.length = elems.length ∧ (∀ x ∈ xs, ok x) ∧ bulks bk xs ≤ B.a (elems.map (·.1)) ∧
      ∀ (i : Nat) x, xs[i]? = some x → ∃ cs, w.cells? 0 (a.add ((s + i) * n)) n = some cs ∧ DenDs w (en x) cs := by
  intro elems
  induction elems with
  | nil => intro s _; exact ⟨[], rfl, by simp, by simp [bulks], by simp⟩
  | cons d ds ih =>
    intro s hi
    have h0 := hi 0 (by simp)
    simp only [List.getElem?_cons_zero, Nat.add_zero, Option.bind_eq_some_iff] at h0
    obtain ⟨cs, hc, hd⟩ := h0
    obtain ⟨x, hx, hden, hbk⟩ := h.read enc w m cs d hd
    obtain ⟨xs, h1, h2, h3, h4⟩ := ih (s + 1) (fun i hl => by
      have := hi (i + 1) (by simpa using hl)
      rw [show s + 1 + i = s + (i + 1) by omega]; simpa using this)
    refine ⟨x :: xs, by simp [h1], by simpa using ⟨hx, h2⟩, by simp only [bulks, List.map_cons, B.cons]; omega, fun i y hy => ?_⟩
    cases i with
    | zero => simp at hy; subst hy; exact ⟨cs, by simpa using hc, hden⟩
    | succ i =>
      have := h4 i y (by simpa using hy)
      rwa [show s + 1 + i = s + (i + 1) by omega] at this

theorem reads_slice {e : TypeId} (ht : P.underlying t = some (.slice e)) (hs : P.cellsOf t = 1) (hn : 0 < n) (h : Reads P B e n en ok bk) :
    Reads P B t 1 (fun xs : List α => [.sl n (xs.map en)]) (fun xs => ∀ x ∈ xs, ok x) (fun xs => bulks bk xs + 1) :=
  ⟨hs, fun _ => rfl, fun enc w fuel cs x hx => by
    rcases DataW.trod_slice ht hx with ⟨rfl, rfl⟩ | ⟨a, len, cap, elems, rest, m, _, rfl, rfl, _, hlc, _, hel, hget, _, _⟩
    · exact ⟨[], by simp, denDs_one (by simp [DenD]), by simp [bulks, B.nl]⟩
    · rw [h.size] at hget
      obtain ⟨xs, h1, h2, h3, h4⟩ := elems_list (w := w) (enc := enc) (m := m) h a elems 0 (fun i hi => by simpa using hget i (by omega))
      refine ⟨xs, h2, denDs_one ?_, by show _ ≤ B.b (.slice _ _); rw [B.slice]; omega⟩
      simp only [DenD, List.length_map]
      refine ⟨some a, cap, by rw [h1, hel], by omega, ?_⟩
      cases hxs : xs with
      | nil => exact .inl rfl
      | cons x0 xr =>
        right
        obtain ⟨cs0, hc0, _⟩ := h4 0 x0 (by rw [hxs]; rfl)
        have hlt := World.cells?_block hc0 hn
        obtain ⟨_, hl0, hcell0⟩ := World.cells?_some hc0
        have hcz := hcell0 0 hn
        obtain ⟨v0, hv0⟩ : ∃ v0, cs0[0]? = some v0 := ⟨cs0[0]'(by omega), List.getElem?_eq_getElem _⟩
        rw [hv0] at hcz
        simp only [Nat.zero_add, Nat.zero_mul, Addr.add, if_true] at hcz hlt
        have hspot : a.spot = none := by
          cases hsp : a.spot with
          | none => rfl
          | some s => simp only [World.cell?] at hcz; split at hcz <;> simp [hsp] at hcz
        have ha : a = ⟨a.block, a.off, none⟩ := by cases a; simp_all
        refine ⟨a.block, a.off, by rw [← ha], hlt, ?_⟩
        rw [← hxs]
        refine denRows_of _ _ (by simp [h.len]) fun i j r d hi hj => ?_
        simp only [List.getElem?_map, Option.map_eq_some_iff] at hi
        obtain ⟨x', hx', rfl⟩ := hi
        obtain ⟨cs', hc', hden⟩ := h4 i x' hx'
        obtain ⟨u, hu, hd⟩ := hden.2 j d hj
        refine ⟨u, ?_, hd⟩
        obtain ⟨_, hl', hcell'⟩ := World.cells?_some hc'
        have hj' : j < n := by have := (List.getElem?_eq_some_iff.1 hu).1; omega
        have := hcell' j hj'
        rw [← hu, ← this, ← cellOf_world]
        congr 1
        rw [ha]
        simp only [Addr.add, Nat.zero_add]
        by_cases h0 : i * n = 0 <;> by_cases h00 : j = 0 <;> simp [h0, h00] <;> omega⟩

/-- a struct's fields, from one on -/
structure ReadsF (P : Program) {H : Type} (B : Bulk H) (fs : List Field) (off : Nat) {α : Type} (n : Nat) (en : α → List Dat) (ok : α → Prop) (bk : α → Nat) : Prop where
  len : ∀ a, (en a).length = n
  read : ∀ (enc : TypeId × Value → H) (w : World) (fuel : Nat) (cs : List Value) (xs : List (DataW H × List MemPlace)), off + n ≤ cs.length → xs.length = fs.length →
    (∀ (i : Nat) (f : Field), fs[i]? = some f → DataW.trod enc P w 0 (fun _ => true) true fuel f.type ((cs.drop f.offset).take (P.cellsOf f.type)) = xs[i]?) →
    ∃ a, ok a ∧ DenDs w (en a) ((cs.drop off).take n) ∧ bk a ≤ B.a (xs.map (·.1))

theorem readsF_nil {off : Nat} : ReadsF P B [] off 0 (fun _ : Unit => []) (fun _ => True) (fun _ => 0) :=
  ⟨fun _ => rfl, fun enc w fuel cs xs _ _ _ => ⟨(), trivial, ⟨by simp, by simp⟩, Nat.zero_le _⟩⟩

theorem readsF_cons {f : Field} {fs : List Field} {off m : Nat} {en' : β → List Dat} {ok' : β → Prop} {bk' : β → Nat} (h : Reads P B f.type n en ok bk) (ho : f.offset = off)
    (h' : ReadsF P B fs (off + n) m en' ok' bk') : ReadsF P B (f :: fs) off (n + m) (fun x : α × β => en x.1 ++ en' x.2) (fun x => ok x.1 ∧ ok' x.2) (fun x => bk x.1 + bk' x.2) :=
  ⟨fun a => by simp [h.len, h'.len], fun enc w fuel cs xs hl hx hr => by
    cases xs with
    | nil => simp at hx
    | cons d ds =>
      have h0 := hr 0 f rfl
      simp only [List.getElem?_cons_zero, h.size, ho] at h0
      obtain ⟨a, ha, hden, hbk⟩ := h.read enc w fuel _ d h0
      obtain ⟨b, hb, hden', hbk'⟩ := h'.read enc w fuel cs ds (by omega) (by simpa using hx) (fun i g hg => by have := hr (i + 1) g (by simpa using hg); simpa using this)
      refine ⟨(a, b), ⟨ha, hb⟩, ?_, by simp only [List.map_cons, B.cons]; omega⟩
      have e : (cs.drop off).take (n + m) = (cs.drop off).take n ++ (cs.drop (off + n)).take m := by
        rw [List.take_add, List.drop_drop]
      rw [e]
      exact denDs_append hden hden'⟩

theorem reads_struct {fs : Array Field} (ht : P.underlying t = some (.struct fs)) (hs : P.cellsOf t = n) (h : ReadsF P B fs.toList 0 n en ok bk) : Reads P B t n en ok (fun a => bk a + 1) :=
  ⟨hs, h.len, fun enc w fuel cs x hx => by
    obtain ⟨xs, m, rfl, rfl, hl, hxl, hr⟩ := DataW.trod_struct ht hx
    obtain ⟨a, ha, hden, hbk⟩ := h.read enc w m cs xs (by omega) (by simpa using hxl) (fun i f hf => hr i f (by simpa using hf))
    refine ⟨a, ha, ?_, by show _ ≤ B.b (.agg _); rw [B.agg]; omega⟩
    rwa [List.drop_zero, List.take_of_length_le (by omega)] at hden⟩

end
end Go.Dk

/-
  Dk, part Re: the row of a law: from its contract to what its statement says.
-/
namespace Go.Dk
open Go.ChangeShapes Go.RowKit
set_option autoImplicit false

/-- what was there is there -/
structure Quiet (W W' : World) : Prop where
  os : W'.os = W.os
  output : W'.output = W.output
  block : ∀ i, i < W.heap.size → W'.heap[i]? = W.heap[i]?

theorem Quiet.kept {W W' : World} (h : Quiet W W') (may : MemPlace → Prop) : W.keptBut W' may := by
  refine ⟨h.os, h.output, fun i hi => ?_⟩
  rw [h.block i hi]
  split <;> simp_all

theorem Quiet.same {W W' : World} (h : Quiet W W') {p : MemPlace} (hp : p.block < W.heap.size) : W.sameAt W' p := by
  cases p with
  | cell b o => exact World.cell?_of_block (w := W) (h.block b hp)
  | map b => exact h.block b hp

section
variable {H : Type} {enc : TypeId × Value → H} {P : Program}

theorem Quiet.trodAll {W W' : World} (hq : Quiet W W') (hl : laidOutB P = true) : ∀ (ts : List TypeId) (vs : List Value) (ds : List (DataW H)) (ps : List MemPlace),
    (∀ t ∈ ts, P.readableRec t = true ∧ t < P.types.size) → DataW.TrodAll enc P W 0 (fun _ => true) true ts vs ds ps →
    DataW.TrodAll enc P W' 0 (fun b => decide (b < W.heap.size)) true ts vs ds ps := by
  intro ts
  induction ts with
  | nil =>
    intro vs ds ps _ h
    obtain ⟨rfl, rfl, rfl⟩ := trodAll_nil h
    exact rfl
  | cons t ts ih =>
    intro vs ds ps ht h
    obtain ⟨v, vs1, d, ds1, a, b, rfl, rfl, rfl, h1, h2⟩ := trodAll_cons h
    have hlt : ∀ x ∈ a, x.block < W.heap.size := by obtain ⟨n, hn⟩ := h1; exact DataW.trod_lt n t _ _ hn
    exact ⟨a, b, WideElems.Trod_stays hl (ht t (by simp)).1 (ht t (by simp)).2 h1 (fun x hx => hq.same (hlt x hx)) (fun x hx => by simpa using hlt x hx), ih _ _ _ (fun t h => ht t (by simp [h])) h2, rfl⟩

def envOf (W : World) : Env := ⟨W.heap, fun _ => ⟨0, 0, 0⟩, (· < W.heap.size), fun _ => False, W.os, W.output⟩

theorem calls_of_con {f : FuncId} {fn : Func} (hfn : P.funcs[f]? = some fn) (hb : fn.body.isSome = true) (hname : (fn.name == "runtime.NumGoroutine") = false) {c : Con} (hc : c.ok P f) (hH : c.H = [])
    (hret : c.ret = .v (.bool true)) (W : World) (args : Array Value) (hden : DenL (envOf W) c.args args.toList) :
    Calls P f args W fun e W' => e = .returned (.bool true) ∧ Quiet W W' := by
  let C : Ctx := ⟨W, fun _ => False, (· < W.heap.size), fun _ => ⟨0, 0, 0⟩, c.keep, [], fun _ => False⟩
  have hR : Rel C (envOf W) c.H := by
    rw [hH]
    exact ⟨Nat.le_refl _, fun b _ _ => rfl, rfl, fun b hb => ⟨hb, fun h => h⟩, fun b hb => hb.elim, fun _ _ => rfl, fun id b h => by simp [find] at h, fun id b h => by simp [find] at h,
      fun id b id' b' h => by simp [find] at h, fun D h => h.elim, ⟨rfl, rfl⟩⟩
  have h := hc.holds C (envOf W) args.toList rfl (by rw [hH]; rfl) (fun b hb => hb) ⟨rfl, rfl, rfl⟩ hR hden
  have fin : ∀ (e : Ending) (W' : World), (∃ u E', e = .returned u ∧ E'.At W' ∧ Rel C E' c.H' ∧ Den E' c.ret u) → e = .returned (.bool true) ∧ Quiet W W' := by
    rintro e W' ⟨u, E', rfl, hAt, hR', hd⟩
    rw [hret] at hd
    simp only [Den] at hd
    subst hd
    exact ⟨rfl, hAt.2.1.symm.trans hR'.os.1, hAt.2.2.symm.trans hR'.os.2, fun i hi => by rw [← hAt.1]; exact hR'.frame i hi (fun h => h)⟩
  rcases h with ⟨_, h⟩ | ⟨v, w', h, _⟩
  · exact (by simpa using h : Calls P f args W _).mono fin
  · obtain ⟨code, hcode⟩ := Option.isSome_iff_exists.1 hb
    exfalso
    simp only [callFunc, run_program, Sem.run_bind, Result.andThen_ok, hfn, hname, Bool.false_eq_true, if_false, hcode, Option.isNone_some, Sem.run_pure] at h
    simp at h

theorem law_calls {f : FuncId} {fn : Func} {s : ChangeSpec} {bt : TypeId} (hl : laidOutB P = true) (hts : ∀ t ∈ fn.params.toList, P.readableRec t = true ∧ t < P.types.size)
    (hfn : P.funcs[f]? = some fn) (hb : fn.body.isSome = true) (hname : (fn.name == "runtime.NumGoroutine") = false) (hres : fn.resultTypes = #[bt]) (hbt : P.underlying bt = some .bool) (hv : s.vars = [])
    {W : World} {args : Array Value} {ds gs : List (DataW H)} {before : List MemPlace} (hs : s.fn H ds = { results := [.lit (.bool true)], args := ds })
    (hW : DataW.Whole enc P fn.params.toList s.vars false W args.toList ds gs before) {c : Con} (hc : c.ok P f) (hH : c.H = []) (hret : c.ret = .v (.bool true)) (hden : DenL (envOf W) c.args args.toList) :
    Calls P f args W fun e W' => ∃ v, e = .returned v ∧ s.post enc P fn false true false false W args v W' := by
  refine (calls_of_con hfn hb hname hc hH hret W args hden).mono ?_
  rintro e W' ⟨rfl, hq⟩
  refine ⟨_, rfl, ?_⟩
  have hW' := hW
  obtain ⟨p, q, hA, hV, rfl, hfz, hnd⟩ := hW
  rw [hv] at hV
  obtain ⟨rfl, rfl⟩ := trodVars_none hV
  refine ⟨ds, [], p ++ [], [], p, [], hW', ?_, ?_, ?_, hq.kept _, fun h => by cases h⟩
  · rw [List.append_nil, hs, hres]
    exact trodAll_cons_mk (shut_bool hbt _) trodAll_mk0
  · rw [List.append_nil, hs]
    exact hq.trodAll hl _ _ _ _ hts hA
  · rw [List.append_nil, hs, hv]
    rfl

theorem okWide_cells {t : TypeId} {d : TypeDesc} {W : World} {r : Reach} {base : Nat} {v : Value} (hu : P.underlying t = some d) (hd : match d with | .struct _ => False | .array _ _ => False | _ => True)
    (hval : Value.okWide P W r base t v) : v.cells = #[v] := by
  cases v with
  | agg cs => exfalso; unfold Value.okWide at hval; rw [hu] at hval; cases d <;> simp_all [Cell.okWide, Cell.ok]
  | _ => rfl

variable {B : Bulk H} {t : TypeId} {α : Type} {n : Nat} {en : α → List Dat} {ok : α → Prop} {bk : α → Nat}

theorem den_of_dat {W : World} {d : Dat} {u : Value} (h : DenD W.heap (· < W.heap.size) d u) : Den (envOf W) (d.av false) u := by
  cases d with
  | v x => simp only [DenD] at h; simpa [Dat.av, Den] using h.1
  | sl k xs =>
    simp only [Dat.av, Den]
    exact DenD.mono (fun b hb => ⟨.inl hb, rfl⟩) _ _ h

/-- an argument of one cell -/
theorem arg_one (h : Reads P B t 1 en ok bk) {d : TypeDesc} (hu : P.underlying t = some d) (hd : match d with | .struct _ => False | .array _ _ => False | _ => True)
    {W : World} {r : Reach} {base : Nat} {v : Value} {x : DataW H} {p : List MemPlace} (hval : Value.okWide P W r base t v) (ht : DataW.Trod enc P W 0 (fun _ => true) true t v x p) :
    ∃ a, ok a ∧ bk a ≤ B.b x ∧ ∀ dd, en a = [dd] → Den (envOf W) (dd.av false) v := by
  obtain ⟨fuel, hf⟩ := ht
  rw [okWide_cells hu hd hval] at hf
  obtain ⟨a, h1, h2, h3⟩ := h.read enc W fuel _ _ hf
  refine ⟨a, h1, h3, fun dd hdd => ?_⟩
  rw [hdd] at h2
  obtain ⟨u, hu, hd⟩ := h2.2 0 dd rfl
  simp at hu; subst hu
  exact den_of_dat hd

/-- an argument that is a struct -/
theorem arg_struct (h : Reads P B t n en ok bk) {fs : Array Field} (hu : P.underlying t = some (.struct fs)) {W : World} {r : Reach} {base : Nat} {v : Value} {x : DataW H} {p : List MemPlace}
    (hval : Value.okWide P W r base t v) (ht : DataW.Trod enc P W 0 (fun _ => true) true t v x p) :
    ∃ a, ok a ∧ bk a ≤ B.b x ∧ Den (envOf W) (.agg ((en a).map (Dat.av false))) v := by
  obtain ⟨fuel, hf⟩ := ht
  unfold Value.okWide at hval
  rw [hu] at hval
  obtain ⟨cs, rfl, _, _⟩ := hval
  obtain ⟨a, h1, h2, h3⟩ := h.read enc W fuel _ _ hf
  refine ⟨a, h1, h3, ?_⟩
  simp only [Den]
  refine ⟨cs.toList, by simp, denL_iff.2 ⟨by rw [List.length_map, h2.1]; rfl, fun i y hy => ?_⟩⟩
  simp only [List.getElem?_map, Option.map_eq_some_iff] at hy
  obtain ⟨d, hd, rfl⟩ := hy
  obtain ⟨u, hu, hdu⟩ := h2.2 i d hd
  exact ⟨u, hu, den_of_dat hdu⟩

end
end Go.Dk
