/-
  An abstract machine beside the model: parts DkU, DkLb, DkM, DkN, DkO, DkP, DkQ, DkR, DkS, DkT, DkV, DkW, DkX, DkY, DkZ, DkZa, DkZb, DkZc, DkZd.
-/
import Derived.Test.YtjmkgpkgagohoaaDk1
import Derived.Eval
import Derived.Laws.ResultCell
import Derived.RangeFuncLeaves
import Derived.RangeFuncRecord
set_option linter.all false

/-
  Dk, part U: a region that draws the order of its operations: shown once in the order of the text, for every order that its edges allow.
-/
namespace Go.Dk
set_option autoImplicit false
set_option linter.unusedSectionVars false
set_option linter.unusedVariables false
set_option linter.unusedSimpArgs false

/-- the plan of one operation: where its operands come from, what comes ahead of it, does it act on memory, at which stages it may run -/
structure Pl where
  args : List (Nat × Option Nat)
  anc : List Nat
  eff : Bool
  at_ : List Nat
  deriving Inhabited

/-- one operation in a state, or left out by its guard -/
def stepD (P : Program) (keep ent : List Nat) (ops : Array Oper) (o : Oper) (env : List (Nat × AV)) (H : Mem) (x : AV) (H' : Mem) (scr : List Nat) : Prop :=
  (∃ want : Bool, (match o.guard with
      | none => want = true
      | some (g, b) => ∃ d c, (ops[g]?).bind (·.dst) = some d ∧ look env d = .v (.bool c) ∧ want = (c == b)) ∧
    match want with
    | false => x = .any ∧ H' = H ∧ scr = []
    | true => (∃ s, evalOp P keep env H o = some ⟨x, H', s⟩ ∧ scr = s.toList) ∨
        (∃ c fo t caps, o.op = .call c ∧ c.callee = .value fo ∧ tgtOf (getA env fo) = some (t, caps) ∧ CallGives P keep ent H t (c.args.toList.map (getA env) ++ caps) x H' scr))

section
variable {F : Fun} {C : Ctx}

theorem stepD_sound {r : Option Nat} {ops : Array Oper} {o : Oper} {env : List (Nat × AV)} {H H' : Mem} {x : AV} {scr : List Nat} {a : Act} {w : World} {E : Env} {i : Nat} {Q : Exit → Act → World → Prop} {next : Act → World → Prop}
    (hk : F.keep = C.keep) (he : F.ent = C.ent) (hW : E.At w) (hR : Rel C E H) (hd : ∀ t, Den E (look env t) (a.tmps.getD t undef)) (hi : ops[i]? = some o)
    (h : stepD F.P F.keep F.ent ops o env H x H' scr)
    (hn : ∀ v w' E', E'.At w' → Rel C E' H' → E.Le E' (fun j => j ∉ scr) → Den E' x v → next (a.put o.dst v) w') : wpOpIn (FW r) 0 F.P ops Q i next a w := by
  have hw := hW.1
  obtain ⟨want, hwant, h⟩ := h
  have hg := getA_den hd
  have hw' : Region.wanted o (yielded ops a.tmps) = want := by
    cases hgd : o.guard with
    | none => rw [hgd] at hwant; simp [Region.wanted, hgd, hwant]
    | some p =>
      obtain ⟨g, b⟩ := p
      rw [hgd] at hwant
      obtain ⟨d, c, h1, h2, rfl⟩ := hwant
      have h3 := hd d
      rw [h2] at h3; simp only [Den] at h3
      have h4 : a.tmps[d]? = some (.bool c) := by
        rw [Array.getD_eq_getD_getElem?] at h3
        cases hh : a.tmps[d]? with
        | none => rw [hh] at h3; simp [undef] at h3
        | some v => rw [hh] at h3; simp at h3; rw [h3]
      have h5 : yielded ops a.tmps g = some c := by simp [yielded, h1, h4]
      simp only [Region.wanted, hgd, h5]
      cases c <;> cases b <;> rfl
  unfold wpOpIn
  rw [hi]
  dsimp only
  rw [hw']
  cases want with
  | false =>
    obtain ⟨rfl, rfl, rfl⟩ := h
    simp only [Bool.false_eq_true, if_false]
    exact ⟨fun f _ => trivial, hn undef w E hW hR (Env.Le.refl _ _) (by simp [Den])⟩
  | true =>
    simp only [if_true]
    refine ⟨fun f _ => trivial, ?_⟩
    rcases h with ⟨s, hev, rfl⟩ | ⟨c, fo, t, caps, hop, hcal, hf, hcall⟩
    · have hndef : ∀ c, o.op ≠ .defer c := by
        intro c hc
        unfold evalOp at hev
        rw [hc] at hev; simp at hev
      rw [show (FW r).round = r from rfl, Oper.semAt_eq r _ o hndef]
      obtain ⟨v, w', E', hrun, h1, h2, h3, h4⟩ := evalOp_sound hk hR hW hg hev
      have hle : E.Le E' (fun i => i ∉ s.toList) := ⟨h3.s0, h3.s1, fun i hi => h3.at_ i (by
        cases s with
        | none => simp
        | some j => simp at hi; simpa using hi)⟩
      rcases hrun with hrun | ⟨hrun, rfl⟩
      · rw [hrun]; exact hn v w' E' h1 h2 hle h4
      · rw [hrun]; exact hn undef w' E' h1 h2 hle h4
    · obtain ⟨us, hdus, hup⟩ := tgt_run (P := F.P) hf (hg fo)
      have hargs : DenL E (c.args.toList.map (getA env) ++ caps) (c.args.toList.map a.eval ++ us) := by
        have h1 := denL_iff.1 (denL_map hg c.args.toList)
        have h2 := denL_iff.1 hdus
        rw [denL_iff]
        refine ⟨by simp [h2.1], fun i y hy => ?_⟩
        rw [List.getElem?_append] at hy ⊢
        simp only [List.length_map] at hy ⊢
        split at hy
        · rename_i hi; rw [if_pos hi]; exact h1.2 i y hy
        · rename_i hi; rw [if_neg hi]; exact h2.2 _ y hy
      rw [show (FW r).round = r from rfl, Oper.semAt_eq r _ o (by rw [hop]; intro c; simp)]
      refine hup hop hcal rfl (Tgt.calls_mono (hcall C E w _ hk.symm he.symm hR hW hargs) ?_)
      rintro e w' ⟨u, E', rfl, h1, h2, h3, h4⟩
      exact ⟨u, rfl, hn u w' E' h1 h2 h3 h4⟩

/-- what the plan must be, whatever the values -/
structure PlanOk (ops : Array Oper) (pl : Nat → Pl) (es : List Nat) (fin : List (Nat × Option Nat)) : Prop where
  back : ∀ (j : Nat) o, ops[j]? = some o → ∀ e ∈ o.after, Region.binds .any e = true → e.on < j
  anc : ∀ (j : Nat) o, ops[j]? = some o → ∀ a ∈ (pl j).anc, ∃ e ∈ o.after, Region.binds .any e = true ∧ (e.on = a ∨ a ∈ (pl e.on).anc)
  effs : ∀ j, j < ops.size → ((pl j).eff = true ↔ j ∈ es)
  order : ∀ (r s e j : Nat), r < s → es[r]? = some e → es[s]? = some j → e ∈ (pl j).anc
  esin : ∀ e ∈ es, e < ops.size
  args : ∀ (j t : Nat) wr, j < ops.size → (t, wr) ∈ (pl j).args → (∀ i, wr = some i → i ∈ (pl j).anc ∧ (ops[i]?).bind (·.dst) = some t) ∧
    ∀ (i : Nat) oi, ops[i]? = some oi → oi.dst = some t → i ≠ j → (wr = some i ∨ j ∈ (pl i).anc ∨ ∃ i', wr = some i' ∧ i < i')
  same : ∀ (i j t : Nat) oi oj, ops[i]? = some oi → ops[j]? = some oj → oi.dst = some t → oj.dst = some t → i ≠ j → i ∈ (pl j).anc ∨ j ∈ (pl i).anc
  fin : ∀ (t : Nat) wr, (t, wr) ∈ fin → (∀ i, wr = some i → (ops[i]?).bind (·.dst) = some t) ∧ ∀ (i : Nat) oi, ops[i]? = some oi → oi.dst = some t → (wr = some i ∨ ∃ i', wr = some i' ∧ i < i')
  at_ : ∀ (j k : Nat), j < ops.size → (pl j).eff = false → k ≤ es.length → (∀ (r e : Nat), es[r]? = some e → e ∈ (pl j).anc → r < k) → (∀ (r e : Nat), es[r]? = some e → j ∈ (pl e).anc → k ≤ r) → k ∈ (pl j).at_
  dsts : ∀ (j : Nat) o t, ops[j]? = some o → o.dst = some t → t < F.n

def valD (env : List (Nat × AV)) (X : Nat → AV) (t : Nat) : Option Nat → AV
  | none => look env t
  | some i => X i
def envD (env : List (Nat × AV)) (X : Nat → AV) (args : List (Nat × Option Nat)) : List (Nat × AV) := args.map fun p => (p.1, valD env X p.1 p.2)

/-- a value that an operation ahead of it in time can't have made stale -/
def okD (pl : Nat → Pl) (scr : Nat → List Nat) (e : Nat) (wr : Option Nat) (x : AV) : Prop :=
  (∃ i, wr = some i ∧ (e = i ∨ e ∈ (pl i).anc)) ∨ ∀ s ∈ scr e, x.has s = false

theorem look_envD {env : List (Nat × AV)} {X : Nat → AV} : ∀ (args : List (Nat × Option Nat)) (t : Nat), look (envD env X args) t = .any ∨ ∃ wr, (t, wr) ∈ args ∧ look (envD env X args) t = valD env X t wr := by
  intro args
  induction args with
  | nil => intro t; exact .inl rfl
  | cons p r ih =>
    intro t
    obtain ⟨i, wr⟩ := p
    simp only [envD, List.map_cons, look]
    by_cases hi : i = t
    · subst hi; right; exact ⟨wr, by simp, by simp⟩
    · have hb : (i == t) = false := by simpa using hi
      rw [hb]
      simp only [Bool.false_eq_true, if_false]
      rcases ih t with h | ⟨wr', h1, h2⟩
      · exact .inl h
      · exact .inr ⟨wr', by simp [h1], h2⟩

set_option maxHeartbeats 1000000 in
theorem draw_any {r : Option Nat} {ops : Array Oper} {pl : Nat → Pl} {es : List Nat} {fin : List (Nat × Option Nat)} (ok : PlanOk (F := F) ops pl es fin) {env : List (Nat × AV)} {X : Nat → AV} {stage : Nat → Mem} {scr : Nat → List Nat}
    (hk : F.keep = C.keep) (hent : F.ent = C.ent)
    (hstale : ∀ (j t : Nat) wr, j < ops.size → (t, wr) ∈ (pl j).args → ∀ e ∈ es, e ≠ j → j ∉ (pl e).anc → okD pl scr e wr (valD env X t wr))
    (hfin : ∀ (t : Nat) wr, (t, wr) ∈ fin → ∀ e ∈ es, okD pl scr e wr (valD env X t wr))
    (hflo : ∀ (j : Nat) o, ops[j]? = some o → (pl j).eff = false → ∀ k ∈ (pl j).at_, stepD F.P F.keep F.ent ops o (envD env X (pl j).args) (stage k) (X j) (stage k) [])
    (heff : ∀ (k e : Nat) o, es[k]? = some e → ops[e]? = some o → stepD F.P F.keep F.ent ops o (envD env X (pl e).args) (stage k) (X e) (stage (k + 1)) (scr e))
    {Q : Exit → Act → World → Prop} (hQ : ∀ a w, St F C a w ⟨envD env X fin, stage es.length⟩ → Q .normal a w) :
    ∀ (fuel : Nat) (listed : Array Bool) (a : Act) (w : World) (k : Nat), listed.size = ops.size → (listed.toList.filter (! ·)).length ≤ fuel →
      (∀ (j : Nat) o, ops[j]? = some o → listed.getD j false = true → ∀ e ∈ o.after, Region.binds .any e = true → listed.getD e.on false = true) →
      k ≤ es.length → (∀ (s e : Nat), es[s]? = some e → (listed.getD e false = true ↔ s < k)) →
      a.tmps.size = F.n →
      (∃ E : Env, E.At w ∧ Rel C E (stage k) ∧ Dfr F.nod C.M E a.defers ∧ ∀ (t : Nat) wr, (∀ i, wr = some i → listed.getD i false = true ∧ (ops[i]?).bind (·.dst) = some t) →
        (∀ (i : Nat) oi, ops[i]? = some oi → oi.dst = some t → listed.getD i false = true → (wr = some i ∨ ∃ i', wr = some i' ∧ i < i')) →
        (∀ e ∈ es, listed.getD e false = true → okD pl scr e wr (valD env X t wr)) → Den E (valD env X t wr) (a.tmps.getD t undef)) →
      wpAnyIn (FW r) 0 F.P .any ops Q fuel listed a w := by
  -- what comes ahead is listed
  have ancin : ∀ (listed : Array Bool), (∀ (j : Nat) o, ops[j]? = some o → listed.getD j false = true → ∀ e ∈ o.after, Region.binds .any e = true → listed.getD e.on false = true) →
      ∀ (n j : Nat), j < n → ∀ o, ops[j]? = some o → (∀ e ∈ o.after, Region.binds .any e = true → listed.getD e.on false = true) → ∀ a ∈ (pl j).anc, listed.getD a false = true ∧ a < j := by
    intro listed hdown n
    induction n with
    | zero => intro j hj; omega
    | succ n ih =>
      intro j hj o ho hpre a ha
      obtain ⟨e, he, hb, hcase⟩ := ok.anc j o ho a ha
      have hl := hpre e he hb
      have hlt := ok.back j o ho e he hb
      rcases hcase with rfl | hin
      · exact ⟨hl, hlt⟩
      · cases ho2 : ops[e.on]? with
        | none =>
          have hjs : j < ops.size := (Array.getElem?_eq_some_iff.1 ho).1
          have := Array.getElem?_eq_none_iff.1 ho2
          omega
        | some o2 =>
          have := ih e.on (by omega) o2 ho2 (hdown e.on o2 ho2 hl) a hin
          exact ⟨this.1, by omega⟩
  intro fuel
  induction fuel with
  | zero =>
    intro listed a w k hsz hcount hdown hkle hks htm hmem
    have hall : ∀ j, j < ops.size → listed.getD j false = true := by
      intro j hj
      have h0 : listed.toList.filter (! ·) = [] := List.length_eq_zero_iff.1 (by omega)
      have hmemb : listed[j]'(by omega) ∈ listed.toList := by simp
      have := List.filter_eq_nil_iff.1 h0 _ hmemb
      simp at this
      rw [Array.getD_eq_getD_getElem?, Array.getElem?_eq_getElem (by omega), this]; rfl
    have hready : Region.ready .any ops listed = [] := by
      unfold Region.ready
      rw [List.filter_eq_nil_iff]
      intro j hj
      have hj' : j < ops.size := by simpa using hj
      have := hall j hj'
      rw [Array.getD_eq_getD_getElem?] at this
      have h2 : listed.getD j true = true := by
        rw [Array.getD_eq_getD_getElem?]
        cases hh : listed[j]? with
        | none => rw [hh] at this; simp at this
        | some b => rw [hh] at this; simpa using this
      simp [h2]
    refine ⟨hready, hQ a w ?_⟩
    have hkm : k = es.length := by
      rcases Nat.lt_or_ge k es.length with hlt | hge
      · have h1 := (hks k es[k] (List.getElem?_eq_getElem hlt)).1 (hall _ (ok.esin _ (List.getElem_mem hlt)))
        omega
      · omega
    subst hkm
    obtain ⟨E, hw, hR, hD, hden⟩ := hmem
    refine ⟨hk, hent, htm, E, hw, hR, hD, fun t => ?_⟩
    rcases look_envD (env := env) (X := X) fin t with h | ⟨wr, h1, h2⟩
    · rw [h]; simp [Den]
    · simp only [h2]
      obtain ⟨h3, h4⟩ := ok.fin t wr h1
      refine hden t wr (fun i hi => ⟨?_, h3 i hi⟩) (fun i oi ho hd _ => h4 i oi ho hd) (fun e he _ => hfin t wr h1 e he)
      refine hall i ?_
      have := h3 i hi
      cases ho : ops[i]? with
      | none => rw [ho] at this; simp at this
      | some o => exact (Array.getElem?_eq_some_iff.1 ho).1
  | succ fuel ih =>
    intro listed a w k hsz hcount hdown hkle hks htm hmem
    refine ⟨fun hready => ?_, ?_⟩
    · -- nothing is ready: all is listed
      have hall : ∀ n j, j < n → j < ops.size → listed.getD j false = true := by
        intro n
        induction n with
        | zero => intro j hj; omega
        | succ n ihn =>
          intro j hj hjs
          cases hl : listed.getD j false with
          | true => rfl
          | false =>
            exfalso
            have hmemr : j ∈ Region.ready .any ops listed := by
              rw [mem_ready]
              refine ⟨?_, ops[j], Array.getElem?_eq_getElem hjs, fun e he hb => ?_⟩
              · rw [Array.getD_eq_getD_getElem?] at hl ⊢
                rw [Array.getElem?_eq_getElem (by omega)] at hl ⊢
                simpa using hl
              · have := ok.back j _ (Array.getElem?_eq_getElem hjs) e he hb
                exact ihn e.on (by omega) (by omega)
            rw [hready] at hmemr; cases hmemr
      refine hQ a w ?_
      have hall' : ∀ j, j < ops.size → listed.getD j false = true := fun j hj => hall (j + 1) j (by omega) hj
      have hkm : k = es.length := by
        rcases Nat.lt_or_ge k es.length with hlt | hge
        · have h1 := (hks k es[k] (List.getElem?_eq_getElem hlt)).1 (hall' _ (ok.esin _ (List.getElem_mem hlt)))
          omega
        · omega
      subst hkm
      obtain ⟨E, hw, hR, hD, hden⟩ := hmem
      refine ⟨hk, hent, htm, E, hw, hR, hD, fun t => ?_⟩
      rcases look_envD (env := env) (X := X) fin t with h | ⟨wr, h1, h2⟩
      · rw [h]; simp [Den]
      · simp only [h2]
        obtain ⟨h3, h4⟩ := ok.fin t wr h1
        refine hden t wr (fun i hi => ⟨?_, h3 i hi⟩) (fun i oi ho hd _ => h4 i oi ho hd) (fun e he _ => hfin t wr h1 e he)
        refine hall' i ?_
        have := h3 i hi
        cases ho : ops[i]? with
        | none => rw [ho] at this; simp at this
        | some o => exact (Array.getElem?_eq_some_iff.1 ho).1
    · intro j hj
      rw [mem_ready] at hj
      obtain ⟨hnl, o, ho, hpre⟩ := hj
      have hjs : j < ops.size := (Array.getElem?_eq_some_iff.1 ho).1
      have hnl' : listed.getD j false = false := by
        rw [Array.getD_eq_getD_getElem?] at hnl ⊢
        rw [Array.getElem?_eq_getElem (by omega)] at hnl ⊢
        simpa using hnl
      have hanc := ancin listed hdown (j + 1) j (by omega) o ho hpre
      -- whoever has j ahead of it is not listed
      have hdesc : ∀ i, listed.getD i false = true → j ∉ (pl i).anc := by
        intro i hi hin
        cases hoi : ops[i]? with
        | none =>
          rw [Array.getD_eq_getD_getElem?] at hi
          have := Array.getElem?_eq_none_iff.1 hoi
          rw [Array.getElem?_eq_none (by omega)] at hi; simp at hi
        | some oi =>
          have := (ancin listed hdown (i + 1) i (by omega) oi hoi (hdown i oi hoi hi) j hin).1
          rw [hnl'] at this; cases this
      obtain ⟨E, hw, hR, hD, hden⟩ := hmem
      -- the operands
      have hops : ∀ t, Den E (look (envD env X (pl j).args) t) (a.tmps.getD t undef) := by
        intro t
        rcases look_envD (env := env) (X := X) (pl j).args t with h | ⟨wr, h1, h2⟩
        · rw [h]; simp [Den]
        · rw [h2]
          obtain ⟨h3, h4⟩ := ok.args j t wr hjs h1
          refine hden t wr (fun i hi => ⟨(hanc i (h3 i hi).1).1, (h3 i hi).2⟩) ?_ ?_
          · intro i oi hoi hdi hli
            have hne : i ≠ j := by rintro rfl; rw [hnl'] at hli; cases hli
            rcases h4 i oi hoi hdi hne with h | h | h
            · exact .inl h
            · exact absurd h (hdesc i hli)
            · exact .inr h
          · intro e he hle
            have hne : e ≠ j := by rintro rfl; rw [hnl'] at hle; cases hle
            exact hstale j t wr hjs h1 e he hne (hdesc e hle)
      have hget : ∀ i, (listed.setIfInBounds j true).getD i false = if i = j then true else listed.getD i false := by
        intro i
        by_cases hi : i = j
        · subst hi
          rw [if_pos rfl, Array.getD_eq_getD_getElem?, Array.getElem?_setIfInBounds_self, if_pos (by omega)]; rfl
        · rw [if_neg hi, Array.getD_eq_getD_getElem?, Array.getElem?_setIfInBounds_ne (fun e => hi e.symm), ← Array.getD_eq_getD_getElem?]
      have hcnt : ((listed.setIfInBounds j true).toList.filter (! ·)).length ≤ fuel := by
        have key : ∀ (l : List Bool) (j : Nat), l[j]? = some false → ((l.set j true).filter (! ·)).length + 1 = (l.filter (! ·)).length := by
          intro l
          induction l with
          | nil => intro j h; simp at h
          | cons b l ih =>
            intro j h
            cases j with
            | zero => simp at h; subst h; simp
            | succ j =>
              have := ih j (by simpa using h)
              cases b <;> simp [this] <;> omega
        have h1 : listed.toList[j]? = some false := by
          rw [Array.getElem?_toList]
          rw [Array.getD_eq_getD_getElem?] at hnl'
          rw [Array.getElem?_eq_getElem (by omega)] at hnl' ⊢
          simpa using hnl'
        have h2 := key _ _ h1
        rw [Array.toList_setIfInBounds]; omega
      -- behind the step
      have hnext : ∀ (k' : Nat) (sc : List Nat) v w' E', k' ≤ es.length → (∀ (s e : Nat), es[s]? = some e → ((listed.setIfInBounds j true).getD e false = true ↔ s < k')) → (j ∈ es → scr j = sc) → (j ∉ es → sc = []) →
          E'.At w' → Rel C E' (stage k') → E.Le E' (fun i => i ∉ sc) → Den E' (X j) v → wpAnyIn (FW r) 0 F.P .any ops Q fuel (listed.setIfInBounds j true) (a.put o.dst v) w' := by
        intro k' sc v w' E' hk'le hks' hsc hsc0 hw' hR' hle hv
        refine ih _ _ _ k' (by simpa using hsz) hcnt ?_ hk'le hks' ?_ ⟨E', hw', hR', ?_, ?_⟩
        · intro i oi hoi hli e he hb
          rw [hget] at hli ⊢
          by_cases hi : i = j
          · subst hi
            rw [ho] at hoi; obtain rfl := Option.some.inj hoi
            split
            · rfl
            · exact hpre e he hb
          · rw [if_neg hi] at hli
            split
            · rfl
            · exact hdown i oi hoi hli e he hb
        · cases hdo : o.dst <;> simp [Act.put, htm]
        · have : (a.put o.dst v).defers = a.defers := by cases hdo : o.dst <;> simp [Act.put]
          rw [this]; exact hD.le hle
        · intro t wr hwr hmax hstl
          by_cases hdt : o.dst = some t
          · -- it was just written
            have hwj : wr = some j := by
              rcases hmax j o ho hdt (by rw [hget, if_pos rfl]) with h | ⟨i', h1, h2⟩
              · exact h
              · exfalso
                obtain ⟨h3, h4⟩ := hwr i' h1
                rw [hget, if_neg (by omega)] at h3
                cases hoi : ops[i']? with
                | none => rw [hoi] at h4; simp at h4
                | some oi =>
                  rw [hoi] at h4; simp at h4
                  rcases ok.same i' j t oi o hoi ho h4 hdt (by omega) with h5 | h5
                  · have := (hanc i' h5).2; omega
                  · exact hdesc i' h3 h5
            subst hwj
            have htn : t < F.n := ok.dsts j o t ho hdt
            have : (a.put o.dst v).tmps.getD t undef = v := by
              rw [hdt]; simp [Act.put, Array.getD_eq_getD_getElem?, htm, htn]
            rw [this]; exact hv
          · have : (a.put o.dst v).tmps.getD t undef = a.tmps.getD t undef := by
              cases hdo : o.dst with
              | none => rfl
              | some d =>
                have hne : d ≠ t := by rintro rfl; exact hdt hdo
                simp [Act.put, Array.getD_eq_getD_getElem?, Array.getElem?_setIfInBounds_ne hne]
            rw [this]
            have hwr' : ∀ i, wr = some i → listed.getD i false = true ∧ (ops[i]?).bind (·.dst) = some t := by
              intro i hi
              obtain ⟨h1, h2⟩ := hwr i hi
              rw [hget] at h1
              by_cases hij : i = j
              · subst hij; rw [ho] at h2; simp at h2; exact absurd h2 hdt
              · rw [if_neg hij] at h1; exact ⟨h1, h2⟩
            have hD := hden t wr hwr' (fun i oi hoi hdi hli => hmax i oi hoi hdi (by rw [hget]; split <;> first | rfl | exact hli)) (fun e he hle' => hstl e he (by rw [hget]; split <;> first | rfl | exact hle'))
            refine Den.mono hle _ _ (fun s hs hin => ?_) hD
            by_cases hje : j ∈ es
            · have hsc' := hsc hje
              rcases hstl j hje (by rw [hget, if_pos rfl]) with ⟨i, rfl, hi⟩ | hno
              · obtain ⟨h1, h2⟩ := hwr' i rfl
                rcases hi with rfl | hi
                · rw [hnl'] at h1; cases h1
                · exact hdesc i h1 hi
              · rw [hno s (hsc' ▸ hin)] at hs; cases hs
            · rw [hsc0 hje] at hin; cases hin
      cases hef : (pl j).eff with
      | false =>
        have hnes : j ∉ es := fun h => by rw [(ok.effs j hjs).2 h] at hef; cases hef
        have hat : k ∈ (pl j).at_ := by
          refine ok.at_ j k hjs hef hkle ?_ ?_
          · intro s e hse hin
            exact (hks s e hse).1 (hanc e hin).1
          · intro s e hse hin
            rcases Nat.lt_or_ge s k with h | h
            · exact absurd hin (hdesc e ((hks s e hse).2 h))
            · exact h
        refine stepD_sound hk hent hw hR hops ho (hflo j o ho hef k hat) ?_
        intro v w' E' h1 h2 h3 h4
        refine hnext k [] v w' E' hkle ?_ (fun h => absurd h hnes) (fun _ => rfl) h1 h2 h3 h4
        intro s e hse
        rw [hget]
        by_cases hej : e = j
        · subst hej; exact absurd (List.mem_of_getElem? hse) hnes
        · rw [if_neg hej]; exact hks s e hse
      | true =>
        have hjes : j ∈ es := (ok.effs j hjs).1 hef
        obtain ⟨q, hq⟩ := List.getElem?_of_mem hjes
        have hqlt : q < es.length := (List.getElem?_eq_some_iff.1 hq).1
        have hqk : q = k := by
          have h1 : ¬ q < k := fun h => by have := (hks q j hq).2 h; rw [hnl'] at this; cases this
          rcases Nat.lt_or_ge k q with h | h
          · have h2 := ok.order k q (es[k]'(by omega)) j h (List.getElem?_eq_getElem (by omega)) hq
            have h3 := (hanc _ h2).1
            have := (hks k _ (List.getElem?_eq_getElem (by omega))).1 h3
            omega
          · omega
        subst hqk
        refine stepD_sound hk hent hw hR hops ho (heff q j o hq ho) ?_
        intro v w' E' h1 h2 h3 h4
        refine hnext (q + 1) (scr j) v w' E' (by omega) ?_ (fun _ => rfl) (fun h => absurd hjes h) h1 h2 h3 h4
        intro s e hse
        rw [hget]
        by_cases hej : e = j
        · subst hej
          have hsq : s = q := by
            rcases Nat.lt_trichotomy s q with h | h | h
            · have h5 := (hks s e hse).2 h; rw [hnl'] at h5; cases h5
            · exact h
            · have h5 := ok.order q s e e h hq hse
              have := (hanc e h5).2; omega
          simp [hsq]
        · rw [if_neg hej]
          rw [hks s e hse]
          have hsq : s ≠ q := by rintro rfl; rw [hq] at hse; exact hej (Option.some.inj hse).symm
          omega

end

/-- a region that draws: there is a plan, and values for it -/
def awDraw (F : Fun) (ops : Array Oper) (K : Sg → Prop) (σ : Sg) : Prop :=
  F.P.follows .mixedOrders = true ∧ ∃ (pl : Nat → Pl) (es : List Nat) (fin : List (Nat × Option Nat)) (X : Nat → AV) (stage : Nat → Mem) (scr : Nat → List Nat), PlanOk (F := F) ops pl es fin ∧
    (∀ (j t : Nat) wr, j < ops.size → (t, wr) ∈ (pl j).args → ∀ e ∈ es, e ≠ j → j ∉ (pl e).anc → okD pl scr e wr (valD σ.env X t wr)) ∧
    (∀ (t : Nat) wr, (t, wr) ∈ fin → ∀ e ∈ es, okD pl scr e wr (valD σ.env X t wr)) ∧
    (∀ (j : Nat) o, ops[j]? = some o → (pl j).eff = false → ∀ k ∈ (pl j).at_, stepD F.P F.keep F.ent ops o (envD σ.env X (pl j).args) (stage k) (X j) (stage k) []) ∧
    (∀ (k e : Nat) o, es[k]? = some e → ops[e]? = some o → stepD F.P F.keep F.ent ops o (envD σ.env X (pl e).args) (stage k) (X e) (stage (k + 1)) (scr e)) ∧
    stage 0 = σ.H ∧ K ⟨envD σ.env X fin, stage es.length⟩

theorem awDraw_mono {F : Fun} {ops : Array Oper} {K K' : Sg → Prop} (hk : ∀ σ, K σ → K' σ) {σ : Sg} (h : awDraw F ops K σ) : awDraw F ops K' σ := by
  obtain ⟨h0, pl, es, fin, X, stage, scr, h1, h2, h3, h4, h5, h6, h7⟩ := h
  exact ⟨h0, pl, es, fin, X, stage, scr, h1, h2, h3, h4, h5, h6, hk _ h7⟩

theorem awDraw_sound {F : Fun} {C : Ctx} {r : Option Nat} {id : Nat} {ops : Array Oper} {K : Sg → Prop} {σ : Sg} {Q : Exit → Act → World → Prop} {a : Act} {w : World} (hS : St F C a w σ) (h : awDraw F ops K σ)
    (hQ : ∀ σ' a' w', K σ' → St F C a' w' σ' → Q .normal a' w') : (Code.region id ops true).wpIn (FW r) 0 F.P Q a w := by
  obtain ⟨h0, pl, es, fin, X, stage, scr, h1, h2, h3, h4, h5, h6, h7⟩ := h
  refine wpIn_region_any h0 ?_
  obtain ⟨E, hw, hR, hD, hd⟩ := hS.mem
  have hf : ∀ i, (Array.replicate ops.size false).getD i false = false := by
    intro i
    rw [Array.getD_eq_getD_getElem?, Array.getElem?_replicate]
    split <;> rfl
  refine draw_any h1 hS.keep hS.ent h2 h3 h4 h5 (fun a' w' hS' => hQ _ a' w' h7 hS') ops.size _ a _ 0 (by simp) ?_ ?_ (Nat.zero_le _) ?_ hS.size ⟨E, hw, by rw [h6]; exact hR, hD, ?_⟩
  · exact Nat.le_trans (List.length_filter_le _ _) (by simp)
  · intro j o ho hl; rw [hf] at hl; cases hl
  · intro s e hs; rw [hf]; simp
  · intro t wr hwr hmax _
    cases wr with
    | none => exact hd t
    | some i => have := (hwr i rfl).1; rw [hf] at this; cases this

end Go.Dk

/-
  Dk, part L2: code on abstract states.
-/
namespace Go.Dk
set_option autoImplicit false
set_option linter.unusedSectionVars false
set_option linter.unusedVariables false
set_option linter.unusedSimpArgs false

inductive Ex where
  | normal
  | exit (id : Nat)
  | ret

def awThen (next : Sg → Prop) (Q : Ex → Sg → Prop) : Ex → Sg → Prop
  | .normal, σ => next σ
  | e, σ => Q e σ
def awIn (id : Nat) (Q : Ex → Sg → Prop) : Ex → Sg → Prop
  | .exit id', σ => if id' = id then Q .normal σ else Q (.exit id') σ
  | e, σ => Q e σ

/-- the environment's slots that are kept -/
def pruneE (cross : List Nat) : List (Nat × AV) → List (Nat × AV)
  | [] => []
  | (t, x) :: r => if cross.contains t then (t, x) :: pruneE cross r else pruneE cross r

/-- a state that says less -/
def Weak (F : Fun) (σ σ' : Sg) : Prop := ∀ C a w, St F C a w σ → St F C a w σ'
theorem Weak.refl (F : Fun) (σ : Sg) : Weak F σ σ := fun _ _ _ h => h
theorem Weak.trans {F : Fun} {σ σ' σ'' : Sg} (h : Weak F σ σ') (h' : Weak F σ' σ'') : Weak F σ σ'' := fun C a w hS => h' C a w (h C a w hS)

def Ends (F : Fun) (C : Ctx) (Q : Ex → Sg → Prop) : Exit → Act → World → Prop
  | .normal, a, w => ∃ σ, Q .normal σ ∧ St F C a w σ
  | .exit id, a, w => ∃ σ, Q (.exit id) σ ∧ St F C a w σ
  | .ret, a, w => ∃ σ, Q .ret σ ∧ St F C a w σ
  | _, _, _ => False

theorem Ends.mono {F : Fun} {C : Ctx} {Q Q' : Ex → Sg → Prop} (hq : ∀ e σ, Q e σ → Q' e σ) : ∀ e a w, Ends F C Q e a w → Ends F C Q' e a w
  | .normal, _, _, ⟨σ, h, hS⟩ => ⟨σ, hq _ _ h, hS⟩
  | .exit _, _, _, ⟨σ, h, hS⟩ => ⟨σ, hq _ _ h, hS⟩
  | .ret, _, _, ⟨σ, h, hS⟩ => ⟨σ, hq _ _ h, hS⟩
  | .goto _, _, _, h => h
  | .panic _, _, _, h => h
  | .outgrown, _, _, h => h

/-- a loop over a function: what is asked is said of the model itself -/
def AwRange (F : Fun) (g : Operand) (ps : Array Tmp) (asg body : Code) (Q : Ex → Sg → Prop) (σ : Sg) : Prop :=
  F.nod = false ∧ ∀ C a w, St F C a w σ → (Code.rangeFunc g ps asg body).wpIn (FW none) 0 F.P (Ends F C Q) a w
theorem AwRange.mono {F : Fun} {g : Operand} {ps : Array Tmp} {asg body : Code} {Q Q' : Ex → Sg → Prop} {σ : Sg} (hq : ∀ e σ, Q e σ → Q' e σ) (h : AwRange F g ps asg body Q σ) : AwRange F g ps asg body Q' σ :=
  ⟨h.1, fun C a w hS => wpIn_mono (h.2 C a w hS) (Ends.mono hq)⟩

/-- code without a loop over a function -/
def noR : Code → Bool
  | .seq a b => noR a && noR b
  | .cond _ a b => noR a && noR b
  | .block _ a => noR a
  | .loop a => noR a
  | .scope a => noR a
  | .rangeFunc .. => false
  | _ => true

def aw (F : Fun) : Code → (Ex → Sg → Prop) → Sg → Prop
  | .skip, Q, σ => Q .normal σ
  | .label _, Q, σ => Q .normal σ
  | .region _ ops false, Q, σ => awOps F.P F.keep F.ent F.n ops (fun σ => Q .normal ⟨pruneE F.cross σ.env, σ.H⟩) ops.toList σ
  | .region _ ops true, Q, σ => awDraw F ops (fun σ => Q .normal ⟨pruneE F.cross σ.env, σ.H⟩) σ
  | .seq a b, Q, σ => aw F a (awThen (aw F b Q) Q) σ
  | .cond c a b, Q, σ => match getA σ.env c with
    | .v (.bool t) => (t = true → aw F a Q σ) ∧ (t = false → aw F b Q σ)
    | _ => False
  | .block id a, Q, σ => aw F a (awIn id Q) σ
  | .loop a, Q, σ => ∃ I : Nat → Sg → Prop, (∃ j σ0, Weak F σ σ0 ∧ I j σ0) ∧ ∀ j σ', I j σ' → aw F a (awThen (fun σ'' => ∃ i σ0, i < j ∧ Weak F σ'' σ0 ∧ I i σ0) Q) σ'
  | .exit id, Q, σ => Q (.exit id) σ
  | .ret, Q, σ => Q .ret σ
  | .rangeFunc g ps asg body, Q, σ => AwRange F g ps asg body Q σ
  | _, _, _ => False

section
variable {F : Fun} {C : Ctx} {Q : Exit → Act → World → Prop}
theorem look_pruneE (cross : List Nat) (env : List (Nat × AV)) (t : Nat) : look (pruneE cross env) t = if cross.contains t = true then look env t else .any := by
  induction env with
  | nil => simp [pruneE, look]
  | cons p r ih =>
    obtain ⟨i, x⟩ := p
    simp only [pruneE]
    by_cases hi : cross.contains i = true
    · rw [if_pos hi]
      simp only [look, ih]
      by_cases ht : i = t
      · subst ht; simp [hi]
        intro h; simp at hi; exact absurd hi h
      · have : (i == t) = false := by simpa using ht
        simp [this]
    · rw [if_neg hi, ih]
      simp only [look]
      by_cases ht : i = t
      · subst ht; rw [if_neg hi, if_neg hi]
      · have : (i == t) = false := by simpa using ht
        simp [this]

theorem St.prune {a : Act} {w : World} {σ : Sg} (hS : St F C a w σ) (cross : List Nat) : St F C a w ⟨pruneE cross σ.env, σ.H⟩ := by
  obtain ⟨E, hw, hR, hD, hd⟩ := hS.mem
  refine ⟨hS.keep, hS.ent, hS.size, E, hw, hR, hD, fun t => ?_⟩
  rw [look_pruneE]
  split
  · exact hd t
  · simp [Den]

theorem aw_sound (r : Option Nat) : ∀ (c : Code) (_ : r = none ∨ noR c = true) (Q : Ex → Sg → Prop) (a : Act) (w : World) (σ : Sg), St F C a w σ → aw F c Q σ → c.wpIn (FW r) 0 F.P (Ends F C Q) a w := by
  intro c
  induction c with
  | skip => intro hr Q a w σ hS h; exact wpIn_skip ⟨σ, h, hS⟩
  | label l => intro hr Q a w σ hS h; exact wpIn_label ⟨σ, h, hS⟩
  | exit id => intro hr Q a w σ hS h; exact wpIn_exit ⟨σ, h, hS⟩
  | ret => intro hr Q a w σ hS h; exact wpIn_ret ⟨σ, h, hS⟩
  | region id ops draw =>
    intro hr Q a w σ hS h
    cases draw with
    | false =>
      refine wpIn_region_list (awOps_sound (K := fun σ => Q .normal ⟨pruneE F.cross σ.env, σ.H⟩) ?_ ops.toList a w σ hS h)
      intro σ' a' w' hK hS'
      exact ⟨_, hK, hS'.prune F.cross⟩
    | true =>
      refine awDraw_sound (K := fun σ => Q .normal ⟨pruneE F.cross σ.env, σ.H⟩) hS h ?_
      intro σ' a' w' hK hS'
      exact ⟨_, hK, hS'.prune F.cross⟩
  | seq x y ihx ihy =>
    intro hr Q a w σ hS h
    have hx : r = none ∨ noR x = true := hr.imp (fun h => h) fun h => by simp only [noR, Bool.and_eq_true] at h; exact h.1
    have hy : r = none ∨ noR y = true := hr.imp (fun h => h) fun h => by simp only [noR, Bool.and_eq_true] at h; exact h.2
    refine wpIn_seq (wpIn_mono (ihx hx _ a w σ hS h) ?_)
    intro e a' w' he
    cases e with
    | normal => obtain ⟨σ', hK, hS'⟩ := he; exact ihy hy Q a' w' σ' hS' hK
    | exit id => exact he
    | ret => exact he
    | goto l => exact he
    | panic ch => exact he
    | outgrown => exact he
  | cond c x y ihx ihy =>
    intro hr Q a w σ hS h
    obtain ⟨E, hw, hR, hD, hd⟩ := hS.mem
    have hc := getA_den hd c
    simp only [aw] at h
    split at h <;> try (exact h.elim)
    rename_i t ht
    rw [ht] at hc; simp only [Den] at hc
    refine wpIn_cond hc ?_
    cases t with
    | true => exact ihx (hr.imp (fun h => h) fun h => by simp only [noR, Bool.and_eq_true] at h; exact h.1) Q a w σ hS (h.1 rfl)
    | false => exact ihy (hr.imp (fun h => h) fun h => by simp only [noR, Bool.and_eq_true] at h; exact h.2) Q a w σ hS (h.2 rfl)
  | block id x ihx =>
    intro hr Q a w σ hS h
    refine wpIn_block (wpIn_mono (ihx (hr.imp (fun h => h) fun h => by simpa [noR] using h) _ a w σ hS h) ?_)
    intro e a' w' he
    cases e with
    | normal => exact he
    | exit id' =>
      obtain ⟨σ', hK, hS'⟩ := he
      simp only [awIn] at hK
      simp only [Exit.inBlock]
      split
      · rename_i hi; rw [if_pos hi] at hK; exact ⟨σ', hK, hS'⟩
      · rename_i hi; rw [if_neg hi] at hK; exact ⟨σ', hK, hS'⟩
    | ret => exact he
    | goto l => exact he
    | panic ch => exact he
    | outgrown => exact he
  | loop x ihx =>
    intro hr Q a w σ hS h
    obtain ⟨I, ⟨j0, σ0, hweak, hj0⟩, hround⟩ := h
    classical
    let R : Nat → Act → World → Prop := fun j a w => ∃ σ, I j σ ∧ St F C a w σ
    have hex : ∀ a w, (∃ j, R j a w) → ∃ j, R j a w ∧ ∀ i, R i a w → j ≤ i := by
      intro a w ⟨j, hj⟩
      induction j using Nat.strongRecOn with
      | _ j ih =>
        by_cases hlt : ∃ i, i < j ∧ R i a w
        · obtain ⟨i, hi, hRi⟩ := hlt; exact ih i hi hRi
        · exact ⟨j, hj, fun i hi => Nat.le_of_not_lt fun hl => hlt ⟨i, hl, hi⟩⟩
    let μ : Act → World → Nat := fun a w => if h : ∃ j, R j a w then Classical.choose (hex a w h) else 0
    have hμ : ∀ a w, (∃ j, R j a w) → R (μ a w) a w ∧ ∀ i, R i a w → μ a w ≤ i := by
      intro a w hh
      simp only [μ, dif_pos hh]
      exact Classical.choose_spec (hex a w hh)
    refine wpIn_loop (fun a w => ∃ j, R j a w) μ ⟨j0, σ0, hj0, hweak _ _ _ hS⟩ ?_
    intro a' w' hI
    obtain ⟨σ', hσ', hS'⟩ := (hμ a' w' hI).1
    refine wpIn_mono (ihx (hr.imp (fun h => h) fun h => by simpa [noR] using h) _ a' w' σ' hS' (hround _ σ' hσ')) ?_
    intro e a'' w'' he
    cases e with
    | normal =>
      obtain ⟨σ'', ⟨i, σ1, hi, hwk, hIi⟩, hS''⟩ := he
      have hR' : R i a'' w'' := ⟨σ1, hIi, hwk _ _ _ hS''⟩
      exact ⟨⟨i, hR'⟩, Nat.lt_of_le_of_lt ((hμ a'' w'' ⟨i, hR'⟩).2 i hR') hi⟩
    | exit id => exact he
    | ret => exact he
    | goto l => exact he
    | panic ch => exact he
    | outgrown => exact he
  | rangeFunc f ps as b _ _ =>
    intro hr Q a w σ hS h
    rcases hr with rfl | hr
    · exact h.2 C a w hS
    · simp [noR] at hr
  | scope b _ => intro hr Q a w σ hS h; simp [aw] at h
  | goto l => intro hr Q a w σ hS h; simp [aw] at h
  | refuse s => intro hr Q a w σ hS h; simp [aw] at h

end
end Go.Dk

/-
  Dk, part M: a contract in its own numbers, and what it gives at a call.
-/
namespace Go.Dk
set_option autoImplicit false
set_option linter.unusedSectionVars false
set_option linter.unusedVariables false
set_option linter.unusedSimpArgs false

mutual
def AV.ren (m : Nat → Nat) : AV → AV
  | .any => .any
  | .v x => .v x
  | .ptr id off => .ptr (m id) off
  | .slc id k off len => .slc (m id) k off len
  | .imm g k xs => .imm g k xs
  | .iptr g cs => .iptr g cs
  | .mp id => .mp (m id)
  | .fn f cs => .fn f (renL m cs)
  | .agg cs => .agg (renL m cs)
  | .tup cs => .tup (renL m cs)
def renL (m : Nat → Nat) : List AV → List AV
  | [] => []
  | c :: cs => c.ren m :: renL m cs
end

theorem renL_map (m : Nat → Nat) : ∀ l : List AV, renL m l = l.map (AV.ren m)
  | [] => rfl
  | c :: cs => by simp [renL, renL_map m cs]

section
variable {E E' : Env} {m : Nat → Nat} (hh : E'.heap = E.heap) (h0 : ∀ g b, E.ok g b → E'.ok g b)
include hh h0
mutual
theorem den_ren : ∀ (x : AV) (u : Value), (∀ i, x.has i = true → E'.β (m i) = E.β i) → Den E x u → Den E' (x.ren m) u
  | .any, u => fun _ _ => by simp [AV.ren, Den]
  | .v x, u => fun _ h => by simpa [AV.ren, Den] using h
  | .ptr id off, u => fun hi h => by
    simp only [AV.ren, Den] at h ⊢
    rw [hi id (by simp [AV.has])]; exact h
  | .slc id k off len, u => fun hi h => by
    simp only [AV.ren, Den] at h ⊢
    rw [hi id (by simp [AV.has])]; exact h
  | .imm g k xs, u => fun _ h => by
    simp only [AV.ren, Den] at h ⊢
    exact DenD.mono (fun b hb => ⟨h0 g b hb, by rw [hh]⟩) _ _ h
  | .iptr g cs, u => fun _ h => by
    simp only [AV.ren, Den] at h ⊢
    obtain ⟨b, o, hu, hb, hc⟩ := h
    exact ⟨b, o, hu, h0 g b hb, DenCs.mono (fun b hb => ⟨h0 g b hb, by rw [hh]⟩) b o cs hb hc⟩
  | .mp id, u => fun hi h => by
    simp only [AV.ren, Den] at h ⊢
    rw [hi id (by simp [AV.has])]; exact h
  | .fn f cs, u => fun hi h => by
    simp only [AV.ren, Den] at h ⊢
    obtain ⟨us, hu, hc⟩ := h
    exact ⟨us, hu, denL_ren cs us (fun i hh => hi i (by simpa [AV.has] using hh)) hc⟩
  | .agg cs, u => fun hi h => by
    simp only [AV.ren, Den] at h ⊢
    obtain ⟨us, hu, hc⟩ := h
    exact ⟨us, hu, denL_ren cs us (fun i hh => hi i (by simpa [AV.has] using hh)) hc⟩
  | .tup cs, u => fun hi h => by
    simp only [AV.ren, Den] at h ⊢
    obtain ⟨us, hu, hc⟩ := h
    exact ⟨us, hu, denL_ren cs us (fun i hh => hi i (by simpa [AV.has] using hh)) hc⟩
theorem denL_ren : ∀ (xs : List AV) (us : List Value), (∀ i, hasL i xs = true → E'.β (m i) = E.β i) → DenL E xs us → DenL E' (renL m xs) us
  | [], us => fun _ h => by simpa [renL, DenL] using h
  | c :: cs, us => fun hi h => by
    simp only [renL, DenL] at h ⊢
    obtain ⟨u, us', hu, hc, hr⟩ := h
    exact ⟨u, us', hu, den_ren c u (fun i hh => hi i (by simp [hasL, hh])) hc, denL_ren cs us' (fun i hh => hi i (by simp [hasL, hh])) hr⟩
end
end

/-- the data of a cell -/
def AV.dat : AV → Option Dat
  | .v (.agg _) => none
  | .v (.tuple _) => none
  | .v x => some (.v x)
  | .imm _ k xs => some (.sl k xs)
  | _ => none

def datsL : List AV → Option (List Dat)
  | [] => some []
  | c :: cs => match c.dat, datsL cs with
    | some d, some ds => some (d :: ds)
    | _, _ => none

def chunk (k : Nat) : Nat → List Dat → List (List Dat)
  | 0, _ => []
  | n + 1, ds => ds.take k :: chunk k n (ds.drop k)

/-- what a value is to somebody who will only read it: slices of the objects in V read as data -/
def viewSl (H : Mem) (V : List Nat) (id k off len : Nat) : AV :=
  if V.contains id = true then
    (match find H id with
    | some (.cells cs) => match datsL ((cs.drop off).take (len * k)) with
      | some ds => if off + len * k ≤ cs.length then .imm false k (chunk k len ds) else .any
      | none => .any
    | _ => .any)
  else .slc id k off len

mutual
def AV.view (H : Mem) (V : List Nat) : AV → AV
  | .any => .any
  | .v x => .v x
  | .ptr id off => if V.contains id = true then .any else .ptr id off
  | .slc id k off len => viewSl H V id k off len
  | .imm g k xs => .imm false k xs
  | .iptr g cs => .iptr false cs
  | .mp id => .mp id
  | .fn f cs => .fn f (viewL H V cs)
  | .agg cs => .agg (viewL H V cs)
  | .tup cs => .tup (viewL H V cs)
def viewL (H : Mem) (V : List Nat) : List AV → List AV
  | [] => []
  | c :: cs => c.view H V :: viewL H V cs
end

theorem viewL_map (H : Mem) (V : List Nat) : ∀ l : List AV, viewL H V l = l.map (AV.view H V)
  | [] => rfl
  | c :: cs => by simp [viewL, viewL_map H V cs]

theorem chunk_rows {h : Array Obj} {ok : Nat → Prop} {b k : Nat} : ∀ (n : Nat) (ds : List Dat) (o : Nat), n * k ≤ ds.length → DenCs h ok b o ds → DenRows h ok b o k (chunk k n ds) := by
  intro n
  induction n with
  | zero => intro ds o _ _; simp [chunk, DenRows]
  | succ n ih =>
    intro ds o hl hd
    have hl' : n * k + k ≤ ds.length := by rw [Nat.succ_mul] at hl; exact hl
    simp only [chunk, DenRows]
    refine ⟨by simp; omega, denCs_of fun i d hi => ?_, ih _ _ (by simp; omega) (denCs_drop hd k)⟩
    rw [List.getElem?_take] at hi
    split at hi
    · exact denCs_len hd i d hi
    · cases hi

theorem chunk_length (k : Nat) : ∀ (n : Nat) (ds : List Dat), (chunk k n ds).length = n
  | 0, ds => rfl
  | n + 1, ds => by simp [chunk, chunk_length k n]

theorem datsL_get : ∀ {cs : List AV} {ds : List Dat}, datsL cs = some ds → ds.length = cs.length ∧ ∀ (i : Nat) (d : Dat), ds[i]? = some d → ∃ c, cs[i]? = some c ∧ c.dat = some d := by
  intro cs
  induction cs with
  | nil => intro ds h; simp [datsL] at h; subst h; simp
  | cons c cs ih =>
    intro ds h
    simp only [datsL] at h
    split at h <;> simp at h
    rename_i d ds' h1 h2
    subst h
    obtain ⟨h3, h4⟩ := ih h2
    refine ⟨by simp [h3], fun i d' hd => ?_⟩
    cases i with
    | zero => simp at hd; subst hd; exact ⟨c, rfl, h1⟩
    | succ i => simpa using h4 i d' (by simpa using hd)

theorem den_dat {E : Env} {ok : Nat → Prop} (hok : ∀ g b, E.ok g b → ok b) {c : AV} {d : Dat} {u : Value} (h : c.dat = some d) (hd : Den E c u) : DenD E.heap ok d u := by
  unfold AV.dat at h
  split at h <;> simp at h
  · subst h
    simp only [Den] at hd; subst hd
    simp only [DenD, true_and]
    rename_i h1 h2
    cases u <;> first | rfl | exact absurd rfl (h1 _) | exact absurd rfl (h2 _)
  · subst h
    simp only [Den] at hd
    exact DenD.mono (fun b hb => ⟨hok _ b hb, rfl⟩) _ _ hd

section
variable {C : Ctx} {E : Env} {H : Mem} {V : List Nat} (hR : Rel C E H)
include hR

theorem den_viewSl {E' : Env} (hh : E'.heap = E.heap) (h0 : ∀ b, E.S0 b ∨ E.S1 b → E'.S0 b) (hV : ∀ id ∈ V, ∀ bb, find H id = some bb → 0 < (E.β id).sz → E'.S0 (E.β id).blk)
    (hβ : ∀ id, id ∉ V → E'.β id = E.β id) {id k off len : Nat} {u : Value} (h : Den E (.slc id k off len) u) : Den E' (viewSl H V id k off len) u := by
  unfold viewSl
  split
  · rename_i hc
    split
    · rename_i cs hf
      split
      · rename_i ds hds
        split
        · rename_i hle
          obtain ⟨hl, hget⟩ := datsL_get hds
          obtain ⟨a, cap, rfl, hcap, hcase⟩ := slc_cap h
          simp only [Den, DenD, chunk_length]
          refine ⟨a, cap, rfl, hcap, ?_⟩
          by_cases h00 : len = 0
          · left; subst h00; rfl
          · right
            rcases hcase with h1 | ⟨hs, hsz, rfl⟩
            · omega
            · obtain ⟨c, t, fz, hheap, hcs, hbl, hfz, hat⟩ : ∃ c t fz, E.heap[(E.β id).blk]? = some (.cells c t fz) ∧ c.size = (E.β id).sz ∧ (E.β id).base + cs.length ≤ (E.β id).sz ∧ FzOk c.size fz ∧ AtCells E c (E.β id).base cs := by
                rcases hR.blk id _ hf with ⟨h1, _⟩ | ⟨_, h2⟩
                · omega
                · exact h2
              refine ⟨_, _, rfl, ?_, ?_⟩
              · exact .inl (hV id (by simpa using hc) _ hf hs)
              · refine chunk_rows _ _ _ (by rw [hl]; simp; omega) (denCs_of fun i d hi => ?_)
                obtain ⟨c', hc', hcd⟩ := hget i d hi
                rw [List.getElem?_take] at hc'
                split at hc' <;> simp at hc'
                obtain ⟨u, hu, hd⟩ := hat (off + i) c' hc'
                refine ⟨u, ?_, ?_⟩
                · unfold cellOf; rw [hh, hheap]; simpa [Nat.add_assoc] using hu
                · rw [hh]
                  exact den_dat (fun g b hb => .inl (h0 b (by cases g; exact hb; exact .inr hb))) hcd hd
        · simp [Den]
      · simp [Den]
    · simp [Den]
  · rename_i hc
    simp only [Den] at h ⊢
    rw [hβ id (by simpa using hc)]; exact h

mutual
theorem den_view {E' : Env} (hh : E'.heap = E.heap) (h0 : ∀ b, E.S0 b ∨ E.S1 b → E'.S0 b) (hV : ∀ id ∈ V, ∀ bb, find H id = some bb → 0 < (E.β id).sz → E'.S0 (E.β id).blk) (hβ : ∀ id, id ∉ V → E'.β id = E.β id)
    (hmp : ∀ id, E'.β id = E.β id) : ∀ (x : AV) (u : Value), Den E x u → Den E' (x.view H V) u
  | .any, u => fun _ => by simp [AV.view, Den]
  | .v x, u => fun h => by simpa [AV.view, Den] using h
  | .ptr id off, u => fun h => by
    simp only [AV.view]
    split
    · simp [Den]
    · simp only [Den] at h ⊢; rw [hmp]; exact h
  | .slc id k off len, u => fun h => by
    simp only [AV.view]
    exact den_viewSl hR hh h0 hV hβ h
  | .imm g k xs, u => fun h => by
    simp only [AV.view, Den] at h ⊢
    exact DenD.mono (fun b hb => ⟨.inl (h0 b (by cases g; exact hb; exact .inr hb)), by rw [hh]⟩) _ _ h
  | .iptr g cs, u => fun h => by
    simp only [AV.view, Den] at h ⊢
    obtain ⟨b, o, hu, hb, hc⟩ := h
    have key : ∀ b, E.ok g b → E'.ok false b := fun b hb => .inl (h0 b (by cases g; exact hb; exact .inr hb))
    exact ⟨b, o, hu, key b hb, DenCs.mono (fun b hb => ⟨key b hb, by rw [hh]⟩) b o cs hb hc⟩
  | .mp id, u => fun h => by
    simp only [AV.view, Den] at h ⊢; rw [hmp]; exact h
  | .fn f cs, u => fun h => by
    simp only [AV.view, Den] at h ⊢
    obtain ⟨us, hu, hc⟩ := h
    exact ⟨us, hu, denL_view hh h0 hV hβ hmp cs us hc⟩
  | .agg cs, u => fun h => by
    simp only [AV.view, Den] at h ⊢
    obtain ⟨us, hu, hc⟩ := h
    exact ⟨us, hu, denL_view hh h0 hV hβ hmp cs us hc⟩
  | .tup cs, u => fun h => by
    simp only [AV.view, Den] at h ⊢
    obtain ⟨us, hu, hc⟩ := h
    exact ⟨us, hu, denL_view hh h0 hV hβ hmp cs us hc⟩
theorem denL_view {E' : Env} (hh : E'.heap = E.heap) (h0 : ∀ b, E.S0 b ∨ E.S1 b → E'.S0 b) (hV : ∀ id ∈ V, ∀ bb, find H id = some bb → 0 < (E.β id).sz → E'.S0 (E.β id).blk) (hβ : ∀ id, id ∉ V → E'.β id = E.β id)
    (hmp : ∀ id, E'.β id = E.β id) : ∀ (xs : List AV) (us : List Value), DenL E xs us → DenL E' (viewL H V xs) us
  | [], us => fun h => by simpa [viewL, DenL] using h
  | c :: cs, us => fun h => by
    simp only [viewL, DenL] at h ⊢
    obtain ⟨u, us', hu, hc, hr⟩ := h
    exact ⟨u, us', hu, den_view hh h0 hV hβ hmp c u hc, denL_view hh h0 hV hβ hmp cs us' hr⟩
end
end

structure Con where
  args : List AV
  H : Mem
  keep : List Nat
  ret : AV
  H' : Mem

def ids : Mem → List Nat
  | [] => []
  | (i, _) :: r => i :: ids r

theorem find_ids {H : Mem} {id : Nat} {b : Blk} (h : find H id = some b) : id ∈ ids H := by
  induction H with
  | nil => simp [find] at h
  | cons p r ih =>
    obtain ⟨j, c⟩ := p
    simp only [find] at h
    split at h
    · rename_i hj; simp at hj; simp [ids, hj]
    · simp [ids, ih h]

theorem ids_find {H : Mem} {id : Nat} (h : id ∈ ids H) : ∃ b, find H id = some b := by
  induction H with
  | nil => simp [ids] at h
  | cons p r ih =>
    obtain ⟨j, c⟩ := p
    simp only [find]
    by_cases hj : j = id
    · exact ⟨c, by simp [hj]⟩
    · have hb : (j == id) = false := by simpa using hj
      rw [hb]
      simp only [ids, List.mem_cons] at h
      rcases h with h | h
      · exact absurd h.symm hj
      · simpa using ih h

/-- a function's contract, in its own numbers -/
def Con.holdsT (c : Con) (P : Program) (t : Tgt) : Prop :=
  ∀ (C : Ctx) (E : Env) (us : List Value), C.keep = c.keep → C.ent = ids c.H → (∀ b, ¬ E.S1 b) → E.At C.w0 → Rel C E c.H → DenL E c.args us →
    t.calls P us C.w0 fun e w' => ∃ u E', e = .returned u ∧ E'.At w' ∧ Rel C E' c.H' ∧ Den E' c.ret u
def Con.holds (c : Con) (P : Program) (f : FuncId) : Prop := c.holdsT P (.fn f)

theorem Rel.drop {C : Ctx} {E : Env} {H H' : Mem} (hR : Rel C E H) (h : ∀ id b, find H' id = some b → find H id = some b) : Rel C E H' :=
  ⟨hR.size, hR.frame, hR.s0eq, hR.s0, hR.s1, hR.keep, fun id b hf => hR.blk id b (h id b hf), fun id b hf => hR.own id b (h id b hf),
    fun id b id' b' hf hf' => hR.dist id b id' b' (h id b hf) (h id' b' hf'), hR.mrk, hR.os⟩

end Go.Dk

/-
  Dk, part N: what a contract gives at a call.
-/
namespace Go.Dk
set_option autoImplicit false
set_option linter.unusedSectionVars false
set_option linter.unusedVariables false
set_option linter.unusedSimpArgs false

section
variable {E E' : Env} {m : Nat → Nat} (hh : E'.heap = E.heap) (h0 : ∀ g b, E'.ok g b → E.ok g b) (hβ : ∀ i, E'.β (m i) = E.β i)
include hh h0 hβ
mutual
theorem den_unren : ∀ (x : AV) (u : Value), Den E' (x.ren m) u → Den E x u
  | .any, u => fun _ => by simp [Den]
  | .v x, u => fun h => by simpa [AV.ren, Den] using h
  | .ptr id off, u => fun h => by simp only [AV.ren, Den] at h ⊢; rw [hβ] at h; exact h
  | .slc id k off len, u => fun h => by simp only [AV.ren, Den] at h ⊢; rw [hβ] at h; exact h
  | .imm g k xs, u => fun h => by
    simp only [AV.ren, Den] at h ⊢
    exact DenD.mono (fun b hb => ⟨h0 g b hb, by rw [hh]⟩) _ _ h
  | .iptr g cs, u => fun h => by
    simp only [AV.ren, Den] at h ⊢
    obtain ⟨b, o, hu, hb, hc⟩ := h
    exact ⟨b, o, hu, h0 g b hb, DenCs.mono (fun b hb => ⟨h0 g b hb, by rw [hh]⟩) b o cs hb hc⟩
  | .mp id, u => fun h => by simp only [AV.ren, Den] at h ⊢; rw [hβ] at h; exact h
  | .fn f cs, u => fun h => by
    simp only [AV.ren, Den] at h ⊢
    obtain ⟨us, hu, hc⟩ := h
    exact ⟨us, hu, denL_unren cs us hc⟩
  | .agg cs, u => fun h => by
    simp only [AV.ren, Den] at h ⊢
    obtain ⟨us, hu, hc⟩ := h
    exact ⟨us, hu, denL_unren cs us hc⟩
  | .tup cs, u => fun h => by
    simp only [AV.ren, Den] at h ⊢
    obtain ⟨us, hu, hc⟩ := h
    exact ⟨us, hu, denL_unren cs us hc⟩
theorem denL_unren : ∀ (xs : List AV) (us : List Value), DenL E' (renL m xs) us → DenL E xs us
  | [], us => fun h => by simpa [renL, DenL] using h
  | c :: cs, us => fun h => by
    simp only [renL, DenL] at h ⊢
    obtain ⟨u, us', hu, hc, hr⟩ := h
    exact ⟨u, us', hu, den_unren c u hc, denL_unren cs us' hr⟩
end
end

mutual
def AV.strong : AV → Bool
  | .imm g _ _ => g
  | .iptr g _ => g
  | .fn _ cs => strongL cs
  | .agg cs => strongL cs
  | .tup cs => strongL cs
  | .any => true
  | .v _ => true
  | .ptr _ _ => true
  | .slc _ _ _ _ => true
  | .mp _ => true
def strongL : List AV → Bool
  | [] => true
  | c :: cs => c.strong && strongL cs
end

section
variable {E E' : Env} {m : Nat → Nat} (hh : E'.heap = E.heap) (h0 : ∀ b, E.S1 b → E'.S1 b)
include hh h0
mutual
theorem den_ren_strong : ∀ (x : AV) (u : Value), x.strong = true → (∀ i, x.has i = true → E'.β (m i) = E.β i) → Den E x u → Den E' (x.ren m) u
  | .any, u => fun _ _ _ => by simp [AV.ren, Den]
  | .v x, u => fun _ _ h => by simpa [AV.ren, Den] using h
  | .ptr id off, u => fun _ hi h => by
    simp only [AV.ren, Den] at h ⊢
    rw [hi id (by simp [AV.has])]; exact h
  | .slc id k off len, u => fun _ hi h => by
    simp only [AV.ren, Den] at h ⊢
    rw [hi id (by simp [AV.has])]; exact h
  | .imm g k xs, u => fun hs _ h => by
    simp only [AV.strong] at hs
    subst hs
    simp only [AV.ren, Den] at h ⊢
    exact DenD.mono (fun b hb => ⟨h0 b hb, by rw [hh]⟩) _ _ h
  | .iptr g cs, u => fun hs _ h => by
    simp only [AV.strong] at hs
    subst hs
    simp only [AV.ren, Den] at h ⊢
    obtain ⟨b, o, hu, hb, hc⟩ := h
    exact ⟨b, o, hu, h0 b hb, DenCs.mono (fun b hb => ⟨h0 b hb, by rw [hh]⟩) b o cs hb hc⟩
  | .mp id, u => fun _ hi h => by
    simp only [AV.ren, Den] at h ⊢
    rw [hi id (by simp [AV.has])]; exact h
  | .fn f cs, u => fun hs hi h => by
    simp only [AV.ren, Den] at h ⊢
    obtain ⟨us, hu, hc⟩ := h
    exact ⟨us, hu, denL_ren_strong cs us (by simpa [AV.strong] using hs) (fun i hh => hi i (by simpa [AV.has] using hh)) hc⟩
  | .agg cs, u => fun hs hi h => by
    simp only [AV.ren, Den] at h ⊢
    obtain ⟨us, hu, hc⟩ := h
    exact ⟨us, hu, denL_ren_strong cs us (by simpa [AV.strong] using hs) (fun i hh => hi i (by simpa [AV.has] using hh)) hc⟩
  | .tup cs, u => fun hs hi h => by
    simp only [AV.ren, Den] at h ⊢
    obtain ⟨us, hu, hc⟩ := h
    exact ⟨us, hu, denL_ren_strong cs us (by simpa [AV.strong] using hs) (fun i hh => hi i (by simpa [AV.has] using hh)) hc⟩
theorem denL_ren_strong : ∀ (xs : List AV) (us : List Value), strongL xs = true → (∀ i, hasL i xs = true → E'.β (m i) = E.β i) → DenL E xs us → DenL E' (renL m xs) us
  | [], us => fun _ _ h => by simpa [renL, DenL] using h
  | c :: cs, us => fun hs hi h => by
    simp only [strongL, Bool.and_eq_true] at hs
    simp only [renL, DenL] at h ⊢
    obtain ⟨u, us', hu, hc, hr⟩ := h
    exact ⟨u, us', hu, den_ren_strong c u hs.1 (fun i hh => hi i (by simp [hasL, hh])) hc, denL_ren_strong cs us' hs.2 (fun i hh => hi i (by simp [hasL, hh])) hr⟩
end
end

def renB (m : Nat → Nat) : Blk → Blk
  | .cells cs => .cells (renL m cs)
  | .map es => .map (es.map fun e => (e.1, e.2.ren m))
  | .oth k xs => .oth k (renL m xs)
def viewB (H : Mem) (V : List Nat) : Blk → Blk
  | .cells cs => .cells (viewL H V cs)
  | .map es => .map (es.map fun e => (e.1, e.2.view H V))
  | .oth k xs => .oth k (viewL H V xs)
def hasB (i : Nat) : Blk → Bool
  | .cells cs => hasL i cs
  | .map es => es.any fun e => e.2.has i
  | .oth _ xs => hasL i xs
def strongB : Blk → Bool
  | .cells cs => strongL cs
  | .map es => es.all fun e => e.2.strong
  | .oth _ xs => strongL xs
def renMem (m : Nat → Nat) : Mem → Mem
  | [] => []
  | (i, b) :: r => (m i, renB m b) :: renMem m r
def scrubHs : List Nat → Mem → Mem
  | [], H => H
  | i :: is, H => scrubHs is (scrubH i H)
def eraseAll : List Nat → Mem → Mem
  | [], H => H
  | i :: is, H => eraseAll is (erase H i)

theorem find_append (A B : Mem) (i : Nat) : find (A ++ B) i = match find A i with | some b => some b | none => find B i := by
  induction A with
  | nil => rfl
  | cons p r ih =>
    obtain ⟨j, c⟩ := p
    simp only [List.cons_append, find, ih]
    split <;> rfl

theorem find_eraseAll (is : List Nat) : ∀ (H : Mem) (i : Nat), find (eraseAll is H) i = if i ∈ is then none else find H i := by
  induction is with
  | nil => intro H i; simp [eraseAll]
  | cons j is ih =>
    intro H i
    simp only [eraseAll, ih, find_erase, List.mem_cons]
    by_cases h1 : i ∈ is
    · simp [h1]
    · by_cases h2 : i = j <;> simp [h1, h2]

theorem find_renMem (m : Nat → Nat) : ∀ (H : Mem), (∀ i j, i ∈ ids H → j ∈ ids H → m i = m j → i = j) → ∀ (k : Nat) (b : Blk), find (renMem m H) k = some b ↔ ∃ i b0, m i = k ∧ find H i = some b0 ∧ b = renB m b0 := by
  intro H
  induction H with
  | nil => intro _ k b; simp [renMem, find]
  | cons p r ih =>
    obtain ⟨j, c⟩ := p
    intro hinj k b
    have ih' := ih (fun i j hi hj => hinj i j (by simp [ids, hi]) (by simp [ids, hj])) k b
    simp only [renMem, find]
    by_cases hk : m j = k
    · have : (m j == k) = true := by simpa using hk
      rw [if_pos this]
      constructor
      · intro h
        obtain rfl := Option.some.inj h
        exact ⟨j, c, hk, by simp, rfl⟩
      · rintro ⟨i, b0, hi, hf, rfl⟩
        have hij : i = j := by
          refine hinj i j ?_ (by simp [ids]) (by rw [hi, hk])
          have := find_ids (H := (j, c) :: r) (id := i) (b := b0) (by simpa [find] using hf)
          exact this
        subst hij
        simp at hf; rw [hf]
    · have : (m j == k) = false := by simpa using hk
      rw [this]
      simp only [Bool.false_eq_true, if_false, ih']
      constructor
      · rintro ⟨i, b0, hi, hf, rfl⟩
        refine ⟨i, b0, hi, ?_, rfl⟩
        have : (j == i) = false := by simp; rintro rfl; exact hk hi
        simp [this, hf]
      · rintro ⟨i, b0, hi, hf, rfl⟩
        refine ⟨i, b0, hi, ?_, rfl⟩
        have : (j == i) = false := by simp; rintro rfl; exact hk hi
        simpa [this] using hf

theorem find_scrubHs (is : List Nat) : ∀ (H : Mem) (i : Nat) (b : Blk), find (scrubHs is H) i = some b → ∃ b0, find H i = some b0 ∧ (∀ {E E' : Env}, E.Le E' (fun i => i ∉ is) →
    (∀ {c : Array Value} {o : Nat} {cs : List AV}, b0 = .cells cs → ∃ cs', b = .cells cs' ∧ cs'.length = cs.length ∧ (AtCells E c o cs → AtCells E' c o cs')) ∧
    (∀ {c : Array MapEntry} {clk : Nat} {es : List (Value × AV)}, b0 = .map es → ∃ es', b = .map es' ∧ (AtEntries E c clk es → AtEntries E' c clk es')) ∧
    (∀ {k : Kind} {xs : List AV}, b0 = .oth k xs → ∃ xs', b = .oth k xs' ∧ ∀ us, DenL E xs us → DenL E' xs' us)) := by
  have key : ∀ (is : List Nat) (x : AV), is.foldl (fun x i => scrub1 i x) x = .any ∨ (is.foldl (fun x i => scrub1 i x) x = x ∧ ∀ i ∈ is, x.has i = false) := by
    intro is
    induction is with
    | nil => intro x; exact .inr ⟨rfl, by simp⟩
    | cons i is ih =>
      intro x
      simp only [List.foldl_cons]
      rcases ih (scrub1 i x) with h1 | ⟨h1, h2⟩
      · exact .inl h1
      · unfold scrub1 at h1 h2 ⊢
        by_cases hh : x.has i = true
        · rw [if_pos hh] at h1 ⊢; exact .inl h1
        · rw [if_neg hh] at h1 h2 ⊢
          refine .inr ⟨h1, fun j hj => ?_⟩
          rcases List.mem_cons.1 hj with rfl | hj
          · simpa using hh
          · exact h2 j hj
  have den : ∀ (is : List Nat) {E E' : Env}, E.Le E' (fun i => i ∉ is) → ∀ (x : AV) (u : Value), Den E x u → Den E' (is.foldl (fun x i => scrub1 i x) x) u := by
    intro is E E' hle x u h
    rcases key is x with h1 | ⟨h1, h2⟩
    · rw [h1]; simp [Den]
    · rw [h1]; exact Den.mono hle x u (fun i hi hin => by rw [h2 i hin] at hi; cases hi) h
  have form : ∀ (is : List Nat) (H : Mem) (i : Nat), find (scrubHs is H) i = (find H i).map fun b => is.foldl (fun b i => scrubB i b) b := by
    intro is
    induction is with
    | nil => intro H i; simp [scrubHs]
    | cons j is ih => intro H i; simp only [scrubHs, ih, find_scrubH, List.foldl_cons]; cases find H i <;> simp
  have cells : ∀ (is : List Nat) (cs : List AV), is.foldl (fun b i => scrubB i b) (Blk.cells cs) = .cells (cs.map fun x => is.foldl (fun x i => scrub1 i x) x) := by
    intro is
    induction is with
    | nil => intro cs; simp
    | cons j is ih =>
      intro cs
      rw [List.foldl_cons]
      show is.foldl (fun b i => scrubB i b) (Blk.cells (scrubL j cs)) = _
      rw [ih]; simp [scrubL]
  have maps : ∀ (is : List Nat) (es : List (Value × AV)), is.foldl (fun b i => scrubB i b) (Blk.map es) = .map (es.map fun e => (e.1, is.foldl (fun x i => scrub1 i x) e.2)) := by
    intro is
    induction is with
    | nil => intro cs; simp
    | cons j is ih =>
      intro cs
      rw [List.foldl_cons]
      show is.foldl (fun b i => scrubB i b) (Blk.map (cs.map fun e => (e.1, scrub1 j e.2))) = _
      rw [ih]; simp
  have oths : ∀ (is : List Nat) (k : Kind) (xs : List AV), is.foldl (fun b i => scrubB i b) (Blk.oth k xs) = .oth k (xs.map fun x => is.foldl (fun x i => scrub1 i x) x) := by
    intro is
    induction is with
    | nil => intro k cs; simp
    | cons j is ih =>
      intro k cs
      rw [List.foldl_cons]
      show is.foldl (fun b i => scrubB i b) (Blk.oth k (scrubL j cs)) = _
      rw [ih]; simp [scrubL]
  intro H i b hb
  rw [form] at hb
  obtain ⟨b0, hf, rfl⟩ := Option.map_eq_some_iff.1 hb
  refine ⟨b0, hf, fun {E E'} hle => ⟨?_, ?_, ?_⟩⟩
  · rintro c o cs rfl
    refine ⟨_, cells is cs, by simp, fun hat j x hx => ?_⟩
    simp only [List.getElem?_map, Option.map_eq_some_iff] at hx
    obtain ⟨y, hy, rfl⟩ := hx
    obtain ⟨u, hu, hd⟩ := hat j y hy
    exact ⟨u, hu, den is hle y u hd⟩
  · rintro c clk es rfl
    refine ⟨_, maps is es, fun ⟨h1, h2, h3, h4⟩ => ⟨by simpa using h1, h2, h3, fun j k x hx => ?_⟩⟩
    simp only [List.getElem?_map, Option.map_eq_some_iff] at hx
    obtain ⟨⟨k', y⟩, hy, he⟩ := hx
    simp only [Prod.mk.injEq] at he
    obtain ⟨rfl, rfl⟩ := he
    obtain ⟨e, h5, h6, h7⟩ := h4 j _ y hy
    exact ⟨e, h5, h6, den is hle y _ h7⟩
  · rintro k xs rfl
    refine ⟨_, oths is k xs, fun us hd => ?_⟩
    rw [denL_iff] at hd ⊢
    refine ⟨by simp [hd.1], fun i x hx => ?_⟩
    simp only [List.getElem?_map, Option.map_eq_some_iff] at hx
    obtain ⟨y, hy, rfl⟩ := hx
    obtain ⟨u, hu, hdu⟩ := hd.2 i y hy
    exact ⟨u, hu, den is hle y u hdu⟩

end Go.Dk

/-
  Dk, part O: a contract in its own numbers gives what it says at whatever call.
-/
namespace Go.Dk
set_option autoImplicit false
set_option linter.unusedSectionVars false
set_option linter.unusedVariables false
set_option linter.unusedSimpArgs false

/-- what a call asks: the numbers m, the objects that are only read V -/
structure CallOk (c : Con) (keep ent : List Nat) (H : Mem) (xs : List AV) (m : Nat → Nat) (V : List Nat) : Prop where
  args : viewL H V xs = renL m c.args
  mem : ∀ id b, find c.H id = some b → ∃ b', find H (m id) = some b' ∧ viewB H V b' = renB m b
  apart : ∀ id, id ∈ ids c.H → m id ∉ V
  inj : ∀ i j, i ∈ ids c.H ++ ids c.H' → j ∈ ids c.H ++ ids c.H' → m i = m j → i = j
  keepin : ∀ id, id ∈ c.keep → id ∈ ids c.H
  moved : ∀ i, i ∈ ids c.H ++ ids c.H' → i ∉ c.keep → m i ∉ keep
  ents : (∀ i, i ∈ ids c.H → m i ∉ ent ∨ (i ∈ c.keep ∧ i ∈ ids c.H')) ∨ (∀ i, i ∈ ids c.H' → i ∈ ids c.H → i ∉ c.keep → m i ∈ ent)
  retin : ∀ i, c.ret.has i = true → i ∈ ids c.H ++ ids c.H'
  memin : ∀ id b, find c.H' id = some b → ∀ i, hasB i b = true → i ∈ ids c.H ++ ids c.H'
  strong : V = [] ∨ (c.ret.strong = true ∧ ∀ id b, find c.H' id = some b → strongB b = true)

def callScr (c : Con) (m : Nat → Nat) : List Nat := ((ids c.H ++ ids c.H').filter fun i => !c.keep.contains i).map m
def callMem (c : Con) (m : Nat → Nat) (H : Mem) : Mem := renMem m c.H' ++ eraseAll ((ids c.H ++ ids c.H').map m) (scrubHs (callScr c m) H)

theorem ids_renMem (m : Nat → Nat) : ∀ H : Mem, ids (renMem m H) = (ids H).map m
  | [] => rfl
  | (i, b) :: r => by simp [renMem, ids, ids_renMem m r]

theorem viewB_cells {H : Mem} {V : List Nat} {m : Nat → Nat} {b' : Blk} {cs : List AV} (h : viewB H V b' = renB m (.cells cs)) : ∃ cs', b' = .cells cs' ∧ viewL H V cs' = renL m cs := by
  cases b' with
  | cells cs' => exact ⟨cs', rfl, by simpa [viewB, renB] using h⟩
  | map es => simp [viewB, renB] at h
  | oth k xs => simp [viewB, renB] at h

theorem viewB_oth {H : Mem} {V : List Nat} {m : Nat → Nat} {b' : Blk} {k : Kind} {cs : List AV} (h : viewB H V b' = renB m (.oth k cs)) : ∃ cs', b' = .oth k cs' ∧ viewL H V cs' = renL m cs := by
  cases b' with
  | cells cs' => simp [viewB, renB] at h
  | map es => simp [viewB, renB] at h
  | oth k' xs =>
    simp only [viewB, renB, Blk.oth.injEq] at h
    obtain ⟨rfl, h⟩ := h
    exact ⟨xs, rfl, h⟩

theorem viewB_map {H : Mem} {V : List Nat} {m : Nat → Nat} {b' : Blk} {es : List (Value × AV)} (h : viewB H V b' = renB m (.map es)) :
    ∃ es', b' = .map es' ∧ es'.map (fun e => (e.1, e.2.view H V)) = es.map fun e => (e.1, e.2.ren m) := by
  cases b' with
  | cells cs' => simp [viewB, renB] at h
  | map es' => exact ⟨es', rfl, by simpa [viewB, renB] using h⟩
  | oth k xs => simp [viewB, renB] at h

theorem call_gives {P : Program} {f : Tgt} {c : Con} (hc : c.holdsT P f) {keep ent : List Nat} {H : Mem} {xs : List AV} {m : Nat → Nat} {V : List Nat} (ok : CallOk c keep ent H xs m V) :
    CallGives P keep ent H f xs (c.ret.ren m) (callMem c m H) (callScr c m) := by
  intro C E w us hkeep hent hR hW hxs
  have hw := hW.1
  -- the callee's environment
  let S0c : Nat → Prop := fun b => (E.S0 b ∨ E.S1 b) ∨ ∃ id, id ∈ V ∧ ∃ bb, find H id = some bb ∧ 0 < (E.β id).sz ∧ (E.β id).blk = b
  let Ev : Env := ⟨E.heap, E.β, S0c, fun _ => False, E.os, E.out⟩
  let Ec : Env := ⟨E.heap, fun id => E.β (m id), S0c, fun _ => False, E.os, E.out⟩
  let Xc : Nat → Prop := fun b => ∃ id bb, find c.H id = some bb ∧ 0 < (E.β (m id)).sz ∧ (E.β (m id)).blk = b
  let Cc : Ctx := ⟨w, Xc, S0c, fun id => E.β (m id), c.keep, ids c.H, fun _ => False⟩
  have hsz : w.heap.size = E.heap.size := by rw [hw]
  have view1 : ∀ (x : AV) (u : Value), Den E x u → Den Ev (x.view H V) u := fun x u h =>
    den_view hR (E' := Ev) rfl (fun b hb => .inl hb) (fun id hid bb hf hs => .inr ⟨id, hid, bb, hf, hs, rfl⟩) (fun _ _ => rfl) (fun _ => rfl) x u h
  have viewl : ∀ (x : List AV) (u : List Value), DenL E x u → DenL Ev (viewL H V x) u := fun x u h =>
    denL_view hR (E' := Ev) rfl (fun b hb => .inl hb) (fun id hid bb hf hs => .inr ⟨id, hid, bb, hf, hs, rfl⟩) (fun _ _ => rfl) (fun _ => rfl) x u h
  have unren : ∀ (x : AV) (u : Value), Den Ev (x.ren m) u → Den Ec x u := fun x u h => den_unren (E := Ec) (E' := Ev) rfl (fun _ _ hb => hb) (fun _ => rfl) x u h
  have unrenl : ∀ (x : List AV) (u : List Value), DenL Ev (renL m x) u → DenL Ec x u := fun x u h => denL_unren (E := Ec) (E' := Ev) rfl (fun _ _ hb => hb) (fun _ => rfl) x u h
  have fnd : ∀ id b, find c.H id = some b → ∃ b', find H (m id) = some b' ∧ viewB H V b' = renB m b := ok.mem
  have liveS : ∀ j bb, find H j = some bb → 0 < (E.β j).sz → ¬ E.S0 (E.β j).blk ∧ ¬ E.S1 (E.β j).blk := by
    intro j bb hf hs
    obtain ⟨h1, h2⟩ := hR.own j bb hf hs
    refine ⟨fun h0 => ?_, h2⟩
    rw [hR.s0eq] at h0
    obtain ⟨h3, h4⟩ := hR.s0 _ h0
    rcases h1 with ⟨_, h1⟩ | h1
    · exact h4 h1
    · omega
  have hRc : Rel Cc Ec c.H := by
    refine ⟨by simp [Cc, Ec, hsz], fun b _ _ => by simp [Cc, Ec, hw], rfl, ?_, fun b hb => hb.elim, fun _ _ => rfl, ?_, ?_, ?_, fun _ h => h.elim, hW.2⟩
    · -- s0
      rintro b ((hb | hb) | ⟨id, hid, bb, hf, hs, rfl⟩)
      · have hb' := hb
        rw [hR.s0eq] at hb'
        obtain ⟨h1, h2⟩ := hR.s0 _ hb'
        refine ⟨by have := hR.size; simp only [Cc]; omega, ?_⟩
        rintro ⟨i, bi, hfi, hsi, rfl⟩
        obtain ⟨b', hb1, _⟩ := fnd i bi hfi
        exact (liveS _ _ hb1 hsi).1 hb
      · refine ⟨by have := (hR.s1 _ hb).2; simp only [Cc]; omega, ?_⟩
        rintro ⟨i, bi, hfi, hsi, rfl⟩
        obtain ⟨b', hb1, _⟩ := fnd i bi hfi
        exact (liveS _ _ hb1 hsi).2 hb
      · refine ⟨by have := (hR.blk id bb hf).lt hs; simp only [Cc]; omega, ?_⟩
        rintro ⟨i, bi, hfi, hsi, he⟩
        obtain ⟨b', hb1, _⟩ := fnd i bi hfi
        have hne : m i ≠ id := fun e => ok.apart i (find_ids hfi) (e ▸ hid)
        exact hR.dist _ _ _ _ hb1 hf hne hsi hs he
    · -- blk
      intro id b hf
      obtain ⟨b', hb1, hb2⟩ := fnd id b hf
      have hbb := hR.blk _ _ hb1
      cases b with
      | cells cs =>
        obtain ⟨cs', rfl, hv⟩ := viewB_cells hb2
        have hlen : cs.length = cs'.length := by
          have := congrArg List.length hv
          rw [viewL_map, renL_map] at this; simpa using this.symm
        rcases hbb with ⟨h1, h2⟩ | ⟨hs, ca, t, fz, hh, hsz', hl, hfz, hat⟩
        · left; exact ⟨h1, by rw [h2] at hlen; exact List.length_eq_zero_iff.1 hlen⟩
        · right
          refine ⟨hs, ca, t, fz, hh, hsz', by rw [hlen]; exact hl, hfz, fun i x hx => ?_⟩
          have hx' : (renL m cs)[i]? = some (x.ren m) := by rw [renL_map, List.getElem?_map, hx]; rfl
          rw [← hv, viewL_map, List.getElem?_map, Option.map_eq_some_iff] at hx'
          obtain ⟨y, hy, hyx⟩ := hx'
          obtain ⟨u, hu, hd⟩ := hat i y hy
          exact ⟨u, hu, unren x u (hyx ▸ view1 y u hd)⟩
      | map es =>
        obtain ⟨es', rfl, hv⟩ := viewB_map hb2
        obtain ⟨hs, ca, clk, hh, h1, h2, h3, h4⟩ := hbb
        have hlen : es.length = es'.length := by
          have := congrArg List.length hv
          simpa using this.symm
        refine ⟨hs, ca, clk, hh, by rw [hlen]; exact h1, h2, h3, fun i k x hx => ?_⟩
        have hx' : (es.map fun e => (e.1, e.2.ren m))[i]? = some (k, x.ren m) := by rw [List.getElem?_map, hx]; rfl
        rw [← hv, List.getElem?_map, Option.map_eq_some_iff] at hx'
        obtain ⟨⟨k', y⟩, hy, hyx⟩ := hx'
        simp only [Prod.mk.injEq] at hyx
        obtain ⟨rfl, hyx⟩ := hyx
        obtain ⟨e, h5, h6, h7⟩ := h4 i _ y hy
        exact ⟨e, h5, h6, unren x _ (hyx ▸ view1 y _ h7)⟩
      | oth k xs =>
        obtain ⟨xs', rfl, hv⟩ := viewB_oth hb2
        obtain ⟨hs, o, us, hh, hd, hk⟩ := hbb
        exact ⟨hs, o, us, hh, unrenl _ _ (hv ▸ viewl _ _ hd), hk⟩
    · intro id b hf hs
      exact ⟨.inl ⟨find_ids hf, id, b, hf, hs, rfl⟩, fun h => h.elim⟩
    · intro i b j b2 hf hf2 hij hs hs2
      obtain ⟨b', hb1, _⟩ := fnd i b hf
      obtain ⟨b2', hb2, _⟩ := fnd j b2 hf2
      exact hR.dist _ _ _ _ hb1 hb2 (fun e => hij (ok.inj i j (by simp [find_ids hf]) (by simp [find_ids hf2]) e)) hs hs2
  have hargs : DenL Ec c.args us := unrenl _ _ (ok.args ▸ viewl _ _ hxs)
  refine Tgt.calls_mono (hc Cc Ec us rfl rfl (fun b hb => hb) (show Ec.At w from hW) hRc hargs) ?_
  rintro e w' ⟨u, E', rfl, hW', hR', hret⟩
  have hw' := hW'.1
  refine ⟨u, ?_⟩
  -- the caller's environment behind the call
  classical
  let dom := ids c.H ++ ids c.H'
  let β2 : Nat → Loc := fun j => if h : ∃ i, i ∈ dom ∧ m i = j then E'.β (Classical.choose h) else E.β j
  have β2at : ∀ i, i ∈ dom → β2 (m i) = E'.β i := by
    intro i hi
    have hex : ∃ i', i' ∈ dom ∧ m i' = m i := ⟨i, hi, rfl⟩
    simp only [β2, dif_pos hex]
    have := Classical.choose_spec hex
    rw [ok.inj _ _ this.1 hi this.2]
  have β2off : ∀ j, (∀ i, i ∈ dom → m i ≠ j) → β2 j = E.β j := by
    intro j hj
    have : ¬ ∃ i, i ∈ dom ∧ m i = j := fun ⟨i, hi, he⟩ => hj i hi he
    simp only [β2, dif_neg this]
  have βkeep : ∀ i, i ∈ c.keep → E'.β i = E.β (m i) := fun i hi => hR'.keep i hi
  let E2 : Env := ⟨w'.heap, β2, E.S0, fun b => E.S1 b ∨ E'.S1 b, E'.os, E'.out⟩
  have hframe : ∀ b, b < w.heap.size → ¬ Xc b → w'.heap[b]? = E.heap[b]? := by
    intro b hb hx
    have := hR'.frame b hb hx
    rw [hw'] at this; rw [this]; simp only [Cc]; rw [hw]
  have hscr : ∀ j, j ∉ callScr c m → β2 j = E.β j := by
    intro j hj
    by_cases hex : ∃ i, i ∈ dom ∧ m i = j
    · obtain ⟨i, hi, rfl⟩ := hex
      by_cases hk : i ∈ c.keep
      · rw [β2at i hi, βkeep i hk]
      · exfalso; apply hj
        simp only [callScr, List.mem_map, List.mem_filter]
        exact ⟨i, ⟨hi, by simpa using hk⟩, rfl⟩
    · exact β2off j fun i hi he => hex ⟨i, hi, he⟩
  have hnX : ∀ b, E.S0 b ∨ E.S1 b → ¬ Xc b := by
    rintro b hb ⟨i, bi, hfi, hsi, rfl⟩
    obtain ⟨b', hb1, _⟩ := fnd i bi hfi
    have := liveS _ _ hb1 hsi
    rcases hb with hb | hb
    · exact this.1 hb
    · exact this.2 hb
  have hlt : ∀ b, E.S0 b ∨ E.S1 b → b < w.heap.size := by
    rintro b (hb | hb)
    · rw [hR.s0eq] at hb
      have := (hR.s0 _ hb).1
      have := hR.size
      omega
    · have := (hR.s1 _ hb).2; omega
  have hle : E.Le E2 (fun i => i ∉ callScr c m) := by
    refine ⟨fun b hb => ⟨.inl hb, hframe b (hlt b (.inl hb)) (hnX b (.inl hb))⟩, fun b hb => ⟨.inl hb, hframe b (hlt b (.inr hb)) (hnX b (.inr hb))⟩, fun i hi => hscr i hi⟩
  have hnew : ∀ b, E'.S1 b → w.heap.size ≤ b ∧ b < w'.heap.size := by
    intro b hb
    have := hR'.s1 b hb
    rw [hw'] at this; exact this
  -- values of the callee's
  have toE2 : ∀ (x : AV) (v : Value), (V = [] ∨ x.strong = true) → (∀ i, x.has i = true → i ∈ dom) → Den E' x v → Den E2 (x.ren m) v := by
    intro x v hs hin hd
    rcases hs with rfl | hs
    · refine den_ren (E := E') (E' := E2) hw'.symm ?_ x v (fun i hi => β2at i (hin i hi)) hd
      intro g b hb
      cases g with
      | true => exact .inr hb
      | false =>
        rcases hb with hb | hb
        · rw [hR'.s0eq] at hb
          rcases hb with (hb | hb) | ⟨id, hid, _⟩
          · exact .inl hb
          · exact .inr (.inl hb)
          · cases hid
        · exact .inr (.inr hb)
    · exact den_ren_strong (E := E') (E' := E2) hw'.symm (fun b hb => .inr hb) x v hs (fun i hi => β2at i (hin i hi)) hd
  have strongD : V = [] ∨ c.ret.strong = true := ok.strong.imp id fun h => h.1
  have strongM : ∀ id b, find c.H' id = some b → V = [] ∨ strongB b = true := fun id b hf => ok.strong.imp (fun h => h) fun h => h.2 id b hf
  have strongL_get : ∀ {cs : List AV} {i : Nat} {x : AV}, strongL cs = true → cs[i]? = some x → x.strong = true := by
    intro cs
    induction cs with
    | nil => intro i x _ h; simp at h
    | cons y ys ih =>
      intro i x hs h
      simp only [strongL, Bool.and_eq_true] at hs
      cases i with
      | zero => simp at h; subst h; exact hs.1
      | succ i => exact ih hs.2 (by simpa using h)
  have hasL_get : ∀ {cs : List AV} {i : Nat} {x : AV} {k : Nat}, cs[i]? = some x → x.has k = true → hasL k cs = true := by
    intro cs
    induction cs with
    | nil => intro i x k h; simp at h
    | cons y ys ih =>
      intro i x k h hk
      cases i with
      | zero => simp at h; subst h; simp [hasL, hk]
      | succ i => simp [hasL, ih (by simpa using h) hk]
  have fmem : ∀ j b, find (callMem c m H) j = some b → (∃ i b0, m i = j ∧ find c.H' i = some b0 ∧ b = renB m b0) ∨
      ((∀ i, i ∈ dom → m i ≠ j) ∧ ∃ b0, find (scrubHs (callScr c m) H) j = some b0 ∧ b = b0) := by
    intro j b hf
    simp only [callMem, find_append] at hf
    cases h1 : find (renMem m c.H') j with
    | some b1 =>
      rw [h1] at hf
      obtain rfl := Option.some.inj hf
      exact .inl ((find_renMem m c.H' (fun i j hi hj => ok.inj i j (by simp [hi]) (by simp [hj])) j b1).1 h1)
    | none =>
      rw [h1] at hf
      simp only [find_eraseAll] at hf
      split at hf
      · cases hf
      · rename_i hn
        refine .inr ⟨fun i hi he => hn (by rw [List.mem_map]; exact ⟨i, hi, he⟩), b, hf, rfl⟩
  -- where the callee's objects lie
  have ownc : ∀ i b0, find c.H' i = some b0 → 0 < (E'.β i).sz → (Xc (E'.β i).blk) ∨ w.heap.size ≤ (E'.β i).blk := by
    intro i b0 hf hs
    rcases (hR'.own i b0 hf hs).1 with ⟨_, h⟩ | h
    · exact .inl h
    · exact .inr h
  refine ⟨E2, rfl, ⟨rfl, hW'.2⟩, ?_, hle, toE2 _ _ strongD ok.retin hret⟩
  refine ⟨?_, ?_, hR.s0eq, hR.s0, ?_, ?_, ?_, ?_, ?_, hle.mrk hR.mrk, ⟨hR'.os.1.trans (hW.2.1.symm.trans hR.os.1), hR'.os.2.trans (hW.2.2.symm.trans hR.os.2)⟩⟩
  · have h1 := hR'.size
    have h2 := hR.size
    rw [hw'] at h1; simp only [Cc] at h1; simp only [E2]; omega
  · intro b hb hx
    have hnx : ¬ Xc b := by
      rintro ⟨i, bi, hfi, hsi, rfl⟩
      obtain ⟨b', hb1, _⟩ := fnd i bi hfi
      rcases (hR.own _ _ hb1 hsi).1 with ⟨_, h⟩ | h
      · exact hx h
      · omega
    rw [← hR.frame b hb hx]
    exact hframe b (by have := hR.size; omega) hnx
  · rintro b (hb | hb)
    · have h1 := hR.s1 b hb
      have h2 := hR'.size
      rw [hw'] at h2; simp only [Cc] at h2
      exact ⟨h1.1, by simp only [E2]; omega⟩
    · have h1 := hnew b hb
      exact ⟨by have := hR.size; omega, h1.2⟩
  · intro id hid
    have : id ∉ callScr c m := by
      simp only [callScr, List.mem_map, List.mem_filter]
      rintro ⟨i, ⟨hi, hk⟩, rfl⟩
      exact ok.moved i hi (by simpa using hk) (hkeep ▸ hid)
    simp only [E2]
    rw [hscr id this]; exact hR.keep id hid
  · -- blk
    intro j b hf
    rcases fmem j b hf with ⟨i, b0, rfl, hf0, rfl⟩ | ⟨hoff, b0, hf0, rfl⟩
    · have hi : i ∈ dom := by simp [dom, find_ids hf0]
      have hbb := hR'.blk i b0 hf0
      have hbe : E2.β (m i) = E'.β i := β2at i hi
      cases b0 with
      | cells cs =>
        rcases hbb with ⟨h1, rfl⟩ | ⟨hs, ca, t, fz, hh, hsz', hl, hfz, hat⟩
        · left; exact ⟨by rw [hbe]; exact h1, rfl⟩
        · right
          rw [hbe]
          refine ⟨hs, ca, t, fz, by simp only [E2]; rw [← hw']; exact hh, hsz', by rw [renL_map]; simpa using hl, hfz, fun k y hy => ?_⟩
          rw [renL_map, List.getElem?_map, Option.map_eq_some_iff] at hy
          obtain ⟨x, hx, rfl⟩ := hy
          obtain ⟨v, hv, hd⟩ := hat k x hx
          refine ⟨v, hv, toE2 x v ((strongM i _ hf0).imp id fun h => strongL_get h hx) (fun k' hk' => ok.memin i _ hf0 k' (hasL_get hx hk')) hd⟩
      | map es =>
        obtain ⟨hs, ca, clk, hh, h1, h2, h3, h4⟩ := hbb
        show _ ∧ _
        rw [hbe]
        refine ⟨hs, ca, clk, by simp only [E2]; rw [← hw']; exact hh, by simpa using h1, h2, h3, fun k key y hy => ?_⟩
        rw [List.getElem?_map, Option.map_eq_some_iff] at hy
        obtain ⟨⟨k', x⟩, hx, he⟩ := hy
        simp only [Prod.mk.injEq] at he
        obtain ⟨rfl, rfl⟩ := he
        obtain ⟨en, h5, h6, h7⟩ := h4 k _ x hx
        have hmem : (k', x) ∈ es := List.mem_of_getElem? hx
        refine ⟨en, h5, h6, toE2 x _ ((strongM i _ hf0).imp id fun h => ?_) (fun k'' hk'' => ok.memin i _ hf0 k'' ?_) h7⟩
        · simp only [strongB, List.all_eq_true] at h; exact h _ hmem
        · simp only [hasB, List.any_eq_true]; exact ⟨_, hmem, hk''⟩
      | oth k xs =>
        obtain ⟨hs, o, us, hh, hd, hk⟩ := hbb
        show _ ∧ _
        rw [hbe]
        refine ⟨hs, o, us, by simp only [E2]; rw [← hw']; exact hh, ?_, hk⟩
        rw [renL_map, denL_iff]
        rw [denL_iff] at hd
        refine ⟨by simp [hd.1], fun q y hy => ?_⟩
        rw [List.getElem?_map, Option.map_eq_some_iff] at hy
        obtain ⟨x, hx, rfl⟩ := hy
        obtain ⟨v, hv, hdv⟩ := hd.2 q x hx
        exact ⟨v, hv, toE2 x v ((strongM i _ hf0).imp id fun h => strongL_get h hx) (fun k' hk' => ok.memin i _ hf0 k' (hasL_get hx hk')) hdv⟩
    · obtain ⟨b1, hf1, hrel⟩ := find_scrubHs _ _ _ _ hf0
      have hbb := hR.blk j b1 hf1
      have hbe : E2.β j = E.β j := β2off j hoff
      have hsame : 0 < (E.β j).sz → w'.heap[(E.β j).blk]? = E.heap[(E.β j).blk]? := by
        intro hs
        refine hframe _ (by have := hbb.lt hs; omega) ?_
        rintro ⟨i, bi, hfi, hsi, he⟩
        obtain ⟨b', hb1, _⟩ := fnd i bi hfi
        exact hR.dist _ _ _ _ hb1 hf1 (hoff i (by simp [dom, find_ids hfi])) hsi hs he
      cases b1 with
      | cells cs =>
        obtain ⟨cs', rfl, hlen, _⟩ := (hrel hle).1 (c := #[]) (o := 0) rfl
        rcases hbb with ⟨h1, rfl⟩ | ⟨hs, ca, t, fz, hh, hsz', hl, hfz, hat⟩
        · left; exact ⟨by rw [hbe]; exact h1, List.length_eq_zero_iff.1 (by simpa using hlen)⟩
        · obtain ⟨cs'', he, _, hat'⟩ := (hrel hle).1 (c := ca) (o := (E.β j).base) rfl
          obtain rfl := Blk.cells.inj he
          right
          rw [hbe]
          exact ⟨hs, ca, t, fz, by simp only [E2]; rw [hsame hs]; exact hh, hsz', by rw [hlen]; exact hl, hfz, hat' hat⟩
      | map es =>
        obtain ⟨hs, ca, clk, hh, hat⟩ := hbb
        obtain ⟨es', rfl, hat'⟩ := (hrel hle).2.1 (c := ca) (clk := clk) rfl
        show _ ∧ _
        rw [hbe]
        exact ⟨hs, ca, clk, by simp only [E2]; rw [hsame hs]; exact hh, hat' hat⟩
      | oth k xs =>
        obtain ⟨hs, o, us, hh, hd, hk⟩ := hbb
        obtain ⟨xs', rfl, hd'⟩ := (hrel hle).2.2 (k := k) (xs := xs) rfl
        show _ ∧ _
        rw [hbe]
        exact ⟨hs, o, us, by simp only [E2]; rw [hsame hs]; exact hh, hd' us hd, hk⟩
  · -- own
    intro j b hf hs
    rcases fmem j b hf with ⟨i, b0, rfl, hf0, rfl⟩ | ⟨hoff, b0, hf0, rfl⟩
    · have hi : i ∈ dom := by simp [dom, find_ids hf0]
      have hbe : E2.β (m i) = E'.β i := β2at i hi
      rw [hbe] at hs ⊢
      have hnotS1 : ¬ E2.S1 (E'.β i).blk := by
        rintro (h1 | h1)
        · rcases ownc i b0 hf0 hs with h2 | h2
          · exact hnX _ (.inr h1) h2
          · have := hlt _ (.inr h1); omega
        · exact (hR'.own i b0 hf0 hs).2 h1
      refine ⟨?_, hnotS1⟩
      rcases (hR'.own i b0 hf0 hs).1 with ⟨hin, hX⟩ | h
      · -- an object that was there: where does it lie?
        obtain ⟨i', bi, hfi, hsi, hblk⟩ := hX
        obtain ⟨b', hb1, _⟩ := fnd i' bi hfi
        have hin' : i ∈ ids c.H := hin
        by_cases hk : i ∈ c.keep
        · obtain ⟨bi2, hfi2⟩ := ids_find hin'
          obtain ⟨b'2, hb12, _⟩ := fnd i bi2 hfi2
          have hb := βkeep i hk
          rw [hb] at hs ⊢
          exact (hR.own _ _ hb12 hs).1
        · rcases ok.ents with hloc | hall
          · right
            rw [← hblk]
            rcases (hR.own _ _ hb1 hsi).1 with ⟨h1, _⟩ | h1
            · rcases hloc i' (find_ids hfi) with h2 | ⟨h2, h3⟩
              · exact absurd (hent ▸ h1) h2
              · exfalso
                obtain ⟨b3, hf3⟩ := ids_find h3
                have hb3 := βkeep i' h2
                exact hR'.dist i b0 i' b3 hf0 hf3 (fun e => hk (e ▸ h2)) hs (by rw [hb3]; exact hsi) (by rw [hb3]; exact hblk.symm)
            · exact h1
          · have hme := hall i (find_ids hf0) hin' hk
            rw [← hblk]
            rcases (hR.own _ _ hb1 hsi).1 with ⟨_, h1⟩ | h1
            · left; exact ⟨hent ▸ hme, h1⟩
            · right; exact h1
      · right
        have := hR.size
        simp only [Cc] at h
        omega
    · obtain ⟨b1, hf1, _⟩ := find_scrubHs _ _ _ _ hf0
      have hbe : E2.β j = E.β j := β2off j hoff
      rw [hbe] at hs ⊢
      obtain ⟨h1, h2⟩ := hR.own j b1 hf1 hs
      refine ⟨h1, ?_⟩
      rintro (h3 | h3)
      · exact h2 h3
      · have := (hnew _ h3).1
        have := (hR.blk j b1 hf1).lt hs
        omega
  · -- dist
    have mixed : ∀ i b0 j b1, find c.H' i = some b0 → find H j = some b1 → (∀ i, i ∈ dom → m i ≠ j) → 0 < (E'.β i).sz → 0 < (E.β j).sz → (E'.β i).blk ≠ (E.β j).blk := by
      intro i b0 j b1 hf0 hf1 hoff hs hs2 he
      rcases ownc i b0 hf0 hs with ⟨i', bi, hfi, hsi, hblk⟩ | h
      · obtain ⟨b', hb1, _⟩ := fnd i' bi hfi
        exact hR.dist _ _ _ _ hb1 hf1 (hoff i' (by simp [dom, find_ids hfi])) hsi hs2 (hblk.trans he)
      · have := (hR.blk j b1 hf1).lt hs2
        omega
    intro j b j2 b2 hf hf2 hij hs hs2
    rcases fmem j b hf with ⟨i, b0, rfl, hf0, rfl⟩ | ⟨hoff, b0, hf0, rfl⟩
    · have hbe : E2.β (m i) = E'.β i := β2at i (by simp [dom, find_ids hf0])
      rw [hbe] at hs ⊢
      rcases fmem j2 b2 hf2 with ⟨i2, b02, rfl, hf02, rfl⟩ | ⟨hoff2, b02, hf02, rfl⟩
      · have hbe2 : E2.β (m i2) = E'.β i2 := β2at i2 (by simp [dom, find_ids hf02])
        rw [hbe2] at hs2 ⊢
        exact hR'.dist _ _ _ _ hf0 hf02 (fun e => hij (by rw [e])) hs hs2
      · obtain ⟨b1, hf1, _⟩ := find_scrubHs _ _ _ _ hf02
        have hbe2 : E2.β j2 = E.β j2 := β2off j2 hoff2
        rw [hbe2] at hs2 ⊢
        exact mixed i b0 j2 b1 hf0 hf1 hoff2 hs hs2
    · obtain ⟨b1, hf1, _⟩ := find_scrubHs _ _ _ _ hf0
      have hbe : E2.β j = E.β j := β2off j hoff
      rw [hbe] at hs ⊢
      rcases fmem j2 b2 hf2 with ⟨i2, b02, rfl, hf02, rfl⟩ | ⟨hoff2, b02, hf02, rfl⟩
      · have hbe2 : E2.β (m i2) = E'.β i2 := β2at i2 (by simp [dom, find_ids hf02])
        rw [hbe2] at hs2 ⊢
        exact fun e => mixed i2 b02 j b1 hf02 hf1 hoff hs2 hs e.symm
      · obtain ⟨b12, hf12, _⟩ := find_scrubHs _ _ _ _ hf02
        have hbe2 : E2.β j2 = E.β j2 := β2off j2 hoff2
        rw [hbe2] at hs2 ⊢
        exact hR.dist _ _ _ _ hf1 hf12 hij hs hs2

end Go.Dk

/-
  Dk, part P: a function's contract out of its code.
-/
namespace Go.Dk
set_option autoImplicit false
set_option linter.unusedSectionVars false
set_option linter.unusedVariables false
set_option linter.unusedSimpArgs false

def argEnv : Nat → List AV → List (Nat × AV)
  | _, [] => []
  | i, x :: xs => (i, x) :: argEnv (i + 1) xs

theorem look_argEnv : ∀ (xs : List AV) (i t : Nat), look (argEnv i xs) t = if t < i then .any else (xs[t - i]?).getD .any := by
  intro xs
  induction xs with
  | nil => intro i t; simp [argEnv, look]
  | cons x xs ih =>
    intro i t
    simp only [argEnv, look, ih]
    by_cases h : i = t
    · subst h; simp
    · have hb : (i == t) = false := by simpa using h
      rw [hb]
      simp only [Bool.false_eq_true, if_false]
      by_cases h1 : t < i
      · rw [if_pos h1, if_pos (by omega)]
      · rw [if_neg h1, if_neg (by omega), show t - i = (t - (i + 1)) + 1 by omega]; simp

def resOne (P : Program) (σ : Sg) : ResultVar → Option AV
  | .tmp t => some (look σ.env t)
  | .cell a t => loadA P σ.H t (look σ.env a)
def resL (P : Program) (σ : Sg) : List ResultVar → Option (List AV)
  | [] => some []
  | r :: rs => match resOne P σ r, resL P σ rs with
    | some x, some xs => some (x :: xs)
    | _, _ => none
def resA (P : Program) (rs : List ResultVar) (σ : Sg) : Option AV :=
  match resL P σ rs with
  | some [x] => some x
  | some xs => some (.tup xs)
  | none => none

def subMem : Mem → Mem → Prop
  | [], _ => True
  | (i, b) :: r, H => find H i = some b ∧ subMem r H

theorem subMem_find {H' H : Mem} (h : subMem H' H) : ∀ id b, find H' id = some b → find H id = some b := by
  induction H' with
  | nil => intro id b hf; simp [find] at hf
  | cons p r ih =>
    obtain ⟨i, c⟩ := p
    obtain ⟨h1, h2⟩ := h
    intro id b hf
    simp only [find] at hf
    split at hf
    · rename_i hi; simp at hi; subst hi; rw [h1]; exact hf
    · exact ih h2 id b hf

def Fin (F : Fun) (rs : List ResultVar) (ret : AV) (H' : Mem) : Ex → Sg → Prop
  | .exit _, _ => False
  | _, σ => ∃ σ', Weak F σ σ' ∧ resA F.P rs σ' = some ret ∧ subMem H' σ'.H

theorem fin_ret {F : Fun} {rs : List ResultVar} {ret : AV} {H' : Mem} {σ : Sg} (h1 : resA F.P rs σ = some ret) (h2 : subMem H' σ.H) : Fin F rs ret H' .ret σ := ⟨σ, Weak.refl _ _, h1, h2⟩
theorem fin_normal {F : Fun} {rs : List ResultVar} {ret : AV} {H' : Mem} {σ : Sg} (h1 : resA F.P rs σ = some ret) (h2 : subMem H' σ.H) : Fin F rs ret H' .normal σ := ⟨σ, Weak.refl _ _, h1, h2⟩

section
variable {C : Ctx} {E : Env} {P : Program} {w : World} {σ : Sg} {tmps : Array Value}

theorem run_resL (hR : Rel C E σ.H) (hW : E.At w) (hd : ∀ t, Den E (look σ.env t) (tmps.getD t undef)) : ∀ (rs : List ResultVar) (xs : List AV), resL P σ rs = some xs →
    ∃ us : List Value, (rs.mapM (m := Sem) fun r => match r with
      | .tmp t => pure (tmps.getD t undef)
      | .cell a t => do loadVar t (← asAddr (tmps.getD a undef))).run P w = .ok us w ∧ DenL E xs us := by
  have hw := hW.1
  intro rs
  induction rs with
  | nil => intro xs h; simp [resL] at h; subst h; exact ⟨[], by simp, by simp [DenL]⟩
  | cons r rs ih =>
    intro xs h
    simp only [resL] at h
    split at h <;> simp at h
    rename_i x ys hx hys
    subst h
    obtain ⟨us, h1, h2⟩ := ih ys hys
    cases r with
    | tmp t =>
      simp [resOne] at hx; subst hx
      refine ⟨tmps.getD t undef :: us, ?_, ?_⟩
      · rw [List.mapM_cons]; simp only [Sem.run_bind, Sem.run_pure, Result.andThen_ok, h1]
      · simp only [DenL]; exact ⟨_, _, rfl, hd t, h2⟩
    | cell a t =>
      simp only [resOne] at hx
      obtain ⟨v, hv, hdv⟩ := run_loadA (P := P) (w := w) hR hW hx (hd a)
      refine ⟨v :: us, ?_, ?_⟩
      · rw [List.mapM_cons]
        have : (do loadVar t (← asAddr (tmps.getD a undef)) : Sem Value).run P w = .ok v w := by
          unfold loadA at hx
          split at hx <;> try simp at hx
          · rename_i id off he
            have := hd a
            rw [he] at this; simp only [Den] at this
            rw [this] at hv ⊢
            simpa [Instr.loadAt, Instr.sureAddr, asAddr] using hv
          · rename_i g cs he
            have := hd a
            rw [he] at this; simp only [Den] at this
            obtain ⟨b, o, hu, _⟩ := this
            rw [hu] at hv ⊢
            simpa [Instr.loadAt, Instr.sureAddr, asAddr] using hv
        simp only [Sem.run_bind] at this ⊢
        rw [this]; simp only [Result.andThen_ok, h1, Sem.run_pure]
      · simp only [DenL]; exact ⟨_, _, rfl, hdv, h2⟩

theorem run_resA (hR : Rel C E σ.H) (hW : E.At w) (hd : ∀ t, Den E (look σ.env t) (tmps.getD t undef)) {fn : Func} {x : AV} (h : resA P fn.results.toList σ = some x) :
    ∃ u, (results fn tmps).run P w = .ok u w ∧ Den E x u := by
  have hw := hW.1
  unfold resA at h
  have key : ∀ us : List Value, (fn.results.toList.mapM (m := Sem) fun r => match r with
      | .tmp t => pure (tmps.getD t undef)
      | .cell a t => do loadVar t (← asAddr (tmps.getD a undef))).run P w = .ok us w →
      (results fn tmps).run P w = .ok (if h : us.toArray.size = 1 then us.toArray[0] else .tuple us.toArray) w := by
    intro us hus
    unfold results
    rw [Array.mapM_eq_mapM_toList]
    rw [Sem.run_bind, Sem.run_map]
    have hus' : (fn.results.toList.mapM (m := Sem) fun x => match x with
      | .tmp t => pure (tmps.getD t undef)
      | .cell a t => do
        let __do_lift ← asAddr (tmps.getD a undef)
        loadVar t __do_lift).run P w = .ok us w := hus
    refine (congrArg (fun r => Result.andThen (Result.andThen r _) _) hus').trans ?_
    rfl
  split at h <;> simp at h
  · rename_i y hy
    subst h
    obtain ⟨us, h1, h2⟩ := run_resL hR hW hd _ _ hy
    simp only [DenL] at h2
    obtain ⟨u, us', rfl, hu, rfl⟩ := h2
    refine ⟨u, ?_, hu⟩
    rw [key _ h1]; rfl
  · rename_i xs hne hy
    subst h
    obtain ⟨us, h1, h2⟩ := run_resL hR hW hd _ _ hy
    refine ⟨.tuple us.toArray, ?_, by simp only [Den]; exact ⟨us, rfl, h2⟩⟩
    rw [key _ h1, dif_neg]
    intro hsz
    have : us.length = 1 := by simpa using hsz
    rw [denL_length h2] at this
    obtain ⟨x, rfl⟩ := List.length_eq_one_iff.1 this
    exact hne x rfl

end

/-- a block of marks is shut: all else stays -/
theorem Rel.shutD {C : Ctx} {E : Env} {H : Mem} {D : Nat} {o : Obj} {h' : Array Obj} (hR : Rel C E H) (hM : ¬ C.M D) (hD : E.S1 D) (hb : E.heap[D]? = some (.deferred (some []))) (hsz : h'.size = E.heap.size)
    (hrest : ∀ j, j ≠ D → h'[j]? = E.heap[j]?) (hnew : h'[D]? = some o) (ho : ∀ c t fz, o ≠ .cells c t fz) :
    Rel C { E with heap := h' } H ∧ ∀ x u, Den E x u → Den { E with heap := h' } x u := by
  have hc : ∀ b q, cellOf h' b q = cellOf E.heap b q := by
    intro b q
    unfold cellOf
    by_cases hbD : b = D
    · subst hbD
      rw [hb, hnew]
      cases o <;> first | rfl | exact absurd rfl (ho _ _ _)
    · rw [hrest b hbD]
  have hden : ∀ x u, Den E x u → Den { E with heap := h' } x u := fun x u h => Den.monoC (E := E) (E' := { E with heap := h' }) (ids := fun _ => True) (fun g b hb => ⟨hb, fun q => hc b q⟩) (fun _ _ => rfl) x u (fun _ _ => trivial) h
  have hdenL : ∀ x u, DenL E x u → DenL { E with heap := h' } x u := fun x u h => DenL.monoC (E := E) (E' := { E with heap := h' }) (ids := fun _ => True) (fun g b hb => ⟨hb, fun q => hc b q⟩) (fun _ _ => rfl) x u (fun _ _ => trivial) h
  refine ⟨⟨by simpa [hsz] using hR.size, ?_, hR.s0eq, hR.s0, fun b hb' => by simpa [hsz] using hR.s1 b hb', hR.keep, ?_, hR.own, hR.dist, fun D' hD' => ⟨(hR.mrk D' hD').1, by show h'[D']? = _; rw [hrest D' (fun e => hM (e ▸ hD'))]; exact (hR.mrk D' hD').2⟩, hR.os⟩, hden⟩
  · intro b hlt hx
    rw [← hR.frame b hlt hx]
    exact hrest b (by have := (hR.s1 D hD).1; omega)
  · intro id b hf
    have hne : 0 < (E.β id).sz → (E.β id).blk ≠ D := fun hs e => (hR.own id b hf hs).2 (e ▸ hD)
    have hbb := hR.blk id b hf
    cases b with
    | cells cs =>
      rcases hbb with h0 | ⟨hs, c, t, fz, g1, g2, g3, g4, g5⟩
      · exact .inl h0
      · exact .inr ⟨hs, c, t, fz, by show h'[(E.β id).blk]? = _; rw [hrest _ (hne hs)]; exact g1, g2, g3, g4, fun i x hx => by
          obtain ⟨u, hu, hd⟩ := g5 i x hx
          exact ⟨u, hu, hden x u hd⟩⟩
    | map es =>
      obtain ⟨hs, c, clk, g1, g2, g3, g4, g5⟩ := hbb
      exact ⟨hs, c, clk, by show h'[(E.β id).blk]? = _; rw [hrest _ (hne hs)]; exact g1, g2, g3, g4, fun i k x hx => by
        obtain ⟨e, h1, h2, h3⟩ := g5 i k x hx
        exact ⟨e, h1, h2, hden x _ h3⟩⟩
    | oth k xs =>
      obtain ⟨hs, o', us, g1, g2, g3⟩ := hbb
      exact ⟨hs, o', us, by show h'[(E.β id).blk]? = _; rw [hrest _ (hne hs)]; exact g1, hdenL xs us g2, g3⟩

theorem leaves_marks {P : Program} {fn : Func} {tmps : Array Value} {C : Ctx} {σ : Sg} {x : AV} (hres : resA P fn.results.toList σ = some x) {R : Ending → World → Prop}
    (hR' : ∀ u w' E', E'.At w' → Rel C E' σ.H → Den E' x u → R (.returned u) w') : ∀ (Ds : List Nat) (w : World) (E : Env), Ds.Nodup → E.At w → Rel C E σ.H →
      (∀ D ∈ Ds, E.S1 D ∧ E.heap[D]? = some (.deferred (some [])) ∧ ¬ C.M D) → (∀ t, Den E (look σ.env t) (tmps.getD t undef)) →
      LeavesInM (FW none) 0 P fn tmps R (Ds.map fun D => { target := .collected D, args := #[] }) .returning w := by
  intro Ds
  induction Ds with
  | nil =>
    intro w E _ hW hR _ hd
    obtain ⟨u, hu, hdu⟩ := run_resA hR hW hd hres
    exact ⟨u, hu, hR' u w E hW hR hdu⟩
  | cons D Ds ih =>
    intro w E hn hW hR hDs hd
    have hw := hW.1
    have h1 := hDs D (by simp)
    have hg : w.heap[D]? = some (.deferred (some [])) := by rw [← hw]; exact h1.2.1
    have hlt := (Array.getElem?_eq_some_iff.1 hg).1
    refine ⟨by simp, .inl ⟨D, _, rfl, run_takeDeferred hg, ?_⟩⟩
    have hrest : ∀ j, j ≠ D → (w.putObj D (.deferred none)).heap[j]? = E.heap[j]? := fun j hj => by rw [hw]; exact World.putObj_heap_other hj
    obtain ⟨hR2, hd2⟩ := hR.shutD (h' := (w.putObj D (.deferred none)).heap) h1.2.2 h1.1 h1.2.1 (by simp [World.putObj, hw]) hrest (World.putObj_heap_same hlt) (by intro c t fz; simp)
    refine ih _ _ (List.nodup_cons.1 hn).2 (hW.to rfl) hR2 (fun D' hD' => ⟨(hDs D' (by simp [hD'])).1, ?_⟩) (fun t => hd2 _ _ (hd t))
    refine ⟨?_, (hDs D' (by simp [hD'])).2.2⟩
    show (w.putObj D (.deferred none)).heap[D']? = _
    rw [hrest D' (fun e => (List.nodup_cons.1 hn).1 (e ▸ hD'))]
    exact (hDs D' (by simp [hD'])).2.1

theorem con_of_aw {P : Program} {f : FuncId} {fn : Func} {code : Code} {c : Con} (nod : Bool) (cross : List Nat) (n : Nat) (hfn : P.funcs[f]? = some fn) (hb : fn.body = some code) (hname : (fn.name == "runtime.NumGoroutine") = false)
    (hn : fn.ntmps = n) (hargs : c.args.length ≤ n) (rs : List ResultVar) (hrs : fn.results.toList = rs)
    (h : aw ⟨P, c.keep, ids c.H, n, cross, nod⟩ code (Fin ⟨P, c.keep, ids c.H, n, cross, nod⟩ rs c.ret c.H') ⟨argEnv 0 c.args, c.H⟩) : c.holds P f := by
  intro C E us hk he hs1 hheap hR hus
  have hlen : us.length = c.args.length := denL_length hus
  have hS : St ⟨P, c.keep, ids c.H, n, cross, nod⟩ C { tmps := us.toArray ++ Array.replicate (fn.ntmps - us.toArray.size) undef, defers := [] } C.w0 ⟨argEnv 0 c.args, c.H⟩ := by
    refine ⟨hk.symm, he.symm, by simp [hn]; omega, E, hheap, hR, Dfr.nil _ _ E, fun t => ?_⟩
    rw [look_argEnv]
    simp only [Nat.not_lt_zero, if_false, Nat.sub_zero]
    cases hx : c.args[t]? with
    | none => simp [Den]
    | some x =>
      obtain ⟨u, hu, hd⟩ := (denL_iff.1 hus).2 t x hx
      have hlt : t < us.length := (List.getElem?_eq_some_iff.1 hu).1
      have : (us.toArray ++ Array.replicate (fn.ntmps - us.toArray.size) undef).getD t undef = u := by
        rw [Array.getD_eq_getD_getElem?, Array.getElem?_append_left (by simpa using hlt)]
        simp [hu]
      show Den E ((some x).getD .any) _
      rw [this]; exact hd
  refine .inl ⟨⟨fn, code, hfn, hb, hname⟩, (callsIn_wide (n := 0)).1 (callsIn_of_wp_marks hfn hb trivial ?_)⟩
  refine wpIn_mono (aw_sound none code (.inl rfl) _ _ _ _ hS h) ?_
  have key : ∀ σ a' w', (∃ σ', Weak ⟨P, c.keep, ids c.H, n, cross, nod⟩ σ σ' ∧ resA P rs σ' = some c.ret ∧ subMem c.H' σ'.H) → St ⟨P, c.keep, ids c.H, n, cross, nod⟩ C a' w' σ →
      LeavesInM (FW none) 0 P fn a'.tmps (fun e w' => ∃ u E', e = .returned u ∧ E'.At w' ∧ Rel C E' c.H' ∧ Den E' c.ret u) a'.defers .returning w' := by
    rintro σ a' w' ⟨σ', hweak, hres, hsub⟩ hS'
    have hS2 := hweak _ _ _ hS'
    obtain ⟨E', h1, h2, ⟨_, Ds, hn, hds, hDs⟩, h3⟩ := hS2.mem
    rw [hds]
    exact leaves_marks (by rw [hrs]; exact hres) (fun u w' E' hw hR hd => ⟨u, E', rfl, hw, hR.drop (subMem_find hsub), hd⟩) Ds w' E' hn h1 h2 hDs h3
  intro e a' w' he
  cases e with
  | normal => obtain ⟨σ, hf, hS'⟩ := he; exact key σ a' w' hf hS'
  | ret => obtain ⟨σ, hf, hS'⟩ := he; exact key σ a' w' hf hS'
  | exit id => obtain ⟨σ, hf, hS'⟩ := he; exact hf.elim
  | goto l => exact he.elim
  | panic ch => exact he.elim
  | outgrown => exact he.elim

end Go.Dk

/-
  Dk, part Q: rules by which code is evaluated on abstract states, step by step.
-/
namespace Go.Dk
set_option autoImplicit false
set_option linter.unusedSectionVars false
set_option linter.unusedVariables false
set_option linter.unusedSimpArgs false

def awIf (t : Bool) (X Y : Prop) : Prop := (t = true → X) ∧ (t = false → Y)
theorem awIf_true (X Y : Prop) : awIf true X Y = X := by simp [awIf]
theorem awIf_false (X Y : Prop) : awIf false X Y = Y := by simp [awIf]
theorem awIf_split {t : Bool} {X Y : Prop} (h1 : t = true → X) (h2 : t = false → Y) : awIf t X Y := ⟨h1, h2⟩
theorem awIf_dec {p : Prop} [Decidable p] {X Y : Prop} (h1 : p → X) (h2 : ¬ p → Y) : awIf (decide p) X Y := ⟨fun h => h1 (of_decide_eq_true h), fun h => h2 (of_decide_eq_false h)⟩
theorem awIf_ndec {p : Prop} [Decidable p] {X Y : Prop} (h1 : ¬ p → X) (h2 : p → Y) : awIf (!decide p) X Y := ⟨fun h => h1 (by simpa using h), fun h => h2 (by simpa using h)⟩

def awRes (P : Program) (keep ent : List Nat) (n : Nat) (o : Oper) (K : Sg → Prop) (env : List (Nat × AV)) (H : Mem) : Option Out → Prop
  | some out => awPut n o.dst out.x (scrubEs out.scr.toList env) out.H K
  | none => False

def awCallAt (P : Program) (keep ent : List Nat) (n : Nat) (fo : AV) (xs : List AV) (dst : Option Tmp) (K : Sg → Prop) (env : List (Nat × AV)) (H : Mem) : Prop :=
  match tgtOf fo with
  | some (t, caps) => awCall P keep ent n t (xs ++ caps) dst K ⟨env, H⟩
  | none => False

/-- one operation, as the rules have it -/
def evOp (P : Program) (keep ent : List Nat) (n : Nat) (o : Oper) (K : Sg → Prop) (env : List (Nat × AV)) (H : Mem) : Prop :=
  match o.op with
  | .call ⟨.value fo, args, _⟩ => awCallAt P keep ent n (getA env fo) (args.toList.map (getA env)) o.dst K env H
  | _ => awRes P keep ent n o K env H (evalOp P keep env H o)

theorem evOp_sound {P : Program} {keep ent : List Nat} {n : Nat} {o : Oper} {K : Sg → Prop} {env : List (Nat × AV)} {H : Mem} (h : evOp P keep ent n o K env H) : awOp P keep ent n o K ⟨env, H⟩ := by
  unfold evOp at h
  split at h
  · rename_i fo args tys hop
    have he : evalOp P keep env H o = none := by
      unfold evalOp; rw [hop]
    simp only [awOp, he, hop]
    unfold awCallAt at h
    split at h
    · rename_i t caps hf
      simp only [hf]; exact h
    · exact h.elim
  · simp only [awOp]
    cases he : evalOp P keep env H o with
    | some out => rw [he] at h; exact h
    | none => rw [he] at h; exact h.elim

def evG (P : Program) (keep ent : List Nat) (n : Nat) (o : Oper) (K : Sg → Prop) (env : List (Nat × AV)) (H : Mem) (b : Bool) : AV → Prop
  | .v (.bool c) => awIf (c == b) (evOp P keep ent n o K env H) (awPut n o.dst .any env H K)
  | _ => False

def evGuard (P : Program) (keep ent : List Nat) (n : Nat) (o : Oper) (K : Sg → Prop) (env : List (Nat × AV)) (H : Mem) (b : Bool) : Option Nat → Prop
  | some d => evG P keep ent n o K env H b (look env d)
  | none => False

def evOps (P : Program) (keep ent : List Nat) (n : Nat) (ops : Array Oper) (K : Sg → Prop) : List Oper → Sg → Prop
  | [], σ => K σ
  | o :: rest, ⟨env, H⟩ => match o.guard with
    | none => evOp P keep ent n o (evOps P keep ent n ops K rest) env H
    | some (j, b) => evGuard P keep ent n o (evOps P keep ent n ops K rest) env H b ((ops[j]?).bind (·.dst))

theorem awPut_mono {n : Nat} {dst : Option Tmp} {x : AV} {env : List (Nat × AV)} {H : Mem} {K K' : Sg → Prop} (hk : ∀ σ, K σ → K' σ) (h : awPut n dst x env H K) : awPut n dst x env H K' := by
  unfold awPut at *
  cases dst with
  | none => exact hk _ h
  | some d => exact ⟨h.1, hk _ h.2⟩

theorem awOp_mono {P : Program} {keep ent : List Nat} {n : Nat} {o : Oper} {K K' : Sg → Prop} (hk : ∀ σ, K σ → K' σ) {σ : Sg} (h : awOp P keep ent n o K σ) : awOp P keep ent n o K' σ := by
  unfold awOp at *
  split at h
  · rename_i out he; exact awPut_mono hk h
  · rename_i he
    split at h <;> try (exact h.elim)
    split at h <;> try (exact h.elim)
    split at h <;> try (exact h.elim)
    obtain ⟨x, H', scr, h1, h2⟩ := h
    exact ⟨x, H', scr, h1, awPut_mono hk h2⟩

theorem evOps_sound {P : Program} {keep ent : List Nat} {n : Nat} {ops : Array Oper} {K : Sg → Prop} : ∀ (l : List Oper) (σ : Sg), evOps P keep ent n ops K l σ → awOps P keep ent n ops K l σ := by
  intro l
  induction l with
  | nil => intro σ h; exact h
  | cons o rest ih =>
    intro ⟨env, H⟩ h
    simp only [evOps] at h
    simp only [awOps]
    split at h
    · rename_i hg
      rw [hg]
      exact awOp_mono ih (evOp_sound h)
    · rename_i j b hg
      rw [hg]
      unfold evGuard at h
      split at h
      · rename_i d hd
        simp only [hd]
        unfold evG at h
        split at h
        · rename_i c hc
          rw [hc]
          refine ⟨fun hcb => awOp_mono ih (evOp_sound (h.1 (by simpa using hcb))), fun hcb => awPut_mono ih (h.2 (by simpa using hcb))⟩
        · exact h.elim
      · exact h.elim

def evCond (X Y : Prop) : AV → Prop
  | .v (.bool t) => awIf t X Y
  | _ => False

def ev (F : Fun) : Code → (Ex → Sg → Prop) → Sg → Prop
  | .skip, Q, σ => Q .normal σ
  | .label _, Q, σ => Q .normal σ
  | .region _ ops false, Q, σ => evOps F.P F.keep F.ent F.n ops (fun σ => Q .normal ⟨pruneE F.cross σ.env, σ.H⟩) ops.toList σ
  | .region _ ops true, Q, σ => awDraw F ops (fun σ => Q .normal ⟨pruneE F.cross σ.env, σ.H⟩) σ
  | .seq a b, Q, σ => ev F a (awThen (ev F b Q) Q) σ
  | .cond c a b, Q, ⟨env, H⟩ => evCond (ev F a Q ⟨env, H⟩) (ev F b Q ⟨env, H⟩) (getA env c)
  | .block id a, Q, σ => ev F a (awIn id Q) σ
  | .loop a, Q, σ => ∃ I : Nat → Sg → Prop, (∃ j σ0, Weak F σ σ0 ∧ I j σ0) ∧ ∀ j σ', I j σ' → ev F a (awThen (fun σ'' => ∃ i σ0, i < j ∧ Weak F σ'' σ0 ∧ I i σ0) Q) σ'
  | .exit id, Q, σ => Q (.exit id) σ
  | .ret, Q, σ => Q .ret σ
  | .rangeFunc g ps asg body, Q, σ => AwRange F g ps asg body Q σ
  | _, _, _ => False

theorem awOps_mono {P : Program} {keep ent : List Nat} {n : Nat} {ops : Array Oper} {K K' : Sg → Prop} (hk : ∀ σ, K σ → K' σ) : ∀ (l : List Oper) (σ : Sg), awOps P keep ent n ops K l σ → awOps P keep ent n ops K' l σ := by
  intro l
  induction l with
  | nil => intro σ h; exact hk σ h
  | cons o rest ih =>
    intro σ h
    simp only [awOps] at h ⊢
    split at h
    · rename_i hg; exact awOp_mono ih h
    · rename_i j b hg
      split at h <;> try (exact h.elim)
      rename_i d hd
      split at h <;> try (exact h.elim)
      rename_i c hc
      exact ⟨fun e => awOp_mono ih (h.1 e), fun e => awPut_mono ih (h.2 e)⟩

theorem aw_mono {F : Fun} : ∀ (c : Code) {Q Q' : Ex → Sg → Prop}, (∀ e σ, Q e σ → Q' e σ) → ∀ σ, aw F c Q σ → aw F c Q' σ := by
  intro c
  induction c with
  | skip => intro Q Q' hq σ h; exact hq _ _ h
  | label l => intro Q Q' hq σ h; exact hq _ _ h
  | exit id => intro Q Q' hq σ h; exact hq _ _ h
  | ret => intro Q Q' hq σ h; exact hq _ _ h
  | region id ops draw =>
    intro Q Q' hq σ h
    cases draw with
    | false => exact awOps_mono (fun σ h => hq _ _ h) _ _ h
    | true => exact awDraw_mono (fun σ h => hq _ _ h) h
  | seq a b iha ihb =>
    intro Q Q' hq σ h
    refine iha ?_ σ h
    intro e σ' he
    cases e with
    | normal => exact ihb hq σ' he
    | exit id => exact hq _ _ he
    | ret => exact hq _ _ he
  | cond c a b iha ihb =>
    intro Q Q' hq σ h
    simp only [aw] at h ⊢
    split at h <;> try (exact h.elim)
    exact ⟨fun e => iha hq σ (h.1 e), fun e => ihb hq σ (h.2 e)⟩
  | block id a iha =>
    intro Q Q' hq σ h
    refine iha ?_ σ h
    intro e σ' he
    cases e with
    | normal => exact hq _ _ he
    | exit id' =>
      simp only [awIn] at he ⊢
      split
      · rename_i hi; rw [if_pos hi] at he; exact hq _ _ he
      · rename_i hi; rw [if_neg hi] at he; exact hq _ _ he
    | ret => exact hq _ _ he
  | loop a iha =>
    intro Q Q' hq σ h
    obtain ⟨I, h1, h2⟩ := h
    refine ⟨I, h1, fun j σ' hj => iha ?_ σ' (h2 j σ' hj)⟩
    intro e σ'' he
    cases e with
    | normal => exact he
    | exit id => exact hq _ _ he
    | ret => exact hq _ _ he
  | rangeFunc f ps as b _ _ => intro Q Q' hq σ h; exact AwRange.mono hq h
  | scope b _ => intro Q Q' hq σ h; simp [aw] at h
  | goto l => intro Q Q' hq σ h; simp [aw] at h
  | refuse s => intro Q Q' hq σ h; simp [aw] at h

theorem awIf_mono {t : Bool} {X Y X' Y' : Prop} (h1 : X → X') (h2 : Y → Y') (h : awIf t X Y) : awIf t X' Y' := ⟨fun e => h1 (h.1 e), fun e => h2 (h.2 e)⟩
theorem evOp_mono {P : Program} {keep ent : List Nat} {n : Nat} {o : Oper} {K K' : Sg → Prop} (hk : ∀ σ, K σ → K' σ) {env : List (Nat × AV)} {H : Mem} (h : evOp P keep ent n o K env H) : evOp P keep ent n o K' env H := by
  unfold evOp at *
  split at h
  · unfold awCallAt at *
    split at h
    · obtain ⟨x, H', scr, h1, h2⟩ := h; exact ⟨x, H', scr, h1, awPut_mono hk h2⟩
    · exact h.elim
  · unfold awRes at *
    split at h
    · exact awPut_mono hk h
    · exact h.elim
theorem evOps_mono {P : Program} {keep ent : List Nat} {n : Nat} {ops : Array Oper} {K K' : Sg → Prop} (hk : ∀ σ, K σ → K' σ) : ∀ (l : List Oper) (σ : Sg), evOps P keep ent n ops K l σ → evOps P keep ent n ops K' l σ := by
  intro l
  induction l with
  | nil => intro σ h; exact hk σ h
  | cons o rest ih =>
    intro ⟨env, H⟩ h
    simp only [evOps] at h ⊢
    split at h
    · exact evOp_mono ih h
    · unfold evGuard at *
      split at h
      · unfold evG at *
        split at h
        · exact awIf_mono (evOp_mono ih) (awPut_mono ih) h
        · exact h.elim
      · exact h.elim
theorem ev_mono {F : Fun} : ∀ (c : Code) {Q Q' : Ex → Sg → Prop}, (∀ e σ, Q e σ → Q' e σ) → ∀ σ, ev F c Q σ → ev F c Q' σ := by
  intro c
  induction c with
  | skip => intro Q Q' hq σ h; exact hq _ _ h
  | label l => intro Q Q' hq σ h; exact hq _ _ h
  | exit id => intro Q Q' hq σ h; exact hq _ _ h
  | ret => intro Q Q' hq σ h; exact hq _ _ h
  | region id ops draw =>
    intro Q Q' hq σ h
    cases draw with
    | false => exact evOps_mono (fun σ h => hq _ _ h) _ _ h
    | true => exact awDraw_mono (fun σ h => hq _ _ h) h
  | seq a b iha ihb =>
    intro Q Q' hq σ h
    refine iha ?_ σ h
    intro e σ' he
    cases e with
    | normal => exact ihb hq σ' he
    | exit id => exact hq _ _ he
    | ret => exact hq _ _ he
  | cond c a b iha ihb =>
    intro Q Q' hq ⟨env, H⟩ h
    simp only [ev] at h ⊢
    unfold evCond at *
    split at h
    · exact awIf_mono (iha hq _) (ihb hq _) h
    · exact h.elim
  | block id a iha =>
    intro Q Q' hq σ h
    refine iha ?_ σ h
    intro e σ' he
    cases e with
    | normal => exact hq _ _ he
    | exit id' =>
      simp only [awIn] at he ⊢
      split
      · rename_i hi; rw [if_pos hi] at he; exact hq _ _ he
      · rename_i hi; rw [if_neg hi] at he; exact hq _ _ he
    | ret => exact hq _ _ he
  | loop a iha =>
    intro Q Q' hq σ h
    obtain ⟨I, h1, h2⟩ := h
    refine ⟨I, h1, fun j σ' hj => iha ?_ σ' (h2 j σ' hj)⟩
    intro e σ'' he
    cases e with
    | normal => exact he
    | exit id => exact hq _ _ he
    | ret => exact hq _ _ he
  | rangeFunc f ps as b _ _ => intro Q Q' hq σ h; exact AwRange.mono hq h
  | scope b _ => intro Q Q' hq σ h; simp [ev] at h
  | goto l => intro Q Q' hq σ h; simp [ev] at h
  | refuse s => intro Q Q' hq σ h; simp [ev] at h

theorem ev_sound {F : Fun} : ∀ (c : Code) (Q : Ex → Sg → Prop) (σ : Sg), ev F c Q σ → aw F c Q σ := by
  intro c
  induction c with
  | skip => intro Q σ h; exact h
  | label l => intro Q σ h; exact h
  | exit id => intro Q σ h; exact h
  | ret => intro Q σ h; exact h
  | region id ops draw =>
    intro Q σ h
    cases draw with
    | false => exact evOps_sound _ _ h
    | true => exact h
  | seq a b iha ihb =>
    intro Q σ h
    refine aw_mono a ?_ σ (iha _ σ h)
    intro e σ' he
    cases e with
    | normal => exact ihb Q σ' he
    | exit id => exact he
    | ret => exact he
  | cond c a b iha ihb =>
    intro Q ⟨env, H⟩ h
    simp only [ev] at h
    unfold evCond at h
    simp only [aw]
    split at h
    · rename_i t ht
      try rw [ht]
      exact ⟨fun e => iha Q _ (h.1 e), fun e => ihb Q _ (h.2 e)⟩
    · exact h.elim
  | block id a iha => intro Q σ h; exact iha _ σ h
  | loop a iha =>
    intro Q σ h
    obtain ⟨I, h1, h2⟩ := h
    exact ⟨I, h1, fun j σ' hj => iha _ σ' (h2 j σ' hj)⟩
  | rangeFunc f ps as b _ _ => intro Q σ h; exact h
  | scope b _ => intro Q σ h; simp [ev] at h
  | goto l => intro Q σ h; simp [ev] at h
  | refuse s => intro Q σ h; simp [ev] at h

theorem con_of_ev {P : Program} {f : FuncId} {fn : Func} {code : Code} {c : Con} (nod : Bool) (cross : List Nat) (n : Nat) (hfn : P.funcs[f]? = some fn) (hb : fn.body = some code) (hname : (fn.name == "runtime.NumGoroutine") = false)
    (hn : fn.ntmps = n) (hargs : c.args.length ≤ n) (rs : List ResultVar) (hrs : fn.results.toList = rs)
    (h : ev ⟨P, c.keep, ids c.H, n, cross, nod⟩ code (Fin ⟨P, c.keep, ids c.H, n, cross, nod⟩ rs c.ret c.H') ⟨argEnv 0 c.args, c.H⟩) : c.holds P f :=
  con_of_aw nod cross n hfn hb hname hn hargs rs hrs (ev_sound _ _ _ h)

/-- a loop: a state for each x, and a number that goes down -/
theorem ev_loop {F : Fun} {a : Code} {Q : Ex → Sg → Prop} {σ : Sg} {α : Type} (S : α → Sg) (G : α → Prop) (μ : α → Nat) (x0 : α) (h0 : G x0) (hw : Weak F σ (S x0))
    (h : ∀ x, G x → ev F a (awThen (fun σ'' => ∃ y, G y ∧ μ y < μ x ∧ Weak F σ'' (S y)) Q) (S x)) : ev F (.loop a) Q σ := by
  refine ⟨fun j σ' => ∃ x, G x ∧ μ x = j ∧ σ' = S x, ⟨μ x0, S x0, hw, x0, h0, rfl, rfl⟩, ?_⟩
  rintro j σ' ⟨x, hx, rfl, rfl⟩
  have key : ∀ (c : Code) {Q Q' : Ex → Sg → Prop}, (∀ e σ, Q e σ → Q' e σ) → ∀ σ, ev F c Q σ → ev F c Q' σ := @ev_mono F
  refine key a ?_ _ (h x hx)
  intro e σ'' he
  cases e with
  | normal => obtain ⟨y, h1, h2, h3⟩ := he; exact ⟨μ y, S y, h2, h3, y, h1, rfl, rfl⟩
  | exit id => exact he
  | ret => exact he

/- how the evaluation goes: into the state alone -/
theorem evOps_congr {P : Program} {keep ent : List Nat} {n : Nat} {ops : Array Oper} {K : Sg → Prop} {l : List Oper} {σ σ' : Sg} (h : σ = σ') : evOps P keep ent n ops K l σ = evOps P keep ent n ops K l σ' := by rw [h]
theorem ev_congr {F : Fun} {c : Code} {Q : Ex → Sg → Prop} {σ σ' : Sg} (h : σ = σ') : ev F c Q σ = ev F c Q σ' := by rw [h]
theorem evOp_congr {P : Program} {keep ent : List Nat} {n : Nat} {o : Oper} {K : Sg → Prop} {env env' : List (Nat × AV)} {H H' : Mem} (h : env = env') (h' : H = H') : evOp P keep ent n o K env H = evOp P keep ent n o K env' H' := by rw [h, h']
theorem awRes_congr {P : Program} {keep ent : List Nat} {n : Nat} {o : Oper} {K : Sg → Prop} {env : List (Nat × AV)} {H : Mem} {r r' : Option Out} (h : r = r') : awRes P keep ent n o K env H r = awRes P keep ent n o K env H r' := by rw [h]
theorem awPut_congr {n : Nat} {d : Option Tmp} {x x' : AV} {env env' : List (Nat × AV)} {H H' : Mem} {K : Sg → Prop} (h0 : x = x') (h : env = env') (h' : H = H') : awPut n d x env H K = awPut n d x' env' H' K := by rw [h, h', h0]
theorem awIf_congr {t t' : Bool} {X Y : Prop} (h : t = t') : awIf t X Y = awIf t' X Y := by rw [h]
theorem awThen_congr {N : Sg → Prop} {Q : Ex → Sg → Prop} {e : Ex} {σ σ' : Sg} (h : σ = σ') : awThen N Q e σ = awThen N Q e σ' := by rw [h]
theorem awIn_congr {id : Nat} {Q : Ex → Sg → Prop} {e : Ex} {σ σ' : Sg} (h : σ = σ') : awIn id Q e σ = awIn id Q e σ' := by rw [h]
theorem evCond_congr {X Y : Prop} {x x' : AV} (h : x = x') : evCond X Y x = evCond X Y x' := by rw [h]
theorem evG_congr {P : Program} {keep ent : List Nat} {n : Nat} {o : Oper} {K : Sg → Prop} {env : List (Nat × AV)} {H : Mem} {b : Bool} {x x' : AV} (h : x = x') : evG P keep ent n o K env H b x = evG P keep ent n o K env H b x' := by rw [h]
theorem evGuard_congr {P : Program} {keep ent : List Nat} {n : Nat} {o : Oper} {K : Sg → Prop} {env : List (Nat × AV)} {H : Mem} {b : Bool} {x x' : Option Nat} (h : x = x') : evGuard P keep ent n o K env H b x = evGuard P keep ent n o K env H b x' := by rw [h]
theorem awCallAt_congr {P : Program} {keep ent : List Nat} {n : Nat} {fo fo' : AV} {xs xs' : List AV} {d : Option Tmp} {K : Sg → Prop} {env : List (Nat × AV)} {H : Mem} (h : fo = fo') (h' : xs = xs') : awCallAt P keep ent n fo xs d K env H = awCallAt P keep ent n fo' xs' d K env H := by rw [h, h']
theorem Fin_congr {F : Fun} {rs : List ResultVar} {ret : AV} {H' : Mem} {e : Ex} {σ σ' : Sg} (h : σ = σ') : Fin F rs ret H' e σ = Fin F rs ret H' e σ' := by rw [h]

attribute [congr] evOps_congr ev_congr evOp_congr awRes_congr awPut_congr awIf_congr awThen_congr awIn_congr evCond_congr evG_congr evGuard_congr awCallAt_congr Fin_congr

/- equations -/
section
variable {P : Program} {keep ent : List Nat} {n : Nat} {ops : Array Oper} {K : Sg → Prop} {env : List (Nat × AV)} {H : Mem} {rest : List Oper} {F : Fun} {Q : Ex → Sg → Prop}

theorem evOps_nil (σ : Sg) : evOps P keep ent n ops K [] σ = K σ := rfl
theorem evOps_un {dst : Option Tmp} {op : Op} {ty : TypeId} {pos : String} {af : Array Edge} :
    evOps P keep ent n ops K (⟨dst, op, ty, pos, af, none⟩ :: rest) ⟨env, H⟩ = evOp P keep ent n ⟨dst, op, ty, pos, af, none⟩ (evOps P keep ent n ops K rest) env H := rfl
theorem evOps_gu {dst : Option Tmp} {op : Op} {ty : TypeId} {pos : String} {af : Array Edge} {j : Nat} {b : Bool} :
    evOps P keep ent n ops K (⟨dst, op, ty, pos, af, some (j, b)⟩ :: rest) ⟨env, H⟩ = evGuard P keep ent n ⟨dst, op, ty, pos, af, some (j, b)⟩ (evOps P keep ent n ops K rest) env H b ((ops[j]?).bind (·.dst)) := rfl
theorem evGuard_some {o : Oper} {b : Bool} {d : Nat} : evGuard P keep ent n o K env H b (some d) = evG P keep ent n o K env H b (look env d) := rfl
theorem evG_bool {o : Oper} {b c : Bool} : evG P keep ent n o K env H b (.v (.bool c)) = awIf (c == b) (evOp P keep ent n o K env H) (awPut n o.dst .any env H K) := rfl
theorem evCond_bool {X Y : Prop} {t : Bool} : evCond X Y (.v (.bool t)) = awIf t X Y := rfl
theorem awRes_some {o : Oper} {x : AV} {H1 : Mem} {scr : Option Nat} : awRes P keep ent n o K env H (some ⟨x, H1, scr⟩) = awPut n o.dst x (scrubEs scr.toList env) H1 K := rfl
theorem awPut_some {d : Nat} {x : AV} : awPut n (some d) x env H K = (d < n ∧ K ⟨putE env d x, H⟩) := rfl
theorem awPut_none {x : AV} : awPut n none x env H K = K ⟨env, H⟩ := rfl
theorem ev_seq {a b : Code} {σ : Sg} : ev F (.seq a b) Q σ = ev F a (awThen (ev F b Q) Q) σ := rfl
theorem ev_region {i : Nat} {l : List Oper} {σ : Sg} : ev F (.region i l.toArray false) Q σ = evOps F.P F.keep F.ent F.n l.toArray (fun σ => Q .normal ⟨pruneE F.cross σ.env, σ.H⟩) l σ := by simp only [ev]
theorem ev_cond {c : Operand} {a b : Code} : ev F (.cond c a b) Q ⟨env, H⟩ = evCond (ev F a Q ⟨env, H⟩) (ev F b Q ⟨env, H⟩) (getA env c) := rfl
theorem ev_block {i : Nat} {a : Code} {σ : Sg} : ev F (.block i a) Q σ = ev F a (awIn i Q) σ := rfl
theorem ev_skip {σ : Sg} : ev F .skip Q σ = Q .normal σ := rfl
theorem ev_exit {i : Nat} {σ : Sg} : ev F (.exit i) Q σ = Q (.exit i) σ := rfl
theorem ev_ret {σ : Sg} : ev F .ret Q σ = Q .ret σ := rfl
theorem awThen_normal {N : Sg → Prop} {σ : Sg} : awThen N Q .normal σ = N σ := rfl
theorem awThen_ret {N : Sg → Prop} {σ : Sg} : awThen N Q .ret σ = Q .ret σ := rfl
theorem awThen_exit {N : Sg → Prop} {i : Nat} {σ : Sg} : awThen N Q (.exit i) σ = Q (.exit i) σ := rfl
theorem awIn_normal {i : Nat} {σ : Sg} : awIn i Q .normal σ = Q .normal σ := rfl
theorem awIn_ret {i : Nat} {σ : Sg} : awIn i Q .ret σ = Q .ret σ := rfl
theorem awIn_same {i : Nat} {σ : Sg} : awIn i Q (.exit i) σ = Q .normal σ := by simp [awIn]
theorem awIn_other {i j : Nat} {σ : Sg} (h : (j == i) = false) : awIn i Q (.exit j) σ = Q (.exit j) σ := by simp at h; simp [awIn, h]

section
variable {dst : Option Tmp} {ty : TypeId} {pos : String} {af : Array Edge} {g : Option (Nat × Bool)}

theorem evOp_call {fo : Operand} {l : List Operand} {tys : Array TypeId} : evOp P keep ent n ⟨dst, .call ⟨.value fo, l.toArray, tys⟩, ty, pos, af, g⟩ K env H = awCallAt P keep ent n (getA env fo) (l.map (getA env)) dst K env H := by simp only [evOp]
theorem evOp_move {x : Operand} : evOp P keep ent n ⟨dst, .move x, ty, pos, af, g⟩ K env H = awPut n dst (getA env x) env H K := rfl
theorem evOp_assign {x : Operand} : evOp P keep ent n ⟨dst, .assign x, ty, pos, af, g⟩ K env H = awPut n dst (getA env x) env H K := rfl
theorem evOp_other {op : Op} (h : (match op with | .call ⟨.value _, _, _⟩ => true | _ => false) = false) : evOp P keep ent n ⟨dst, op, ty, pos, af, g⟩ K env H = awRes P keep ent n ⟨dst, op, ty, pos, af, g⟩ K env H (evalOp P keep env H ⟨dst, op, ty, pos, af, g⟩) := by
  unfold evOp
  split
  · rename_i hop; simp at hop; rw [hop] at h; simp at h
  · rfl
end
end

end Go.Dk

/-
  Dk, part R: equations for the operations.
-/
namespace Go.Dk
set_option autoImplicit false
set_option linter.unusedSectionVars false
set_option linter.unusedVariables false
set_option linter.unusedSimpArgs false

section
variable {P : Program} {keep ent : List Nat} {n : Nat} {K : Sg → Prop} {env : List (Nat × AV)} {H : Mem} {dst : Option Tmp} {ty : TypeId} {pos : String} {af : Array Edge} {g : Option (Nat × Bool)}

theorem evalOp_move {x : Operand} : evalOp P keep env H ⟨dst, .move x, ty, pos, af, g⟩ = some ⟨getA env x, H, none⟩ := rfl
theorem evalOp_assign {x : Operand} : evalOp P keep env H ⟨dst, .assign x, ty, pos, af, g⟩ = some ⟨getA env x, H, none⟩ := rfl
theorem evalOp_pick {c a b : Operand} : evalOp P keep env H ⟨dst, .pick c a b, ty, pos, af, g⟩ = match getA env c with
    | .v (.bool t) => some (pureO H (if t = true then getA env a else getA env b))
    | _ => none := rfl
theorem evalOp_alloc {d : Nat} {e : TypeId} : evalOp P keep env H ⟨some d, .alloc e, ty, pos, af, g⟩ = allocA P keep H d e := rfl
theorem evalOp_box {d : Nat} {e : TypeId} {x : Operand} : evalOp P keep env H ⟨some d, .box e x, ty, pos, af, g⟩ = boxA keep H d (getA env x) := rfl
theorem evalOp_build {t : TypeId} {l : List (Nat × Operand)} : evalOp P keep env H ⟨dst, .build t l.toArray, ty, pos, af, g⟩ = (buildA P t (l.map fun p => (p.1, getA env p.2))).map (pureO H) := by simp only [evalOp]
theorem evalOp_buildSlice {d t len : Nat} {l : List (Nat × Operand)} {e sz : Nat} (hu : P.underlying t = some (.slice e)) (hs : tySize P e = some (sz + 1)) :
    evalOp P keep env H ⟨some d, .buildSlice t len l.toArray, ty, pos, af, g⟩ = buildSliceA P keep H d t len (l.map fun p => (p.1, getA env p.2)) := by
  simp only [evalOp, hu, hs]
theorem evalOp_load {t : TypeId} {a : Operand} : evalOp P keep env H ⟨dst, .load t a, ty, pos, af, g⟩ = (loadA P H t (getA env a)).map (pureO H) := rfl
theorem evalOp_store {t : TypeId} {a x : Operand} : evalOp P keep env H ⟨dst, .store t a x, ty, pos, af, g⟩ = (storeA P H t (getA env a) (getA env x)).map fun H' => ⟨.any, H', none⟩ := rfl
theorem evalOp_nilCheck {x : Operand} : evalOp P keep env H ⟨dst, .nilCheck x, ty, pos, af, g⟩ = match getA env x with
    | .ptr i k => some (pureO H (.ptr i k))
    | .iptr g cs => some (pureO H (.iptr g cs))
    | .fn (.func f) cs => some (pureO H (.fn (.func f) cs))
    | _ => none := rfl
theorem evalOp_binOp {op : BinOp} {t t' : TypeId} {x y : Operand} : evalOp P keep env H ⟨dst, .binOp op t x y t', ty, pos, af, g⟩ = (orO (binA P op t (getA env x) (getA env y)) (eqSA P op t (getA env x) (getA env y))).map fun v => pureO H (.v v) := rfl
theorem evalOp_unOp {op : UnOp} {t : TypeId} {x : Operand} : evalOp P keep env H ⟨dst, .unOp op t x, ty, pos, af, g⟩ = match getA env x with
    | .v v => (unV op v).map fun v => pureO H (.v v)
    | _ => none := rfl
theorem evalOp_convert {s d : TypeId} {x : Operand} : evalOp P keep env H ⟨dst, .convert s d x, ty, pos, af, g⟩ = match getA env x, dst with
    | .v (.int k n), _ => (convV P s d (.int k n)).map fun v => pureO H (.v v)
    | .v (.string b), some dd => match convV P s d (.string b) with
      | some v => some (pureO H (.v v))
      | none => toBytesA P keep H dd s d (.v (.string b))
    | y, _ => (cvA P H s d y).map (pureO H) := rfl
theorem evalOp_makeFunc {f : Fn} {l : List Operand} : evalOp P keep env H ⟨dst, .makeFunc f #[] l.toArray, ty, pos, af, g⟩ = some (pureO H (.fn f (l.map (getA env)))) := by simp [evalOp]
theorem evalOp_makeSlice {d : Nat} {t : TypeId} {l c : Operand} : evalOp P keep env H ⟨some d, .makeSlice t l c, ty, pos, af, g⟩ = makeSliceA P keep H d t (getA env l) (getA env c) := rfl
theorem evalOp_slice {t : TypeId} {x : Operand} {lo hi mx : Option Operand} : evalOp P keep env H ⟨dst, .slice t x lo hi mx, ty, pos, af, g⟩ = (sliceA P t (getA env x) (lo.map (getA env)) (hi.map (getA env)) (mx.map (getA env))).map (pureO H) := rfl
theorem evalOp_fieldAddr {s : TypeId} {x : Operand} {f : Nat} : evalOp P keep env H ⟨dst, .fieldAddr s x f, ty, pos, af, g⟩ = (fieldA P s f (getA env x)).map (pureO H) := rfl
theorem evalOp_field {s : TypeId} {x : Operand} {f : Nat} : evalOp P keep env H ⟨dst, .field s x f, ty, pos, af, g⟩ = match getA env x with
    | .agg cs => (partA P s f cs).map (pureO H)
    | .v (.agg us) => (partA P s f (us.toList.map .v)).map (pureO H)
    | _ => none := rfl
theorem evalOp_indexAddr {t : TypeId} {x i : Operand} : evalOp P keep env H ⟨dst, .indexAddr t x i, ty, pos, af, g⟩ = (indexA P t (getA env x) (getA env i)).map (pureO H) := rfl
theorem evalOp_index {t : TypeId} {x i : Operand} : evalOp P keep env H ⟨dst, .index t x i, ty, pos, af, g⟩ = (indexV P t (getA env x) (getA env i)).map (pureO H) := rfl
theorem evalOp_buildSliceE {d t len : Nat} {l : List (Nat × Operand)} : evalOp P keep env H ⟨some d, .buildSlice t len l.toArray, ty, pos, af, g⟩ =
    (P.underlying t).bind fun dd => match dd with
      | .slice e => (tySize P e).bind fun sz => if 0 < sz then buildSliceA P keep H d t len (l.map fun p => (p.1, getA env p.2)) else none
      | _ => none := by
  simp only [evalOp]
  cases P.underlying t with
  | none => rfl
  | some dd =>
    cases dd <;> try rfl
    rename_i e
    simp only [Option.bind_some]
    cases tySize P e with
    | none => rfl
    | some sz => cases sz <;> rfl
theorem evalOp_makeMap {d : Nat} {t : TypeId} : evalOp P keep env H ⟨some d, .makeMap t none, ty, pos, af, g⟩ = makeMapA keep H d := rfl
theorem evalOp_lookup {t : TypeId} {m i : Operand} {ok : Bool} : evalOp P keep env H ⟨dst, .lookup t m i ok, ty, pos, af, g⟩ = (lookupA P H t (getA env m) (getA env i) ok).map (pureO H) := rfl
theorem evalOp_mapUpdate {t : TypeId} {m i x : Operand} : evalOp P keep env H ⟨dst, .mapUpdate t m i x, ty, pos, af, g⟩ = (updateA P H t (getA env m) (getA env i) (getA env x)).map fun H' => ⟨.any, H', none⟩ := rfl
theorem evalOp_insert {t : TypeId} {m i x : Operand} : evalOp P keep env H ⟨dst, .insert t m i x, ty, pos, af, g⟩ = (updateA P H t (getA env m) (getA env i) (getA env x)).map fun H' => ⟨.any, H', none⟩ := rfl
theorem evalOp_extract {t : Operand} {i : Nat} : evalOp P keep env H ⟨dst, .extract t i, ty, pos, af, g⟩ = match getA env t with
    | .tup vs => (vs[i]?).map (pureO H)
    | _ => none := rfl
theorem evalOp_len {x : Operand} {t : TypeId} : evalOp P keep env H ⟨dst, .call ⟨.builtin .len, #[x], #[t]⟩, ty, pos, af, g⟩ = (orO (lenA P t (getA env x)) (lenMA P H t (getA env x))).map (pureO H) := by simp [evalOp]
theorem evalOp_append {d : Nat} {s x : Operand} {st xt : TypeId} : evalOp P keep env H ⟨some d, .call ⟨.builtin .append, #[s, x], #[st, xt]⟩, ty, pos, af, g⟩ = appendA P keep H d st xt (getA env s) (getA env x) := by simp [evalOp]
theorem evalOp_copy {s x : Operand} {t t' : TypeId} : evalOp P keep env H ⟨dst, .call ⟨.builtin .copy, #[s, x], #[t, t']⟩, ty, pos, af, g⟩ = copyA P H t (getA env s) (getA env x) := by simp [evalOp]
theorem evalOp_max {l : List Operand} {ts : Array TypeId} : evalOp P keep env H ⟨dst, .call ⟨.builtin .max, l.toArray, ts⟩, ty, pos, af, g⟩ = (maxA true (l.map (getA env))).map (pureO H) := by simp [evalOp]
theorem evalOp_min {l : List Operand} {ts : Array TypeId} : evalOp P keep env H ⟨dst, .call ⟨.builtin .min, l.toArray, ts⟩, ty, pos, af, g⟩ = (maxA false (l.map (getA env))).map (pureO H) := by simp [evalOp]

end

section
variable {P : Program} {keep ent : List Nat} {n : Nat} {K : Sg → Prop} {env : List (Nat × AV)} {H : Mem} {dst : Option Tmp} {ty : TypeId} {pos : String} {af : Array Edge} {g : Option (Nat × Bool)}
theorem evO_move {x : Operand} : evOp P keep ent n ⟨dst, .move x, ty, pos, af, g⟩ K env H = awRes P keep ent n ⟨dst, .move x, ty, pos, af, g⟩ K env H (evalOp P keep env H ⟨dst, .move x, ty, pos, af, g⟩) := rfl
theorem evO_assign {x : Operand} : evOp P keep ent n ⟨dst, .assign x, ty, pos, af, g⟩ K env H = awRes P keep ent n ⟨dst, .assign x, ty, pos, af, g⟩ K env H (evalOp P keep env H ⟨dst, .assign x, ty, pos, af, g⟩) := rfl
theorem evO_pick {c a b : Operand} : evOp P keep ent n ⟨dst, .pick c a b, ty, pos, af, g⟩ K env H = awRes P keep ent n ⟨dst, .pick c a b, ty, pos, af, g⟩ K env H (evalOp P keep env H ⟨dst, .pick c a b, ty, pos, af, g⟩) := rfl
theorem evO_alloc {e : TypeId} : evOp P keep ent n ⟨dst, .alloc e, ty, pos, af, g⟩ K env H = awRes P keep ent n ⟨dst, .alloc e, ty, pos, af, g⟩ K env H (evalOp P keep env H ⟨dst, .alloc e, ty, pos, af, g⟩) := rfl
theorem evO_box {e : TypeId} {x : Operand} : evOp P keep ent n ⟨dst, .box e x, ty, pos, af, g⟩ K env H = awRes P keep ent n ⟨dst, .box e x, ty, pos, af, g⟩ K env H (evalOp P keep env H ⟨dst, .box e x, ty, pos, af, g⟩) := rfl
theorem evO_build {t : TypeId} {l : Array (Nat × Operand)} : evOp P keep ent n ⟨dst, .build t l, ty, pos, af, g⟩ K env H = awRes P keep ent n ⟨dst, .build t l, ty, pos, af, g⟩ K env H (evalOp P keep env H ⟨dst, .build t l, ty, pos, af, g⟩) := rfl
theorem evO_buildSlice {t len : Nat} {l : Array (Nat × Operand)} : evOp P keep ent n ⟨dst, .buildSlice t len l, ty, pos, af, g⟩ K env H = awRes P keep ent n ⟨dst, .buildSlice t len l, ty, pos, af, g⟩ K env H (evalOp P keep env H ⟨dst, .buildSlice t len l, ty, pos, af, g⟩) := rfl
theorem evO_load {t : TypeId} {a : Operand} : evOp P keep ent n ⟨dst, .load t a, ty, pos, af, g⟩ K env H = awRes P keep ent n ⟨dst, .load t a, ty, pos, af, g⟩ K env H (evalOp P keep env H ⟨dst, .load t a, ty, pos, af, g⟩) := rfl
theorem evO_store {t : TypeId} {a x : Operand} : evOp P keep ent n ⟨dst, .store t a x, ty, pos, af, g⟩ K env H = awRes P keep ent n ⟨dst, .store t a x, ty, pos, af, g⟩ K env H (evalOp P keep env H ⟨dst, .store t a x, ty, pos, af, g⟩) := rfl
theorem evO_nilCheck {x : Operand} : evOp P keep ent n ⟨dst, .nilCheck x, ty, pos, af, g⟩ K env H = awRes P keep ent n ⟨dst, .nilCheck x, ty, pos, af, g⟩ K env H (evalOp P keep env H ⟨dst, .nilCheck x, ty, pos, af, g⟩) := rfl
theorem evO_binOp {op : BinOp} {t t2 : TypeId} {x y : Operand} : evOp P keep ent n ⟨dst, .binOp op t x y t2, ty, pos, af, g⟩ K env H = awRes P keep ent n ⟨dst, .binOp op t x y t2, ty, pos, af, g⟩ K env H (evalOp P keep env H ⟨dst, .binOp op t x y t2, ty, pos, af, g⟩) := rfl
theorem evO_unOp {op : UnOp} {t : TypeId} {x : Operand} : evOp P keep ent n ⟨dst, .unOp op t x, ty, pos, af, g⟩ K env H = awRes P keep ent n ⟨dst, .unOp op t x, ty, pos, af, g⟩ K env H (evalOp P keep env H ⟨dst, .unOp op t x, ty, pos, af, g⟩) := rfl
theorem evO_convert {s d : TypeId} {x : Operand} : evOp P keep ent n ⟨dst, .convert s d x, ty, pos, af, g⟩ K env H = awRes P keep ent n ⟨dst, .convert s d x, ty, pos, af, g⟩ K env H (evalOp P keep env H ⟨dst, .convert s d x, ty, pos, af, g⟩) := rfl
theorem evO_makeFunc {f : Fn} {a b : Array Operand} : evOp P keep ent n ⟨dst, .makeFunc f a b, ty, pos, af, g⟩ K env H = awRes P keep ent n ⟨dst, .makeFunc f a b, ty, pos, af, g⟩ K env H (evalOp P keep env H ⟨dst, .makeFunc f a b, ty, pos, af, g⟩) := rfl
theorem evO_makeSlice {t : TypeId} {l c : Operand} : evOp P keep ent n ⟨dst, .makeSlice t l c, ty, pos, af, g⟩ K env H = awRes P keep ent n ⟨dst, .makeSlice t l c, ty, pos, af, g⟩ K env H (evalOp P keep env H ⟨dst, .makeSlice t l c, ty, pos, af, g⟩) := rfl
theorem evO_slice {t : TypeId} {x : Operand} {lo hi mx : Option Operand} : evOp P keep ent n ⟨dst, .slice t x lo hi mx, ty, pos, af, g⟩ K env H = awRes P keep ent n ⟨dst, .slice t x lo hi mx, ty, pos, af, g⟩ K env H (evalOp P keep env H ⟨dst, .slice t x lo hi mx, ty, pos, af, g⟩) := rfl
theorem evO_fieldAddr {s : TypeId} {x : Operand} {f : Nat} : evOp P keep ent n ⟨dst, .fieldAddr s x f, ty, pos, af, g⟩ K env H = awRes P keep ent n ⟨dst, .fieldAddr s x f, ty, pos, af, g⟩ K env H (evalOp P keep env H ⟨dst, .fieldAddr s x f, ty, pos, af, g⟩) := rfl
theorem evO_field {s : TypeId} {x : Operand} {f : Nat} : evOp P keep ent n ⟨dst, .field s x f, ty, pos, af, g⟩ K env H = awRes P keep ent n ⟨dst, .field s x f, ty, pos, af, g⟩ K env H (evalOp P keep env H ⟨dst, .field s x f, ty, pos, af, g⟩) := rfl
theorem evO_indexAddr {t : TypeId} {x i : Operand} : evOp P keep ent n ⟨dst, .indexAddr t x i, ty, pos, af, g⟩ K env H = awRes P keep ent n ⟨dst, .indexAddr t x i, ty, pos, af, g⟩ K env H (evalOp P keep env H ⟨dst, .indexAddr t x i, ty, pos, af, g⟩) := rfl
theorem evO_index {t : TypeId} {x i : Operand} : evOp P keep ent n ⟨dst, .index t x i, ty, pos, af, g⟩ K env H = awRes P keep ent n ⟨dst, .index t x i, ty, pos, af, g⟩ K env H (evalOp P keep env H ⟨dst, .index t x i, ty, pos, af, g⟩) := rfl
theorem evO_extract {t : Operand} {i : Nat} : evOp P keep ent n ⟨dst, .extract t i, ty, pos, af, g⟩ K env H = awRes P keep ent n ⟨dst, .extract t i, ty, pos, af, g⟩ K env H (evalOp P keep env H ⟨dst, .extract t i, ty, pos, af, g⟩) := rfl
theorem evO_makeMap {t : TypeId} {r : Option Operand} : evOp P keep ent n ⟨dst, .makeMap t r, ty, pos, af, g⟩ K env H = awRes P keep ent n ⟨dst, .makeMap t r, ty, pos, af, g⟩ K env H (evalOp P keep env H ⟨dst, .makeMap t r, ty, pos, af, g⟩) := rfl
theorem evO_lookup {t : TypeId} {m i : Operand} {ok : Bool} : evOp P keep ent n ⟨dst, .lookup t m i ok, ty, pos, af, g⟩ K env H = awRes P keep ent n ⟨dst, .lookup t m i ok, ty, pos, af, g⟩ K env H (evalOp P keep env H ⟨dst, .lookup t m i ok, ty, pos, af, g⟩) := rfl
theorem evO_mapUpdate {t : TypeId} {m i x : Operand} : evOp P keep ent n ⟨dst, .mapUpdate t m i x, ty, pos, af, g⟩ K env H = awRes P keep ent n ⟨dst, .mapUpdate t m i x, ty, pos, af, g⟩ K env H (evalOp P keep env H ⟨dst, .mapUpdate t m i x, ty, pos, af, g⟩) := rfl
theorem evO_insert {t : TypeId} {m i x : Operand} : evOp P keep ent n ⟨dst, .insert t m i x, ty, pos, af, g⟩ K env H = awRes P keep ent n ⟨dst, .insert t m i x, ty, pos, af, g⟩ K env H (evalOp P keep env H ⟨dst, .insert t m i x, ty, pos, af, g⟩) := rfl
theorem evO_bcall {b : Builtin} {l : Array Operand} {ts : Array TypeId} : evOp P keep ent n ⟨dst, .call ⟨.builtin b, l, ts⟩, ty, pos, af, g⟩ K env H = awRes P keep ent n ⟨dst, .call ⟨.builtin b, l, ts⟩, ty, pos, af, g⟩ K env H (evalOp P keep env H ⟨dst, .call ⟨.builtin b, l, ts⟩, ty, pos, af, g⟩) := rfl
end

theorem getA_tmp (env : List (Nat × AV)) (t : Nat) : getA env (.tmp t) = look env t := rfl
theorem getA_const (env : List (Nat × AV)) (v : Value) : getA env (.const v) = .v v := rfl
theorem getA_func (env : List (Nat × AV)) (f : Nat) : getA env (.func f) = .fn (.func f) [] := rfl

end Go.Dk

/-
  Dk, part S: lists of cells that stand under a name: bytes, data, zero values.
-/
namespace Go.Dk
set_option autoImplicit false
set_option linter.unusedSectionVars false
set_option linter.unusedVariables false
set_option linter.unusedSimpArgs false

theorem scrubL_nil (id : Nat) : scrubL id [] = [] := rfl
theorem scrubL_cons (id : Nat) (c : AV) (cs : List AV) : scrubL id (c :: cs) = scrub1 id c :: scrubL id cs := rfl
theorem scrubL_append (id : Nat) (a b : List AV) : scrubL id (a ++ b) = scrubL id a ++ scrubL id b := by simp [scrubL]
theorem scrubL_of (id : Nat) (l : List AV) (h : ∀ x ∈ l, x.has id = false) : scrubL id l = l := by
  unfold scrubL
  conv => rhs; rw [← List.map_id l]
  exact List.map_congr_left fun x hx => by simp [scrub1, h x hx]
theorem scrubL_cellsB (id : Nat) (l : List UInt8) : scrubL id (cellsB l) = cellsB l := scrubL_of id _ (by
  intro x hx; simp only [cellsB, List.mem_map] at hx; obtain ⟨b, _, rfl⟩ := hx; rfl)
theorem has_av (g : Bool) (d : Dat) (i : Nat) : (d.av g).has i = false := by cases d <;> rfl
theorem scrubL_av (id : Nat) (g : Bool) (l : List Dat) : scrubL id (l.map (Dat.av g)) = l.map (Dat.av g) := scrubL_of id _ (by
  intro x hx; simp only [List.mem_map] at hx; obtain ⟨d, _, rfl⟩ := hx; exact has_av g d id)
theorem scrubL_rep (id n : Nat) (x : Value) : scrubL id (List.replicate n (.v x)) = List.replicate n (.v x) := scrubL_of id _ (by
  intro y hy; rw [List.eq_of_mem_replicate hy]; rfl)
theorem scrubL_zrep (id n : Nat) (zs : List Value) : scrubL id (zrep zs n) = zrep zs n := scrubL_of id _ (by
  intro y hy; simp only [zrep, List.mem_flatten, List.mem_replicate] at hy
  obtain ⟨l, ⟨_, rfl⟩, hy⟩ := hy
  simp only [List.mem_map] at hy; obtain ⟨v, _, rfl⟩ := hy; rfl)

theorem cellsB_nil : cellsB [] = [] := rfl
theorem cellsB_length (l : List UInt8) : (cellsB l).length = l.length := by simp [cellsB]
theorem cellsB_append (a b : List UInt8) : cellsB a ++ cellsB b = cellsB (a ++ b) := by simp [cellsB]
theorem cellsB_snoc (l : List UInt8) (b : UInt8) : cellsB l ++ [.v (.int .u8 (b.toNat : Int))] = cellsB (l ++ [b]) := by simp [cellsB, cB]
theorem cellsB_take (n : Nat) (l : List UInt8) : (cellsB l).take n = cellsB (l.take n) := by simp [cellsB]
theorem cellsB_drop (n : Nat) (l : List UInt8) : (cellsB l).drop n = cellsB (l.drop n) := by simp [cellsB]
theorem cellsB_all (l : List UInt8) : (cellsB l).all AV.cell = true := by
  simp [cellsB, List.all_eq_true, cB, AV.cell]
theorem cellsB_get (l : List UInt8) (i : Nat) : (cellsB l)[i]? = (l[i]?).map fun b => .v (.int .u8 (b.toNat : Int)) := by simp [cellsB]; rfl
theorem cellsB_head (l : List UInt8) : (cellsB l).head? = l.head?.map fun b => .v (.int .u8 (b.toNat : Int)) := by cases l <;> rfl
theorem cellsB_set (l : List UInt8) (i : Nat) (b : UInt8) : (cellsB l).set i (.v (.int .u8 (b.toNat : Int))) = cellsB (l.set i b) := by
  simp [cellsB, List.map_set]; rfl
theorem take_self {α : Type} (l : List α) (n : Nat) (h : l.length ≤ n) : l.take n = l := List.take_of_length_le h

/-- bytes as rows of data -/
def rowsB (l : List UInt8) : List (List Dat) := l.map fun b => [.v (.int .u8 b.toNat)]
theorem rowsB_nil : rowsB [] = [] := rfl
theorem rowsB_length (l : List UInt8) : (rowsB l).length = l.length := by simp [rowsB]
theorem rowsB_take (n : Nat) (l : List UInt8) : (rowsB l).take n = rowsB (l.take n) := by simp [rowsB]
theorem rowsB_drop (n : Nat) (l : List UInt8) : (rowsB l).drop n = rowsB (l.drop n) := by simp [rowsB]
theorem rowsB_get (l : List UInt8) (i : Nat) : (rowsB l)[i]? = (l[i]?).map fun b => [.v (.int .u8 (b.toNat : Int))] := by simp [rowsB]
theorem rowsB_flat (g : Bool) (l : List UInt8) : (rowsB l).flatten.map (Dat.av g) = cellsB l := by
  induction l with
  | nil => rfl
  | cons b l ih =>
    simp only [rowsB, List.map_cons, List.flatten_cons, List.map_append, List.map_nil] at ih ⊢
    rw [ih]; rfl
theorem rowsB_inj {a b : List UInt8} (h : rowsB a = rowsB b) : a = b := by
  induction a generalizing b with
  | nil => cases b with
    | nil => rfl
    | cons y ys => simp [rowsB] at h
  | cons x xs ih => cases b with
    | nil => simp [rowsB] at h
    | cons y ys =>
      simp only [rowsB, List.map_cons, List.cons.injEq, Dat.v.injEq, Value.int.injEq, true_and, and_true] at h
      have hxy : x = y := UInt8.toNat_inj.1 (by omega)
      rw [hxy, ih h.2]

theorem datsL_cellsB (l : List UInt8) : datsL (cellsB l) = some (l.map fun b => .v (.int .u8 (b.toNat : Int))) := by
  induction l with
  | nil => rfl
  | cons b l ih =>
    simp only [cellsB, List.map_cons, datsL] at ih ⊢
    rw [ih]; rfl
theorem chunk_cellsB (l : List UInt8) : chunk 1 l.length (l.map fun b => .v (.int .u8 (b.toNat : Int))) = rowsB l := by
  induction l with
  | nil => rfl
  | cons b l ih => simp only [List.length_cons, chunk, List.map_cons, List.take_succ_cons, List.take_zero, List.drop_succ_cons, List.drop_zero, ih]; rfl

theorem awIn_exit {Q : Ex → Sg → Prop} {i j : Nat} {σ : Sg} : awIn i Q (.exit j) σ = if j = i then Q .normal σ else Q (.exit j) σ := rfl

/-- a slice of bytes that is only read by a callee -/
theorem viewSl_bytes {H : Mem} {V : List Nat} {id off len : Nat} {l : List UInt8} (hV : V.contains id = true) (hf : Dk.find H id = some (.cells (cellsB l))) (hl : off + len ≤ l.length) :
    viewSl H V id 1 off len = .imm false 1 (rowsB ((l.drop off).take len)) := by
  unfold viewSl
  rw [if_pos hV]
  simp only [hf, cellsB_drop, Nat.mul_one, cellsB_take, datsL_cellsB, cellsB_length]
  rw [if_pos hl]
  have : ((l.drop off).take len).length = len := by simp; omega
  congr 1
  conv => lhs; arg 2; rw [← this]
  exact chunk_cellsB _

end Go.Dk

/-
  Dk, part T: the operations once more, so written that an evaluation waits at what is not yet known.
-/
namespace Go.Dk
set_option autoImplicit false
set_option linter.unusedSectionVars false
set_option linter.unusedVariables false
set_option linter.unusedSimpArgs false

def needO {α : Type} (c : Prop) [Decidable c] (x : Option α) : Option α := if c then x else none
def bindO {α β : Type} (o : Option α) (f : α → Option β) : Option β := o.bind f
theorem needO_pos {α : Type} {c : Prop} [Decidable c] {x : Option α} (h : c) : needO c x = x := if_pos h
theorem needO_true {α : Type} {x : Option α} [Decidable True] : needO True x = x := if_pos trivial
theorem bindO_some {α β : Type} {a : α} {f : α → Option β} : bindO (some a) f = f a := rfl
theorem needO_congr {α : Type} {c c' : Prop} [Decidable c] [Decidable c'] {x : Option α} (h : c = c') : needO c x = needO c' x := by
  subst h; congr
theorem bindO_congr {α β : Type} {o o' : Option α} {f : α → Option β} (h : o = o') : bindO o f = bindO o' f := by rw [h]
attribute [congr] needO_congr bindO_congr

def cellsOf : Option Blk → Option (List AV)
  | some (.cells cs) => some cs
  | _ => none

def elemOf? : Option TypeDesc → Option TypeId
  | some (.slice e) => some e
  | _ => none

theorem loadL_eq {P : Program} {t : TypeId} {cs : List AV} : loadL P t cs = bindO (tyAgg P t) fun b => match b with
    | true => bindO (tySize P t) fun n => needO (n ≤ cs.length) (some (.agg (cs.take n)))
    | false => cs.head? := by
  unfold loadL bindO needO
  cases tyAgg P t with
  | none => rfl
  | some b => cases b <;> simp <;> cases tySize P t <;> rfl

theorem loadA_ptr {P : Program} {H : Mem} {t : TypeId} {id off : Nat} : loadA P H t (.ptr id off) = bindO (cellsOf (Dk.find H id)) fun cs => loadL P t (cs.drop off) := by
  unfold loadA bindO cellsOf
  try dsimp only
  cases Dk.find H id with
  | none => rfl
  | some b => cases b <;> rfl
theorem loadA_iptr {P : Program} {H : Mem} {t : TypeId} {g : Bool} {cs : List Dat} : loadA P H t (.iptr g cs) = loadL P t (cs.map (Dat.av g)) := rfl

theorem storeA_ptr {P : Program} {H : Mem} {t : TypeId} {id off : Nat} {x : AV} : storeA P H t (.ptr id off) x = bindO (cellsOf (Dk.find H id)) fun cs => bindO x.cells fun xs => bindO (tySize P t) fun n =>
    needO (xs.length = n ∧ n ≠ 0 ∧ xs.all AV.cell = true ∧ off + n ≤ cs.length) (some (Dk.put H id (.cells (splice cs off xs)))) := by
  unfold storeA bindO cellsOf needO
  try dsimp only
  cases Dk.find H id with
  | none => rfl
  | some b =>
    cases b with
    | map es => rfl
    | oth k xs => rfl
    | cells cs => cases x.cells <;> cases tySize P t <;> rfl

theorem indexA_slc {P : Program} {t : TypeId} {id k off len : Nat} {kk : IntKind} {n : Int} : indexA P t (.slc id k off len) (.v (.int kk n)) = bindO (elemOf? (P.underlying t)) fun e => bindO (tySize P e) fun sz =>
    needO (k = sz ∧ 0 ≤ n ∧ n < (len : Int)) (some (.ptr id (off + n.toNat * sz))) := by
  unfold indexA bindO elemOf? needO
  try dsimp only
  cases P.underlying t with
  | none => rfl
  | some d => cases d <;> simp <;> cases tySize P _ <;> rfl
theorem indexA_imm {P : Program} {t : TypeId} {g : Bool} {k : Nat} {xs : List (List Dat)} {kk : IntKind} {n : Int} : indexA P t (.imm g k xs) (.v (.int kk n)) = bindO (elemOf? (P.underlying t)) fun e => bindO (tySize P e) fun sz =>
    needO (k = sz ∧ 0 ≤ n) ((xs[n.toNat]?).map (.iptr g)) := by
  unfold indexA bindO elemOf? needO
  try dsimp only
  cases P.underlying t with
  | none => rfl
  | some d => cases d <;> simp <;> cases tySize P _ <;> rfl
theorem indexA_arr {P : Program} {t e l : Nat} (hu : P.underlying t = some (.array l e)) {id off : Nat} {kk : IntKind} {n : Int} : indexA P t (.ptr id off) (.v (.int kk n)) = bindO (tySize P e) fun sz =>
    needO (0 ≤ n ∧ n < (l : Int)) (some (.ptr id (off + n.toNat * sz))) := by
  unfold indexA bindO needO
  try dsimp only
  simp only [hu]
  cases tySize P e <;> rfl

theorem sliceA_str {P : Program} {t : TypeId} {s : ByteArray} {lo hi : Option AV} (hu : P.underlying t = some .string) : sliceA P t (.v (.string s)) lo hi none = bindO (bnd lo 0) fun l => bindO (bnd hi (sL s).length) fun h =>
    needO (l ≤ h ∧ h ≤ (sL s).length) (some (.v (.string (mkS (((sL s).drop l).take (h - l)))))) := by
  unfold sliceA bindO needO
  try dsimp only
  simp only [hu]
  cases bnd lo 0 <;> cases bnd hi (sL s).length <;> rfl
theorem sliceA_slc {P : Program} {t e : TypeId} {id k off len : Nat} {lo hi : Option AV} (hu : P.underlying t = some (.slice e)) : sliceA P t (.slc id k off len) lo hi none = bindO (tySize P e) fun sz => bindO (bnd lo 0) fun l => bindO (bnd hi len) fun h =>
    needO (k = sz ∧ l ≤ h ∧ h ≤ len) (some (.slc id k (off + l * sz) (h - l))) := by
  unfold sliceA bindO needO
  try dsimp only
  simp only [hu]
  cases tySize P e with
  | none => rfl
  | some sz =>
    cases bnd lo 0 with
    | none => cases bnd hi len <;> rfl
    | some l =>
      cases bnd hi len with
      | none => rfl
      | some h =>
        simp only [show bnd none len = some len from rfl, Option.isNone_none, Bool.or_true, Option.bind_some]
        by_cases hc : k = sz ∧ l ≤ h ∧ h ≤ len
        · rw [if_pos ⟨hc.1, hc.2.1, hc.2.2, Nat.le_refl _⟩, if_pos hc]
        · rw [if_neg (fun h' => hc ⟨h'.1, h'.2.1, h'.2.2.1⟩), if_neg hc]
theorem sliceA_imm {P : Program} {t e : TypeId} {g : Bool} {k : Nat} {xs : List (List Dat)} {lo hi : Option AV} (hu : P.underlying t = some (.slice e)) : sliceA P t (.imm g k xs) lo hi none = bindO (tySize P e) fun sz => bindO (bnd lo 0) fun l => bindO (bnd hi xs.length) fun h =>
    needO (k = sz ∧ l ≤ h ∧ h ≤ xs.length) (some (.imm g k ((xs.drop l).take (h - l)))) := by
  unfold sliceA bindO needO
  try dsimp only
  simp only [hu]
  cases tySize P e with
  | none => rfl
  | some sz =>
    cases bnd lo 0 with
    | none => cases bnd hi xs.length <;> rfl
    | some l =>
      cases bnd hi xs.length with
      | none => rfl
      | some h =>
        simp only [show bnd none xs.length = some xs.length from rfl, Option.isNone_none, Bool.or_true, Option.bind_some]
        by_cases hc : k = sz ∧ l ≤ h ∧ h ≤ xs.length
        · rw [if_pos ⟨hc.1, hc.2.1, hc.2.2, Nat.le_refl _⟩, if_pos hc]
        · rw [if_neg (fun h' => hc ⟨h'.1, h'.2.1, h'.2.2.1⟩), if_neg hc]

theorem bnd_none (d : Nat) : bnd none d = some d := rfl
theorem bnd_int (k : IntKind) (n : Int) (d : Nat) : bnd (some (.v (.int k n))) d = needO (0 ≤ n) (some n.toNat) := rfl

theorem newCells_eq {keep : List Nat} {H : Mem} {id : Nat} {x : AV} {cs : List AV} : newCells keep H id x cs = needO (keep.contains id = false) (some ⟨x, Dk.put (scrubH id H) id (.cells (scrubL id cs)), some id⟩) := by
  unfold newCells needO
  cases keep.contains id <;> rfl

theorem fillL_cons {place : Nat → Option (Nat × Nat)} {cs : List AV} {i : Nat} {x : AV} {r : List (Nat × AV)} : fillL place cs ((i, x) :: r) = bindO (place i) fun p => bindO x.cells fun xs => needO (xs.length = p.2 ∧ p.1 + p.2 ≤ cs.length) (fillL place (splice cs p.1 xs) r) := by
  simp only [fillL, bindO, needO]
  cases place i with
  | none => rfl
  | some p =>
    obtain ⟨a, b⟩ := p
    cases x.cells <;> rfl
theorem fillL_nil {place : Nat → Option (Nat × Nat)} {cs : List AV} : fillL place cs [] = some cs := rfl

theorem buildSliceA_eq {P : Program} {keep : List Nat} {H : Mem} {d t len : Nat} {ps : List (Nat × AV)} : buildSliceA P keep H d t len ps = bindO (elemOf? (P.underlying t)) fun e => bindO (tySize P e) fun sz => bindO (tyZero P e) fun zs =>
    needO (zs.length = sz ∧ len * sz ≤ 16777216) (bindO (fillL (fun i => some (i * sz, sz)) (zrep zs len) ps) fun cs => newCells keep H d (.slc d sz 0 len) cs) := by
  unfold buildSliceA bindO elemOf? needO
  try dsimp only
  cases P.underlying t with
  | none => rfl
  | some dd =>
    cases dd <;> simp
    rename_i e
    cases tySize P e <;> cases tyZero P e <;> try rfl
    rename_i sz zs
    simp only [Option.bind_some]
    split <;> try rfl
    cases fillL (fun i => some (i * sz, sz)) (zrep zs len) ps <;> rfl

theorem buildA_struct {P : Program} {t : TypeId} {fs : Array Field} (hu : P.underlying t = some (.struct fs)) {ps : List (Nat × AV)} : buildA P t ps = bindO (tyZero P t) fun zs =>
    needO (fs.toList.all (fun f => (tySize P f.type).isSome) = true) ((fillL (placeF P fs) (zs.map .v) ps).map .agg) := by
  unfold buildA bindO needO
  simp only [hu]
  cases tyZero P t <;> rfl

theorem makeSliceA_eq {P : Program} {keep : List Nat} {H : Mem} {d t : Nat} {k1 k2 : IntKind} {l c : Int} : makeSliceA P keep H d t (.v (.int k1 l)) (.v (.int k2 c)) = bindO (elemOf? (P.underlying t)) fun e => bindO (tySize P e) fun sz => bindO (tyBytes P e) fun bt => bindO (tyZero P e) fun zs =>
    needO (zs.length = sz ∧ 0 < sz ∧ 0 ≤ l ∧ l ≤ c ∧ c ≤ 9223372036854775807 ∧ (bt : Int) * c ≤ 281474976710656) (newCells keep H d (.slc d sz 0 l.toNat) (zrep zs l.toNat)) := by
  unfold makeSliceA bindO elemOf? needO
  try dsimp only
  cases P.underlying t with
  | none => rfl
  | some dd =>
    cases dd <;> simp
    rename_i e
    cases tySize P e <;> cases tyBytes P e <;> cases tyZero P e <;> simp

theorem srcCells_slc {H : Mem} {k id k' off len : Nat} : srcCells H k (.slc id k' off len) = bindO (cellsOf (Dk.find H id)) fun cs => needO (k' = k ∧ off + len * k ≤ cs.length ∧ ((cs.drop off).take (len * k)).all AV.cell = true) (some ((cs.drop off).take (len * k), len)) := by
  unfold srcCells bindO cellsOf needO
  try dsimp only
  cases Dk.find H id with
  | none => rfl
  | some b => cases b <;> rfl
theorem srcCells_imm {H : Mem} {k k' : Nat} {g : Bool} {xs : List (List Dat)} : srcCells H k (.imm g k' xs) = needO (k' = k) (some (xs.flatten.map (Dat.av g), xs.length)) := rfl
theorem srcCells_str {H : Mem} {k : Nat} {s : ByteArray} : srcCells H k (.v (.string s)) = needO (k = 1) (some (cellsB (sL s), (sL s).length)) := rfl
theorem srcCells_emp {H : Mem} {k c : Nat} {a : Option Addr} : srcCells H k (.v (.slice a 0 c)) = some ([], 0) := rfl
theorem srcCells_nil {H : Mem} {k : Nat} : srcCells H k (.v (.slice none 0 0)) = some ([], 0) := rfl
theorem baseOf_nil {H : Mem} {k d : Nat} : baseOf H k d (.v (.slice none 0 0)) = some ([], 0, d) := rfl
theorem baseOf_slc {H : Mem} {k d id k' off len : Nat} : baseOf H k d (.slc id k' off len) = bindO (cellsOf (Dk.find H id)) fun cs => needO (k' = k ∧ off + len * k ≤ cs.length) (some ((cs.drop off).take (len * k), len, id)) := by
  unfold baseOf bindO cellsOf needO
  try dsimp only
  cases Dk.find H id with
  | none => rfl
  | some b => cases b <;> rfl

def notInt : Option TypeDesc → Option Unit
  | none => none
  | some (.int _) => none
  | _ => some ()

theorem appendA_eq {P : Program} {keep : List Nat} {H : Mem} {d st xt : Nat} {s x : AV} : appendA P keep H d st xt s x = bindO (elemOf? (P.underlying st)) fun e => bindO (notInt (P.underlying xt)) fun _ => bindO (tySize P e) fun k => bindO (tyBytes P e) fun bt => bindO (tyZero P e) fun zs =>
    bindO (baseOf H k d s) fun b => bindO (srcCells H k x) fun r => needO (zs.length = k ∧ 0 < k ∧ 0 < bt ∧ (2 * (b.2.1 + r.2) + 192) * bt ≤ 281474976710656) (newCells keep H b.2.2 (.slc b.2.2 k 0 (b.2.1 + r.2)) (b.1 ++ r.1)) := by
  unfold appendA bindO elemOf? notInt needO
  try dsimp only
  cases P.underlying st with
  | none => cases P.underlying xt <;> rfl
  | some d1 =>
    cases d1 <;> try rfl
    rename_i e
    cases P.underlying xt with
    | none => rfl
    | some d2 =>
      cases d2 <;> try rfl
      all_goals
        simp only [Option.bind_some]
        cases tySize P e <;> cases tyBytes P e <;> cases tyZero P e <;> simp only [Option.bind_some, Option.bind_none]
        rename_i k bt zs
        cases baseOf H k d s <;> cases srcCells H k x <;> rfl

theorem copyA_slc {P : Program} {H : Mem} {dt id k off len : Nat} {src : AV} : copyA P H dt (.slc id k off len) src = bindO (elemOf? (P.underlying dt)) fun e => bindO (tySize P e) fun k' => bindO (cellsOf (Dk.find H id)) fun cs => bindO (srcCells H k src) fun r =>
    needO (k' = k ∧ 0 < k ∧ r.2 ≤ len ∧ off + len * k ≤ cs.length) (if r.2 = 0 then some ⟨.v (.int .i64 0), H, none⟩ else some ⟨.v (.int .i64 r.2), Dk.put H id (.cells (cs.take off ++ (r.1 ++ cs.drop (off + r.2 * k)))), none⟩) := by
  unfold copyA bindO elemOf? needO cellsOf
  try dsimp only
  cases P.underlying dt with
  | none => rfl
  | some d1 =>
    cases d1 <;> try rfl
    rename_i e
    simp only [Option.bind_some]
    cases tySize P e with
    | none => rfl
    | some k' =>
      cases Dk.find H id with
      | none => rfl
      | some b =>
        cases b with
        | map es => rfl
        | oth k xs => rfl
        | cells cs => cases srcCells H k src <;> rfl

theorem binA_int {P : Program} {op : BinOp} {t : TypeId} {k k' : IntKind} {a b : Int} : binA P op t (.v (.int k a)) (.v (.int k' b)) = intV op k a k' b := rfl
theorem binA_str {P : Program} {op : BinOp} {t : TypeId} {a b : ByteArray} : binA P op t (.v (.string a)) (.v (.string b)) = strV op a b := rfl

theorem intV_add {k : IntKind} {a b : Int} : intV .add k a k b = some (.int k (k.wrap (a + b))) := by simp [intV]
theorem intV_sub {k : IntKind} {a b : Int} : intV .sub k a k b = some (.int k (k.wrap (a - b))) := by simp [intV]
theorem intV_mul {k : IntKind} {a b : Int} : intV .mul k a k b = some (.int k (k.wrap (a * b))) := by simp [intV]
theorem intV_quo {k : IntKind} {a b : Int} : intV .quo k a k b = needO (b ≠ 0) (some (.int k (k.wrap (a.tdiv b)))) := by
  simp only [intV, needO, if_true, ne_eq, ite_not]
theorem intV_rem {k : IntKind} {a b : Int} : intV .rem k a k b = needO (b ≠ 0) (some (.int k (a.tmod b))) := by
  simp only [intV, needO, if_true, ne_eq, ite_not]
theorem intV_shl {k k' : IntKind} {a b : Int} : intV .shl k a k' b = needO (0 ≤ b) (some (.int k (k.wrap (a * 2 ^ (min b.toNat k.bits))))) := by
  simp only [intV, needO]; by_cases h : b < 0
  · rw [if_pos h, if_neg (by omega)]
  · rw [if_neg h, if_pos (by omega)]
theorem intV_shr {k k' : IntKind} {a b : Int} : intV .shr k a k' b = needO (0 ≤ b) (some (.int k (a.fdiv (2 ^ (min b.toNat k.bits))))) := by
  simp only [intV, needO]; by_cases h : b < 0
  · rw [if_pos h, if_neg (by omega)]
  · rw [if_neg h, if_pos (by omega)]
theorem intV_and {k : IntKind} {a b : Int} : intV .and k a k b = some (.int k (k.wrap ((BitVec.ofInt k.bits a &&& BitVec.ofInt k.bits b).toNat : Int))) := by simp [intV]
theorem intV_or {k : IntKind} {a b : Int} : intV .or k a k b = some (.int k (k.wrap ((BitVec.ofInt k.bits a ||| BitVec.ofInt k.bits b).toNat : Int))) := by simp [intV]
theorem intV_xor {k : IntKind} {a b : Int} : intV .xor k a k b = some (.int k (k.wrap ((BitVec.ofInt k.bits a ^^^ BitVec.ofInt k.bits b).toNat : Int))) := by simp [intV]
theorem intV_eql {k : IntKind} {a b : Int} : intV .eql k a k b = some (.bool (decide (a = b))) := by simp [intV]
theorem intV_neq {k : IntKind} {a b : Int} : intV .neq k a k b = some (.bool (!decide (a = b))) := by simp [intV]
theorem intV_lss {k : IntKind} {a b : Int} : intV .lss k a k b = some (.bool (decide (a < b))) := by simp [intV]
theorem intV_leq {k : IntKind} {a b : Int} : intV .leq k a k b = some (.bool (decide (a ≤ b))) := by simp [intV]
theorem intV_gtr {k : IntKind} {a b : Int} : intV .gtr k a k b = some (.bool (decide (b < a))) := by simp [intV]
theorem intV_geq {k : IntKind} {a b : Int} : intV .geq k a k b = some (.bool (decide (b ≤ a))) := by simp [intV]

theorem decide_pos {p : Prop} [Decidable p] (h : p) : decide p = true := by simp [h]
theorem decide_neg {p : Prop} [Decidable p] (h : ¬ p) : decide p = false := by simp [h]
theorem wrapI {n : Int} (h : -9223372036854775808 ≤ n ∧ n ≤ 9223372036854775807) : IntKind.i64.wrap n = n := wrap_i64 h.1 h.2
theorem wrapU {n : Int} (h : 0 ≤ n ∧ n ≤ 18446744073709551615) : IntKind.u64.wrap n = n := by
  have e : IntKind.u64.wrap n = n % 18446744073709551616 := by simp [IntKind.wrap, IntKind.bits, IntKind.signed]
  rw [e]; omega
theorem wrap32 {n : Int} (h : 0 ≤ n ∧ n ≤ 4294967295) : IntKind.u32.wrap n = n := by
  have e : IntKind.u32.wrap n = n % 4294967296 := by simp [IntKind.wrap, IntKind.bits, IntKind.signed]
  rw [e]; omega
theorem wrap8 {n : Int} (h : 0 ≤ n ∧ n ≤ 255) : IntKind.u8.wrap n = n := by
  have e : IntKind.u8.wrap n = n % 256 := by simp [IntKind.wrap, IntKind.bits, IntKind.signed]
  rw [e]; omega

end Go.Dk

/-
  Dk, part V: how a region that draws is evaluated: a plan that is checked by computation, values in the order of the text, and what must be looked at once more.
-/
namespace Go.Dk
set_option autoImplicit false
set_option linter.unusedSectionVars false
set_option linter.unusedVariables false
set_option linter.unusedSimpArgs false

def plAt (pls : List Pl) (j : Nat) : Pl := pls.getD j default
def dstOf (ops : Array Oper) (i : Nat) : Option Tmp := (ops[i]?).bind (·.dst)

def planB (n : Nat) (ops : Array Oper) (pls : List Pl) (es : List Nat) (fin : List (Nat × Option Nat)) : Bool :=
  ((List.range ops.size).all fun j => match ops[j]? with
    | some o => o.after.toList.all (fun e => !Region.binds .any e || decide (e.on < j)) &&
      (plAt pls j).anc.all (fun a => o.after.toList.any fun e => Region.binds .any e && (e.on == a || (plAt pls e.on).anc.contains a)) &&
      (match o.dst with | some t => decide (t < n) | none => true)
    | none => true) &&
  ((List.range ops.size).all fun j => (plAt pls j).eff == es.contains j) &&
  (es.all fun e => decide (e < ops.size)) &&
  ((List.range es.length).all fun s => (List.range s).all fun r => (plAt pls (es.getD s 0)).anc.contains (es.getD r 0)) &&
  ((List.range ops.size).all fun j => (plAt pls j).args.all fun p =>
    (match p.2 with | some i => (plAt pls j).anc.contains i && dstOf ops i == some p.1 && decide (i < j) | none => true) &&
    (List.range ops.size).all fun i => i == j || dstOf ops i != some p.1 || p.2 == some i || (plAt pls i).anc.contains j || (match p.2 with | some i' => decide (i < i') | none => false)) &&
  ((List.range ops.size).all fun i => (List.range ops.size).all fun j => i == j || dstOf ops i == none || dstOf ops i != dstOf ops j || (plAt pls j).anc.contains i || (plAt pls i).anc.contains j) &&
  (fin.all fun p => (match p.2 with | some i => dstOf ops i == some p.1 | none => true) &&
    (List.range ops.size).all fun i => dstOf ops i != some p.1 || p.2 == some i || (match p.2 with | some i' => decide (i < i') | none => false)) &&
  ((List.range ops.size).all fun j => (plAt pls j).eff || (List.range (es.length + 1)).all fun k => (plAt pls j).at_.contains k ||
    !((List.range es.length).all fun r => (!(plAt pls j).anc.contains (es.getD r 0) || decide (r < k)) && (!(plAt pls (es.getD r 0)).anc.contains j || decide (k ≤ r))))

theorem getD_of {es : List Nat} {s e : Nat} (h : es[s]? = some e) : es.getD s 0 = e := by simp [List.getD, h]
theorem lt_of {α : Type} {l : List α} {s : Nat} {e : α} (h : l[s]? = some e) : s < l.length := (List.getElem?_eq_some_iff.1 h).1
theorem alt_of {ops : Array Oper} {s : Nat} {o : Oper} (h : ops[s]? = some o) : s < ops.size := (Array.getElem?_eq_some_iff.1 h).1

theorem planB_ok {F : Fun} {ops : Array Oper} {pls : List Pl} {es : List Nat} {fin : List (Nat × Option Nat)} (h : planB F.n ops pls es fin = true) : PlanOk (F := F) ops (plAt pls) es fin ∧ ∀ j p i, j < ops.size → p ∈ (plAt pls j).args → p.2 = some i → i < j := by
  simp only [planB, Bool.and_eq_true] at h
  obtain ⟨⟨⟨⟨⟨⟨⟨h1, h2⟩, h3⟩, h4⟩, h5⟩, h6⟩, h7⟩, h8⟩ := h
  simp only [List.all_eq_true, List.mem_range] at h1 h2 h3 h4 h5 h6 h7 h8
  have hop : ∀ (j : Nat) o, ops[j]? = some o → (∀ e ∈ o.after.toList, (!Region.binds .any e || decide (e.on < j)) = true) ∧
      (∀ a ∈ (plAt pls j).anc, (o.after.toList.any fun e => Region.binds .any e && (e.on == a || (plAt pls e.on).anc.contains a)) = true) ∧ (match o.dst with | some t => decide (t < F.n) | none => true) = true := by
    intro j o ho
    have := h1 j (alt_of ho)
    rw [ho] at this
    simp only [Bool.and_eq_true, List.all_eq_true] at this
    exact ⟨this.1.1, this.1.2, this.2⟩
  refine ⟨⟨?_, ?_, ?_, ?_, ?_, ?_, ?_, ?_, ?_, ?_⟩, ?_⟩
  · intro j o ho e he hb
    have := (hop j o ho).1 e (by simpa using he)
    simpa [hb] using this
  · intro j o ho a ha
    have := (hop j o ho).2.1 a ha
    simp only [List.any_eq_true, Bool.and_eq_true, Bool.or_eq_true, beq_iff_eq] at this
    obtain ⟨e, he, hb, hc⟩ := this
    exact ⟨e, by simpa using he, hb, hc.imp id (by simp)⟩
  · intro j hj
    have := h2 j hj
    simp only [beq_iff_eq] at this
    rw [this]; simp
  · intro r s e j hrs hr hs
    have := h4 s (lt_of hs) r hrs
    rw [getD_of hs, getD_of hr] at this
    simpa using this
  · intro e he; simpa using h3 e he
  · intro j t wr hj hin
    have := h5 j hj (t, wr) hin
    simp only [Bool.and_eq_true, List.all_eq_true, List.mem_range] at this
    obtain ⟨ha, hb⟩ := this
    refine ⟨fun i hi => ?_, fun i oi hoi hdi hne => ?_⟩
    · subst hi
      simp only [Bool.and_eq_true, beq_iff_eq] at ha
      exact ⟨by simpa using ha.1.1, ha.1.2⟩
    · have := hb i (alt_of hoi)
      simp only [Bool.or_eq_true, beq_iff_eq, bne_iff_ne, dstOf, hoi, Option.bind_some, hdi, ne_eq, not_true_eq_false, hne, false_or] at this
      rcases this with (h | h) | h
      · exact .inl h
      · exact .inr (.inl (by simpa using h))
      · cases wr with
        | none => simp at h
        | some i' => exact .inr (.inr ⟨i', rfl, by simpa using h⟩)
  · intro i j t oi oj hoi hoj hdi hdj hne
    have := h6 i (alt_of hoi) j (alt_of hoj)
    simp only [Bool.or_eq_true, beq_iff_eq, bne_iff_ne, dstOf, hoi, hoj, Option.bind_some, hdi, hdj, ne_eq, not_true_eq_false, hne, false_or, reduceCtorEq] at this
    rcases this with h | h
    · exact .inl (by simpa using h)
    · exact .inr (by simpa using h)
  · intro t wr hin
    have := h7 (t, wr) hin
    simp only [Bool.and_eq_true, List.all_eq_true, List.mem_range] at this
    obtain ⟨ha, hb⟩ := this
    refine ⟨fun i hi => ?_, fun i oi hoi hdi => ?_⟩
    · subst hi; simpa [dstOf] using ha
    · have := hb i (alt_of hoi)
      simp only [Bool.or_eq_true, beq_iff_eq, bne_iff_ne, dstOf, hoi, Option.bind_some, hdi, ne_eq, not_true_eq_false, false_or] at this
      rcases this with h | h
      · exact .inl h
      · cases wr with
        | none => simp at h
        | some i' => exact .inr ⟨i', rfl, by simpa using h⟩
  · intro j k hj hef hk ha hb
    have := h8 j hj
    rw [hef] at this
    simp only [Bool.false_or, List.all_eq_true, List.mem_range] at this
    have := this k (by omega)
    simp only [Bool.or_eq_true, Bool.not_eq_true'] at this
    rcases this with h | h
    · simpa using h
    · exfalso
      rw [← Bool.not_eq_true, List.all_eq_true] at h
      apply h
      intro r hr
      have hr' : r < es.length := by simpa using hr
      have he : es[r]? = some es[r] := List.getElem?_eq_getElem hr'
      rw [getD_of he]
      simp only [Bool.and_eq_true, Bool.or_eq_true, Bool.not_eq_true', decide_eq_true_eq]
      refine ⟨?_, ?_⟩
      · by_cases hin : es[r] ∈ (plAt pls j).anc
        · exact .inr (ha r _ he hin)
        · left; simpa using hin
      · by_cases hin : j ∈ (plAt pls es[r]).anc
        · exact .inr (hb r _ he hin)
        · left; simpa using hin
  · intro j o t ho hd
    have := (hop j o ho).2.2
    rw [hd] at this; simpa using this
  · intro j p i hj hin hi
    have := h5 j hj p hin
    rw [hi] at this
    simp only [Bool.and_eq_true, decide_eq_true_eq] at this
    exact this.1.2

/-- which stale values must be looked for -/
def staleB (ops : Array Oper) (pls : List Pl) (es : List Nat) (fin : List (Nat × Option Nat)) (need : List (Nat × Option Nat × Nat)) : Bool :=
  ((List.range ops.size).all fun j => (plAt pls j).args.all fun p => es.all fun e => e == j || (plAt pls e).anc.contains j || (match p.2 with | some i => e == i || (plAt pls i).anc.contains e | none => false) || need.contains (p.1, p.2, e)) &&
  (fin.all fun p => es.all fun e => (match p.2 with | some i => e == i || (plAt pls i).anc.contains e | none => false) || need.contains (p.1, p.2, e))

def pureOp : Op → Bool
  | .move _ | .assign _ | .pick .. | .build .. | .nilCheck _ | .binOp .. | .unOp .. | .makeFunc .. | .slice .. | .fieldAddr .. | .field .. | .indexAddr .. | .index .. | .extract .. => true
  | .call ⟨.builtin .max, _, _⟩ | .call ⟨.builtin .min, _, _⟩ => true
  | _ => false

theorem evalOp_pure {P : Program} {keep : List Nat} {env : List (Nat × AV)} {H H1 H2 : Mem} {o : Oper} {x : AV} {s : Option Nat} (hp : pureOp o.op = true) (h : evalOp P keep env H o = some ⟨x, H1, s⟩) : evalOp P keep env H2 o = some ⟨x, H2, none⟩ := by
  have key : ∀ (y : Option AV), y.map (pureO H) = some ⟨x, H1, s⟩ → y.map (pureO H2) = some ⟨x, H2, none⟩ := by
    intro y hy
    cases y with
    | none => simp at hy
    | some y => simp [pureO] at hy ⊢; exact hy.1
  have key2 : ∀ y, some (pureO H y) = some ⟨x, H1, s⟩ → some (pureO H2 y) = some (⟨x, H2, none⟩ : Out) := by
    intro y hy; simp [pureO] at hy ⊢; exact hy.1
  have key3 : ∀ (y : Option Value), (y.map fun v => pureO H (.v v)) = some ⟨x, H1, s⟩ → (y.map fun v => pureO H2 (.v v)) = some ⟨x, H2, none⟩ := by
    intro y hy
    cases y with
    | none => simp at hy
    | some y => simp [pureO] at hy ⊢; exact hy.1
  unfold evalOp at h ⊢
  cases hop : o.op <;> rw [hop] at h hp <;> simp only [pureOp] at hp <;> simp only [] at h ⊢ <;> first
    | exact key2 _ h
    | exact key _ h
    | exact key3 _ h
    | (cases hp; done)
    | skip
  · split at h <;> first | exact key2 _ h | (cases h; done)
  · split at h <;> first | exact key2 _ h | (cases h; done)
  · split at h <;> first | exact key3 _ h | (cases h; done)
  · split at h
    · rename_i hh; simp only [if_pos hh] at h ⊢; exact key2 _ h
    · cases h
  · split at h <;> first | exact key _ h | (cases h; done)
  · split at h <;> first | exact key _ h | (cases h; done)
  · rename_i c
    obtain ⟨cal, as, ts⟩ := c
    cases cal with
    | value f => simp at hp
    | invoke r m => simp at hp
    | builtin b =>
      cases b <;> simp at hp <;> simp only [] at h ⊢ <;> first
        | exact key _ h
        | (split at h <;> first
          | exact key _ h
          | (exfalso; simp_all; done)
          | (cases h; done))

/- values and stages that have been come to so far -/
def lkS : List (Nat × Mem) → Nat → Mem
  | [], _ => []
  | (i, m) :: r, k => if i == k then m else lkS r k
def lkC : List (Nat × List Nat) → Nat → List Nat
  | [], _ => []
  | (i, m) :: r, k => if i == k then m else lkC r k

/-- one operation's outcome is handed on -/
def evRes (eff : Bool) (H : Mem) (k : AV → Mem → List Nat → Prop) : Option Out → Prop
  | some ⟨x, H', s⟩ => (eff = true ∨ (H' = H ∧ s = none)) ∧ k x H' s.toList
  | none => False

def evCallD (P : Program) (keep ent : List Nat) (H : Mem) (xs : List AV) (k : AV → Mem → List Nat → Prop) (fo : AV) : Prop :=
  match tgtOf fo with
  | some (t, caps) => ∃ x H' scr, CallGives P keep ent H t (xs ++ caps) x H' scr ∧ k x H' scr
  | none => False

def evRun (F : Fun) (o : Oper) (env : List (Nat × AV)) (H : Mem) (eff : Bool) (k : AV → Mem → List Nat → Prop) : Prop :=
  match o.op with
  | .call ⟨.value fo, args, _⟩ => eff = true ∧ evCallD F.P F.keep F.ent H (args.toList.map (getA env)) k (getA env fo)
  | _ => evRes eff H k (evalOp F.P F.keep env H o)

def evGd (b : Bool) (X : Prop) (Y : Prop) : AV → Prop
  | .v (.bool c) => awIf (c == b) X Y
  | _ => False

def evStep (F : Fun) (ops : Array Oper) (o : Oper) (env : List (Nat × AV)) (H : Mem) (eff : Bool) (k : AV → Mem → List Nat → Prop) : Prop :=
  match o.guard with
  | none => evRun F o env H eff k
  | some (g, b) => match dstOf ops g with
    | some d => evGd b (evRun F o env H eff k) (k .any H []) (look env d)
    | none => False

theorem evStep_sound {F : Fun} {ops : Array Oper} {o : Oper} {env : List (Nat × AV)} {H : Mem} {eff : Bool} {k : AV → Mem → List Nat → Prop} (h : evStep F ops o env H eff k) :
    ∃ x H' scr, stepD F.P F.keep F.ent ops o env H x H' scr ∧ k x H' scr ∧ (eff = false → H' = H ∧ scr = []) ∧ (eff = false → pureOp o.op = true → ∀ H2, stepD F.P F.keep F.ent ops o env H2 x H2 []) := by
  have run : ∀ want : (match o.guard with
      | none => True
      | some (g, b) => ∃ d c, (ops[g]?).bind (·.dst) = some d ∧ look env d = .v (.bool c) ∧ true = (c == b)), evRun F o env H eff k →
      ∃ x H' scr, stepD F.P F.keep F.ent ops o env H x H' scr ∧ k x H' scr ∧ (eff = false → H' = H ∧ scr = []) ∧ (eff = false → pureOp o.op = true → ∀ H2, stepD F.P F.keep F.ent ops o env H2 x H2 []) := by
    intro want hr
    have wt : ∃ w : Bool, (match o.guard with
      | none => w = true
      | some (g, b) => ∃ d c, (ops[g]?).bind (·.dst) = some d ∧ look env d = .v (.bool c) ∧ w = (c == b)) ∧ w = true := by
      refine ⟨true, ?_, rfl⟩
      split at want
      · rfl
      · exact want
    obtain ⟨w, hw1, rfl⟩ := wt
    unfold evRun at hr
    split at hr
    · rename_i fo args tys hop
      obtain ⟨he, hr⟩ := hr
      unfold evCallD at hr
      split at hr
      · rename_i f caps hf
        obtain ⟨x, H', scr, h1, h2⟩ := hr
        refine ⟨x, H', scr, ⟨true, hw1, .inr ⟨_, fo, f, caps, hop, rfl, hf, h1⟩⟩, h2, (fun h => by rw [he] at h; cases h), (fun h => by rw [he] at h; cases h)⟩
      · exact hr.elim
    · unfold evRes at hr
      split at hr
      · rename_i x H' s hev
        refine ⟨x, H', s.toList, ⟨true, hw1, .inl ⟨s, hev, rfl⟩⟩, hr.2, fun h => ?_, fun h hp H2 => ⟨true, hw1, .inl ⟨none, evalOp_pure hp hev, rfl⟩⟩⟩
        rcases hr.1 with h1 | ⟨h1, h2⟩
        · rw [h] at h1; cases h1
        · exact ⟨h1, by rw [h2]; rfl⟩
      · exact hr.elim
  unfold evStep at h
  split at h
  · rename_i hg
    refine run ?_ h
    rw [hg]; trivial
  · rename_i g b hg
    split at h <;> try (exact h.elim)
    rename_i d hd
    unfold evGd at h
    split at h <;> try (exact h.elim)
    rename_i c hc
    have hd' : (ops[g]?).bind (·.dst) = some d := hd
    by_cases hcb : (c == b) = true
    · refine run ?_ (h.1 hcb)
      rw [hg]; exact ⟨d, c, hd', hc, hcb.symm⟩
    · have hf : (c == b) = false := by simpa using hcb
      have mk : ∀ H2, stepD F.P F.keep F.ent ops o env H2 .any H2 [] := fun H2 => ⟨false, by rw [hg]; exact ⟨d, c, hd', hc, hf.symm⟩, rfl, rfl, rfl⟩
      exact ⟨.any, H, [], mk H, h.2 hf, fun _ => ⟨rfl, rfl⟩, fun _ _ H2 => mk H2⟩

/-- a reading operation gives the same at another stage -/
def evSame (F : Fun) (ops : Array Oper) (o : Oper) (env : List (Nat × AV)) (H : Mem) (x : AV) : Prop := evStep F ops o env H false fun y _ _ => y = x

def evChks (F : Fun) (ops : Array Oper) (env0 : List (Nat × AV)) (X : List (Nat × AV)) (st : List (Nat × Mem)) (j : Nat) (o : Oper) (p : Pl) : List Nat → Prop
  | [] => True
  | k :: ks => evSame F ops o (envD env0 (look X) p.args) (lkS st k) (look X j) ∧ evChks F ops env0 X st j o p ks

def evChk (F : Fun) (ops : Array Oper) (env0 : List (Nat × AV)) (X : List (Nat × AV)) (st : List (Nat × Mem)) : List (Nat × Oper × Pl) → Prop
  | [] => True
  | (j, o, p) :: r => (if p.eff || pureOp o.op then True else evChks F ops env0 X st j o p p.at_) ∧ evChk F ops env0 X st r

def noHas (x : AV) : List Nat → Prop
  | [] => True
  | s :: r => x.has s = false ∧ noHas x r

def evNeed (env0 : List (Nat × AV)) (X : List (Nat × AV)) (sc : List (Nat × List Nat)) : List (Nat × Option Nat × Nat) → Prop
  | [] => True
  | (t, wr, e) :: r => noHas (valD env0 (look X) t wr) (lkC sc e) ∧ evNeed env0 X sc r

def evD (F : Fun) (ops : Array Oper) (env0 : List (Nat × AV)) (fin : List (Nat × AV) → Nat → List (Nat × Mem) → List (Nat × List Nat) → Prop) :
    List (Nat × Oper × Pl) → List (Nat × AV) → Nat → List (Nat × Mem) → List (Nat × List Nat) → Prop
  | [], X, r, st, sc => fin X r st sc
  | (j, o, p) :: rest, X, r, st, sc => evStep F ops o (envD env0 (look X) p.args) (lkS st r) p.eff fun x H' scr =>
      match p.eff with
      | true => evD F ops env0 fin rest ((j, x) :: X) (r + 1) ((r + 1, H') :: st) ((j, scr) :: sc)
      | false => evD F ops env0 fin rest ((j, x) :: X) r st sc

def plOps (pls : List Pl) : Nat → List Oper → List (Nat × Oper × Pl)
  | _, [] => []
  | j, o :: r => (j, o, plAt pls j) :: plOps pls (j + 1) r

def evDraw (F : Fun) (ops : Array Oper) (pls : List Pl) (es : List Nat) (fin : List (Nat × Option Nat)) (need : List (Nat × Option Nat × Nat)) (K : Sg → Prop) (σ : Sg) : Prop :=
  evD F ops σ.env (fun X r st sc => r = es.length ∧ evChk F ops σ.env X st (plOps pls 0 ops.toList) ∧ evNeed σ.env X sc need ∧ K ⟨envD σ.env (look X) fin, lkS st r⟩) (plOps pls 0 ops.toList) [] 0 [(0, σ.H)] []

end Go.Dk

/-
  Dk, part W: such an evaluation is enough.
-/
namespace Go.Dk
set_option autoImplicit false
set_option linter.unusedSectionVars false
set_option linter.unusedVariables false
set_option linter.unusedSimpArgs false

def sortB (es : List Nat) : Bool := (List.range es.length).all fun s => (List.range s).all fun r => decide (es.getD r 0 < es.getD s 0)

theorem envD_congr {env : List (Nat × AV)} {X Y : Nat → AV} {args : List (Nat × Option Nat)} (h : ∀ p i, p ∈ args → p.2 = some i → X i = Y i) : envD env X args = envD env Y args := by
  unfold envD
  refine List.map_congr_left fun p hp => ?_
  obtain ⟨t, wr⟩ := p
  cases wr with
  | none => rfl
  | some i => simp only [valD]; rw [h (t, some i) i hp rfl]

section
variable {F : Fun} {ops : Array Oper} {env : List (Nat × AV)} {pls : List Pl} {es : List Nat}

theorem evD_sound {fin : List (Nat × AV) → Nat → List (Nat × Mem) → List (Nat × List Nat) → Prop} (hargs : ∀ j p i, j < ops.size → p ∈ (plAt pls j).args → p.2 = some i → i < j)
    (heffs : ∀ j, j < ops.size → ((plAt pls j).eff = true ↔ j ∈ es)) (hsort : ∀ (r s e e' : Nat), r < s → es[r]? = some e → es[s]? = some e' → e < e') (hes : ∀ e ∈ es, e < ops.size) :
    ∀ (rest : List Oper) (j : Nat) (X : List (Nat × AV)) (r : Nat) (st : List (Nat × Mem)) (sc : List (Nat × List Nat)), (∀ i, rest[i]? = ops[j + i]?) → j + rest.length = ops.size →
      (∀ (q e : Nat), es[q]? = some e → (e < j ↔ q < r)) → r ≤ es.length → evD F ops env fin (plOps pls j rest) X r st sc →
      ∃ Xf rf stf scf, fin Xf rf stf scf ∧ (∀ i, i < j → look Xf i = look X i) ∧ (∀ k, k ≤ r → lkS stf k = lkS st k) ∧ (∀ e, e < j → lkC scf e = lkC sc e) ∧
        (∀ (i : Nat) o, j ≤ i → ops[i]? = some o → (plAt pls i).eff = false → (∃ k0, stepD F.P F.keep F.ent ops o (envD env (look Xf) (plAt pls i).args) (lkS stf k0) (look Xf i) (lkS stf k0) []) ∧
          (pureOp o.op = true → ∀ H2, stepD F.P F.keep F.ent ops o (envD env (look Xf) (plAt pls i).args) H2 (look Xf i) H2 [])) ∧
        (∀ (i q : Nat) o, j ≤ i → ops[i]? = some o → es[q]? = some i → stepD F.P F.keep F.ent ops o (envD env (look Xf) (plAt pls i).args) (lkS stf q) (look Xf i) (lkS stf (q + 1)) (lkC scf i)) := by
  intro rest
  induction rest with
  | nil =>
    intro j X r st sc hr hl hq hrl h
    refine ⟨X, r, st, sc, h, fun _ _ => rfl, fun _ _ => rfl, fun _ _ => rfl, ?_, ?_⟩
    · intro i o hji ho; have := alt_of ho; simp at hl; omega
    · intro i q o hji ho; have := alt_of ho; simp at hl; omega
  | cons o rest ih =>
    intro j X r st sc hr hl hq hrl h
    have ho : ops[j]? = some o := by have := hr 0; simpa using this.symm
    have hjs : j < ops.size := alt_of ho
    have hr' : ∀ i, rest[i]? = ops[j + 1 + i]? := by
      intro i; have := hr (i + 1); rw [show j + 1 + i = j + (i + 1) by omega, ← this]; simp
    simp only [plOps, evD] at h
    obtain ⟨x, H', scr, hstep, hk, hsame, hpure⟩ := evStep_sound h
    cases hef : (plAt pls j).eff with
    | false =>
      rw [hef] at hk hsame hpure
      simp only at hk
      obtain ⟨rfl, rfl⟩ := hsame rfl
      have hjes : j ∉ es := fun hin => by have := (heffs j hjs).2 hin; rw [hef] at this; cases this
      have hq' : ∀ (q e : Nat), es[q]? = some e → (e < j + 1 ↔ q < r) := by
        intro q e hqe
        rw [← hq q e hqe]
        have : e ≠ j := by rintro rfl; exact hjes (List.mem_of_getElem? hqe)
        omega
      obtain ⟨Xf, rf, stf, scf, hfin, h1, h2, h3, h4, h5⟩ := ih (j + 1) ((j, x) :: X) r st sc hr' (by simp only [List.length_cons] at hl; omega) hq' hrl hk
      have hXj : look Xf j = x := by rw [h1 j (by omega)]; simp [look]
      have hlow : ∀ i, i < j → look Xf i = look X i := by
        intro i hi
        rw [h1 i (by omega)]
        have : (j == i) = false := by simp; omega
        simp [look, this]
      have henv : envD env (look X) (plAt pls j).args = envD env (look Xf) (plAt pls j).args := envD_congr fun p i hp hi => (hlow i (hargs j p i hjs hp hi)).symm
      rw [henv] at hstep hpure
      refine ⟨Xf, rf, stf, scf, hfin, hlow, h2, fun e he => h3 e (by omega), ?_, ?_⟩
      · intro i oi hji hoi hefi
        by_cases hij : i = j
        · subst hij
          rw [ho] at hoi; obtain rfl := Option.some.inj hoi
          rw [hXj]
          exact ⟨⟨r, by rw [h2 r (Nat.le_refl _)]; exact hstep⟩, fun hp => hpure rfl hp⟩
        · exact h4 i oi (by omega) hoi hefi
      · intro i q oi hji hoi hqi
        by_cases hij : i = j
        · subst hij; exact absurd (List.mem_of_getElem? hqi) hjes
        · exact h5 i q oi (by omega) hoi hqi
    | true =>
      rw [hef] at hk
      simp only at hk
      have hjes : j ∈ es := (heffs j hjs).1 hef
      obtain ⟨q0, hq0⟩ := List.getElem?_of_mem hjes
      have hq0l := lt_of hq0
      have hq0r : q0 = r := by
        have h1 : ¬ q0 < r := fun hlt => by have := (hq q0 j hq0).2 hlt; omega
        rcases Nat.lt_or_ge r q0 with h2 | h2
        · have h3 := hsort r q0 (es[r]'(by omega)) j h2 (List.getElem?_eq_getElem (by omega)) hq0
          have := (hq r _ (List.getElem?_eq_getElem (by omega))).1 h3
          omega
        · omega
      subst hq0r
      have hq' : ∀ (q e : Nat), es[q]? = some e → (e < j + 1 ↔ q < q0 + 1) := by
        intro q e hqe
        rcases Nat.lt_trichotomy q q0 with h1 | h1 | h1
        · have := hsort q q0 e j h1 hqe hq0; omega
        · subst h1; rw [hq0] at hqe; obtain rfl := Option.some.inj hqe; omega
        · have := hsort q0 q j e h1 hq0 hqe; omega
      obtain ⟨Xf, rf, stf, scf, hfin, h1, h2, h3, h4, h5⟩ := ih (j + 1) ((j, x) :: X) (q0 + 1) ((q0 + 1, H') :: st) ((j, scr) :: sc) hr' (by simp only [List.length_cons] at hl; omega) hq' (by omega) hk
      have hXj : look Xf j = x := by rw [h1 j (by omega)]; simp [look]
      have hlow : ∀ i, i < j → look Xf i = look X i := by
        intro i hi
        rw [h1 i (by omega)]
        have : (j == i) = false := by simp; omega
        simp [look, this]
      have hst : ∀ k, k ≤ q0 → lkS stf k = lkS st k := by
        intro k hk
        rw [h2 k (by omega)]
        have : (q0 + 1 == k) = false := by simp; omega
        simp [lkS, this]
      have henv : envD env (look X) (plAt pls j).args = envD env (look Xf) (plAt pls j).args := envD_congr fun p i hp hi => (hlow i (hargs j p i hjs hp hi)).symm
      rw [henv] at hstep
      refine ⟨Xf, rf, stf, scf, hfin, hlow, hst, fun e he => ?_, ?_, ?_⟩
      · rw [h3 e (by omega)]
        have : (j == e) = false := by simp; omega
        simp [lkC, this]
      · intro i oi hji hoi hefi
        by_cases hij : i = j
        · subst hij; rw [hef] at hefi; cases hefi
        · exact h4 i oi (by omega) hoi hefi
      · intro i q oi hji hoi hqi
        by_cases hij : i = j
        · subst hij
          rw [ho] at hoi; obtain rfl := Option.some.inj hoi
          have hqq : q = q0 := by
            rcases Nat.lt_trichotomy q q0 with h | h | h
            · have := hsort q q0 i i h hqi hq0; omega
            · exact h
            · have := hsort q0 q i i h hq0 hqi; omega
          subst hqq
          rw [hXj, hst q (Nat.le_refl _), h2 (q + 1) (Nat.le_refl _), h3 i (by omega)]
          simpa [lkS, lkC] using hstep
        · exact h5 i q oi (by omega) hoi hqi

theorem plOps_get : ∀ (rest : List Oper) (j i : Nat) (o : Oper), rest[i]? = some o → (plOps pls j rest)[i]? = some (j + i, o, plAt pls (j + i)) := by
  intro rest
  induction rest with
  | nil => intro j i o h; simp at h
  | cons x r ih =>
    intro j i o h
    cases i with
    | zero => simp at h; subst h; simp [plOps]
    | succ i =>
      simp only [plOps, List.getElem?_cons_succ]
      rw [ih (j + 1) i o (by simpa using h), show j + 1 + i = j + (i + 1) by omega]

theorem evChk_get {X : List (Nat × AV)} {st : List (Nat × Mem)} : ∀ {l : List (Nat × Oper × Pl)}, evChk F ops env X st l → ∀ j o p, (j, o, p) ∈ l → p.eff = false → pureOp o.op = false → evChks F ops env X st j o p p.at_ := by
  intro l
  induction l with
  | nil => intro h j o p hm; cases hm
  | cons q r ih =>
    intro h j o p hm hef hp
    obtain ⟨j', o', p'⟩ := q
    simp only [evChk] at h
    rcases List.mem_cons.1 hm with hm | hm
    · simp only [Prod.mk.injEq] at hm
      obtain ⟨rfl, rfl, rfl⟩ := hm
      have := h.1
      rw [hef, hp] at this
      simpa using this
    · exact ih h.2 j o p hm hef hp

theorem evChks_get {X : List (Nat × AV)} {st : List (Nat × Mem)} {j : Nat} {o : Oper} {p : Pl} : ∀ {ks : List Nat}, evChks F ops env X st j o p ks → ∀ k ∈ ks, evSame F ops o (envD env (look X) p.args) (lkS st k) (look X j) := by
  intro ks
  induction ks with
  | nil => intro h k hk; cases hk
  | cons q r ih =>
    intro h k hk
    simp only [evChks] at h
    rcases List.mem_cons.1 hk with rfl | hk
    · exact h.1
    · exact ih h.2 k hk

theorem noHas_get {x : AV} : ∀ {l : List Nat}, noHas x l → ∀ s ∈ l, x.has s = false := by
  intro l
  induction l with
  | nil => intro h s hs; cases hs
  | cons q r ih =>
    intro h s hs
    rcases List.mem_cons.1 hs with rfl | hs
    · exact h.1
    · exact ih h.2 s hs

theorem evNeed_get {X : List (Nat × AV)} {sc : List (Nat × List Nat)} : ∀ {l : List (Nat × Option Nat × Nat)}, evNeed env X sc l → ∀ t wr e, (t, wr, e) ∈ l → ∀ s ∈ lkC sc e, (valD env (look X) t wr).has s = false := by
  intro l
  induction l with
  | nil => intro h t wr e hm; cases hm
  | cons q r ih =>
    intro h t wr e hm
    obtain ⟨t', wr', e'⟩ := q
    simp only [evNeed] at h
    rcases List.mem_cons.1 hm with hm | hm
    · simp only [Prod.mk.injEq] at hm
      obtain ⟨rfl, rfl, rfl⟩ := hm
      exact noHas_get h.1
    · exact ih h.2 t wr e hm
end

theorem evDraw_sound {F : Fun} {ops : Array Oper} {pls : List Pl} {es : List Nat} {fin : List (Nat × Option Nat)} {need : List (Nat × Option Nat × Nat)} {K : Sg → Prop} {σ : Sg} (hm : F.P.follows .mixedOrders = true)
    (hp : planB F.n ops pls es fin = true) (hso : sortB es = true) (hs : staleB ops pls es fin need = true) (h : evDraw F ops pls es fin need K σ) : awDraw F ops K σ := by
  obtain ⟨hok, hargs⟩ := planB_ok (F := F) hp
  have hsort : ∀ (r s e e' : Nat), r < s → es[r]? = some e → es[s]? = some e' → e < e' := by
    intro r s e e' hrs hr hs'
    simp only [sortB, List.all_eq_true, List.mem_range] at hso
    have := hso s (lt_of hs') r hrs
    rw [getD_of hr, getD_of hs'] at this
    simpa using this
  obtain ⟨Xf, rf, stf, scf, ⟨hrf, hchk, hneed, hK⟩, h1, h2, h3, h4, h5⟩ := evD_sound (F := F) (ops := ops) (env := σ.env) (pls := pls) (es := es) hargs hok.effs hsort hok.esin ops.toList 0 [] 0 [(0, σ.H)] []
    (by intro i; simp) (by simp) (by intro q e _; simp) (Nat.zero_le _) h
  simp only [staleB, Bool.and_eq_true, List.all_eq_true, List.mem_range] at hs
  refine ⟨hm, plAt pls, es, fin, look Xf, lkS stf, lkC scf, hok, ?_, ?_, ?_, ?_, ?_, by rw [← hrf]; exact hK⟩
  · intro j t wr hj hin e he hne hnanc
    have := hs.1 j hj (t, wr) hin e he
    simp only [Bool.or_eq_true, beq_iff_eq] at this
    rcases this with ((h | h) | h) | h
    · exact absurd h hne
    · exact absurd (by simpa using h) hnanc
    · cases wr with
      | none => simp at h
      | some i =>
        simp only [Bool.or_eq_true, beq_iff_eq] at h
        exact .inl ⟨i, rfl, h.imp id (by simp)⟩
    · exact .inr (evNeed_get hneed t wr e (by simpa using h))
  · intro t wr hin e he
    have := hs.2 (t, wr) hin e he
    simp only [Bool.or_eq_true] at this
    rcases this with h | h
    · cases wr with
      | none => simp at h
      | some i =>
        simp only [Bool.or_eq_true, beq_iff_eq] at h
        exact .inl ⟨i, rfl, h.imp id (by simp)⟩
    · exact .inr (evNeed_get hneed t wr e (by simpa using h))
  · intro j o ho hef k hk
    cases hpo : pureOp o.op with
    | true => exact (h4 j o (Nat.zero_le _) ho hef).2 hpo _
    | false =>
      have hmem : (j, o, plAt pls j) ∈ plOps pls 0 ops.toList := by
        have := plOps_get (pls := pls) ops.toList 0 j o (by rw [Array.getElem?_toList]; exact ho)
        rw [Nat.zero_add] at this
        exact List.mem_of_getElem? this
      have := evChks_get (evChk_get hchk j o _ hmem hef hpo) k hk
      obtain ⟨x, H', scr, hstep, hx, hsame, _⟩ := evStep_sound this
      obtain ⟨rfl, rfl⟩ := hsame rfl
      rw [hx] at hstep; exact hstep
  · intro k e o hk ho
    exact h5 e k o (Nat.zero_le _) ho hk
  · rw [h2 0 (Nat.le_refl _)]; simp [lkS]

end Go.Dk

/-
  Dk, part X: equations for regions that draw, and the two doors for calls.
-/
namespace Go.Dk
set_option autoImplicit false
set_option linter.unusedSectionVars false
set_option linter.unusedVariables false
set_option linter.unusedSimpArgs false

theorem ev_draw {F : Fun} {i : Nat} {ops : Array Oper} {Q : Ex → Sg → Prop} {env : List (Nat × AV)} {H : Mem} (pls : List Pl) (es : List Nat) (fin : List (Nat × Option Nat)) (need : List (Nat × Option Nat × Nat)) (hm : F.P.follows .mixedOrders = true)
    (hp : planB F.n ops pls es fin = true) (hso : sortB es = true) (hs : staleB ops pls es fin need = true) (h : evDraw F ops pls es fin need (fun σ => Q .normal ⟨pruneE F.cross σ.env, σ.H⟩) ⟨env, H⟩) : ev F (.region i ops true) Q ⟨env, H⟩ :=
  evDraw_sound hm hp hso hs h

theorem awCall_intro {P : Program} {keep ent : List Nat} {n : Nat} {f : FuncId} {caps xs : List AV} {dst : Option Tmp} {K : Sg → Prop} {env : List (Nat × AV)} {H H' : Mem} {x : AV} {scr : List Nat}
    (hc : CallGives P keep ent H (.fn f) (xs ++ caps) x H' scr) (h : awPut n dst x (scrubEs scr env) H' K) : awCallAt P keep ent n (.fn (.func f) caps) xs dst K env H := ⟨x, H', scr, hc, h⟩
theorem evCall_intro {P : Program} {keep ent : List Nat} {f : FuncId} {caps xs : List AV} {H H' : Mem} {x : AV} {scr : List Nat} {k : AV → Mem → List Nat → Prop}
    (hc : CallGives P keep ent H (.fn f) (xs ++ caps) x H' scr) (h : k x H' scr) : evCallD P keep ent H xs k (.fn (.func f) caps) := ⟨x, H', scr, hc, h⟩
theorem awYield_intro {P : Program} {keep ent : List Nat} {n : Nat} {l : Nat} {xs : List AV} {dst : Option Tmp} {K : Sg → Prop} {env : List (Nat × AV)} {H H' : Mem} {x : AV} {scr : List Nat}
    (hc : CallGives P keep ent H (.yl l) (xs ++ []) x H' scr) (h : awPut n dst x (scrubEs scr env) H' K) : awCallAt P keep ent n (.v (.func (.yield l) ⟨[]⟩ ⟨[]⟩)) xs dst K env H := ⟨x, H', scr, hc, h⟩

def evGdO (b : Bool) (A B : Prop) (env : List (Nat × AV)) : Option Nat → Prop
  | some d => evGd b A B (look env d)
  | none => False
theorem evGdO_some {b : Bool} {A B : Prop} {env : List (Nat × AV)} {d : Nat} : evGdO b A B env (some d) = evGd b A B (look env d) := rfl
theorem evGdO_congr {b : Bool} {A B : Prop} {env : List (Nat × AV)} {d d' : Option Nat} (h : d = d') : evGdO b A B env d = evGdO b A B env d' := by rw [h]
attribute [congr] evGdO_congr

section
variable {F : Fun} {ops : Array Oper} {o : Oper} {env env' env0 : List (Nat × AV)} {H H' : Mem} {eff : Bool} {k : AV → Mem → List Nat → Prop} {X : List (Nat × AV)} {st st' : List (Nat × Mem)} {sc sc' : List (Nat × List Nat)}

theorem evStep_congr (h : env = env') (h' : H = H') : evStep F ops o env H eff k = evStep F ops o env' H' eff k := by rw [h, h']
theorem evRun_congr (h : env = env') (h' : H = H') : evRun F o env H eff k = evRun F o env' H' eff k := by rw [h, h']
theorem evRes_congr {r r' : Option Out} (h : r = r') : evRes eff H k r = evRes eff H k r' := by rw [h]
theorem evCallD_congr {P : Program} {keep ent : List Nat} {xs xs' : List AV} {fo fo' : AV} (h : xs = xs') (h' : fo = fo') : evCallD P keep ent H xs k fo = evCallD P keep ent H xs' k fo' := by rw [h, h']
theorem evGd_congr {b : Bool} {A B : Prop} {x x' : AV} (h : x = x') : evGd b A B x = evGd b A B x' := by rw [h]
theorem evD_congr {fin : List (Nat × AV) → Nat → List (Nat × Mem) → List (Nat × List Nat) → Prop} {l : List (Nat × Oper × Pl)} {X' : List (Nat × AV)} {r r' : Nat} (h1 : X = X') (h2 : r = r') (h3 : st = st') (h4 : sc = sc') :
    evD F ops env0 fin l X r st sc = evD F ops env0 fin l X' r' st' sc' := by rw [h1, h2, h3, h4]
attribute [congr] evStep_congr evRun_congr evRes_congr evCallD_congr evGd_congr evD_congr

theorem evD_nil {fin : List (Nat × AV) → Nat → List (Nat × Mem) → List (Nat × List Nat) → Prop} {r : Nat} : evD F ops env0 fin [] X r st sc = fin X r st sc := rfl
theorem evD_eff {fin : List (Nat × AV) → Nat → List (Nat × Mem) → List (Nat × List Nat) → Prop} {j r : Nat} {rest : List (Nat × Oper × Pl)} {args : List (Nat × Option Nat)} {anc at_ : List Nat} :
    evD F ops env0 fin ((j, o, ⟨args, anc, true, at_⟩) :: rest) X r st sc = evStep F ops o (envD env0 (look X) args) (lkS st r) true fun x H' scr => evD F ops env0 fin rest ((j, x) :: X) (r + 1) ((r + 1, H') :: st) ((j, scr) :: sc) := rfl
theorem evD_flo {fin : List (Nat × AV) → Nat → List (Nat × Mem) → List (Nat × List Nat) → Prop} {j r : Nat} {rest : List (Nat × Oper × Pl)} {args : List (Nat × Option Nat)} {anc at_ : List Nat} :
    evD F ops env0 fin ((j, o, ⟨args, anc, false, at_⟩) :: rest) X r st sc = evStep F ops o (envD env0 (look X) args) (lkS st r) false fun x H' scr => evD F ops env0 fin rest ((j, x) :: X) r st sc := rfl
theorem plOps_nil {pls : List Pl} {j : Nat} : plOps pls j [] = [] := rfl
theorem plOps_cons {pls : List Pl} {r : List Oper} {j : Nat} : plOps pls j (o :: r) = (j, o, plAt pls j) :: plOps pls (j + 1) r := rfl
theorem evRes_t {x : AV} {s : Option Nat} : evRes true H k (some ⟨x, H', s⟩) = k x H' s.toList := by simp [evRes]
theorem evRes_f {x : AV} : evRes false H k (some ⟨x, H, none⟩) = k x H [] := by simp [evRes]
theorem evGd_bool {b c : Bool} {A B : Prop} : evGd b A B (.v (.bool c)) = awIf (c == b) A B := rfl
section
variable {dst : Option Tmp} {ty : TypeId} {pos : String} {af : Array Edge} {g : Option (Nat × Bool)} {op : Op}
theorem evStep_un : evStep F ops ⟨dst, op, ty, pos, af, none⟩ env H eff k = evRun F ⟨dst, op, ty, pos, af, none⟩ env H eff k := rfl
theorem evStep_gu {j : Nat} {b : Bool} : evStep F ops ⟨dst, op, ty, pos, af, some (j, b)⟩ env H eff k = evGdO b (evRun F ⟨dst, op, ty, pos, af, some (j, b)⟩ env H eff k) (k .any H []) env (dstOf ops j) := by
  simp only [evStep, evGdO]
  cases dstOf ops j <;> rfl
theorem evRun_call {fo : Operand} {l : List Operand} {tys : Array TypeId} : evRun F ⟨dst, .call ⟨.value fo, l.toArray, tys⟩, ty, pos, af, g⟩ env H true k = evCallD F.P F.keep F.ent H (l.map (getA env)) k (getA env fo) := by simp [evRun]
theorem evR_move {x : Operand} : evRun F ⟨dst, .move x, ty, pos, af, g⟩ env H eff k = evRes eff H k (evalOp F.P F.keep env H ⟨dst, .move x, ty, pos, af, g⟩) := rfl
theorem evR_assign {x : Operand} : evRun F ⟨dst, .assign x, ty, pos, af, g⟩ env H eff k = evRes eff H k (evalOp F.P F.keep env H ⟨dst, .assign x, ty, pos, af, g⟩) := rfl
theorem evR_pick {c a b : Operand} : evRun F ⟨dst, .pick c a b, ty, pos, af, g⟩ env H eff k = evRes eff H k (evalOp F.P F.keep env H ⟨dst, .pick c a b, ty, pos, af, g⟩) := rfl
theorem evR_alloc {e : TypeId} : evRun F ⟨dst, .alloc e, ty, pos, af, g⟩ env H eff k = evRes eff H k (evalOp F.P F.keep env H ⟨dst, .alloc e, ty, pos, af, g⟩) := rfl
theorem evR_box {e : TypeId} {x : Operand} : evRun F ⟨dst, .box e x, ty, pos, af, g⟩ env H eff k = evRes eff H k (evalOp F.P F.keep env H ⟨dst, .box e x, ty, pos, af, g⟩) := rfl
theorem evR_build {t : TypeId} {l : Array (Nat × Operand)} : evRun F ⟨dst, .build t l, ty, pos, af, g⟩ env H eff k = evRes eff H k (evalOp F.P F.keep env H ⟨dst, .build t l, ty, pos, af, g⟩) := rfl
theorem evR_buildSlice {t len : Nat} {l : Array (Nat × Operand)} : evRun F ⟨dst, .buildSlice t len l, ty, pos, af, g⟩ env H eff k = evRes eff H k (evalOp F.P F.keep env H ⟨dst, .buildSlice t len l, ty, pos, af, g⟩) := rfl
theorem evR_load {t : TypeId} {a : Operand} : evRun F ⟨dst, .load t a, ty, pos, af, g⟩ env H eff k = evRes eff H k (evalOp F.P F.keep env H ⟨dst, .load t a, ty, pos, af, g⟩) := rfl
theorem evR_store {t : TypeId} {a x : Operand} : evRun F ⟨dst, .store t a x, ty, pos, af, g⟩ env H eff k = evRes eff H k (evalOp F.P F.keep env H ⟨dst, .store t a x, ty, pos, af, g⟩) := rfl
theorem evR_nilCheck {x : Operand} : evRun F ⟨dst, .nilCheck x, ty, pos, af, g⟩ env H eff k = evRes eff H k (evalOp F.P F.keep env H ⟨dst, .nilCheck x, ty, pos, af, g⟩) := rfl
theorem evR_binOp {op : BinOp} {t t2 : TypeId} {x y : Operand} : evRun F ⟨dst, .binOp op t x y t2, ty, pos, af, g⟩ env H eff k = evRes eff H k (evalOp F.P F.keep env H ⟨dst, .binOp op t x y t2, ty, pos, af, g⟩) := rfl
theorem evR_unOp {op : UnOp} {t : TypeId} {x : Operand} : evRun F ⟨dst, .unOp op t x, ty, pos, af, g⟩ env H eff k = evRes eff H k (evalOp F.P F.keep env H ⟨dst, .unOp op t x, ty, pos, af, g⟩) := rfl
theorem evR_convert {s d : TypeId} {x : Operand} : evRun F ⟨dst, .convert s d x, ty, pos, af, g⟩ env H eff k = evRes eff H k (evalOp F.P F.keep env H ⟨dst, .convert s d x, ty, pos, af, g⟩) := rfl
theorem evR_makeFunc {f : Fn} {a b : Array Operand} : evRun F ⟨dst, .makeFunc f a b, ty, pos, af, g⟩ env H eff k = evRes eff H k (evalOp F.P F.keep env H ⟨dst, .makeFunc f a b, ty, pos, af, g⟩) := rfl
theorem evR_makeSlice {t : TypeId} {l c : Operand} : evRun F ⟨dst, .makeSlice t l c, ty, pos, af, g⟩ env H eff k = evRes eff H k (evalOp F.P F.keep env H ⟨dst, .makeSlice t l c, ty, pos, af, g⟩) := rfl
theorem evR_slice {t : TypeId} {x : Operand} {lo hi mx : Option Operand} : evRun F ⟨dst, .slice t x lo hi mx, ty, pos, af, g⟩ env H eff k = evRes eff H k (evalOp F.P F.keep env H ⟨dst, .slice t x lo hi mx, ty, pos, af, g⟩) := rfl
theorem evR_fieldAddr {s : TypeId} {x : Operand} {f : Nat} : evRun F ⟨dst, .fieldAddr s x f, ty, pos, af, g⟩ env H eff k = evRes eff H k (evalOp F.P F.keep env H ⟨dst, .fieldAddr s x f, ty, pos, af, g⟩) := rfl
theorem evR_field {s : TypeId} {x : Operand} {f : Nat} : evRun F ⟨dst, .field s x f, ty, pos, af, g⟩ env H eff k = evRes eff H k (evalOp F.P F.keep env H ⟨dst, .field s x f, ty, pos, af, g⟩) := rfl
theorem evR_indexAddr {t : TypeId} {x i : Operand} : evRun F ⟨dst, .indexAddr t x i, ty, pos, af, g⟩ env H eff k = evRes eff H k (evalOp F.P F.keep env H ⟨dst, .indexAddr t x i, ty, pos, af, g⟩) := rfl
theorem evR_index {t : TypeId} {x i : Operand} : evRun F ⟨dst, .index t x i, ty, pos, af, g⟩ env H eff k = evRes eff H k (evalOp F.P F.keep env H ⟨dst, .index t x i, ty, pos, af, g⟩) := rfl
theorem evR_extract {t : Operand} {i : Nat} : evRun F ⟨dst, .extract t i, ty, pos, af, g⟩ env H eff k = evRes eff H k (evalOp F.P F.keep env H ⟨dst, .extract t i, ty, pos, af, g⟩) := rfl
theorem evR_makeMap {t : TypeId} {r : Option Operand} : evRun F ⟨dst, .makeMap t r, ty, pos, af, g⟩ env H eff k = evRes eff H k (evalOp F.P F.keep env H ⟨dst, .makeMap t r, ty, pos, af, g⟩) := rfl
theorem evR_lookup {t : TypeId} {m i : Operand} {ok : Bool} : evRun F ⟨dst, .lookup t m i ok, ty, pos, af, g⟩ env H eff k = evRes eff H k (evalOp F.P F.keep env H ⟨dst, .lookup t m i ok, ty, pos, af, g⟩) := rfl
theorem evR_mapUpdate {t : TypeId} {m i x : Operand} : evRun F ⟨dst, .mapUpdate t m i x, ty, pos, af, g⟩ env H eff k = evRes eff H k (evalOp F.P F.keep env H ⟨dst, .mapUpdate t m i x, ty, pos, af, g⟩) := rfl
theorem evR_insert {t : TypeId} {m i x : Operand} : evRun F ⟨dst, .insert t m i x, ty, pos, af, g⟩ env H eff k = evRes eff H k (evalOp F.P F.keep env H ⟨dst, .insert t m i x, ty, pos, af, g⟩) := rfl
theorem evR_bcall {b : Builtin} {l : Array Operand} {ts : Array TypeId} : evRun F ⟨dst, .call ⟨.builtin b, l, ts⟩, ty, pos, af, g⟩ env H eff k = evRes eff H k (evalOp F.P F.keep env H ⟨dst, .call ⟨.builtin b, l, ts⟩, ty, pos, af, g⟩) := rfl
end
end

theorem evChk_nil {F : Fun} {ops : Array Oper} {env : List (Nat × AV)} {X : List (Nat × AV)} {st : List (Nat × Mem)} : evChk F ops env X st [] = True := rfl
def evChkIf (b : Bool) (A : Prop) : Prop := if b then True else A
theorem evChkIf_t {A : Prop} : evChkIf true A = True := rfl
theorem evChkIf_f {A : Prop} : evChkIf false A = A := rfl
theorem evChkIf_congr {b b' : Bool} {A : Prop} (h : b = b') : evChkIf b A = evChkIf b' A := by rw [h]
attribute [congr] evChkIf_congr
theorem evChk_cons {F : Fun} {ops : Array Oper} {env : List (Nat × AV)} {X : List (Nat × AV)} {st : List (Nat × Mem)} {j : Nat} {o : Oper} {p : Pl} {r : List (Nat × Oper × Pl)} : evChk F ops env X st ((j, o, p) :: r) =
    (evChkIf (p.eff || pureOp o.op) (evChks F ops env X st j o p p.at_) ∧ evChk F ops env X st r) := rfl

end Go.Dk

/-
  Dk, part Y: states that say less.
-/
namespace Go.Dk
set_option autoImplicit false
set_option linter.unusedSectionVars false
set_option linter.unusedVariables false
set_option linter.unusedSimpArgs false

def envSub : List (Nat × AV) → List (Nat × AV) → Prop
  | [], _ => True
  | (t, x) :: r, env => look env t = x ∧ envSub r env

theorem envSub_look {env : List (Nat × AV)} : ∀ {env' : List (Nat × AV)}, envSub env' env → ∀ t, look env' t = .any ∨ look env' t = look env t := by
  intro env'
  induction env' with
  | nil => intro _ t; exact .inl rfl
  | cons p r ih =>
    intro h t
    obtain ⟨i, x⟩ := p
    obtain ⟨h1, h2⟩ := h
    simp only [look]
    by_cases hi : i = t
    · subst hi; right; simp [h1]
    · have hb : (i == t) = false := by simpa using hi
      rw [hb]; simpa using ih h2 t

theorem weak_sub {F : Fun} {env env' : List (Nat × AV)} {H H' : Mem} (h1 : envSub env' env) (h2 : subMem H' H) : Weak F ⟨env, H⟩ ⟨env', H'⟩ := by
  intro C a w hS
  obtain ⟨E, hw, hR, hD, hd⟩ := hS.mem
  refine ⟨hS.keep, hS.ent, hS.size, E, hw, hR.drop (subMem_find h2), hD, fun t => ?_⟩
  rcases envSub_look h1 t with h | h
  · simp only [h]; simp [Den]
  · simp only [h]; exact hd t

def envHas (i : Nat) : List (Nat × AV) → Bool
  | [] => false
  | (_, x) :: r => x.has i || envHas i r
def memHas (i : Nat) : Mem → Bool
  | [] => false
  | (j, b) :: r => (j == i) || hasB i b || memHas i r

theorem envHas_look {i : Nat} : ∀ {env : List (Nat × AV)}, envHas i env = false → ∀ t, (look env t).has i = false := by
  intro env
  induction env with
  | nil => intro _ t; rfl
  | cons p r ih =>
    intro h t
    obtain ⟨j, x⟩ := p
    simp only [envHas, Bool.or_eq_false_iff] at h
    simp only [look]
    split
    · exact h.1
    · exact ih h.2 t

theorem memHas_find {i : Nat} : ∀ {H : Mem}, memHas i H = false → find H i = none ∧ ∀ j b, find H j = some b → hasB i b = false := by
  intro H
  induction H with
  | nil => intro _; exact ⟨rfl, fun j b h => by simp [find] at h⟩
  | cons p r ih =>
    intro h
    obtain ⟨j, b⟩ := p
    simp only [memHas, Bool.or_eq_false_iff] at h
    obtain ⟨⟨h1, h2⟩, h3⟩ := h
    obtain ⟨h4, h5⟩ := ih h3
    refine ⟨by simp [find, h1, h4], fun k b' hk => ?_⟩
    simp only [find] at hk
    split at hk
    · obtain rfl := Option.some.inj hk; exact h2
    · exact h5 k b' hk

theorem hasL_false {i : Nat} : ∀ {cs : List AV}, hasL i cs = false → ∀ x ∈ cs, x.has i = false := by
  intro cs
  induction cs with
  | nil => intro _ x hx; cases hx
  | cons c r ih =>
    intro h x hx
    simp only [hasL, Bool.or_eq_false_iff] at h
    rcases List.mem_cons.1 hx with rfl | hx
    · exact h.1
    · exact ih h.2 x hx

theorem scrubB_of {i : Nat} {b : Blk} (h : hasB i b = false) : scrubB i b = b := by
  cases b with
  | cells cs => simp only [scrubB]; rw [scrubL_of i cs (hasL_false h)]
  | map es =>
    simp only [hasB, List.any_eq_false] at h
    simp only [scrubB]
    congr 1
    conv => rhs; rw [← List.map_id es]
    exact List.map_congr_left fun e he => by have := h e he; simp at this; simp [scrub1, this]
  | oth k xs => simp only [scrubB]; rw [scrubL_of i xs (hasL_false h)]

/-- a nil slice is an empty object's -/
theorem weak_nil {F : Fun} {env : List (Nat × AV)} {H : Mem} (t id k : Nat) (ht : look env t = .v (.slice none 0 0)) (hk : F.keep.contains id = false) (h1 : envHas id env = false) (h2 : memHas id H = false) :
    Weak F ⟨env, H⟩ ⟨putE env t (.slc id k 0 0), (id, .cells []) :: H⟩ := by
  intro C a w hS
  obtain ⟨E, hw, hR, hD, hd⟩ := hS.mem
  have hm : Moves C E H E.heap id ⟨0, 0, 0⟩ := ⟨Nat.le_refl _, fun _ _ _ => rfl, .inr (.inr ⟨rfl, rfl⟩)⟩
  have hle := hm.le hR
  obtain ⟨h3, h4⟩ := memHas_find h2
  have hb : BlkOk (E.upd E.heap id ⟨0, 0, 0⟩) id (.cells []) := Or.inl ⟨by simp, rfl⟩
  refine ⟨hS.keep, hS.ent, hS.size, E.upd E.heap id ⟨0, 0, 0⟩, hw, hR.moves hm ?_ hb _ ?_, hD.le hle, fun t' => ?_⟩
  · rw [← hS.keep]; simpa using hk
  · intro i
    simp only [find]
    by_cases hi : i = id
    · subst hi; simp
    · have hbb : (id == i) = false := by simp; exact fun e => hi e.symm
      rw [hbb, if_neg hi]
      simp only [Bool.false_eq_true, if_false]
      cases hf : find H i with
      | none => rfl
      | some b => simp [scrubB_of (h4 i b hf)]
  · simp only
    rw [look_putE]
    by_cases h : t' = t
    · subst h
      rw [if_pos rfl]
      have := hd t'
      simp only [ht, Den] at this
      simp only [Den]; left; exact ⟨trivial, none, this⟩
    · rw [if_neg h]
      exact Den.mono hle _ _ (fun i hi e => by subst e; rw [envHas_look h1 t'] at hi; cases hi) (hd t')

end Go.Dk

/-
  Dk, part Z: the same equations, so that what comes later stays closed until its state is there.
-/
namespace Go.Dk
set_option autoImplicit false
set_option linter.unusedSectionVars false
set_option linter.unusedVariables false
set_option linter.unusedSimpArgs false

def evK (Q : Ex → Sg → Prop) (cross : List Nat) : Sg → Prop := fun σ => Q .normal ⟨pruneE cross σ.env, σ.H⟩
def evE (F : Fun) (a : Code) (Q : Ex → Sg → Prop) (env : List (Nat × AV)) (H : Mem) : Prop := ev F a Q ⟨env, H⟩
def awIf2 (t : Bool) (A B : List (Nat × AV) → Mem → Prop) (env : List (Nat × AV)) (H : Mem) : Prop := awIf t (A env H) (B env H)
def evCond2 (A B : List (Nat × AV) → Mem → Prop) (env : List (Nat × AV)) (H : Mem) (x : AV) : Prop := evCond (A env H) (B env H) x
def putK (n : Nat) (dst : Option Tmp) (K : Sg → Prop) (env : List (Nat × AV)) (H : Mem) : Prop := awPut n dst .any env H K
def evG2 (b : Bool) (A B : List (Nat × AV) → Mem → Prop) (env : List (Nat × AV)) (H : Mem) : AV → Prop
  | .v (.bool c) => awIf2 (c == b) A B env H
  | _ => False
def evGu2 (b : Bool) (A B : List (Nat × AV) → Mem → Prop) (env : List (Nat × AV)) (H : Mem) : Option Nat → Prop
  | some d => evG2 b A B env H (look env d)
  | none => False
def evRunK (F : Fun) (o : Oper) (eff : Bool) (k : AV → Mem → List Nat → Prop) (env : List (Nat × AV)) (H : Mem) : Prop := evRun F o env H eff k
def skipK (k : AV → Mem → List Nat → Prop) (env : List (Nat × AV)) (H : Mem) : Prop := k .any H []
def evDn (g : List (Nat × AV) → Nat → List (Nat × Mem) → List (Nat × List Nat) → Prop) (eff : Bool) (j : Nat) (X : List (Nat × AV)) (r : Nat) (st : List (Nat × Mem)) (sc : List (Nat × List Nat)) (x : AV) (H' : Mem) (scr : List Nat) : Prop :=
  match eff with
  | true => g ((j, x) :: X) (r + 1) ((r + 1, H') :: st) ((j, scr) :: sc)
  | false => g ((j, x) :: X) r st sc
def evFin (F : Fun) (ops : Array Oper) (env : List (Nat × AV)) (pls : List Pl) (es : List Nat) (fin : List (Nat × Option Nat)) (need : List (Nat × Option Nat × Nat)) (K : Sg → Prop) (X : List (Nat × AV)) (r : Nat) (st : List (Nat × Mem)) (sc : List (Nat × List Nat)) : Prop :=
  r = es.length ∧ evChk F ops env X st (plOps pls 0 ops.toList) ∧ evNeed env X sc need ∧ K ⟨envD env (look X) fin, lkS st r⟩

section
variable {F : Fun} {Q : Ex → Sg → Prop} {env : List (Nat × AV)} {H : Mem} {A B : List (Nat × AV) → Mem → Prop}

theorem evK_app {cross : List Nat} : evK Q cross ⟨env, H⟩ = Q .normal ⟨pruneE cross env, H⟩ := rfl
theorem evE_app {a : Code} : evE F a Q env H = ev F a Q ⟨env, H⟩ := rfl
theorem z_region {i : Nat} {l : List Oper} : ev F (.region i l.toArray false) Q ⟨env, H⟩ = evOps F.P F.keep F.ent F.n l.toArray (evK Q F.cross) l ⟨env, H⟩ := by simp only [ev]; rfl
theorem z_cond {c : Operand} {a b : Code} : ev F (.cond c a b) Q ⟨env, H⟩ = evCond2 (evE F a Q) (evE F b Q) env H (getA env c) := rfl
theorem evCond2_bool {t : Bool} : evCond2 A B env H (.v (.bool t)) = awIf2 t A B env H := rfl
theorem awIf2_t : awIf2 true A B env H = A env H := by simp [awIf2, awIf]
theorem awIf2_f : awIf2 false A B env H = B env H := by simp [awIf2, awIf]
theorem awIf2_split {t : Bool} (h1 : t = true → A env H) (h2 : t = false → B env H) : awIf2 t A B env H := ⟨h1, h2⟩
theorem awIf2_dec {p : Prop} [Decidable p] (h1 : p → A env H) (h2 : ¬ p → B env H) : awIf2 (decide p) A B env H := awIf_dec h1 h2
theorem awIf2_ndec {p : Prop} [Decidable p] (h1 : ¬ p → A env H) (h2 : p → B env H) : awIf2 (!decide p) A B env H := awIf_ndec h1 h2
theorem z_gu {P : Program} {keep ent : List Nat} {n : Nat} {ops : Array Oper} {K : Sg → Prop} {rest : List Oper} {dst : Option Tmp} {op : Op} {ty : TypeId} {pos : String} {af : Array Edge} {j : Nat} {b : Bool} :
    evOps P keep ent n ops K (⟨dst, op, ty, pos, af, some (j, b)⟩ :: rest) ⟨env, H⟩ = evGu2 b (evOp P keep ent n ⟨dst, op, ty, pos, af, some (j, b)⟩ (evOps P keep ent n ops K rest)) (putK n dst (evOps P keep ent n ops K rest)) env H (dstOf ops j) := by
  show evGuard _ _ _ _ _ _ _ _ _ _ = _
  unfold evGuard evGu2
  show (match dstOf ops j with | some d => _ | none => _) = _
  cases dstOf ops j with
  | none => rfl
  | some d =>
    simp only
    unfold evG evG2
    cases look env d with
    | v x => cases x <;> rfl
    | _ => rfl
theorem evGu2_some {b : Bool} {d : Nat} : evGu2 b A B env H (some d) = evG2 b A B env H (look env d) := rfl
theorem evG2_bool {b c : Bool} : evG2 b A B env H (.v (.bool c)) = awIf2 (c == b) A B env H := rfl
theorem putK_app {n : Nat} {dst : Option Tmp} {K : Sg → Prop} : putK n dst K env H = awPut n dst .any env H K := rfl
section
variable {ops : Array Oper} {dst : Option Tmp} {op : Op} {ty : TypeId} {pos : String} {af : Array Edge} {eff : Bool} {k : AV → Mem → List Nat → Prop}
theorem z_stepgu {j : Nat} {b : Bool} : evStep F ops ⟨dst, op, ty, pos, af, some (j, b)⟩ env H eff k = evGu2 b (evRunK F ⟨dst, op, ty, pos, af, some (j, b)⟩ eff k) (skipK k) env H (dstOf ops j) := by
  simp only [evStep, evGu2]
  cases dstOf ops j with
  | none => rfl
  | some d =>
    simp only
    unfold evGd evG2
    cases look env d with
    | v x => cases x <;> rfl
    | _ => rfl
theorem evRunK_app {o : Oper} : evRunK F o eff k env H = evRun F o env H eff k := rfl
theorem skipK_app : skipK k env H = k .any H [] := rfl
theorem z_flo {env0 : List (Nat × AV)} {o : Oper} {X : List (Nat × AV)} {st : List (Nat × Mem)} {sc : List (Nat × List Nat)} {fin : List (Nat × AV) → Nat → List (Nat × Mem) → List (Nat × List Nat) → Prop} {j r : Nat} {rest : List (Nat × Oper × Pl)} {args : List (Nat × Option Nat)} {anc at_ : List Nat} :
    evD F ops env0 fin ((j, o, ⟨args, anc, false, at_⟩) :: rest) X r st sc = evStep F ops o (envD env0 (look X) args) (lkS st r) false (evDn (evD F ops env0 fin rest) false j X r st sc) := rfl
theorem z_eff {env0 : List (Nat × AV)} {o : Oper} {X : List (Nat × AV)} {st : List (Nat × Mem)} {sc : List (Nat × List Nat)} {fin : List (Nat × AV) → Nat → List (Nat × Mem) → List (Nat × List Nat) → Prop} {j r : Nat} {rest : List (Nat × Oper × Pl)} {args : List (Nat × Option Nat)} {anc at_ : List Nat} :
    evD F ops env0 fin ((j, o, ⟨args, anc, true, at_⟩) :: rest) X r st sc = evStep F ops o (envD env0 (look X) args) (lkS st r) true (evDn (evD F ops env0 fin rest) true j X r st sc) := rfl
theorem evDn_t {g : List (Nat × AV) → Nat → List (Nat × Mem) → List (Nat × List Nat) → Prop} {j r : Nat} {X : List (Nat × AV)} {st : List (Nat × Mem)} {sc : List (Nat × List Nat)} {x : AV} {H' : Mem} {scr : List Nat} : evDn g true j X r st sc x H' scr = g ((j, x) :: X) (r + 1) ((r + 1, H') :: st) ((j, scr) :: sc) := rfl
theorem evDn_f {g : List (Nat × AV) → Nat → List (Nat × Mem) → List (Nat × List Nat) → Prop} {j r : Nat} {X : List (Nat × AV)} {st : List (Nat × Mem)} {sc : List (Nat × List Nat)} {x : AV} {H' : Mem} {scr : List Nat} : evDn g false j X r st sc x H' scr = g ((j, x) :: X) r st sc := rfl
theorem evFin_app {pls : List Pl} {es : List Nat} {fin : List (Nat × Option Nat)} {need : List (Nat × Option Nat × Nat)} {K : Sg → Prop} {X : List (Nat × AV)} {r : Nat} {st : List (Nat × Mem)} {sc : List (Nat × List Nat)} :
    evFin F ops env pls es fin need K X r st sc = (r = es.length ∧ evChk F ops env X st (plOps pls 0 ops.toList) ∧ evNeed env X sc need ∧ K ⟨envD env (look X) fin, lkS st r⟩) := rfl
end

/-- a region that draws, with its plan -/
theorem z_draw {i : Nat} {l : List Oper} (pls : List Pl) (es : List Nat) (fin : List (Nat × Option Nat)) (need : List (Nat × Option Nat × Nat)) (hm : F.P.follows .mixedOrders = true)
    (hp : planB F.n l.toArray pls es fin = true) (hso : sortB es = true) (hs : staleB l.toArray pls es fin need = true) (h : evD F l.toArray env (evFin F l.toArray env pls es fin need (evK Q F.cross)) (plOps pls 0 l) [] 0 [(0, H)] []) : ev F (.region i l.toArray true) Q ⟨env, H⟩ :=
  evDraw_sound hm hp hso hs (by
    have e : l.toArray.toList = l := by simp
    unfold evFin at h
    unfold evDraw
    simp only [e] at h ⊢
    exact h)
end

end Go.Dk

/-! Lookups for the evaluation: without `ite`. -/
namespace Go.Dk
open Go
def lookIf (b : Bool) (x : AV) (r : List (Nat × AV)) (t : Nat) : AV := if b = true then x else look r t
theorem look_n {t : Nat} : look [] t = .any := rfl
theorem look_c {i : Nat} {x : AV} {r : List (Nat × AV)} {t : Nat} : look ((i, x) :: r) t = lookIf (i == t) x r t := rfl
theorem lookIf_t {x : AV} {r : List (Nat × AV)} {t : Nat} : lookIf true x r t = x := rfl
theorem lookIf_f {x : AV} {r : List (Nat × AV)} {t : Nat} : lookIf false x r t = look r t := rfl
def findIf (b : Bool) (x : Blk) (r : Mem) (t : Nat) : Option Blk := if b = true then some x else find r t
theorem find_n {t : Nat} : find [] t = none := rfl
theorem find_c {i : Nat} {x : Blk} {r : Mem} {t : Nat} : find ((i, x) :: r) t = findIf (i == t) x r t := rfl
theorem findIf_t {x : Blk} {r : Mem} {t : Nat} : findIf true x r t = some x := rfl
theorem findIf_f {x : Blk} {r : Mem} {t : Nat} : findIf false x r t = find r t := rfl
def eraseIf (b : Bool) (i : Nat) (x : Blk) (r : Mem) (t : Nat) : Mem := if b = true then erase r t else (i, x) :: erase r t
theorem erase_n {t : Nat} : erase [] t = [] := rfl
theorem erase_c {i : Nat} {x : Blk} {r : Mem} {t : Nat} : erase ((i, x) :: r) t = eraseIf (i == t) i x r t := rfl
theorem eraseIf_t {i : Nat} {x : Blk} {r : Mem} {t : Nat} : eraseIf true i x r t = erase r t := rfl
theorem eraseIf_f {i : Nat} {x : Blk} {r : Mem} {t : Nat} : eraseIf false i x r t = (i, x) :: erase r t := rfl
theorem put_e {H : Mem} {i : Nat} {b : Blk} : put H i b = (i, b) :: erase H i := rfl
def eraseEIf (b : Bool) (i : Nat) (x : AV) (r : List (Nat × AV)) (t : Nat) : List (Nat × AV) := if b = true then eraseE r t else (i, x) :: eraseE r t
theorem eraseE_n {t : Nat} : eraseE [] t = [] := rfl
theorem eraseE_c {i : Nat} {x : AV} {r : List (Nat × AV)} {t : Nat} : eraseE ((i, x) :: r) t = eraseEIf (i == t) i x r t := rfl
theorem eraseEIf_t {i : Nat} {x : AV} {r : List (Nat × AV)} {t : Nat} : eraseEIf true i x r t = eraseE r t := rfl
theorem eraseEIf_f {i : Nat} {x : AV} {r : List (Nat × AV)} {t : Nat} : eraseEIf false i x r t = (i, x) :: eraseE r t := rfl
theorem putE_e {H : List (Nat × AV)} {i : Nat} {b : AV} : putE H i b = (i, b) :: eraseE H i := rfl
def lkSIf (b : Bool) (x : Mem) (r : List (Nat × Mem)) (t : Nat) : Mem := if b = true then x else lkS r t
theorem lkS_n {t : Nat} : lkS [] t = [] := rfl
theorem lkS_c {i : Nat} {x : Mem} {r : List (Nat × Mem)} {t : Nat} : lkS ((i, x) :: r) t = lkSIf (i == t) x r t := rfl
theorem lkSIf_t {x : Mem} {r : List (Nat × Mem)} {t : Nat} : lkSIf true x r t = x := rfl
theorem lkSIf_f {x : Mem} {r : List (Nat × Mem)} {t : Nat} : lkSIf false x r t = lkS r t := rfl
def lkCIf (b : Bool) (x : List Nat) (r : List (Nat × List Nat)) (t : Nat) : List Nat := if b = true then x else lkC r t
theorem lkC_n {t : Nat} : lkC [] t = [] := rfl
theorem lkC_c {i : Nat} {x : List Nat} {r : List (Nat × List Nat)} {t : Nat} : lkC ((i, x) :: r) t = lkCIf (i == t) x r t := rfl
theorem lkCIf_t {x : List Nat} {r : List (Nat × List Nat)} {t : Nat} : lkCIf true x r t = x := rfl
theorem lkCIf_f {x : List Nat} {r : List (Nat × List Nat)} {t : Nat} : lkCIf false x r t = lkC r t := rfl
def pruneIf (b : Bool) (cross : List Nat) (t : Nat) (x : AV) (r : List (Nat × AV)) : List (Nat × AV) := if b = true then (t, x) :: pruneE cross r else pruneE cross r
theorem pruneE_n {cross : List Nat} : pruneE cross [] = [] := rfl
theorem pruneE_c {cross : List Nat} {t : Nat} {x : AV} {r : List (Nat × AV)} : pruneE cross ((t, x) :: r) = pruneIf (cross.contains t) cross t x r := rfl
theorem pruneIf_t {cross : List Nat} {t : Nat} {x : AV} {r : List (Nat × AV)} : pruneIf true cross t x r = (t, x) :: pruneE cross r := rfl
theorem pruneIf_f {cross : List Nat} {t : Nat} {x : AV} {r : List (Nat × AV)} : pruneIf false cross t x r = pruneE cross r := rfl
def scrub1If (b : Bool) (c : AV) : AV := if b = true then .any else c
theorem scrub1_e {id : Nat} {c : AV} : scrub1 id c = scrub1If (c.has id) c := rfl
theorem scrub1If_t {c : AV} : scrub1If true c = .any := rfl
theorem scrub1If_f {c : AV} : scrub1If false c = c := rfl
end Go.Dk

/-! Plain facts: a number's bytes, the highest first. -/
namespace Go.Dk
open Go
/-- a number's bytes, the highest first -/
def highB (n : Nat) : Nat → List UInt8
  | 0 => []
  | k + 1 => UInt8.ofNat (n / 2 ^ (8 * k)) :: highB n k
theorem highB_length (n k : Nat) : (highB n k).length = k := by
  induction k with
  | zero => rfl
  | succ k ih => simp [highB, ih]
theorem bits_u64 : IntKind.u64.bits = 64 := rfl
theorem bits_u32 : IntKind.u32.bits = 32 := rfl
theorem bits_u8 : IntKind.u8.bits = 8 := rfl
theorem bits_i64 : IntKind.i64.bits = 64 := rfl
theorem wrapB (m : Nat) : IntKind.u8.wrap (m : Int) = ((UInt8.ofNat m).toNat : Int) := by
  have e : IntKind.u8.wrap (m : Int) = (m : Int) % 256 := by simp [IntKind.wrap, IntKind.bits, IntKind.signed]
  rw [e]; simp
theorem fdivN (n k : Nat) : ((n : Int).fdiv (2 ^ k : Int)) = ((n / 2 ^ k : Nat) : Int) := by
  rw [Int.fdiv_eq_ediv_of_nonneg _ (Int.le_of_lt (Int.pow_pos (by decide)))]
  simp
/-- a number, written -/
def varB (n : Nat) : List UInt8 :=
  if n < 253 then [UInt8.ofNat n] else if n ≤ 65535 then 253 :: highB n 2 else if n ≤ 4294967295 then 254 :: highB n 4 else 255 :: highB n 8
theorem varB_length (n : Nat) : (varB n).length ≤ 9 := by unfold varB; split <;> (try split) <;> (try split) <;> simp [highB_length]
end Go.Dk

/-! Calls, for the evaluation: a contract with its own checks, and a call of it. -/
namespace Go.Dk
open Go
set_option linter.unusedVariables false

mutual
def inA (L : List Nat) : AV → Bool
  | .any => true
  | .v _ => true
  | .ptr id _ => L.contains id
  | .slc id _ _ _ => L.contains id
  | .imm _ _ _ => true
  | .iptr _ _ => true
  | .mp id => L.contains id
  | .fn _ cs => inL L cs
  | .agg cs => inL L cs
  | .tup cs => inL L cs
def inL (L : List Nat) : List AV → Bool
  | [] => true
  | c :: cs => inA L c && inL L cs
end
def inB (L : List Nat) : Blk → Bool
  | .cells cs => inL L cs
  | .map es => inL L (es.map (·.2))
  | .oth _ xs => inL L xs
def inM (L : List Nat) : Mem → Bool
  | [] => true
  | (_, b) :: r => inB L b && inM L r

mutual
theorem inA_has {L : List Nat} : ∀ (x : AV), inA L x = true → ∀ i, x.has i = true → i ∈ L
  | .any, _, i, h => by simp [AV.has] at h
  | .v _, _, i, h => by simp [AV.has] at h
  | .ptr id _, h, i, hi => by simp [AV.has, inA] at h hi; subst hi; exact h
  | .slc id _ _ _, h, i, hi => by simp [AV.has, inA] at h hi; subst hi; exact h
  | .imm _ _ _, _, i, h => by simp [AV.has] at h
  | .iptr _ _, _, i, h => by simp [AV.has] at h
  | .mp id, h, i, hi => by simp [AV.has, inA] at h hi; subst hi; exact h
  | .fn _ cs, h, i, hi => inL_has cs (by simpa [inA] using h) i (by simpa [AV.has] using hi)
  | .agg cs, h, i, hi => inL_has cs (by simpa [inA] using h) i (by simpa [AV.has] using hi)
  | .tup cs, h, i, hi => inL_has cs (by simpa [inA] using h) i (by simpa [AV.has] using hi)
theorem inL_has {L : List Nat} : ∀ (x : List AV), inL L x = true → ∀ i, hasL i x = true → i ∈ L
  | [], _, i, h => by simp [hasL] at h
  | c :: cs, h, i, hi => by
    simp only [inL, Bool.and_eq_true] at h
    simp only [hasL, Bool.or_eq_true] at hi
    rcases hi with hi | hi
    · exact inA_has c h.1 i hi
    · exact inL_has cs h.2 i hi
end
theorem inB_has {L : List Nat} {b : Blk} (h : inB L b = true) {i : Nat} (hi : hasB i b = true) : i ∈ L := by
  cases b with
  | cells cs => exact inL_has cs h i hi
  | oth k xs => exact inL_has xs h i hi
  | map es =>
    have : hasL i (es.map (·.2)) = true := by
      clear h
      simp only [hasB] at hi
      induction es with
      | nil => simp at hi
      | cons e es ih =>
        simp only [List.any_cons, Bool.or_eq_true] at hi
        simp only [List.map_cons, hasL, Bool.or_eq_true]
        rcases hi with hi | hi
        · exact .inl hi
        · exact .inr (ih hi)
    exact inL_has _ h i this
theorem inM_find {L : List Nat} : ∀ {H : Mem}, inM L H = true → ∀ id b, find H id = some b → ∀ i, hasB i b = true → i ∈ L := by
  intro H
  induction H with
  | nil => intro _ id b h; simp [find] at h
  | cons p r ih =>
    obtain ⟨j, c⟩ := p
    intro h id b hf i hi
    simp only [inM, Bool.and_eq_true] at h
    simp only [find] at hf
    split at hf
    · obtain rfl := Option.some.inj hf; exact inB_has h.1 hi
    · exact ih h.2 id b hf i hi

def Con.wf (c : Con) : Prop := inA (ids c.H ++ ids c.H') c.ret = true ∧ inM (ids c.H ++ ids c.H') c.H' = true ∧ (c.keep.all fun i => (ids c.H).contains i) = true
/-- a contract that can be called -/
structure Con.ok (c : Con) (P : Program) (f : FuncId) : Prop where
  holds : c.holds P f
  wf : c.wf

def mOf : List (Nat × Nat) → Nat → Nat
  | [], i => i
  | (a, b) :: r, i => bif a == i then b else mOf r i
def mOfIf (c : Bool) (b : Nat) (r : List (Nat × Nat)) (i : Nat) : Nat := bif c then b else mOf r i
theorem mOf_n {i : Nat} : mOf [] i = i := rfl
theorem mOf_c {a b i : Nat} {r : List (Nat × Nat)} : mOf ((a, b) :: r) i = mOfIf (a == i) b r i := rfl
theorem mOfIf_t {b i : Nat} {r : List (Nat × Nat)} : mOfIf true b r i = b := rfl
theorem mOfIf_f {b i : Nat} {r : List (Nat × Nat)} : mOfIf false b r i = mOf r i := rfl

def callB (I J K : List Nat) (mm : List (Nat × Nat)) (V keep ent : List Nat) : Bool :=
  (I.all fun i => !V.contains (mOf mm i)) &&
  ((I ++ J).all fun i => (I ++ J).all fun j => !(mOf mm i == mOf mm j) || i == j) &&
  ((I ++ J).all fun i => K.contains i || !keep.contains (mOf mm i)) &&
  ((I.all fun i => !ent.contains (mOf mm i) || (K.contains i && J.contains i)) || (J.all fun i => !I.contains i || K.contains i || ent.contains (mOf mm i)))

def memOk (H : Mem) (V : List Nat) (m : Nat → Nat) : Mem → Prop
  | [] => True
  | (i, b) :: r => (∃ b', find H (m i) = some b' ∧ viewB H V b' = renB m b) ∧ memOk H V m r
theorem memOk_find {H : Mem} {V : List Nat} {m : Nat → Nat} : ∀ {G : Mem}, memOk H V m G → ∀ id b, find G id = some b → ∃ b', find H (m id) = some b' ∧ viewB H V b' = renB m b := by
  intro G
  induction G with
  | nil => intro _ id b h; simp [find] at h
  | cons p r ih =>
    obtain ⟨j, c⟩ := p
    intro h id b hf
    simp only [find] at hf
    split at hf
    · rename_i hj
      obtain rfl := Option.some.inj hf
      obtain rfl : j = id := by simpa using hj
      exact h.1
    · exact ih h.2 id b hf

def strongM (H : Mem) : Bool := H.all fun e => strongB e.2
theorem strongM_find {H : Mem} (h : strongM H = true) : ∀ id b, find H id = some b → strongB b = true := by
  induction H with
  | nil => intro id b hf; simp [find] at hf
  | cons p r ih =>
    obtain ⟨j, c⟩ := p
    intro id b hf
    simp only [strongM, List.all_cons, Bool.and_eq_true] at h
    simp only [find] at hf
    split at hf
    · obtain rfl := Option.some.inj hf; exact h.1
    · exact ih h.2 id b hf

theorem callOk_of {c : Con} (hc : c.wf) {keep ent : List Nat} {H : Mem} {xs : List AV} {mm : List (Nat × Nat)} {V : List Nat}
    (hb : callB (ids c.H) (ids c.H') c.keep mm V keep ent = true) (ha : viewL H V xs = renL (mOf mm) c.args) (hm : memOk H V (mOf mm) c.H)
    (hs : V = [] ∨ (c.ret.strong = true ∧ strongM c.H' = true)) : CallOk c keep ent H xs (mOf mm) V := by
  obtain ⟨h1, h2, h3⟩ := hc
  simp only [callB, Bool.and_eq_true, List.all_eq_true, Bool.or_eq_true, Bool.not_eq_true', beq_iff_eq, List.contains_iff_mem, ← Bool.not_eq_true] at hb
  obtain ⟨⟨⟨b1, b2⟩, b3⟩, b4⟩ := hb
  refine ⟨ha, memOk_find hm, b1, ?_, ?_, ?_, ?_, inA_has _ h1, inM_find h2, ?_⟩
  · intro i j hi hj e
    rcases b2 i hi j hj with h | h
    · exact absurd e h
    · exact h
  · simpa [List.all_eq_true] using h3
  · intro i hi hk
    rcases b3 i hi with h | h
    · exact absurd h hk
    · exact h
  · rcases b4 with h | h
    · exact .inl h
    · refine .inr fun i hi hI hk => ?_
      rcases h i hi with (h | h) | h
      · exact absurd hI h
      · exact absurd h hk
      · exact h
  · rcases hs with h | ⟨h, h'⟩
    · exact .inl h
    · exact .inr ⟨h, strongM_find h'⟩

def scrO (K L : List Nat) : List Nat → List Nat
  | [] => []
  | i :: r => bif K.contains i then scrO K L r else i :: scrO K L r

theorem awCall_con {P : Program} {keep ent : List Nat} {n : Nat} {f : FuncId} {caps xs : List AV} {dst : Option Tmp} {K : Sg → Prop} {env : List (Nat × AV)} {H : Mem} {c : Con}
    (mm : List (Nat × Nat)) (V : List Nat) (hc : c.ok P f) (hb : callB (ids c.H) (ids c.H') c.keep mm V keep ent = true)
    (hs : V = [] ∨ (c.ret.strong = true ∧ strongM c.H' = true))
    (ha : viewL H V (xs ++ caps) = renL (mOf mm) c.args) (hm : memOk H V (mOf mm) c.H)
    (h : ∀ scr, scr = callScr c (mOf mm) → awPut n dst (c.ret.ren (mOf mm)) (scrubEs scr env) (renMem (mOf mm) c.H' ++ eraseAll ((ids c.H ++ ids c.H').map (mOf mm)) (scrubHs scr H)) K) :
    awCallAt P keep ent n (.fn (.func f) caps) xs dst K env H := awCall_intro (call_gives hc.holds (callOk_of hc.wf hb ha hm hs)) (h _ rfl)
theorem evCall_con {P : Program} {keep ent : List Nat} {f : FuncId} {caps xs : List AV} {H : Mem} {k : AV → Mem → List Nat → Prop} {c : Con}
    (mm : List (Nat × Nat)) (V : List Nat) (hc : c.ok P f) (hb : callB (ids c.H) (ids c.H') c.keep mm V keep ent = true)
    (hs : V = [] ∨ (c.ret.strong = true ∧ strongM c.H' = true))
    (ha : viewL H V (xs ++ caps) = renL (mOf mm) c.args) (hm : memOk H V (mOf mm) c.H)
    (h : ∀ scr, scr = callScr c (mOf mm) → k (c.ret.ren (mOf mm)) (renMem (mOf mm) c.H' ++ eraseAll ((ids c.H ++ ids c.H').map (mOf mm)) (scrubHs scr H)) scr) :
    evCallD P keep ent H xs k (.fn (.func f) caps) := evCall_intro (call_gives hc.holds (callOk_of hc.wf hb ha hm hs)) (h _ rfl)

-- the lists of cells that stand under a name
theorem inL_dat (L : List Nat) (g : Bool) (l : List Dat) : inL L (l.map (Dat.av g)) = true := by
  induction l with
  | nil => rfl
  | cons d l ih => simp only [List.map_cons, inL, ih, Bool.and_true]; cases d <;> rfl
theorem inL_cellsB (L : List Nat) (l : List UInt8) : inL L (cellsB l) = true := by
  induction l with
  | nil => rfl
  | cons d l ih => simp only [cellsB, List.map_cons, inL] at ih ⊢; rw [ih]; rfl
theorem inL_nil (L : List Nat) : inL L [] = true := rfl
theorem inL_cons (L : List Nat) (c : AV) (cs : List AV) : inL L (c :: cs) = (inA L c && inL L cs) := rfl
theorem inL_append (L : List Nat) (a b : List AV) : inL L (a ++ b) = (inL L a && inL L b) := by
  induction a with
  | nil => rfl
  | cons c a ih => simp [inL, ih, Bool.and_assoc]
theorem renL_nil (m : Nat → Nat) : renL m [] = [] := rfl
theorem renL_cons (m : Nat → Nat) (c : AV) (cs : List AV) : renL m (c :: cs) = c.ren m :: renL m cs := rfl
theorem renL_append (m : Nat → Nat) (a b : List AV) : renL m (a ++ b) = renL m a ++ renL m b := by
  induction a with
  | nil => rfl
  | cons c a ih => simp [renL, ih]
theorem renL_cellsB (m : Nat → Nat) (l : List UInt8) : renL m (cellsB l) = cellsB l := by
  induction l with
  | nil => rfl
  | cons d l ih => simp only [cellsB, List.map_cons, renL] at ih ⊢; rw [ih]; rfl
theorem ren_dat (m : Nat → Nat) (g : Bool) (d : Dat) : (d.av g).ren m = d.av g := by cases d <;> rfl
theorem renL_dat (m : Nat → Nat) (g : Bool) (l : List Dat) : renL m (l.map (Dat.av g)) = l.map (Dat.av g) := by
  induction l with
  | nil => rfl
  | cons d l ih => simp only [List.map_cons, renL, ih, ren_dat]
theorem viewL_nil (H : Mem) (V : List Nat) : viewL H V [] = [] := rfl
theorem viewL_cons (H : Mem) (V : List Nat) (c : AV) (cs : List AV) : viewL H V (c :: cs) = c.view H V :: viewL H V cs := rfl
theorem viewL_cellsB (H : Mem) (V : List Nat) (l : List UInt8) : viewL H V (cellsB l) = cellsB l := by
  induction l with
  | nil => rfl
  | cons d l ih => simp only [cellsB, List.map_cons, viewL] at ih ⊢; rw [ih]; rfl
theorem view_ptr {H : Mem} {id off : Nat} : (AV.ptr id off).view H [] = .ptr id off := rfl
theorem view_slc {H : Mem} {id k off len : Nat} : (AV.slc id k off len).view H [] = .slc id k off len := rfl
end Go.Dk

/-! Objects that are written no more: they become data. -/
namespace Go.Dk
open Go
set_option linter.unusedVariables false
set_option linter.unusedSectionVars false

def frzSl (g : Bool) (cs : List AV) (id k off len : Nat) : AV :=
  match datsL ((cs.drop off).take (len * k)) with
  | some ds => if off + len * k ≤ cs.length then .imm g k (chunk k len ds) else .any
  | none => .any
def frzPt (g : Bool) (cs : List AV) (off : Nat) : AV :=
  match datsL (cs.drop off) with
  | some ds => if off < cs.length then .iptr g ds else .any
  | none => .any
def frzIf (b : Bool) (x y : AV) : AV := if b = true then x else y
theorem frzIf_t {x y : AV} : frzIf true x y = x := rfl
theorem frzIf_f {x y : AV} : frzIf false x y = y := rfl

mutual
def frz (g : Bool) (id : Nat) (cs : List AV) : AV → AV
  | .any => .any
  | .v x => .v x
  | .ptr i off => frzIf (i == id) (frzPt g cs off) (.ptr i off)
  | .slc i k off len => frzIf (i == id) (frzSl g cs i k off len) (.slc i k off len)
  | .imm g' k xs => .imm g' k xs
  | .iptr g' ds => .iptr g' ds
  | .mp i => frzIf (i == id) .any (.mp i)
  | .fn f xs => .fn f (frzL g id cs xs)
  | .agg xs => .agg (frzL g id cs xs)
  | .tup xs => .tup (frzL g id cs xs)
def frzL (g : Bool) (id : Nat) (cs : List AV) : List AV → List AV
  | [] => []
  | x :: xs => frz g id cs x :: frzL g id cs xs
end

theorem den_dat' {E : Env} {g : Bool} {ok : Nat → Prop} (hok : ∀ b, E.ok g b → ok b) {c : AV} {d : Dat} {u : Value} (hs : g = false ∨ c.strong = true) (h : c.dat = some d) (hd : Den E c u) : DenD E.heap ok d u := by
  unfold AV.dat at h
  split at h <;> simp at h
  · subst h
    simp only [Den] at hd; subst hd
    simp only [DenD, true_and]
    rename_i h1 h2
    cases u <;> first | rfl | exact absurd rfl (h1 _) | exact absurd rfl (h2 _)
  · subst h
    simp only [Den] at hd
    rename_i g' k xs
    refine DenD.mono (fun b hb => ⟨hok _ ?_, rfl⟩) _ _ hd
    rcases hs with rfl | hs
    · cases g'
      · exact hb
      · exact .inr hb
    · simp only [AV.strong] at hs; subst hs
      cases g
      · exact .inr hb
      · exact hb

theorem strongL_get {cs : List AV} (h : strongL cs = true) : ∀ (i : Nat) (c : AV), cs[i]? = some c → c.strong = true := by
  induction cs with
  | nil => intro i c hc; simp at hc
  | cons x xs ih =>
    simp only [strongL, Bool.and_eq_true] at h
    intro i c hc
    cases i with
    | zero => simp at hc; subst hc; exact h.1
    | succ i => exact ih h.2 i c (by simpa using hc)

section
variable {C : Ctx} {E : Env} {H : Mem} {id : Nat} {cs : List AV} {g : Bool}

/-- with the object's memory closed -/
def shutE (E : Env) (id : Nat) : Env := { E with S1 := fun j => E.S1 j ∨ (0 < (E.β id).sz ∧ j = (E.β id).blk) }

theorem shut_cells (hR : Rel C E H) (hf : find H id = some (.cells cs)) (hg : g = false ∨ strongL cs = true) {n : Nat} (off : Nat) {ds : List Dat} (hds : datsL ((cs.drop off).take n) = some ds) (hs : 0 < (E.β id).sz) :
    (shutE E id).ok g (E.β id).blk ∧ DenCs E.heap ((shutE E id).ok g) (E.β id).blk ((E.β id).base + off) ds := by
  have hok : ∀ b, E.ok g b → (shutE E id).ok g b := by
    intro b hb
    cases g
    · exact hb.imp (fun h => h) .inl
    · exact Or.inl hb
  have hself : (shutE E id).ok g (E.β id).blk := by
    cases g
    · exact .inr (.inr ⟨hs, rfl⟩)
    · exact .inr ⟨hs, rfl⟩
  refine ⟨hself, ?_⟩
  obtain ⟨hl, hget⟩ := datsL_get hds
  obtain ⟨c, t, fz, hheap, hcs, hbl, hfz, hat⟩ : ∃ c t fz, E.heap[(E.β id).blk]? = some (.cells c t fz) ∧ c.size = (E.β id).sz ∧ (E.β id).base + cs.length ≤ (E.β id).sz ∧ FzOk c.size fz ∧ AtCells E c (E.β id).base cs := by
    rcases hR.blk id _ hf with ⟨h1, _⟩ | ⟨_, h2⟩
    · omega
    · exact h2
  refine denCs_of fun i d hi => ?_
  obtain ⟨c', hc', hcd⟩ := hget i d hi
  rw [List.getElem?_take] at hc'
  split at hc' <;> simp at hc'
  obtain ⟨u, hu, hd⟩ := hat (off + i) c' hc'
  refine ⟨u, ?_, ?_⟩
  · unfold cellOf; rw [hheap]; simpa [Nat.add_assoc] using hu
  · exact den_dat' hok (hg.imp (fun h => h) fun h => strongL_get h _ _ hc') hcd hd

theorem den_frzSl (hR : Rel C E H) (hf : find H id = some (.cells cs)) (hg : g = false ∨ strongL cs = true) {k off len : Nat} {u : Value} (h : Den E (.slc id k off len) u) : Den (shutE E id) (frzSl g cs id k off len) u := by
  unfold frzSl
  split
  · rename_i ds hds
    split
    · rename_i hle
      obtain ⟨hl, hget⟩ := datsL_get hds
      obtain ⟨a, cap, rfl, hcap, hcase⟩ := slc_cap h
      simp only [Den, DenD, chunk_length]
      refine ⟨a, cap, rfl, hcap, ?_⟩
      by_cases h00 : len = 0
      · left; subst h00; rfl
      · right
        rcases hcase with h1 | ⟨hs, hsz, rfl⟩
        · omega
        · obtain ⟨h1, h2⟩ := shut_cells hR hf hg off hds hs
          exact ⟨_, _, rfl, h1, chunk_rows _ _ _ (by rw [hl]; simp; omega) h2⟩
    · simp [Den]
  · simp [Den]

theorem den_frzPt (hR : Rel C E H) (hf : find H id = some (.cells cs)) (hg : g = false ∨ strongL cs = true) {off : Nat} {u : Value} (h : Den E (.ptr id off) u) : Den (shutE E id) (frzPt g cs off) u := by
  unfold frzPt
  split
  · rename_i ds hds
    split
    · rename_i hlt
      simp only [Den] at h ⊢
      have hs : 0 < (E.β id).sz := by
        rcases hR.blk id _ hf with ⟨_, h2⟩ | ⟨h2, _⟩
        · subst h2; simp at hlt
        · exact h2
      have hds' : datsL ((cs.drop off).take (cs.drop off).length) = some ds := by rw [List.take_length]; exact hds
      obtain ⟨h1, h2⟩ := shut_cells hR hf hg off hds' hs
      exact ⟨_, _, h, h1, h2⟩
    · simp [Den]
  · simp [Den]

mutual
theorem den_frz (hR : Rel C E H) (hf : find H id = some (.cells cs)) (hg : g = false ∨ strongL cs = true) (hle : E.Le (shutE E id) (fun _ => True)) : ∀ (x : AV) (u : Value), Den E x u → Den (shutE E id) (frz g id cs x) u
  | .any, u => fun _ => by simp [frz, Den]
  | .v x, u => fun h => by simpa [frz, Den] using h
  | .ptr i off, u => fun h => by
    simp only [frz, frzIf]
    split
    · rename_i hi
      obtain rfl : i = id := by simpa using hi
      exact den_frzPt hR hf hg h
    · exact Den.mono hle _ _ (fun _ _ => trivial) h
  | .slc i k off len, u => fun h => by
    simp only [frz, frzIf]
    split
    · rename_i hi
      obtain rfl : i = id := by simpa using hi
      exact den_frzSl hR hf hg h
    · exact Den.mono hle _ _ (fun _ _ => trivial) h
  | .imm g' k xs, u => fun h => by
    simp only [frz]
    exact Den.mono hle _ _ (fun _ _ => trivial) h
  | .iptr g' ds, u => fun h => by
    simp only [frz]
    exact Den.mono hle _ _ (fun _ _ => trivial) h
  | .mp i, u => fun h => by
    simp only [frz, frzIf]
    split
    · simp [Den]
    · exact Den.mono hle _ _ (fun _ _ => trivial) h
  | .fn f xs, u => fun h => by
    simp only [frz, Den] at h ⊢
    obtain ⟨us, hu, hc⟩ := h
    exact ⟨us, hu, denL_frz hR hf hg hle xs us hc⟩
  | .agg xs, u => fun h => by
    simp only [frz, Den] at h ⊢
    obtain ⟨us, hu, hc⟩ := h
    exact ⟨us, hu, denL_frz hR hf hg hle xs us hc⟩
  | .tup xs, u => fun h => by
    simp only [frz, Den] at h ⊢
    obtain ⟨us, hu, hc⟩ := h
    exact ⟨us, hu, denL_frz hR hf hg hle xs us hc⟩
theorem denL_frz (hR : Rel C E H) (hf : find H id = some (.cells cs)) (hg : g = false ∨ strongL cs = true) (hle : E.Le (shutE E id) (fun _ => True)) : ∀ (xs : List AV) (us : List Value), DenL E xs us → DenL (shutE E id) (frzL g id cs xs) us
  | [], us => fun h => by simpa [frzL, DenL] using h
  | c :: xs, us => fun h => by
    simp only [frzL, DenL] at h ⊢
    obtain ⟨u, us', hu, hc, hr⟩ := h
    exact ⟨u, us', hu, den_frz hR hf hg hle c u hc, denL_frz hR hf hg hle xs us' hr⟩
end

def mapB (f : AV → AV) : Blk → Blk
  | .cells cs => .cells (cs.map f)
  | .map es => .map (es.map fun e => (e.1, f e.2))
  | .oth k xs => .oth k (xs.map f)
theorem blkOk_map {E E' : Env} {f : AV → AV} (hh : E'.heap = E.heap) {i j : Nat} (hβ : E'.β j = E.β i) (hf : ∀ x u, Den E x u → Den E' (f x) u) {b : Blk} (h : BlkOk E i b) : BlkOk E' j (mapB f b) := by
  cases b with
  | cells cs =>
    simp only [mapB, BlkOk, hβ, hh, List.length_map, List.map_eq_nil_iff] at h ⊢
    refine h.imp id ?_
    rintro ⟨hs, c, t, fz, h1, h2, h3, h4, h5⟩
    refine ⟨hs, c, t, fz, h1, h2, h3, h4, fun i x hx => ?_⟩
    rw [List.getElem?_map, Option.map_eq_some_iff] at hx
    obtain ⟨y, hy, rfl⟩ := hx
    obtain ⟨u, hu, hd⟩ := h5 i y hy
    exact ⟨u, hu, hf _ _ hd⟩
  | map es =>
    simp only [mapB, BlkOk, hβ, hh] at h ⊢
    obtain ⟨hs, c, clk, h1, h2, h3, h4, h5⟩ := h
    refine ⟨hs, c, clk, h1, by simpa using h2, h3, h4, fun i k x hx => ?_⟩
    rw [List.getElem?_map, Option.map_eq_some_iff] at hx
    obtain ⟨⟨k', y⟩, hy, he⟩ := hx
    simp only [Prod.mk.injEq] at he
    obtain ⟨rfl, rfl⟩ := he
    obtain ⟨e, h6, h7, h8⟩ := h5 i k' y hy
    exact ⟨e, h6, h7, hf _ _ h8⟩
  | oth k xs =>
    simp only [mapB, BlkOk, hβ, hh] at h ⊢
    obtain ⟨hs, o, us, h1, hd, hk⟩ := h
    refine ⟨hs, o, us, h1, ?_, hk⟩
    rw [denL_iff] at hd ⊢
    refine ⟨by simp [hd.1], fun i x hx => ?_⟩
    rw [List.getElem?_map, Option.map_eq_some_iff] at hx
    obtain ⟨y, hy, rfl⟩ := hx
    obtain ⟨u, hu, hdu⟩ := hd.2 i y hy
    exact ⟨u, hu, hf _ _ hdu⟩

def frzE (g : Bool) (id : Nat) (cs : List AV) : List (Nat × AV) → List (Nat × AV)
  | [] => []
  | (t, x) :: r => (t, frz g id cs x) :: frzE g id cs r
def frzBk (g : Bool) (id : Nat) (cs : List AV) : Blk → Blk
  | .cells xs => .cells (frzL g id cs xs)
  | .map es => .map (es.map fun e => (e.1, frz g id cs e.2))
  | .oth k xs => .oth k (frzL g id cs xs)
def frzM (g : Bool) (id : Nat) (cs : List AV) : Mem → Mem
  | [] => []
  | (i, b) :: r => (i, frzBk g id cs b) :: frzM g id cs r
theorem frzL_map : ∀ xs : List AV, frzL g id cs xs = xs.map (frz g id cs)
  | [] => rfl
  | x :: xs => by simp [frzL, frzL_map xs]
theorem frzBk_map (b : Blk) : frzBk g id cs b = mapB (frz g id cs) b := by cases b <;> simp [frzBk, mapB, frzL_map]
theorem look_frzE : ∀ (env : List (Nat × AV)) (t : Nat), look (frzE g id cs env) t = frz g id cs (look env t)
  | [], t => rfl
  | (i, x) :: r, t => by simp only [frzE, look, look_frzE r t]; split <;> rfl
theorem find_frzM : ∀ (H : Mem) (i : Nat), find (frzM g id cs H) i = (find H i).map (mapB (frz g id cs))
  | [], i => rfl
  | (j, b) :: r, i => by simp only [frzM, find, find_frzM r i, frzBk_map]; split <;> rfl

/-- an object of the function's own that is written no more: it becomes data -/
theorem weak_freeze {F : Fun} {env : List (Nat × AV)} {H : Mem} (g : Bool) (id : Nat) (hf : find H id = some (.cells cs)) (hg : g = false ∨ strongL cs = true) (he : F.ent.contains id = false) :
    Weak F ⟨env, H⟩ ⟨frzE g id cs env, frzM g id cs (erase H id)⟩ := by
  intro C a w hS
  obtain ⟨E, hw, hR, hD, hd⟩ := hS.mem
  obtain ⟨hR', hle⟩ := hR.shut id _ hf (by rw [← hS.ent]; simpa using he)
  have hden := den_frz (g := g) hR hf hg hle
  refine ⟨hS.keep, hS.ent, hS.size, shutE E id, hw, ?_, hD.le hle, fun t => ?_⟩
  · refine ⟨hR'.size, hR'.frame, hR'.s0eq, hR'.s0, hR'.s1, hR'.keep, ?_, ?_, ?_, hR'.mrk, hR'.os⟩
    · intro i b hi
      rw [find_frzM, Option.map_eq_some_iff] at hi
      obtain ⟨b0, hb0, rfl⟩ := hi
      have hne : find H i = some b0 := by
        rw [find_erase] at hb0
        split at hb0
        · cases hb0
        · exact hb0
      exact blkOk_map (E := E) (E' := shutE E id) rfl rfl hden (hR.blk i b0 hne)
    · intro i b hi
      rw [find_frzM, Option.map_eq_some_iff] at hi
      obtain ⟨b0, hb0, rfl⟩ := hi
      exact hR'.own i b0 hb0
    · intro i b i' b' hi hi'
      rw [find_frzM, Option.map_eq_some_iff] at hi hi'
      obtain ⟨b0, hb0, rfl⟩ := hi
      obtain ⟨b1, hb1, rfl⟩ := hi'
      exact hR'.dist i b0 i' b1 hb0 hb1
  · simp only [look_frzE]
    exact hden _ _ (hd t)
end

theorem frzL_cellsB {g : Bool} {id : Nat} {cs : List AV} (l : List UInt8) : frzL g id cs (cellsB l) = cellsB l := by
  rw [frzL_map]; simp [cellsB, frz, cB]
theorem frzL_nil {g : Bool} {id : Nat} {cs : List AV} : frzL g id cs [] = [] := rfl
theorem frzL_cons {g : Bool} {id : Nat} {cs : List AV} {x : AV} {xs : List AV} : frzL g id cs (x :: xs) = frz g id cs x :: frzL g id cs xs := rfl
/-- bytes -/
theorem frzSl_bytes {g : Bool} {id off len : Nat} {l : List UInt8} (hl : off + len ≤ l.length) : frzSl g (cellsB l) id 1 off len = .imm g 1 (rowsB ((l.drop off).take len)) := by
  unfold frzSl
  simp only [cellsB_drop, Nat.mul_one, cellsB_take, datsL_cellsB, cellsB_length]
  rw [if_pos hl]
  have : ((l.drop off).take len).length = len := by simp; omega
  congr 1
  conv => lhs; arg 2; rw [← this]
  exact chunk_cellsB _
theorem strongL_cellsB (l : List UInt8) : strongL (cellsB l) = true := by
  induction l with
  | nil => rfl
  | cons b l ih => simpa [cellsB, strongL, AV.strong, cB] using ih

theorem Fin_weak {F : Fun} {rs : List ResultVar} {ret : AV} {H' : Mem} {e : Ex} {σ σ' : Sg} (hw : Weak F σ σ') (h : Fin F rs ret H' e σ') : Fin F rs ret H' e σ := by
  cases e with
  | exit _ => exact h
  | _ =>
    obtain ⟨τ, h1, h2, h3⟩ := h
    exact ⟨τ, hw.trans h1, h2, h3⟩

/-- a contract for each of the ways in which its arguments can stand -/
theorem holds_split {c : Con} {P : Program} {f : FuncId} (A : List AV → Prop) (hA : ∃ args, A args) (hs : ∀ E us, DenL E c.args us → ∃ args, A args ∧ DenL E args us)
    (h : ∀ args, A args → ({ c with args := args } : Con).holds P f) : c.holds P f := by
  obtain ⟨a0, h0⟩ := hA
  refine fun C E us hk he hs1 hh hR hd => ?_
  obtain ⟨args, h1, h2⟩ := hs E us hd
  exact h args h1 C E us hk he hs1 hh hR h2
end Go.Dk
