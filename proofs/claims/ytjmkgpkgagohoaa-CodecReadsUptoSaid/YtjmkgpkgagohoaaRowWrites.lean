/-
  RowWrites: contracts of functions of the program, and what follows from them.
-/
import Derived.Test.YtjmkgpkgagohoaaTyCodec
import Derived.Test.YtjmkgpkgagohoaaCodecK
import Derived.Test.YtjmkgpkgagohoaaRdCodec
set_option linter.all false
namespace Go.Proofs.Ytjmkgpkgagohoaa
open Go Go.Dk
set_option linter.unusedSimpArgs false
set_option linter.unusedVariables false
set_option maxRecDepth 10000
set_option maxHeartbeats 4000000
set_option pp.deepTerms true
set_option pp.maxSteps 1000000
open Go.ChangeShapes Go.RowKit
namespace Writes

theorem bulkT_le : ∀ l : List Thing, bulks bulkT l ≤ 2 * bulks (fun t => t.b.length + 5) l
  | [] => Nat.le_refl _
  | t :: l => by have := bulkT_le l; simp only [bulks, bulkT] at *; omega
theorem len_le : ∀ l : List Thing, l.length ≤ bulks (fun t => t.b.length + 5) l
  | [] => Nat.le_refl _
  | t :: l => by have := len_le l; simp only [bulks, List.length_cons] at *; omega

theorem contract (H : Type) (enc : TypeId × Value → H) (W : World) (base : Nat) (args : Array Value) (ds gs : List (DataW H)) (before : List MemPlace)
    (hval : ∀ (j : Nat) t v, Try.f4.params[j]? = some t → args[j]? = some v → Value.okWide Try.prog W .any base t v)
    (hW : DataW.Whole enc Try.prog Try.f4.params.toList Rows.codecWritesSpec.vars false W args.toList ds gs before)
    (hk : Rows.uptoSmall H (ds ++ gs) = true) :
    Calls Try.prog 4 args W fun e W' => ∃ v, e = .returned v ∧ Rows.codecWritesSpec.post enc Try.prog Try.f4 false true false false W args v W' := by
  have hW' := hW
  obtain ⟨p, q, hA, hV, rfl, hfz, hnd⟩ := hW
  obtain ⟨rfl, rfl⟩ := trodVars_none hV
  rw [Try.params4] at hA hval
  obtain ⟨v0, vs0, d0, ds0, p0, q0, hargs, rfl, rfl, h0, r0⟩ := trodAll_cons hA
  obtain ⟨rfl, rfl, rfl⟩ := trodAll_nil r0
  obtain rfl : args = #[v0] := by cases args; simp_all
  have hk' : Rows.uptoBulk d0 + (0) ≤ 1048576 := by simpa [Rows.uptoSmall, Rows.uptoBulkAll] using hk
  obtain ⟨l, hl, hb, den0⟩ := arg_one (rthings H) Try.underlying37 trivial (hval 0 _ v0 rfl rfl) h0
  replace den0 := den0 _ rfl
  have hb' : bulks (fun t : Thing => t.b.length + 5) l + 1 ≤ Rows.uptoBulk d0 := hb
  have h1 := bulkT_le l
  have h2 := len_le l
  refine law_calls (s := Rows.codecWritesSpec) (by kernel_rfl) (by rw [Try.params4]; decide +kernel) Try.func4 rfl rfl rfl Try.underlying4 rfl rfl hW' (CodecWrites l hl (by omega) (by omega)) rfl rfl ?_
  simp only [DenL]
  exact ⟨_, _, rfl, den0, rfl⟩

set_option maxRecDepth 100000 in
theorem lifted (os : Os) (started : os.Started) (H : Type) (enc : TypeId × Value → H) (F : Stop.Interp) :
    ReturnsInHanded {} Try.checked os 4 .any ((Rows.OpenSpec.upto Rows.codecWritesSpec).pre6 enc Try.prog Try.f4 Rows.codecWritesUptoRow.domain false) (((Rows.OpenSpec.upto Rows.codecWritesSpec).at F).post enc Try.prog Try.f4 false true false false) := by
  refine returnsInHanded_of_cond (C := Try.checked) (s := Rows.OpenSpec.upto Rows.codecWritesSpec) (k := Rows.uptoSmall) rfl (by kernel_rfl) started (by kernel_rfl) Try.func4
    (OpenSpec.witness (enc := enc) (C := Try.checked) (s := Rows.OpenSpec.upto Rows.codecWritesSpec) (k := Rows.uptoSmall) rfl false ⟨#[], #[.slice none 0 0], []⟩ 8 (by kernel_rfl) (by kernel_rfl) (by kernel_rfl)
      (x := ([.nil], [], [])) (by kernel_rfl) rfl (by kernel_rfl)) ?_
  intro W base args ds gs before hval hW _ hk _
  exact contract H enc W base args ds gs before hval hW hk

theorem over : Rows.codecWritesUptoRow.holds Try.pinned (Rows.OpenSpec.upto Rows.codecWritesSpec) :=
  OpenClaim.holds_of_cond 4 Try.f4 rfl rfl rfl rfl rfl rfl rfl ⟨rfl, rfl, rfl, rfl, rfl⟩ rfl rfl rfl rfl rfl (by kernel_rfl) Try.func4 (by kernel_rfl)
    (of_decide_eq_true (by kernel_rfl)) (by unfold Func.isWrapper; first | (rw [if_pos (by decide +kernel)]; kernel_rfl) | (rw [if_neg (by decide +kernel)]; exact ⟨rfl, rfl⟩))
    (fun os started H enc _ F => lifted os started H enc F)

theorem proved : Rows.CodecWritesUptoSaid :=
  over

end Writes
end Go.Proofs.Ytjmkgpkgagohoaa
