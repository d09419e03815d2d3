/-
  RdCodec: contracts of functions of the program, and what follows from them.
-/
import Derived.Test.YtjmkgpkgagohoaaTyCodec
import Derived.Test.YtjmkgpkgagohoaaDk3
import Derived.Test.YtjmkgpkgagohoaaPlThing
import Derived.Test.YtjmkgpkgagohoaaRows
import Derived.ProofKit
import Derived.WalkKit
set_option linter.all false
namespace Go.Proofs.Ytjmkgpkgagohoaa
open Go Go.Dk
set_option linter.unusedSimpArgs false
set_option linter.unusedVariables false
set_option maxRecDepth 10000
set_option maxHeartbeats 4000000
set_option pp.deepTerms true
set_option pp.maxSteps 1000000
open Go.ChangeShapes Go.RowKit

def meas (H : Type) : Bulk H := ⟨Rows.uptoBulk, Rows.uptoBulkAll, rfl, fun _ _ => rfl, fun _ => rfl, fun _ _ => rfl, fun _ => rfl, rfl, fun l => by cases l <;> simp [Rows.uptoBulk]⟩

theorem rbytes (H : Type) : Reads Try.prog (meas H) 22 1 (fun b : List UInt8 => [.sl 1 (rowsB b)]) (fun _ => True) (fun b => b.length + 1) :=
  (reads_slice Try.underlying22 (by kernel_rfl) (by omega) (reads_byte Try.underlying5 (by kernel_rfl))).to id (fun b _ => ⟨trivial, rfl, by simp [bulks_one]⟩) (fun _ => rfl)

theorem rint (H : Type) : Reads Try.prog (meas H) 3 1 (fun z : Int => [.v (.int .i64 z)]) (fun z => IntKind.i64.min ≤ z ∧ z ≤ IntKind.i64.max) (fun _ => 1) := reads_int Try.underlying3 (by kernel_rfl)
theorem rword (H : Type) : Reads Try.prog (meas H) 23 1 (fun z : Nat => [.v (.int .u64 z)]) (fun z => z < 2 ^ IntKind.u64.bits) (fun _ => 1) := reads_nat Try.underlying23 (by kernel_rfl) rfl

theorem rthing (H : Type) : Reads Try.prog (meas H) 39 4 Thing.dat Thing.ok (fun t => t.b.length + 5) :=
  (reads_struct Try.underlying39 (by kernel_rfl)
    (readsF_cons (f := { name := "Kind", type := 3, offset := 0, embedded := false, tag := "", pkgPath := "", byteOffset := 0 }) (rint H) rfl
    (readsF_cons (f := { name := "N", type := 23, offset := 1, embedded := false, tag := "", pkgPath := "", byteOffset := 8 }) (rword H) rfl
    (readsF_cons (f := { name := "M", type := 23, offset := 2, embedded := false, tag := "", pkgPath := "", byteOffset := 16 }) (rword H) rfl
    (readsF_cons (f := { name := "B", type := 22, offset := 3, embedded := false, tag := "", pkgPath := "", byteOffset := 24 }) (rbytes H) rfl readsF_nil))))).to
    (fun x => ⟨x.1, x.2.1, x.2.2.1, x.2.2.2.1⟩) (fun x h => by
      obtain ⟨k, n, m, b, _⟩ := x
      obtain ⟨⟨h1, h2⟩, h3, h4, _⟩ := h
      refine ⟨⟨⟨h1, h2⟩, h3, h4⟩, rfl, ?_⟩
      show b.length + 5 ≤ 1 + (1 + (1 + (b.length + 1 + 0))) + 1
      omega) (fun _ => rfl)

theorem rthings (H : Type) : Reads Try.prog (meas H) 37 1 (fun l : List Thing => [.sl 4 (l.map Thing.dat)]) (fun l => ∀ t ∈ l, t.ok) (fun l => bulks (fun t => t.b.length + 5) l + 1) :=
  reads_slice Try.underlying37 (by kernel_rfl) (by omega) (rthing H)

theorem rlist (H : Type) {t : TypeId} (ht : Try.prog.underlying t = some (.slice 22)) (hs : Try.prog.cellsOf t = 1) :
    Reads Try.prog (meas H) t 1 (fun l : List (List UInt8) => [.sl 1 (l.map fun b => [.sl 1 (rowsB b)])]) (fun _ => True) (fun l => bulks (fun b => b.length + 1) l + 1) :=
  (reads_slice ht hs (by omega) (rbytes H)).to id (fun l _ => ⟨trivial, rfl, Nat.le_refl _⟩) (fun _ => rfl)
end Go.Proofs.Ytjmkgpkgagohoaa
