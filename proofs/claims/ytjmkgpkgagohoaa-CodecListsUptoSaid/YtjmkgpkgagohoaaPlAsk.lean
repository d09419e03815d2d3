/-
  Plain: what is asked of a reader.
-/
import Derived.Test.YtjmkgpkgagohoaaPlBack
set_option linter.all false
namespace Go.Dk
set_option autoImplicit false

def askR (t : Thing) (r : RS) : RS :=
  if t.kind = 0 then (highR 1 r).2
  else if t.kind = 1 then (highR 4 r).2
  else if t.kind = 2 then (highR 8 r).2
  else if t.kind = 3 then (varR t.m r).2
  else if t.kind = 4 then (rawR (IntKind.i64.wrap t.m) r).2
  else if t.kind = 5 then (textR (IntKind.i64.wrap t.m) r).2
  else if t.kind = 6 then (r.1, if r.2 = 0 then ((t.m % 200 : Nat) : Int) else r.2)
  else r

theorem textR_suf {m : Int} {r : RS} {l rs : List UInt8} {e : Int} (h : textR m r = (l, rs, e)) : rs <:+ r.1 := by
  unfold textR at h
  refine (getT_suf h).trans ?_
  split
  · exact List.suffix_refl _
  · exact roomR_suf rfl
theorem i64_wrap_mem (n : Int) : -9223372036854775808 ≤ IntKind.i64.wrap n ∧ IntKind.i64.wrap n ≤ 9223372036854775807 := by
  simp only [IntKind.wrap, IntKind.bits, IntKind.signed]
  simp
  split <;> omega
theorem askR_suf (t : Thing) (r : RS) : (askR t r).1 <:+ r.1 := by
  unfold askR
  repeat' split
  · exact highR_suf rfl
  · exact highR_suf rfl
  · exact highR_suf rfl
  · exact varR_suf rfl
  · exact rawR_suf (k := IntKind.i64.wrap t.m) (r := r) (l := (rawR (IntKind.i64.wrap t.m) r).1) (rs := (rawR (IntKind.i64.wrap t.m) r).2.1) (e := (rawR (IntKind.i64.wrap t.m) r).2.2) rfl
  · exact textR_suf rfl
  all_goals exact List.suffix_refl _
end Go.Dk
