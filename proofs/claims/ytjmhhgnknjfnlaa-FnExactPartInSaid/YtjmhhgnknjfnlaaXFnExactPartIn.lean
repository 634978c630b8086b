/- The program's PartIn and the reference's PartIn give the same head, the same part and the same verdict at every set, parameters and unit, and the set is left as it was. No condition beyond the statement's own. -/
import Derived.Test.YtjmhhgnknjfnlaaRows
import Derived.Test.YtjmhhgnknjfnlaaZFnExactPartIny0
import Derived.Test.YtjmhhgnknjfnlaaZFnExactPartIny1
import Derived.Test.YtjmhhgnknjfnlaaZFnExactPartIny2
import Derived.Test.YtjmhhgnknjfnlaaZFnExactPartIny3
import Derived.Test.YtjmhhgnknjfnlaaZFnExactPartIny4
import Derived.Test.YtjmhhgnknjfnlaaYFnExactPartIn
import Derived.WalkKit
import Derived.ProofKit
import Derived.OpenShut
import Derived.ShutString
import Derived.ChangeOld
import Derived.Below
import Derived.SizedLaws
import Derived.Carry
namespace Go.Proofs.Ytjmhhgnknjfnlaa.fnExactPartIn
open Go.ChangeShapes Go.WideShapes Go.ChangeAt Go.RowKit Go.Proofs.Ytjmhhgnknjfnlaa.PFnExactPartIn Go.Proofs.YtjmhhgnknjfnlaaW.PrintWords Go.Proofs.YtjmhhgnknjfnlaaW.PrintMore
open Go.ChangeMaps (open_string shut_string)
set_option linter.unusedVariables false
theorem own : ownKnob Try.prog.godebug = none := by kernel_rfl
theorem laidOut : laidOutB Try.prog = true := by kernel_rfl
set_option maxRecDepth 100000 in
set_option maxHeartbeats 4000000 in
theorem lifted (os : Os) (started : os.Started) (H : Type) (enc : TypeId × Value → H) :
    ReturnsInHanded {} Try.checked os 11 .any (Rows.fnExactPartInSpec.pre6 enc Try.prog Try.f11 Rows.fnExactPartInRow.domain false) (Rows.fnExactPartInSpec.post enc Try.prog Try.f11 false true false false) := by
  refine returnsInHanded_of_change_sized (C := Try.checked) own started (by kernel_rfl) Try.func11
    (ChangeSpec.witness6 (enc := enc) (C := Try.checked) false ⟨#[], #[.agg #[.int .i64 0, .int .i64 0, .slice none 0 0, .slice none 0 0], .agg #[.int .i64 0, .bool false, .bool false, .bool false], .string ByteArray.empty], []⟩ 8 (by kernel_rfl) (by kernel_rfl) (by kernel_rfl) (by kernel_rfl)) ?_
  intro W base args ds gs before hval0 hW hcnd hsz0 _
  have hval : ∀ (j : Nat) t v, Try.f11.params[j]? = some t → args[j]? = some v → Value.okWide Try.prog W .any base t v := hval0
  have hW' := hW
  obtain ⟨p, q, hA0, hV, rfl, hfz, hnd⟩ := hW
  have hA : DataW.TrodAll enc Try.prog W 0 (fun _ => true) true Try.f11.params.toList args.toList ds p := hA0
  rw [Try.params11] at hA hval
  obtain ⟨v0, vs0, d0, ds0, p0, q0, hargs, rfl, rfl, h0, r0⟩ := trodAll_cons hA
  obtain ⟨v1, vs1, d1, ds1, p1, q1, rfl, rfl, rfl, h1, r1⟩ := trodAll_cons r0
  obtain ⟨v2, vs2, d2, ds2, p2, q2, rfl, rfl, rfl, h2, r2⟩ := trodAll_cons r1
  obtain ⟨rfl, rfl, rfl⟩ := trodAll_nil r2
  obtain rfl : args = #[v0, v1, v2] := by cases args; simp_all
  obtain ⟨rfl, rfl⟩ := trodVars_none hV
  obtain ⟨cs0, rfl, hcs0⟩ := okWide_struct Try.underlying54 (hval 0 54 v0 rfl rfl)
  have k0 := h0
  have lt0 : ∀ x ∈ p0, x.block < W.heap.size := by obtain ⟨m, hm⟩ := k0; exact DataW.trod_lt m _ _ _ hm
  obtain ⟨x0, hK0, hw0⟩ : ∃ x, k54.K W x cs0.toList ∧ Wf54 x := by obtain ⟨m, hm⟩ := h0; exact opens54.2 _ _ _ _ _ _ m _ _ hm
  obtain ⟨A0_0, c0_0, A0_1, c0_1, he0, hl0_0, hC0_0, hl0_1, hC0_1⟩ := k54_open hK0
  obtain rfl : cs0 = #[.int .i64 x0.f0, .int .i64 x0.f1, .slice A0_0 x0.f2.length c0_0, .slice A0_1 x0.f3.length c0_1] := by cases cs0; simpa using he0
  obtain ⟨cs1, rfl, hcs1⟩ := okWide_struct Try.underlying56 (hval 1 56 v1 rfl rfl)
  have k1 := h1
  have lt1 : ∀ x ∈ p1, x.block < W.heap.size := by obtain ⟨m, hm⟩ := k1; exact DataW.trod_lt m _ _ _ hm
  obtain ⟨x1, hK1, hw1⟩ : ∃ x, k56.K W x cs1.toList ∧ Wf56 x := by obtain ⟨m, hm⟩ := h1; exact opens56.2 _ _ _ _ _ _ m _ _ hm
  have he1 := k56_open hK1
  obtain rfl : cs1 = #[.int .i64 x1.f0, .bool x1.f1, .bool x1.f2, .bool x1.f3] := by cases cs1; simpa using he1
  obtain ⟨a2, rfl, rfl, rfl, y2⟩ := open_string Try.underlying9 (hval 2 9 v2 rfl rfl) h2
  clear hA0 hval0 hsz0
  obtain ⟨k, hk⟩ := Pure.FnExactPartIn x0 x1 a2 hw0 hw1 y2
  refine (laws_FnExactPartIn.calls k x0.f0 x0.f1 A0_0 c0_0 x0.f2 A0_1 c0_1 x0.f3 x1.f0 x1.f1 x1.f2 x1.f3 a2 true W hC0_0 hl0_0 hC0_1 hl0_1 hk).mono fun e W' ⟨he, hd⟩ => ?_
  have bel : Below W.heap.size W W' := hd
  subst he
  exact ⟨_, rfl, _, _, _, [], _, [], hW', trodAll_mk1 (shut_bool Try.underlying4 _), (trodAll_cons_mk (Below.trod laidOut (by kernel_rfl) (of_decide_eq_true (by kernel_rfl)) k0 bel lt0) (trodAll_cons_mk (Below.trod laidOut (by kernel_rfl) (of_decide_eq_true (by kernel_rfl)) k1 bel lt1) (trodAll_cons_mk (shut_string Try.underlying9 y2) trodAll_mk0))), rfl, bel.frame _, fun h => by cases h⟩
theorem over : Rows.fnExactPartInRow.holds Try.pinned (OpenSpec.ofChange Rows.fnExactPartInSpec) :=
  OpenClaim.holds_of_wide 11 Try.f11 rfl rfl rfl rfl rfl rfl rfl ⟨rfl, rfl, rfl, rfl, rfl⟩ rfl rfl rfl rfl rfl (by kernel_rfl) Try.func11 (by kernel_rfl)
    (of_decide_eq_true (by kernel_rfl)) (by unfold Func.isWrapper; first | (rw [if_pos (by decide +kernel)]; kernel_rfl) | (rw [if_neg (by decide +kernel)]; exact ⟨rfl, rfl⟩))
    (fun os started H enc _ => lifted os started H enc)
theorem proved : Rows.FnExactPartInSaid := over
end Go.Proofs.Ytjmhhgnknjfnlaa.fnExactPartIn
namespace Go.Proofs.Ytjmhhgnknjfnlaa
/-- The row, under a short name, for the claim. -/
theorem fnExactPartIn_holds : Rows.FnExactPartInSaid := fnExactPartIn.proved
end Go.Proofs.Ytjmhhgnknjfnlaa
