/- The program's PictureParts and the reference's PictureParts give the same parts, the same frame and the same verdict at every set, parameters and units; the arguments are left as they were, and what a call gives is its own. No condition beyond the statement's own. -/
import Derived.Test.YtbjambmdononiaaRows
import Derived.Test.YtbjambmdononiaaZFnExactPicturePartsy0
import Derived.Test.YtbjambmdononiaaZFnExactPicturePartsy1
import Derived.Test.YtbjambmdononiaaZFnExactPicturePartsy2
import Derived.Test.YtbjambmdononiaaZFnExactPicturePartsy3
import Derived.Test.YtbjambmdononiaaZFnExactPicturePartsy4
import Derived.Test.YtbjambmdononiaaZFnExactPicturePartsy5
import Derived.Test.YtbjambmdononiaaZFnExactPicturePartsy6
import Derived.Test.YtbjambmdononiaaZFnExactPicturePartsy7
import Derived.Test.YtbjambmdononiaaZFnExactPicturePartsy8
import Derived.Test.YtbjambmdononiaaZFnExactPicturePartsy9
import Derived.Test.YtbjambmdononiaaYFnExactPictureParts
import Derived.WalkKit
import Derived.ProofKit
import Derived.OpenShut
import Derived.ShutString
import Derived.ChangeOld
import Derived.Below
import Derived.SizedLaws
import Derived.Carry
namespace Go.Proofs.Ytbjambmdononiaa.fnExactPictureParts
open Go.ChangeShapes Go.WideShapes Go.ChangeAt Go.RowKit Go.Proofs.Ytbjambmdononiaa.PFnExactPictureParts Go.Proofs.YtbjambmdononiaaW.PrintWords Go.Proofs.YtbjambmdononiaaW.PrintMore
open Go.ChangeMaps (open_string shut_string)
set_option linter.unusedVariables false
theorem own : ownKnob Try.prog.godebug = none := by kernel_rfl
theorem laidOut : laidOutB Try.prog = true := by kernel_rfl
set_option maxRecDepth 100000 in
set_option maxHeartbeats 4000000 in
theorem lifted (os : Os) (started : os.Started) (H : Type) (enc : TypeId × Value → H) :
    ReturnsInHanded {} Try.checked os 3 .any (Rows.fnExactPicturePartsSpec.pre6 enc Try.prog Try.f3 Rows.fnExactPicturePartsRow.domain false) (Rows.fnExactPicturePartsSpec.post enc Try.prog Try.f3 false true false false) := by
  refine returnsInHanded_of_change_sized (C := Try.checked) own started (by kernel_rfl) Try.func3
    (ChangeSpec.witness6 (enc := enc) (C := Try.checked) false ⟨#[], #[.agg #[.int .i64 0, .int .i64 0, .slice none 0 0, .slice none 0 0], .agg #[.int .i64 0, .bool false, .bool false, .bool false], .slice none 0 0], []⟩ 8 (by kernel_rfl) (by kernel_rfl) (by kernel_rfl) (by kernel_rfl)) ?_
  intro W base args ds gs before hval0 hW hcnd hsz0 _
  have hval : ∀ (j : Nat) t v, Try.f3.params[j]? = some t → args[j]? = some v → Value.okWide Try.prog W .any base t v := hval0
  have hW' := hW
  obtain ⟨p, q, hA0, hV, rfl, hfz, hnd⟩ := hW
  have hA : DataW.TrodAll enc Try.prog W 0 (fun _ => true) true Try.f3.params.toList args.toList ds p := hA0
  rw [Try.params3] at hA hval
  obtain ⟨v0, vs0, d0, ds0, p0, q0, hargs, rfl, rfl, h0, r0⟩ := trodAll_cons hA
  obtain ⟨v1, vs1, d1, ds1, p1, q1, rfl, rfl, rfl, h1, r1⟩ := trodAll_cons r0
  obtain ⟨v2, vs2, d2, ds2, p2, q2, rfl, rfl, rfl, h2, r2⟩ := trodAll_cons r1
  obtain ⟨rfl, rfl, rfl⟩ := trodAll_nil r2
  obtain rfl : args = #[v0, v1, v2] := by cases args; simp_all
  obtain ⟨rfl, rfl⟩ := trodVars_none hV
  obtain ⟨cs0, rfl, hcs0⟩ := okWide_struct Try.underlying24 (hval 0 24 v0 rfl rfl)
  have k0 := h0
  have lt0 : ∀ x ∈ p0, x.block < W.heap.size := by obtain ⟨m, hm⟩ := k0; exact DataW.trod_lt m _ _ _ hm
  obtain ⟨x0, hK0, hw0⟩ : ∃ x, k24.K W x cs0.toList ∧ Wf24 x := by obtain ⟨m, hm⟩ := h0; exact opens24.2 _ _ _ _ _ _ m _ _ hm
  obtain ⟨A0_0, c0_0, A0_1, c0_1, he0, hl0_0, hC0_0, hl0_1, hC0_1⟩ := k24_open hK0
  obtain rfl : cs0 = #[.int .i64 x0.f0, .int .i64 x0.f1, .slice A0_0 x0.f2.length c0_0, .slice A0_1 x0.f3.length c0_1] := by cases cs0; simpa using he0
  obtain ⟨cs1, rfl, hcs1⟩ := okWide_struct Try.underlying26 (hval 1 26 v1 rfl rfl)
  have k1 := h1
  have lt1 : ∀ x ∈ p1, x.block < W.heap.size := by obtain ⟨m, hm⟩ := k1; exact DataW.trod_lt m _ _ _ hm
  obtain ⟨x1, hK1, hw1⟩ : ∃ x, k26.K W x cs1.toList ∧ Wf26 x := by obtain ⟨m, hm⟩ := h1; exact opens26.2 _ _ _ _ _ _ m _ _ hm
  have he1 := k26_open hK1
  obtain rfl : cs1 = #[.int .i64 x1.f0, .bool x1.f1, .bool x1.f2, .bool x1.f3] := by cases cs1; simpa using he1
  obtain ⟨a2, len2, cap2, rfl⟩ := okWide_slice Try.underlying27 (hval 2 27 v2 rfl rfl)
  have k2 := h2
  have lt2 : ∀ x ∈ p2, x.block < W.heap.size := by obtain ⟨m, hm⟩ := k2; exact DataW.trod_lt m _ _ _ hm
  obtain ⟨l2, ⟨A2, c2, he2, hl2, hC2⟩, hw2⟩ : ∃ x, (Kd.slice 9 Kd.string).K W x [.slice a2 len2 cap2] ∧ (x.length ≤ maxLen ∧ ∀ y0_ ∈ x, y0_.size ≤ maxLen) := by obtain ⟨m, hm⟩ := h2; exact (opens_slice Try.underlying27 (by kernel_rfl) (opens_string Try.underlying9 (by kernel_rfl))).2 _ _ _ _ _ _ m _ _ hm
  injection he2 with he2 _
  injection he2 with e1_ e2_ e3_
  subst e1_ e2_ e3_
  clear hA0 hval0 hsz0
  obtain ⟨k, hk⟩ := Pure.FnExactPictureParts x0 x1 l2 hw0 hw1 hw2
  refine (laws_FnExactPictureParts.calls k x0.f0 x0.f1 A0_0 c0_0 x0.f2 A0_1 c0_1 x0.f3 x1.f0 x1.f1 x1.f2 x1.f3 _ _ l2 true W hC0_0 hl0_0 hC0_1 hl0_1 hC2 hl2 rfl hk).mono fun e W' ⟨he, hd⟩ => ?_
  have bel : Below W.heap.size W W' := hd
  subst he
  exact ⟨_, rfl, _, _, _, [], _, [], hW', trodAll_mk1 (shut_bool Try.underlying4 _), (trodAll_cons_mk (Below.trod laidOut (by kernel_rfl) (of_decide_eq_true (by kernel_rfl)) k0 bel lt0) (trodAll_cons_mk (Below.trod laidOut (by kernel_rfl) (of_decide_eq_true (by kernel_rfl)) k1 bel lt1) (trodAll_cons_mk (Below.trod laidOut (by kernel_rfl) (of_decide_eq_true (by kernel_rfl)) k2 bel lt2) trodAll_mk0))), rfl, bel.frame _, fun h => by cases h⟩
theorem jf0 : (Rows.fnExactPicturePartsRow.wf (OpenSpec.ofChange Rows.fnExactPicturePartsSpec)) = true := by kernel_rfl
theorem jf1 : (laidOutB Try.checked.prog) = true := by kernel_rfl
theorem jf2 : (mapsRowed Try.checked.prog) = true := by kernel_rfl
theorem jf3 : (Try.f3.params.all (Try.checked.prog.readableRec ·)) = true := by kernel_rfl
theorem jf4 : (namedTie Try.checked.prog Rows.fnExactPicturePartsRow.named Rows.fnExactPicturePartsSpec.vars) = true := by kernel_rfl
theorem jf5 : ((Rows.fnExactPicturePartsRow.stops == [])) = true := by kernel_rfl
theorem jf6 : ((Try.checked.prog.stops == [])) = true := by kernel_rfl
theorem jf7 : ((Rows.fnExactPicturePartsRow.knobs == [])) = true := by kernel_rfl
theorem jf8 : ((Try.checked.prog.stopKnobs == [])) = true := by kernel_rfl
theorem jf9 : ((Rows.fnExactPicturePartsRow.inPlace == Try.checked.prog.inPlace (3 : FuncId))) = true := by kernel_rfl
theorem jf10 : ((Rows.fnExactPicturePartsRow.unfollowed == Try.checked.prog.unfollowed (3 : FuncId))) = true := by kernel_rfl
theorem jf11 : ((Rows.fnExactPicturePartsRow.recurses == Try.checked.prog.recurses (3 : FuncId))) = true := by kernel_rfl
theorem jf12 : ((Rows.fnExactPicturePartsRow.named == Try.checked.prog.varsNamed (3 : FuncId))) = true := by kernel_rfl
theorem jf13 : ((Rows.fnExactPicturePartsRow.maps == (Try.f3.params.toList ++ Rows.fnExactPicturePartsSpec.plain.varTypes Try.checked.prog).any (Try.checked.prog.mapsRec ·))) = true := by kernel_rfl
theorem jf14 : ((Rows.fnExactPicturePartsRow.ifaces == (Try.f3.params.toList ++ Rows.fnExactPicturePartsSpec.plain.varTypes Try.checked.prog).any (Try.checked.prog.ifacesRec ·))) = true := by kernel_rfl
theorem jf15 : ((Rows.fnExactPicturePartsRow.mapsOut == Try.checked.prog.mapsAmong Try.f3.resultTypes.toList)) = true := by kernel_rfl
theorem jf16 : ((Rows.fnExactPicturePartsRow.loops == (Try.f3.params.toList ++ Rows.fnExactPicturePartsSpec.plain.varTypes Try.checked.prog).any (Try.checked.prog.loopsFrom ·))) = true := by kernel_rfl
theorem jf17 : ((Rows.fnExactPicturePartsRow.wideKeys == (Try.f3.params.toList ++ Rows.fnExactPicturePartsSpec.plain.varTypes Try.checked.prog ++ Try.f3.resultTypes.toList).any (Try.checked.prog.wideKeysFrom ·))) = true := by kernel_rfl
theorem jf18 : (Rows.fnExactPicturePartsSpec.vars.all (Try.checked.prog.varReadable ·)) = true := by kernel_rfl
theorem jf19 : (Try.f3.resultTypes.all (fun t => Try.checked.prog.readableRec t && decide (t < Try.checked.prog.types.size))) = true := by kernel_rfl
theorem jf20 : ((Rows.fnExactPicturePartsRow.ifacesOut == Try.f3.resultTypes.toList.any (Try.checked.prog.ifacesRec ·))) = true := by kernel_rfl
theorem jf21 : ((Rows.fnExactPicturePartsRow.loopsOut == Try.f3.resultTypes.toList.any (Try.checked.prog.loopsFrom ·))) = true := by kernel_rfl
theorem jf22 : ((Rows.fnExactPicturePartsRow.plainKeys == Try.checked.prog.plainKeys)) = true := by kernel_rfl
theorem jf23 : (Rows.fnExactPicturePartsRow.shortTexts.isNone) = true := by kernel_rfl
theorem jf24 : (Try.checked.prog.stopsHeard) = true := by kernel_rfl
theorem jf25 : (Try.checked.prog.mayEnter) = true := by kernel_rfl
theorem jf26 : ((Rows.fnExactPicturePartsRow.lifted == Try.checked.prog.liftsFinal)) = true := by kernel_rfl
theorem jf27 : ((Try.checked.prog.make == some Rows.fnExactPicturePartsRow.make)) = true := by kernel_rfl
theorem jf28 : ((Rows.fnExactPicturePartsRow.kinds == (if Rows.fnExactPicturePartsRow.domain.isEmpty then [] else Try.f3.params.toList.map fun t => match Try.checked.prog.underlying t with | some (.int k) => some k | _ => none))) = true := by kernel_rfl
theorem jf29 : ((Rows.fnExactPicturePartsRow.pinned == Rows.fnExactPicturePartsRow.pinnedBy)) = true := by kernel_rfl
theorem jf30 : ((Rows.fnExactPicturePartsRow.veiled == (Try.f3.params.toList ++ Rows.fnExactPicturePartsSpec.plain.varTypes Try.checked.prog ++ Try.f3.resultTypes.toList).any (Try.checked.prog.veiledRec ·))) = true := by kernel_rfl
theorem jf31 : (Rows.fnExactPicturePartsRow.veiledFits Try.checked.prog Try.f3.params.toList (Try.f3.params.toList ++ Rows.fnExactPicturePartsSpec.plain.varTypes Try.checked.prog ++ Try.f3.resultTypes.toList)) = true := by kernel_rfl
set_option maxRecDepth 100000 in
theorem jfs : joinedFacts Try.checked.prog 3 Try.f3 Rows.fnExactPicturePartsSpec Rows.fnExactPicturePartsRow = true := by
  unfold joinedFacts
  exact (Bool.and_eq_true_iff.2 ⟨(Bool.and_eq_true_iff.2 ⟨(Bool.and_eq_true_iff.2 ⟨(Bool.and_eq_true_iff.2 ⟨(Bool.and_eq_true_iff.2 ⟨(Bool.and_eq_true_iff.2 ⟨(Bool.and_eq_true_iff.2 ⟨(Bool.and_eq_true_iff.2 ⟨(Bool.and_eq_true_iff.2 ⟨(Bool.and_eq_true_iff.2 ⟨(Bool.and_eq_true_iff.2 ⟨(Bool.and_eq_true_iff.2 ⟨(Bool.and_eq_true_iff.2 ⟨(Bool.and_eq_true_iff.2 ⟨(Bool.and_eq_true_iff.2 ⟨(Bool.and_eq_true_iff.2 ⟨(Bool.and_eq_true_iff.2 ⟨(Bool.and_eq_true_iff.2 ⟨(Bool.and_eq_true_iff.2 ⟨(Bool.and_eq_true_iff.2 ⟨(Bool.and_eq_true_iff.2 ⟨(Bool.and_eq_true_iff.2 ⟨(Bool.and_eq_true_iff.2 ⟨(Bool.and_eq_true_iff.2 ⟨(Bool.and_eq_true_iff.2 ⟨(Bool.and_eq_true_iff.2 ⟨(Bool.and_eq_true_iff.2 ⟨(Bool.and_eq_true_iff.2 ⟨(Bool.and_eq_true_iff.2 ⟨(Bool.and_eq_true_iff.2 ⟨(Bool.and_eq_true_iff.2 ⟨jf0, jf1⟩), jf2⟩), jf3⟩), jf4⟩), jf5⟩), jf6⟩), jf7⟩), jf8⟩), jf9⟩), jf10⟩), jf11⟩), jf12⟩), jf13⟩), jf14⟩), jf15⟩), jf16⟩), jf17⟩), jf18⟩), jf19⟩), jf20⟩), jf21⟩), jf22⟩), jf23⟩), jf24⟩), jf25⟩), jf26⟩), jf27⟩), jf28⟩), jf29⟩), jf30⟩), jf31⟩)
theorem jfn : Try.checked.prog.funcNamed Rows.fnExactPicturePartsRow.func = some (3 : FuncId) := by kernel_rfl
theorem over : Rows.fnExactPicturePartsRow.holds Try.pinned (OpenSpec.ofChange Rows.fnExactPicturePartsSpec) :=
  OpenClaim.holds_of_wide 3 Try.f3 rfl rfl rfl rfl rfl rfl rfl ⟨rfl, rfl, rfl, rfl, rfl⟩ rfl rfl rfl rfl rfl jfn Try.func3 jfs
    (of_decide_eq_true (by kernel_rfl)) (by unfold Func.isWrapper; first | (rw [if_pos (by decide +kernel)]; kernel_rfl) | (rw [if_neg (by decide +kernel)]; exact ⟨rfl, rfl⟩))
    (fun os started H enc _ => lifted os started H enc)
theorem proved : Rows.FnExactPicturePartsSaid := over
end Go.Proofs.Ytbjambmdononiaa.fnExactPictureParts
namespace Go.Proofs.Ytbjambmdononiaa
/-- The row, under a short name, for the claim. -/
theorem fnExactPictureParts_holds : Rows.FnExactPicturePartsSaid := fnExactPictureParts.proved
end Go.Proofs.Ytbjambmdononiaa
