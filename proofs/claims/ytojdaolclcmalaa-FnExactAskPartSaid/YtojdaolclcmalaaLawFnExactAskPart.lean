/- The row of the statement FnExactAskPart, out of its pure statement and the walked contract. Conditions: none beyond the row's own. -/
import Derived.Test.YtojdaolclcmalaaRows
import Derived.Test.YtojdaolclcmalaaVAskPartOpens
import Derived.Test.YtojdaolclcmalaaQFnExactAskPartx20
import Derived.Test.YtojdaolclcmalaaPureFnExactAskPart
import Derived.WalkKit
import Derived.ProofKit
import Derived.OpenShut
import Derived.ShutString
import Derived.ChangeOld
import Derived.Below
import Derived.SizedLaws
namespace Go.Proofs.Ytojdaolclcmalaa.fnExactAskPart
open Go.ChangeShapes Go.WideShapes Go.ChangeAt Go.RowKit
open Go.ChangeMaps (open_string shut_string)
open Go.Proofs.Ytojdaolclcmalaa Go.Proofs.Ytojdaolclcmalaa.QFnExactAskPart
set_option linter.unusedVariables false
theorem own : ownKnob Try.prog.godebug = none := by kernel_rfl
theorem laidOut : laidOutB Try.prog = true := by kernel_rfl
theorem opens128 : Opens.Opens Try.prog 128 k128 ok128 := Opens.opens_struct Try.underlying128 (by kernel_rfl) (fun x : S128 => (x.f0, x.f1, x.f2)) (fun a => ⟨a.1, a.2.1, a.2.2⟩) (fun _ => rfl) (Opens.opensF_cons rfl (by kernel_rfl) (Opens.opens_int Try.underlying3) (Opens.opensF_cons rfl (by kernel_rfl) (Opens.opens_int Try.underlying3) (Opens.opensF_one rfl (by kernel_rfl) (Opens.opens_int Try.underlying3))))
theorem opens105 : Opens.Opens Try.prog 105 k105 ok105 := Opens.opens_struct Try.underlying105 (by kernel_rfl) (fun x : S105 => (x.f0, x.f1, x.f2, x.f3)) (fun a => ⟨a.1, a.2.1, a.2.2.1, a.2.2.2⟩) (fun _ => rfl) (Opens.opensF_cons rfl (by kernel_rfl) (Opens.opens_int Try.underlying3) (Opens.opensF_cons rfl (by kernel_rfl) (Opens.opens_int Try.underlying3) (Opens.opensF_cons rfl (by kernel_rfl) (Opens.opens_int Try.underlying3) (Opens.opensF_one rfl (by kernel_rfl) (Opens.opens_slice Try.underlying103 (by kernel_rfl) opens128)))))
theorem opens99 : Opens.Opens Try.prog 99 k99 ok99 := Opens.opens_struct Try.underlying99 (by kernel_rfl) (fun x : S99 => (x.f0, x.f1, x.f2, x.f3, x.f4)) (fun a => ⟨a.1, a.2.1, a.2.2.1, a.2.2.2.1, a.2.2.2.2⟩) (fun _ => rfl) (Opens.opensF_cons rfl (by kernel_rfl) (Opens.opens_int Try.underlying3) (Opens.opensF_cons rfl (by kernel_rfl) (Opens.opens_int Try.underlying3) (Opens.opensF_cons rfl (by kernel_rfl) (Opens.opens_int Try.underlying3) (Opens.opensF_cons rfl (by kernel_rfl) (Opens.opens_int Try.underlying3) (Opens.opensF_one rfl (by kernel_rfl) (Opens.opens_slice Try.underlying27 (by kernel_rfl) (Opens.opens_string Try.underlying9)))))))
theorem opens25 : Opens.Opens Try.prog 25 k25 ok25 := Opens.opens_struct Try.underlying25 (by kernel_rfl) (fun x : S25 => (x.f0, x.f1, x.f2)) (fun a => ⟨a.1, a.2.1, a.2.2⟩) (fun _ => rfl) (Opens.opensF_cons rfl (by kernel_rfl) (Opens.opens_slice Try.underlying22 (by kernel_rfl) opens105) (Opens.opensF_cons rfl (by kernel_rfl) (Opens.opens_slice Try.underlying23 (by kernel_rfl) opens99) (Opens.opensF_one rfl (by kernel_rfl) (Opens.opens_int Try.underlying3))))
theorem opens53 : Opens.Opens Try.prog 53 k53 ok53 := Opens.opens_struct Try.underlying53 (by kernel_rfl) (fun x : S53 => (x.f0, x.f1, x.f2, x.f3)) (fun a => ⟨a.1, a.2.1, a.2.2.1, a.2.2.2⟩) (fun _ => rfl) (Opens.opensF_cons rfl (by kernel_rfl) (Opens.opens_int Try.underlying3) (Opens.opensF_cons rfl (by kernel_rfl) (Opens.opens_int Try.underlying3) (Opens.opensF_cons rfl (by kernel_rfl) (Opens.opens_int Try.underlying3) (Opens.opensF_one rfl (by kernel_rfl) (Opens.opens_slice Try.underlying27 (by kernel_rfl) (Opens.opens_string Try.underlying9))))))
set_option maxRecDepth 100000 in
theorem lifted (os : Os) (started : os.Started) (H : Type) (enc : TypeId × Value → H) :
    ReturnsInHanded {} Try.checked os 5 .any (Rows.fnExactAskPartSpec.pre6 enc Try.prog Try.f5 Rows.fnExactAskPartRow.domain false) (Rows.fnExactAskPartSpec.post enc Try.prog Try.f5 false true false false) := by
  refine returnsInHanded_of_change_sized (C := Try.checked) own started (by kernel_rfl) Try.func5
    (ChangeSpec.witness6 (enc := enc) (C := Try.checked) false ⟨#[], #[(.agg #[(.slice none 0 0), (.slice none 0 0), (.int .i64 0)]), (.agg #[(.int .i64 0), (.int .i64 0), (.int .i64 0), (.slice none 0 0)])], []⟩ 8 (by kernel_rfl) (by kernel_rfl) (by kernel_rfl) (by kernel_rfl)) ?_
  intro W base args ds gs before hval0 hW hcnd hsz0 _
  have hval : ∀ (j : Nat) t v, Try.f5.params[j]? = some t → args[j]? = some v → Value.okWide Try.prog W .any base t v := hval0
  have hW' := hW
  obtain ⟨p, q, hA0, hV, rfl, hfz, hnd⟩ := hW
  have hA : DataW.TrodAll enc Try.prog W 0 (fun _ => true) true Try.f5.params.toList args.toList ds p := hA0
  rw [Try.params5] at hA hval
  obtain ⟨v0, vs0, d0, ds0, p0, q0, hargs, rfl, rfl, h0, r0⟩ := trodAll_cons hA
  obtain ⟨v1, vs1, d1, ds1, p1, q1, rfl, rfl, rfl, h1, r1⟩ := trodAll_cons r0
  obtain ⟨rfl, rfl, rfl⟩ := trodAll_nil r1
  obtain rfl : args = #[v0, v1] := by cases args; simp_all
  obtain ⟨rfl, rfl⟩ := trodVars_none hV
  obtain ⟨cs0, rfl, _⟩ := okWide_struct Try.underlying25 (hval 0 25 v0 rfl rfl)
  have k0_ := h0
  have lt0 : ∀ x ∈ p0, x.block < W.heap.size := by obtain ⟨m, hm⟩ := k0_; exact DataW.trod_lt m _ _ _ hm
  obtain ⟨fuel0, hf0⟩ := h0
  obtain ⟨x0, hk0, ok0_⟩ := opens25 _ _ _ _ _ _ _ _ hf0
  obtain ⟨A0_0, c0_0, A0_1, c0_1, hcs0, hc0_0, hr0_0, hc0_1, hr0_1⟩ := k25_open hk0
  obtain rfl := Opens.array_of (cs := cs0) hcs0
  obtain ⟨cs1, rfl, _⟩ := okWide_struct Try.underlying53 (hval 1 53 v1 rfl rfl)
  have k1_ := h1
  have lt1 : ∀ x ∈ p1, x.block < W.heap.size := by obtain ⟨m, hm⟩ := k1_; exact DataW.trod_lt m _ _ _ hm
  obtain ⟨fuel1, hf1⟩ := h1
  obtain ⟨x1, hk1, ok1_⟩ := opens53 _ _ _ _ _ _ _ _ hf1
  obtain ⟨A1_3, c1_3, hcs1, hc1_3, hr1_3⟩ := k53_open hk1
  obtain rfl := Opens.array_of (cs := cs1) hcs1
  clear hA0 hval0 hsz0
  obtain ⟨k, hp⟩ := Pure.FnExactAskPart x0 x1 ok0_ ok1_
  refine (laws_FnExactAskPart.calls k _ _ x0.f0 _ _ x0.f1 x0.f2 x1.f0 x1.f1 x1.f2 _ _ x1.f3 true W hr0_0 hc0_0 hr0_1 hc0_1 hr1_3 hc1_3 hp).mono ?_
  rintro e W' ⟨rfl, bel0⟩
  have bel : Below W.heap.size W W' := bel0
  exact ⟨_, rfl, _, _, _, [], _, [], hW', trodAll_mk1 (shut_bool Try.underlying4 _), (trodAll_cons_mk (Below.trod laidOut (by kernel_rfl) (of_decide_eq_true (by kernel_rfl)) k0_ bel lt0) (trodAll_cons_mk (Below.trod laidOut (by kernel_rfl) (of_decide_eq_true (by kernel_rfl)) k1_ bel lt1) trodAll_mk0)), rfl, bel.frame _, fun h => by cases h⟩
theorem over : Rows.fnExactAskPartRow.holds Try.pinned (OpenSpec.ofChange Rows.fnExactAskPartSpec) :=
  OpenClaim.holds_of_wide 5 Try.f5 rfl rfl rfl rfl rfl rfl rfl ⟨rfl, rfl, rfl, rfl, rfl⟩ rfl rfl rfl rfl rfl (by kernel_rfl) Try.func5 (by kernel_rfl)
    (of_decide_eq_true (by kernel_rfl)) (by unfold Func.isWrapper; first | (rw [if_pos (by decide +kernel)]; kernel_rfl) | (rw [if_neg (by decide +kernel)]; exact ⟨rfl, rfl⟩))
    (fun os started H enc _ => lifted os started H enc)
theorem proved : Rows.FnExactAskPartSaid := over
#print axioms proved
end Go.Proofs.Ytojdaolclcmalaa.fnExactAskPart
namespace Go.Proofs.Ytojdaolclcmalaa
/-- The row, under a short name, for the claim. -/
theorem fnExactAskPart_holds : Rows.FnExactAskPartSaid := fnExactAskPart.proved
end Go.Proofs.Ytojdaolclcmalaa
