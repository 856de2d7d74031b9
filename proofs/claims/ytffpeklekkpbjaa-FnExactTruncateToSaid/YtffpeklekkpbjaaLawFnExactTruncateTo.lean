/- The row of the statement FnExactTruncateTo, out of its pure statement and the walked contract. Conditions: none beyond the row's own. -/
import Derived.Test.YtffpeklekkpbjaaRows
import Derived.Test.YtffpeklekkpbjaaVTruncateToOpens
import Derived.Test.YtffpeklekkpbjaaQFnExactTruncateTox26
import Derived.Test.YtffpeklekkpbjaaPureFnExactTruncateTo
import Derived.WalkKit
import Derived.ProofKit
import Derived.OpenShut
import Derived.ShutString
import Derived.ChangeOld
import Derived.Below
import Derived.SizedLaws
namespace Go.Proofs.Ytffpeklekkpbjaa.fnExactTruncateTo
open Go.ChangeShapes Go.WideShapes Go.ChangeAt Go.RowKit
open Go.ChangeMaps (open_string shut_string)
open Go.Proofs.Ytffpeklekkpbjaa Go.Proofs.Ytffpeklekkpbjaa.QFnExactTruncateTo
set_option linter.unusedVariables false
theorem own : ownKnob Try.prog.godebug = none := by kernel_rfl
theorem laidOut : laidOutB Try.prog = true := by kernel_rfl
theorem opens140 : Opens.Opens Try.prog 140 k140 ok140 := Opens.opens_struct Try.underlying140 (by kernel_rfl) (fun x : S140 => (x.f0, x.f1)) (fun a => ⟨a.1, a.2⟩) (fun _ => rfl) (Opens.opensF_cons rfl (by kernel_rfl) (Opens.opens_int Try.underlying3) (Opens.opensF_one rfl (by kernel_rfl) (Opens.opens_int Try.underlying3)))
theorem opens117 : Opens.Opens Try.prog 117 k117 ok117 := Opens.opens_struct Try.underlying117 (by kernel_rfl) (fun x : S117 => (x.f0, x.f1, x.f2)) (fun a => ⟨a.1, a.2.1, a.2.2⟩) (fun _ => rfl) (Opens.opensF_cons rfl (by kernel_rfl) (Opens.opens_int Try.underlying3) (Opens.opensF_cons rfl (by kernel_rfl) (Opens.opens_string Try.underlying9) (Opens.opensF_one rfl (by kernel_rfl) (Opens.opens_slice Try.underlying115 (by kernel_rfl) opens140))))
theorem opens32 : Opens.Opens Try.prog 32 k32 ok32 := Opens.opens_struct Try.underlying32 (by kernel_rfl) (fun x : S32 => (x.f0, x.f1)) (fun a => ⟨a.1, a.2⟩) (fun _ => rfl) (Opens.opensF_cons rfl (by kernel_rfl) (Opens.opens_slice Try.underlying30 (by kernel_rfl) opens117) (Opens.opensF_one rfl (by kernel_rfl) (Opens.opens_int Try.underlying3)))
set_option maxRecDepth 100000 in
theorem lifted (os : Os) (started : os.Started) (H : Type) (enc : TypeId × Value → H) :
    ReturnsInHanded {} Try.checked os 7 .any (Rows.fnExactTruncateToSpec.pre6 enc Try.prog Try.f7 Rows.fnExactTruncateToRow.domain false) (Rows.fnExactTruncateToSpec.post enc Try.prog Try.f7 false true false false) := by
  refine returnsInHanded_of_change_sized (C := Try.checked) own started (by kernel_rfl) Try.func7
    (ChangeSpec.witness6 (enc := enc) (C := Try.checked) false ⟨#[], #[(.agg #[(.slice none 0 0), (.int .i64 0)]), .int .i64 0], []⟩ 8 (by kernel_rfl) (by kernel_rfl) (by kernel_rfl) (by kernel_rfl)) ?_
  intro W base args ds gs before hval0 hW hcnd hsz0 _
  have hval : ∀ (j : Nat) t v, Try.f7.params[j]? = some t → args[j]? = some v → Value.okWide Try.prog W .any base t v := hval0
  have hW' := hW
  obtain ⟨p, q, hA0, hV, rfl, hfz, hnd⟩ := hW
  have hA : DataW.TrodAll enc Try.prog W 0 (fun _ => true) true Try.f7.params.toList args.toList ds p := hA0
  rw [Try.params7] at hA hval
  obtain ⟨v0, vs0, d0, ds0, p0, q0, hargs, rfl, rfl, h0, r0⟩ := trodAll_cons hA
  obtain ⟨v1, vs1, d1, ds1, p1, q1, rfl, rfl, rfl, h1, r1⟩ := trodAll_cons r0
  obtain ⟨rfl, rfl, rfl⟩ := trodAll_nil r1
  obtain rfl : args = #[v0, v1] := by cases args; simp_all
  obtain ⟨rfl, rfl⟩ := trodVars_none hV
  obtain ⟨cs0, rfl, _⟩ := okWide_struct Try.underlying32 (hval 0 32 v0 rfl rfl)
  have k0_ := h0
  have lt0 : ∀ x ∈ p0, x.block < W.heap.size := by obtain ⟨m, hm⟩ := k0_; exact DataW.trod_lt m _ _ _ hm
  obtain ⟨fuel0, hf0⟩ := h0
  obtain ⟨x0, hk0, ok0_⟩ := opens32 _ _ _ _ _ _ _ _ hf0
  obtain ⟨A0_0, c0_0, hcs0, hc0_0, hr0_0⟩ := k32_open hk0
  obtain rfl := Opens.array_of (cs := cs0) hcs0
  obtain ⟨a1, rfl, rfl, rfl, w1⟩ := open_int Try.underlying3 (hval 1 3 v1 rfl rfl) h1
  clear hA0 hval0 hsz0
  obtain ⟨k, hp⟩ := Pure.FnExactTruncateTo x0 a1 ok0_ w1
  refine (laws_FnExactTruncateTo.calls k _ _ x0.f0 x0.f1 a1 true W hr0_0 hc0_0 hp).mono ?_
  rintro e W' ⟨rfl, bel0⟩
  have bel : Below W.heap.size W W' := bel0
  exact ⟨_, rfl, _, _, _, [], _, [], hW', trodAll_mk1 (shut_bool Try.underlying4 _), (trodAll_cons_mk (Below.trod laidOut (by kernel_rfl) (of_decide_eq_true (by kernel_rfl)) k0_ bel lt0) (trodAll_cons_mk (shut_int Try.underlying3 w1) trodAll_mk0)), rfl, bel.frame _, fun h => by cases h⟩
theorem over : Rows.fnExactTruncateToRow.holds Try.pinned (OpenSpec.ofChange Rows.fnExactTruncateToSpec) :=
  OpenClaim.holds_of_wide 7 Try.f7 rfl rfl rfl rfl rfl rfl rfl ⟨rfl, rfl, rfl, rfl, rfl⟩ rfl rfl rfl rfl rfl (by kernel_rfl) Try.func7 (by kernel_rfl)
    (of_decide_eq_true (by kernel_rfl)) (by unfold Func.isWrapper; first | (rw [if_pos (by decide +kernel)]; kernel_rfl) | (rw [if_neg (by decide +kernel)]; exact ⟨rfl, rfl⟩))
    (fun os started H enc _ => lifted os started H enc)
theorem proved : Rows.FnExactTruncateToSaid := over
#print axioms proved
end Go.Proofs.Ytffpeklekkpbjaa.fnExactTruncateTo
namespace Go.Proofs.Ytffpeklekkpbjaa
/-- The row, under a short name, for the claim. -/
theorem fnExactTruncateTo_holds : Rows.FnExactTruncateToSaid := fnExactTruncateTo.proved
end Go.Proofs.Ytffpeklekkpbjaa
