/- The row of the statement FnExactWriteBatch, out of its pure statement and the walked contract. Conditions: none beyond the row's own. -/
import Derived.Test.YtpdpipfkllfhmaaRows
import Derived.Test.YtpdpipfkllfhmaaVWriteBatchOpens
import Derived.Test.YtpdpipfkllfhmaaQFnExactWriteBatchx14
import Derived.Test.YtpdpipfkllfhmaaPureFnExactWriteBatch
import Derived.WalkKit
import Derived.ProofKit
import Derived.OpenShut
import Derived.ShutString
import Derived.ChangeOld
import Derived.Below
import Derived.SizedLaws
namespace Go.Proofs.Ytpdpipfkllfhmaa.fnExactWriteBatch
open Go.ChangeShapes Go.WideShapes Go.ChangeAt Go.RowKit
open Go.ChangeMaps (open_string shut_string)
open Go.Proofs.Ytpdpipfkllfhmaa Go.Proofs.Ytpdpipfkllfhmaa.QFnExactWriteBatch
set_option linter.unusedVariables false
theorem own : ownKnob Try.prog.godebug = none := by kernel_rfl
theorem laidOut : laidOutB Try.prog = true := by kernel_rfl
theorem opens100 : Opens.Opens Try.prog 100 k100 ok100 := Opens.opens_struct Try.underlying100 (by kernel_rfl) (fun x : S100 => (x.f0, x.f1)) (fun a => ⟨a.1, a.2⟩) (fun _ => rfl) (Opens.opensF_cons rfl (by kernel_rfl) (Opens.opens_string Try.underlying9) (Opens.opensF_one rfl (by kernel_rfl) (Opens.opens_int Try.underlying3)))
theorem opens24 : Opens.Opens Try.prog 24 k24 ok24 := Opens.opens_struct Try.underlying24 (by kernel_rfl) (fun x : S24 => x.f0) (fun a => ⟨a⟩) (fun _ => rfl) (Opens.opensF_one rfl (by kernel_rfl) (Opens.opens_slice Try.underlying22 (by kernel_rfl) opens100))
theorem opens40 : Opens.Opens Try.prog 40 k40 ok40 := Opens.opens_struct Try.underlying40 (by kernel_rfl) (fun x : S40 => (x.f0, x.f1, x.f2, x.f3, x.f4)) (fun a => ⟨a.1, a.2.1, a.2.2.1, a.2.2.2.1, a.2.2.2.2⟩) (fun _ => rfl) (Opens.opensF_cons rfl (by kernel_rfl) (Opens.opens_int Try.underlying3) (Opens.opensF_cons rfl (by kernel_rfl) (Opens.opens_int Try.underlying3) (Opens.opensF_cons rfl (by kernel_rfl) (Opens.opens_int Try.underlying3) (Opens.opensF_cons rfl (by kernel_rfl) (Opens.opens_int Try.underlying3) (Opens.opensF_one rfl (by kernel_rfl) (Opens.opens_slice Try.underlying38 (by kernel_rfl) (Opens.opens_string Try.underlying9)))))))
set_option maxRecDepth 100000 in
theorem lifted (os : Os) (started : os.Started) (H : Type) (enc : TypeId × Value → H) :
    ReturnsInHanded {} Try.checked os 4 .any (Rows.fnExactWriteBatchSpec.pre6 enc Try.prog Try.f4 Rows.fnExactWriteBatchRow.domain false) (Rows.fnExactWriteBatchSpec.post enc Try.prog Try.f4 false true false false) := by
  refine returnsInHanded_of_change_sized (C := Try.checked) own started (by kernel_rfl) Try.func4
    (ChangeSpec.witness6 (enc := enc) (C := Try.checked) false ⟨#[], #[(.agg #[(.slice none 0 0)]), .int .i64 0, (.agg #[(.int .i64 0), (.int .i64 0), (.int .i64 0), (.int .i64 0), (.slice none 0 0)])], []⟩ 8 (by kernel_rfl) (by kernel_rfl) (by kernel_rfl) (by kernel_rfl)) ?_
  intro W base args ds gs before hval0 hW hcnd hsz0 _
  have hval : ∀ (j : Nat) t v, Try.f4.params[j]? = some t → args[j]? = some v → Value.okWide Try.prog W .any base t v := hval0
  have hW' := hW
  obtain ⟨p, q, hA0, hV, rfl, hfz, hnd⟩ := hW
  have hA : DataW.TrodAll enc Try.prog W 0 (fun _ => true) true Try.f4.params.toList args.toList ds p := hA0
  rw [Try.params4] at hA hval
  obtain ⟨v0, vs0, d0, ds0, p0, q0, hargs, rfl, rfl, h0, r0⟩ := trodAll_cons hA
  obtain ⟨v1, vs1, d1, ds1, p1, q1, rfl, rfl, rfl, h1, r1⟩ := trodAll_cons r0
  obtain ⟨v2, vs2, d2, ds2, p2, q2, rfl, rfl, rfl, h2, r2⟩ := trodAll_cons r1
  obtain ⟨rfl, rfl, rfl⟩ := trodAll_nil r2
  obtain rfl : args = #[v0, v1, v2] := by cases args; simp_all
  obtain ⟨rfl, rfl⟩ := trodVars_none hV
  obtain ⟨cs0, rfl, _⟩ := okWide_struct Try.underlying24 (hval 0 24 v0 rfl rfl)
  have k0_ := h0
  have lt0 : ∀ x ∈ p0, x.block < W.heap.size := by obtain ⟨m, hm⟩ := k0_; exact DataW.trod_lt m _ _ _ hm
  obtain ⟨fuel0, hf0⟩ := h0
  obtain ⟨x0, hk0, ok0_⟩ := opens24 _ _ _ _ _ _ _ _ hf0
  obtain ⟨A0_0, c0_0, hcs0, hc0_0, hr0_0⟩ := k24_open hk0
  obtain rfl := Opens.array_of (cs := cs0) hcs0
  obtain ⟨a1, rfl, rfl, rfl, w1⟩ := open_int Try.underlying3 (hval 1 3 v1 rfl rfl) h1
  obtain ⟨cs2, rfl, _⟩ := okWide_struct Try.underlying40 (hval 2 40 v2 rfl rfl)
  have k2_ := h2
  have lt2 : ∀ x ∈ p2, x.block < W.heap.size := by obtain ⟨m, hm⟩ := k2_; exact DataW.trod_lt m _ _ _ hm
  obtain ⟨fuel2, hf2⟩ := h2
  obtain ⟨x2, hk2, ok2_⟩ := opens40 _ _ _ _ _ _ _ _ hf2
  obtain ⟨A2_4, c2_4, hcs2, hc2_4, hr2_4⟩ := k40_open hk2
  obtain rfl := Opens.array_of (cs := cs2) hcs2
  clear hA0 hval0 hsz0
  obtain ⟨k, hp⟩ := Pure.FnExactWriteBatch x0 a1 x2 ok0_ w1 ok2_
  refine (laws_FnExactWriteBatch.calls k _ _ x0.f0 a1 x2.f0 x2.f1 x2.f2 x2.f3 _ _ x2.f4 true W hr0_0 hc0_0 hr2_4 hc2_4 hp).mono ?_
  rintro e W' ⟨rfl, bel0⟩
  have bel : Below W.heap.size W W' := bel0
  exact ⟨_, rfl, _, _, _, [], _, [], hW', trodAll_mk1 (shut_bool Try.underlying4 _), (trodAll_cons_mk (Below.trod laidOut (by kernel_rfl) (of_decide_eq_true (by kernel_rfl)) k0_ bel lt0) (trodAll_cons_mk (shut_int Try.underlying3 w1) (trodAll_cons_mk (Below.trod laidOut (by kernel_rfl) (of_decide_eq_true (by kernel_rfl)) k2_ bel lt2) trodAll_mk0))), rfl, bel.frame _, fun h => by cases h⟩
theorem over : Rows.fnExactWriteBatchRow.holds Try.pinned (OpenSpec.ofChange Rows.fnExactWriteBatchSpec) :=
  OpenClaim.holds_of_wide 4 Try.f4 rfl rfl rfl rfl rfl rfl rfl ⟨rfl, rfl, rfl, rfl, rfl⟩ rfl rfl rfl rfl rfl (by kernel_rfl) Try.func4 (by kernel_rfl)
    (of_decide_eq_true (by kernel_rfl)) (by unfold Func.isWrapper; first | (rw [if_pos (by decide +kernel)]; kernel_rfl) | (rw [if_neg (by decide +kernel)]; exact ⟨rfl, rfl⟩))
    (fun os started H enc _ => lifted os started H enc)
theorem proved : Rows.FnExactWriteBatchSaid := over
#print axioms proved
end Go.Proofs.Ytpdpipfkllfhmaa.fnExactWriteBatch
namespace Go.Proofs.Ytpdpipfkllfhmaa
/-- The row, under a short name, for the claim. -/
theorem fnExactWriteBatch_holds : Rows.FnExactWriteBatchSaid := fnExactWriteBatch.proved
end Go.Proofs.Ytpdpipfkllfhmaa
