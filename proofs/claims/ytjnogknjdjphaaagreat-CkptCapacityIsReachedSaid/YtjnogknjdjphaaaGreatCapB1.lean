/- The law CkptCapacityIsReached holds of every input: the call returns true and leaves its arguments as they were. -/
import Derived.Test.YtjnogknjdjphaaaGreatBaseCB5
import Derived.Test.YtjnogknjdjphaaaGreatRows
set_option linter.unusedVariables false
set_option linter.unusedSimpArgs false
/- The law CkptCapacityIsReached holds of every input: the call returns true and leaves its arguments as they were. -/
namespace Go.Proofs.YtjnogknjdjphaaaGreat.ckptCapacityIsReached
open Go.ChangeShapes Go.WideShapes Go.ChangeAt Go.RowKit
open Go.ChangeMaps (open_string shut_string)
set_option maxRecDepth 100000
set_option maxHeartbeats 4000000
theorem own : ownKnob Tryz.prog.godebug = none := by kernel_rfl
theorem laidOut : laidOutB Tryz.prog = true := by kernel_rfl
theorem lifted (os : Os) (started : os.Started) (H : Type) (enc : TypeId × Value → H) :
    ReturnsInHanded {} Tryz.checked os 6 .any (Rows.ckptCapacityIsReachedSpec.pre6 enc Tryz.prog Tryz.f6 Rows.ckptCapacityIsReachedRow.domain false) (Rows.ckptCapacityIsReachedSpec.post enc Tryz.prog Tryz.f6 false true false false) := by
  refine returnsInHanded_of_change_sized (C := Tryz.checked) own started (by kernel_rfl) Tryz.func6
    (ChangeSpec.witness6 (enc := enc) (C := Tryz.checked) false ⟨#[], #[.agg #[.int .i64 0, .int .i64 0, .int .i64 0, .int .i64 0, .int .i64 0, .int .i64 0], .int .u8 0], []⟩ 8 (by kernel_rfl) (by kernel_rfl) (by kernel_rfl) (by kernel_rfl)) ?_
  intro W base args ds gs before hval0 hW hcnd hsz0 _
  have hsz : (DataW.weightsEach Tryz.prog (Tryz.f6.params.toList ++ Rows.ckptCapacityIsReachedSpec.plain.varTypes Tryz.prog) (ds ++ gs)).all (· ≤ reachBytes) = true := hsz0
  have hval : ∀ (j : Nat) t v, Tryz.f6.params[j]? = some t → args[j]? = some v → Value.okWide Tryz.prog W .any base t v := hval0
  have hW' := hW
  obtain ⟨p, q, hA0, hV, rfl, hfz, hnd⟩ := hW
  have hA : DataW.TrodAll enc Tryz.prog W 0 (fun _ => true) true Tryz.f6.params.toList args.toList ds p := hA0
  rw [Tryz.params6] at hA hval hsz
  obtain ⟨v0, vs0, d0, ds0, p0, q0, hargs, rfl, rfl, h0, r0⟩ := trodAll_cons hA
  obtain ⟨v1, vs1, d1, ds1, p1, q1, rfl, rfl, rfl, h1, r1⟩ := trodAll_cons r0
  obtain ⟨rfl, rfl, rfl⟩ := trodAll_nil r1
  obtain rfl : args = #[v0, v1] := by cases args; simp_all
  obtain ⟨rfl, rfl⟩ := trodVars_none hV
  have k0 := h0
  have lt0 : ∀ x ∈ p0, x.block < W.heap.size := by obtain ⟨m, hm⟩ := k0; exact DataW.trod_lt m _ _ _ hm
  obtain ⟨a0, rfl⟩ := Dn.open_cfgF Tryz.underlying31 (by kernel_rfl) (by kernel_rfl) (hval 0 31 v0 rfl rfl) h0
  obtain ⟨a1, rfl, rfl, rfl, w1⟩ := open_int Tryz.underlying5 (hval 1 5 v1 rfl rfl) h1
  obtain ⟨u1, rfl⟩ := Dn.byte_of w1
  clear hA0 hval0 hsz0 hsz
  refine Calls.mono (Dn.calls_of (W := W) (law_capacity a0 u1 ) trivial) fun e W' ⟨he, bel⟩ => ?_
  subst he
  exact ⟨_, rfl, _, _, _, [], _, [], hW', trodAll_mk1 (shut_bool Tryz.underlying4 _), (trodAll_cons_mk (Below.trod laidOut (by kernel_rfl) (of_decide_eq_true (by kernel_rfl)) k0 bel lt0) (trodAll_cons_mk (shut_int Tryz.underlying5 w1) trodAll_mk0)), rfl, bel.frame _, fun h => by cases h⟩
theorem closed : joinedFacts Tryz.prog 6 Tryz.f6 Rows.ckptCapacityIsReachedSpec Rows.ckptCapacityIsReachedRow = true := by
  unfold joinedFacts
  repeat' (rw [Bool.and_eq_true]; constructor)
  all_goals as_aux_lemma => kernel_rfl
theorem over : Rows.ckptCapacityIsReachedRow.holds Tryz.pinned (OpenSpec.ofChange Rows.ckptCapacityIsReachedSpec) :=
  OpenClaim.holds_of_wide 6 Tryz.f6 rfl rfl rfl rfl rfl rfl rfl ⟨rfl, rfl, rfl, rfl, rfl⟩ rfl rfl rfl rfl rfl (by as_aux_lemma => kernel_rfl) Tryz.func6 closed
    (of_decide_eq_true (by as_aux_lemma => kernel_rfl)) (by as_aux_lemma => unfold Func.isWrapper; first | (rw [if_pos (by decide +kernel)]; kernel_rfl) | (rw [if_neg (by decide +kernel)]; exact ⟨rfl, rfl⟩))
    (fun os started H enc _ => lifted os started H enc)
theorem proved : Rows.CkptCapacityIsReachedSaid := over
end Go.Proofs.YtjnogknjdjphaaaGreat.ckptCapacityIsReached
namespace Go.Proofs.YtjnogknjdjphaaaGreat
/-- The row, under a short name, for the claim. -/
theorem ckptCapacityIsReached_holds : Rows.CkptCapacityIsReachedSaid := ckptCapacityIsReached.proved
#print axioms ckptCapacityIsReached_holds
end Go.Proofs.YtjnogknjdjphaaaGreat
