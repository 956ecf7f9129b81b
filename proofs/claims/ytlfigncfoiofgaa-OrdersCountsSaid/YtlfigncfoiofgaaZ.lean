/- The law OrdersCounts returns true whatever its arguments are, and its arguments read as before; lists may be as long as any that fits the memory. Conditions: those of the given statement alone. -/
import Derived.Test.YtlfigncfoiofgaaB4
set_option linter.unusedSimpArgs false
set_option linter.unusedVariables false
namespace Go.Proofs.Ytlfigncfoiofgaa
open Go Go.ChangeShapes Go.WideShapes Go.ChangeAt Go.RowKit Go.Am Go.Am.Or
set_option maxRecDepth 100000 in
theorem lifted (os : Os) (started : os.Started) (H : Type) (enc : TypeId × Value → H) :
   ReturnsInHanded {} Try.checked os 3 .any (Rows.ordersCountsSpec.pre6 enc Try.prog Try.f3 Rows.ordersCountsRow.domain false) (Rows.ordersCountsSpec.post enc Try.prog Try.f3 false true false false) := by
 refine returnsInHanded_of_change_sized (C := Try.checked) own started (by kernel_rfl) (show Try.checked.prog.funcs[3]? = some Try.f3 from by kernel_rfl)
   (ChangeSpec.witness6 (enc := enc) (C := Try.checked) false ⟨#[], #[.int .i64 0, .slice none 0 0], []⟩ 8 (by kernel_rfl) (by kernel_rfl) (by kernel_rfl) (by kernel_rfl)) ?_
 intro W base args ds gs before hval0 hW _ hwt0 _
 have hval : ∀ (j : Nat) t v, #[3, 22][j]? = some t → args[j]? = some v → Value.okWide Try.prog W .any base t v := hval0
 have hW' := hW
 obtain ⟨p, q, hA0, hV, rfl, hfz, hnd⟩ := hW
 have hA : DataW.TrodAll enc Try.prog W 0 (fun _ => true) true [3, 22] args.toList ds p := hA0
 obtain ⟨v0, vs0, d0, ds0, p0, q0, hargs, rfl, rfl, h0, r0⟩ := trodAll_cons hA
 obtain ⟨v1, vs1, d1, ds1, p1, q1, rfl, rfl, rfl, h1, r1⟩ := trodAll_cons r0
 obtain ⟨rfl, rfl, rfl⟩ := trodAll_nil r1
 obtain rfl : args = #[v0, v1] := by cases args; simp_all
 obtain ⟨rfl, rfl⟩ := trodVars_none hV
 have hwt : (DataW.weightsEach Try.prog [3, 22] [d0, d1]).all (· ≤ reachBytes) = true := hwt0
 simp only [DataW.weightsEach, List.append_nil, List.all_append, Bool.and_eq_true] at hwt
 obtain ⟨g0, g1⟩ := hwt
 have lt0 : ∀ x ∈ p0, x.block < W.heap.size := by obtain ⟨m, hm⟩ := h0; exact DataW.trod_lt m _ _ _ hm
 obtain ⟨x0, c0, e0, s0⟩ := arg_of (E := ⟨fun _ => 0, fun _ => 0⟩) (I := fun _ => none) (r := .any) (b0 := base) (t := I64) tyOk3 (reach_le g0) (hval 0 3 v0 rfl rfl) h0
 have lt1 : ∀ x ∈ p1, x.block < W.heap.size := by obtain ⟨m, hm⟩ := h1; exact DataW.trod_lt m _ _ _ hm
 obtain ⟨x1, c1, e1, s1⟩ := arg_of (E := ⟨fun _ => 0, fun _ => 0⟩) (I := fun _ => none) (r := .any) (b0 := base) (t := (.sl P2)) tyOk22 (reach_le g1) (hval 1 22 v1 rfl rfl) h1
 have b1 : List.length x1 < 1000000000000000 := Nat.lt_of_le_of_lt (CD.sl_len c1) (by decide)
 clear hA0 hval0
 refine (law_run (f := 3) (vs := [v0, v1]) (VRs.mk e0 s0 (VRs.mk e1 s1 VRs.mk0)) glob_of (call3 x0 x1 b1)).mono fun e W' ⟨he, bel⟩ => ?_
 subst he
 exact ⟨_, rfl, _, _, _, [], _, [], hW', trodAll_mk1 (shut_bool u4 _), trodAll_cons_mk (Below.trod laidOut (by kernel_rfl) (of_decide_eq_true (by kernel_rfl)) h0 bel lt0) (trodAll_cons_mk (Below.trod laidOut (by kernel_rfl) (of_decide_eq_true (by kernel_rfl)) h1 bel lt1) (trodAll_mk0)), rfl, bel.frame _, fun h => by cases h⟩
theorem over : Rows.OrdersCountsSaid :=
 OpenClaim.holds_of_wide 3 Try.f3 rfl rfl rfl rfl rfl rfl rfl ⟨rfl, rfl, rfl, rfl, rfl⟩ rfl rfl rfl rfl rfl (by kernel_rfl) (show Try.checked.prog.funcs[3]? = some Try.f3 from by kernel_rfl) (by kernel_rfl)
   (of_decide_eq_true (by kernel_rfl)) (by unfold Func.isWrapper; first | (rw [if_pos (by decide +kernel)]; kernel_rfl) | (rw [if_neg (by decide +kernel)]; exact ⟨rfl, rfl⟩))
   (fun os started H enc _ => lifted os started H enc)
#print axioms over
end Go.Proofs.Ytlfigncfoiofgaa
