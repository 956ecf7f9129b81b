/- The law BernOwn returns true whatever its arguments are, and its arguments read as before; lists may be as long as any that fits the memory. Conditions: those of the given statement alone. -/
import Derived.Test.YtjmfgoemdkfldaaDoorB5
import Derived.Test.YtjmfgoemdkfldaaDoorTie
import Derived.Test.YtjmfgoemdkfldaaDoorCards
set_option linter.unusedSimpArgs false
set_option linter.unusedVariables false
namespace Go.Proofs.YtjmfgoemdkfldaaDoor
open Go Go.ChangeShapes Go.WideShapes Go.ChangeAt Go.RowKit Go.Am Go.Am.Bern
set_option maxRecDepth 100000 in
theorem lifted (os : Os) (started : os.Started) (H : Type) (enc : TypeId × Value -> H) :
   ReturnsInHanded {} Tryd.checked os 9 .any (fun w args => (Rows.bernOwnSpec.pre enc Tryd.prog Tryd.f9 [] false w args /\ laidMetH Tryd.prog laidW w) /\ sizedMet enc Tryd.prog Tryd.f9 (OpenSpec.ofChange Rows.bernOwnSpec) false w args)
     (Rows.bernOwnSpec.post enc Tryd.prog Tryd.f9 false true false false) := by
 refine returnsInHanded_of_change_and (C := Tryd.checked) (X := fun w _ => laidMetH Tryd.prog laidW w) (fun _ _ _ hh h => h.of_heap hh) own started (by kernel_rfl) (show Tryd.checked.prog.funcs[9]? = some Tryd.f9 from by kernel_rfl)
   (ChangeSpec.witness_shaped (enc := enc) (C := Tryd.checked) (os := os) (X := fun w _ => laidMetH Tryd.prog laidW w) false (World.doorLaid Tryd.prog 400 os) #[.slice none 0 0, .slice none 0 0] 8 rfl (World.shaped_of_RefB (by kernel_rfl) (by kernel_rfl)) (by kernel_rfl) (by kernel_rfl) (by kernel_rfl) (door_met os _)) ?_
 intro W base args ds gs before hval0 hW _ hwt0 hL _
 have hval : ∀ (j : Nat) t v, #[22, 25][j]? = some t -> args[j]? = some v -> Value.okWide Tryd.prog W .any base t v := hval0
 have hW' := hW
 obtain ⟨p, q, hA0, hV, rfl, hfz, hnd⟩ := hW
 have hA : DataW.TrodAll enc Tryd.prog W 0 (fun _ => true) true [22, 25] args.toList ds p := hA0
 obtain ⟨v0, vs0, d0, ds0, p0, q0, hargs, rfl, rfl, h0, r0⟩ := trodAll_cons hA
 obtain ⟨v1, vs1, d1, ds1, p1, q1, rfl, rfl, rfl, h1, r1⟩ := trodAll_cons r0
 obtain ⟨rfl, rfl, rfl⟩ := trodAll_nil r1
 obtain rfl : args = #[v0, v1] := by cases args; simp_all
 obtain ⟨rfl, rfl⟩ := trodVars_none hV
 have hwt : (DataW.weightsEach Tryd.prog [22, 25] [d0, d1]).all (· <= reachBytes) = true := hwt0
 simp only [DataW.weightsEach, List.append_nil, List.all_append, Bool.and_eq_true] at hwt
 obtain ⟨g0, g1⟩ := hwt
 have lt0 : ∀ x ∈ p0, x.block < W.heap.size := by obtain ⟨m, hm⟩ := h0; exact DataW.trod_lt m _ _ _ hm
 obtain ⟨x0, c0, e0, s0⟩ := arg_of (E := ⟨fun _ => 0, fun _ => 0⟩) (I := fun _ => none) (r := .any) (b0 := base) (t := (.sl I64)) tyOk22 (reach_le g0) (hval 0 22 v0 rfl rfl) h0
 have b0 : List.length x0 < 1000000000000000 := Nat.lt_of_le_of_lt (CD.sl_len c0) (by decide)
 have lt1 : ∀ x ∈ p1, x.block < W.heap.size := by obtain ⟨m, hm⟩ := h1; exact DataW.trod_lt m _ _ _ hm
 obtain ⟨x1, c1, e1, s1⟩ := arg_of (E := ⟨fun _ => 0, fun _ => 0⟩) (I := fun _ => none) (r := .any) (b0 := base) (t := (.sl Q2)) tyOk25 (reach_le g1) (hval 1 25 v1 rfl rfl) h1
 have b1 : List.length x1 < 1000000000000000 := Nat.lt_of_le_of_lt (CD.sl_len c1) (by decide)
 clear hA0 hval0
 refine (law_run (f := 9) (vs := [v0, v1]) (VRs.mk e0 s0 (VRs.mk e1 s1 VRs.mk0)) (glob_of hL) (call9 x0 x1 ⟨b0, b1⟩)).mono fun e W' ⟨he, bel⟩ => ?_
 subst he
 exact ⟨_, rfl, _, _, _, [], _, [], hW', trodAll_mk1 (shut_bool u4 _), trodAll_cons_mk (Below.trod laidOut (by kernel_rfl) (of_decide_eq_true (by kernel_rfl)) h0 bel lt0) (trodAll_cons_mk (Below.trod laidOut (by kernel_rfl) (of_decide_eq_true (by kernel_rfl)) h1 bel lt1) (trodAll_mk0)), rfl, bel.frame _, fun h => by cases h⟩
theorem over : Rows.BernOwnSaid :=
 OpenClaim.holds_of_wide 9 Tryd.f9 rfl rfl rfl rfl rfl rfl rfl ⟨rfl, rfl, rfl, rfl, rfl⟩ rfl rfl rfl rfl rfl (by kernel_rfl) (show Tryd.checked.prog.funcs[9]? = some Tryd.f9 from by kernel_rfl) (by kernel_rfl)
   (of_decide_eq_true (by kernel_rfl)) (by unfold Func.isWrapper; first | (rw [if_pos (by decide +kernel)]; kernel_rfl) | (rw [if_neg (by decide +kernel)]; exact ⟨rfl, rfl⟩))
   (fun os started H enc _ => lifted os started H enc)
/-- THE TIED CARD. -/
theorem card : Rows.BernOwnCardSaid :=
 Claim7.holds_tied_plain_at .later [] [.data] true (true, "3819f32a9c9c6e281b534e33fbe8147536c351aaac837b130a42b063caba00ac") false
   over (fun _ h => by cases h) (by kernel_rfl) (fun _ h => by cases h) bernOwn_row_tie rfl ⟨rfl, rfl⟩ (by kernel_rfl) rfl
   (fun f fn hf hfn => by
     obtain rfl : f = 9 := Option.some.inj ((show Tryd.prog.funcNamed "girouette/girouettelaw08.BernOwn" = some 9 by kernel_rfl).symm.trans hf) |>.symm
     obtain rfl : fn = Tryd.f9 := (Option.some.inj ((show Tryd.prog.funcs[9]? = some Tryd.f9 from by kernel_rfl).symm.trans hfn)).symm
     exact ⟨by kernel_rfl, fun j t ht => by
       have ht : #[22, 25][j]? = some t := ht
       have hm : t ∈ [22, 25] := by simpa using Array.mem_of_getElem? ht
       have hall : ([22, 25].all fun u => !Tryd.prog.wantsStandIn u) = true := by kernel_rfl
       exact (show Tryd.prog.wantsStandIn t = false by simpa using List.all_eq_true.1 hall t hm)⟩)
   (by kernel_rfl)
#print axioms card
end Go.Proofs.YtjmfgoemdkfldaaDoor
