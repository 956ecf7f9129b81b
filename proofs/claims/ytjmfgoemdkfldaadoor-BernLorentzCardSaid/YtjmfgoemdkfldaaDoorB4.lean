/- Part B4 of the proof that the law named in the last file returns true at every input and leaves its arguments as they were; no condition of its own. -/
import Derived.Test.YtjmfgoemdkfldaaDoorB3
set_option linter.unusedSimpArgs false
set_option linter.unusedVariables false
/- Bern: the corners on a piece, as the program makes them. -/
namespace Go.Am.Bern
open Go Go.Am Go.Proofs
noncomputable def L69_0 : Code := lp (bodyOf Tryd.f69) 0
noncomputable def L69_2 : Code := lp (bodyOf Tryd.f69) 2
def qb (q : Int × Int) : Ob := .bx (ofD FR q)
def bO (n : Nat) : Ob := .bx (.ar I64 7 (brow n))
noncomputable def X69 (l : EL) : Cy := Xm ([e77, e74, e82, e83] ++ l) 2 (drOf [(20, 9016)])
theorem X69_ok (l : EL) : (X69 l).Ok := Xm_ok _ _ _
/-- The whole: the outer loop. -/
def sz69 (p : List Int) (m : Memo) (_ : Unit) : St := ⟨.ptr 0 0 [] :: .dead :: .dead :: .ptr 2 0 [] :: .dead :: .dead :: .dead :: .int .i64 (p.length - 1 : Int) :: nl :: .ptr 3 0 [] :: dd 27 ++ (.int .i64 p.length :: .int .i64 0 :: dd 55), [cvO p, mmO m, qb (0, 0), bO (p.length - 1)]⟩
def st69 (p : List Int) (m : Memo) (i : Nat) : St := ⟨.ptr 0 0 [] :: .dead :: .dead :: .ptr 2 0 [] :: .dead :: .dead :: .dead :: .int .i64 (p.length - 1 : Int) :: .own 3 0 :: .ptr 4 0 [] :: dd 27 ++ (.int .i64 p.length :: .int .i64 i :: dd 55), [cvO p, mmO m, qb (0, 0), sF ((qs (whole p)).take i), bO (p.length - 1)]⟩
/-- The inner loop: a sum. -/
def jz69 (p : List Int) (m : Memo) (i : Nat) (k : Nat) : St := ⟨.ptr 0 0 [] :: .dead :: .dead :: .ptr 2 0 [] :: .dead :: .dead :: .dead :: .int .i64 (p.length - 1 : Int) :: nl :: .ptr 3 0 [] :: .int .i64 i :: .ptr 4 0 [] :: dd 25 ++ (.int .i64 p.length :: .int .i64 i :: dd 4 ++ (.ar I64 7 (brow i) :: .int .i64 k :: dd 49)), [cvO p, mmO m, qb (0, 0), bO (p.length - 1), bxF (wsum p (p.length - 1) i k)]⟩
def jt69 (p : List Int) (m : Memo) (i : Nat) (k : Nat) : St := ⟨.ptr 0 0 [] :: .dead :: .dead :: .ptr 2 0 [] :: .dead :: .dead :: .dead :: .int .i64 (p.length - 1 : Int) :: .own 3 0 :: .ptr 4 0 [] :: .int .i64 i :: .ptr 5 0 [] :: dd 25 ++ (.int .i64 p.length :: .int .i64 i :: dd 4 ++ (.ar I64 7 (brow i) :: .int .i64 k :: dd 49)), [cvO p, mmO m, qb (0, 0), sF ((qs (whole p)).take i), bO (p.length - 1), bxF (wsum p (p.length - 1) i k)]⟩
def fj69 (p : List Int) (m : Memo) (i : Nat) : List Fam := [⟨Nat, fun k => i = 0 /\ k <= i + 1, jz69 p m i, fun k => i + 1 - k, fun _ _ => none⟩, ⟨Nat, fun k => k <= i + 1, jt69 p m i, fun k => i + 1 - k, fun _ _ => none⟩]
def ej69 (p : List Int) (m : Memo) (i : Nat) : List (List Nat × Ex) := [
 ([0, 3, 7, 8, 9, 11, 37, 38], ⟨2, Unit, fun _ => i = 0, fun _ => ⟨.ptr 0 0 [] :: .dead :: .dead :: .ptr 2 0 [] :: .dead :: .dead :: .dead :: .int .i64 (p.length - 1 : Int) :: nl :: .ptr 3 0 [] :: .dead :: .ptr 4 0 [] :: dd 25 ++ (.int .i64 p.length :: .int .i64 i :: dd 55), [cvO p, mmO m, qb (0, 0), bO (p.length - 1), bxF (wsum p (p.length - 1) i (i + 1))]⟩⟩),
 ([0, 3, 7, 8, 9, 11, 37, 38], ⟨2, Unit, fun _ => True, fun _ => ⟨.ptr 0 0 [] :: .dead :: .dead :: .ptr 2 0 [] :: .dead :: .dead :: .dead :: .int .i64 (p.length - 1 : Int) :: .own 3 0 :: .ptr 4 0 [] :: .dead :: .ptr 5 0 [] :: dd 25 ++ (.int .i64 p.length :: .int .i64 i :: dd 55), [cvO p, mmO m, qb (0, 0), sF ((qs (whole p)).take i), bO (p.length - 1), bxF (wsum p (p.length - 1) i (i + 1))]⟩⟩)]
noncomputable def Hj69 (p : List Int) (m : Memo) (i : Nat) : Nat -> Option Hint := fun _ => some ⟨chks 2 [0, 3, 7, 8, 9, 10, 11, 37, 38, 43, 44] (fj69 p m i), (ej69 p m i).map (·.2)⟩
noncomputable def fm69 (p : List Int) (m : Memo) : List Fam := [⟨Unit, fun _ => True, sz69 p m, fun _ => p.length + 1, fun _ => Hj69 p m 0⟩, ⟨Nat, fun i => i <= p.length, st69 p m, fun i => p.length - i, fun i => Hj69 p m i⟩]
def ex69 (p : List Int) (m : Memo) : List (List Nat × Ex) := [([0, 3, 8], ⟨0, Unit, fun _ => True, fun _ => ⟨.ptr 0 0 [] :: .dead :: .dead :: .ptr 2 0 [] :: .dead :: .dead :: .dead :: .dead :: .own 3 0 :: dd 85, [cvO p, mmO m, qb (0, 0), sF (qs (whole p))]⟩⟩)]
noncomputable def H69 (p : List Int) (m : Memo) : Nat -> Option Hint := fun _ => some ⟨chks 2 [0, 3, 7, 8, 9, 37, 38] (fm69 p m), (ex69 p m).map (·.2)⟩
theorem brow_get0 : ∀ n : Fin 7, ∀ k : Fin 7, (brow n).getD k 0 = ch n k := by decide
theorem brow_get {n k : Nat} (hn : n <= 6) (hk : k <= 6) : (brow n).getD k 0 = ch n k := brow_get0 ⟨n, by omega⟩ ⟨k, by omega⟩
theorem loop69_2 (l : EL) (p : List Int) (m : Memo) (hp : isPoly p) (i : Nat) (hi : i < p.length) (R : Exit -> St -> Prop) : LoopOK (X69 l) L69_2 ⟨chks 2 [0, 3, 7, 8, 9, 10, 11, 37, 38, 43, 44] (fj69 p m i), (ej69 p m i).map (·.2)⟩ R := by
 refine loop_fams (X69_ok l) [0, 3, 7, 8, 9, 10, 11, 37, 38, 43, 44] (fj69 p m i) (ej69 p m i) 90 ⟨fun (k : Nat) hk => ?_, fun (k : Nat) hk => ?_, trivial⟩
 · refine of_eq (q := True /\ ((k : Int) < 7 -> True /\ idxPre (k : Int) (7 : Nat) /\ True /\ True /\ True /\ True /\ True /\ ((i : Int) < (k : Int) -> (∃ (y : Unit), i = 0 /\ (True /\ True /\ (p.length : Int) - 1 = (p.length : Int) - 1 /\ True /\ True /\ True /\ (p.length : Int) = (p.length : Int) /\ (i : Int) = (i : Int) /\ True) /\ (p = p /\ True /\ True) /\ m = m /\ ((0 : Int) = 0 /\ (0 : Int) = 0 /\ True) /\ brow (p.length - 1) = brow (p.length - 1) /\ ((wsum p (p.length - 1) i k).num = (wsum p (p.length - 1) i (i + 1)).num /\ (↑(wsum p (p.length - 1) i k).den : Int) = (↑(wsum p (p.length - 1) i (i + 1)).den : Int) /\ True) /\ True) ∨ ∃ (y : Unit), True /\ (True /\ True /\ (p.length : Int) - 1 = (p.length : Int) - 1 /\ False /\ False /\ False /\ (p.length : Int) = (p.length : Int) /\ (i : Int) = (i : Int) /\ True) /\ (p = p /\ True /\ True) /\ m = m /\ ((0 : Int) = 0 /\ (0 : Int) = 0 /\ True) /\ False /\ False /\ False) /\ (¬(i : Int) < (k : Int) -> True /\ True /\ True /\ True /\ True /\ True /\ idxPre (k : Int) p.length /\ True /\ True /\ inR .i64 (p.getD k (0 : Int) * (brow i).getD k (0 : Int)) /\ True /\ idxPre (k : Int) (7 : Nat) /\ True /\ (small (p.getD k (0 : Int) * (brow i).getD k (0 : Int)) /\ small ((brow (p.length - 1)).getD k (0 : Int)) /\ (0 : Int) < (brow (p.length - 1)).getD k (0 : Int)) /\ (good ((wsum p (p.length - 1) i k).num, (↑(wsum p (p.length - 1) i k).den : Int)) /\ good ((fracR (p.getD k (0 : Int) * (brow i).getD k (0 : Int)) ((brow (p.length - 1)).getD k (0 : Int))).fst, (fracR (p.getD k (0 : Int) * (brow i).getD k (0 : Int)) ((brow (p.length - 1)).getD k (0 : Int))).snd) /\ addOk (rat ((wsum p (p.length - 1) i k).num, (↑(wsum p (p.length - 1) i k).den : Int))) (rat ((fracR (p.getD k (0 : Int) * (brow i).getD k (0 : Int)) ((brow (p.length - 1)).getD k (0 : Int))).fst, (fracR (p.getD k (0 : Int) * (brow i).getD k (0 : Int)) ((brow (p.length - 1)).getD k (0 : Int))).snd))) /\ True /\ inR .i64 ((k : Int) + 1) /\ True /\ ((∃ (y : Nat), ((i = 0 /\ y <= i + 1) /\ i + 1 - y < i + 1 - k) /\ (True /\ True /\ (p.length : Int) - 1 = (p.length : Int) - 1 /\ True /\ True /\ (i : Int) = (i : Int) /\ True /\ (p.length : Int) = (p.length : Int) /\ (i : Int) = (i : Int) /\ brow i = brow i /\ (k : Int) + 1 = (y : Int) /\ True) /\ (p = p /\ True /\ True) /\ m = m /\ ((0 : Int) = 0 /\ (0 : Int) = 0 /\ True) /\ brow (p.length - 1) = brow (p.length - 1) /\ ((rat ((wsum p (p.length - 1) i k).num, (↑(wsum p (p.length - 1) i k).den : Int)) + rat ((fracR (p.getD k (0 : Int) * (brow i).getD k (0 : Int)) ((brow (p.length - 1)).getD k (0 : Int))).fst, (fracR (p.getD k (0 : Int) * (brow i).getD k (0 : Int)) ((brow (p.length - 1)).getD k (0 : Int))).snd)).num = (wsum p (p.length - 1) i y).num /\ (↑(rat ((wsum p (p.length - 1) i k).num, (↑(wsum p (p.length - 1) i k).den : Int)) + rat ((fracR (p.getD k (0 : Int) * (brow i).getD k (0 : Int)) ((brow (p.length - 1)).getD k (0 : Int))).fst, (fracR (p.getD k (0 : Int) * (brow i).getD k (0 : Int)) ((brow (p.length - 1)).getD k (0 : Int))).snd)).den : Int) = (↑(wsum p (p.length - 1) i y).den : Int) /\ True) /\ True) ∨ ∃ (y : Nat), (y <= i + 1 /\ i + 1 - y < i + 1 - k) /\ (True /\ True /\ (p.length : Int) - 1 = (p.length : Int) - 1 /\ False /\ False /\ (i : Int) = (i : Int) /\ False /\ (p.length : Int) = (p.length : Int) /\ (i : Int) = (i : Int) /\ brow i = brow i /\ (k : Int) + 1 = (y : Int) /\ True) /\ (p = p /\ True /\ True) /\ m = m /\ ((0 : Int) = 0 /\ (0 : Int) = 0 /\ True) /\ False /\ False /\ False))) /\ (¬(k : Int) < 7 -> (∃ (y : Unit), i = 0 /\ (True /\ True /\ (p.length : Int) - 1 = (p.length : Int) - 1 /\ True /\ True /\ True /\ (p.length : Int) = (p.length : Int) /\ (i : Int) = (i : Int) /\ True) /\ (p = p /\ True /\ True) /\ m = m /\ ((0 : Int) = 0 /\ (0 : Int) = 0 /\ True) /\ brow (p.length - 1) = brow (p.length - 1) /\ ((wsum p (p.length - 1) i k).num = (wsum p (p.length - 1) i (i + 1)).num /\ (↑(wsum p (p.length - 1) i k).den : Int) = (↑(wsum p (p.length - 1) i (i + 1)).den : Int) /\ True) /\ True) ∨ ∃ (y : Unit), True /\ (True /\ True /\ (p.length : Int) - 1 = (p.length : Int) - 1 /\ False /\ False /\ False /\ (p.length : Int) = (p.length : Int) /\ (i : Int) = (i : Int) /\ True) /\ (p = p /\ True /\ True) /\ m = m /\ ((0 : Int) = 0 /\ (0 : Int) = 0 /\ True) /\ False /\ False /\ False)) (by kernel_rfl) ?_
   simp only [zz]
   unfold isPoly at hp
   have hle : k <= i + 1 := hk.2
   refine ⟨fun h => ⟨idx_nat (by omega), fun h2 => ?_, fun h2 => ?_⟩, fun h => ?_⟩
   · refine ⟨hk.1, ?_⟩; rw [show k = i + 1 by omega]; exact ⟨rfl, rfl⟩
   · have hc := ch_facts (n := p.length - 1) (k := k) (by omega) (by omega)
     have ht := term_num hp.2.2 (i := i) (k := k) (by omega) (by omega)
     rw [brow_get (n := i) (k := k) (by omega) (by omega), brow_get (n := p.length - 1) (k := k) (by omega) (by omega)]
     have hf : fracR (p.getD k 0 * ch i k) (ch (p.length - 1) k) = qp (term p (p.length - 1) i k) := fracR_eq (by omega)
     rw [hf]
     simp only [qp_fst, qp_snd, rat_num_den]
     exact ⟨idx_nat (by omega), by simp only [inR]; omega, idx_nat (by omega), ⟨by unfold small; omega, by unfold small; omega, by omega⟩, ⟨good_nd _, good_nd _, wsum_ok hp.2.2 (by omega) (by omega) (by omega)⟩, by simp only [inR]; omega, k + 1, by omega, by simp, rfl, rfl⟩
   · refine ⟨hk.1, ?_⟩; rw [show k = i + 1 by omega]; exact ⟨rfl, rfl⟩
 · refine of_eq (q := True /\ ((k : Int) < 7 -> True /\ idxPre (k : Int) (7 : Nat) /\ True /\ True /\ True /\ True /\ True /\ ((i : Int) < (k : Int) -> (∃ (y : Unit), i = 0 /\ (True /\ True /\ (p.length : Int) - 1 = (p.length : Int) - 1 /\ False /\ False /\ False /\ (p.length : Int) = (p.length : Int) /\ (i : Int) = (i : Int) /\ True) /\ (p = p /\ True /\ True) /\ m = m /\ ((0 : Int) = 0 /\ (0 : Int) = 0 /\ True) /\ False /\ False /\ True) ∨ ∃ (y : Unit), True /\ (True /\ True /\ (p.length : Int) - 1 = (p.length : Int) - 1 /\ True /\ True /\ True /\ (p.length : Int) = (p.length : Int) /\ (i : Int) = (i : Int) /\ True) /\ (p = p /\ True /\ True) /\ m = m /\ ((0 : Int) = 0 /\ (0 : Int) = 0 /\ True) /\ List.take i (qs (whole p)) = List.take i (qs (whole p)) /\ brow (p.length - 1) = brow (p.length - 1) /\ ((wsum p (p.length - 1) i k).num = (wsum p (p.length - 1) i (i + 1)).num /\ (↑(wsum p (p.length - 1) i k).den : Int) = (↑(wsum p (p.length - 1) i (i + 1)).den : Int) /\ True) /\ True) /\ (¬(i : Int) < (k : Int) -> True /\ True /\ True /\ True /\ True /\ True /\ idxPre (k : Int) p.length /\ True /\ True /\ inR .i64 (p.getD k (0 : Int) * (brow i).getD k (0 : Int)) /\ True /\ idxPre (k : Int) (7 : Nat) /\ True /\ (small (p.getD k (0 : Int) * (brow i).getD k (0 : Int)) /\ small ((brow (p.length - 1)).getD k (0 : Int)) /\ (0 : Int) < (brow (p.length - 1)).getD k (0 : Int)) /\ (good ((wsum p (p.length - 1) i k).num, (↑(wsum p (p.length - 1) i k).den : Int)) /\ good ((fracR (p.getD k (0 : Int) * (brow i).getD k (0 : Int)) ((brow (p.length - 1)).getD k (0 : Int))).fst, (fracR (p.getD k (0 : Int) * (brow i).getD k (0 : Int)) ((brow (p.length - 1)).getD k (0 : Int))).snd) /\ addOk (rat ((wsum p (p.length - 1) i k).num, (↑(wsum p (p.length - 1) i k).den : Int))) (rat ((fracR (p.getD k (0 : Int) * (brow i).getD k (0 : Int)) ((brow (p.length - 1)).getD k (0 : Int))).fst, (fracR (p.getD k (0 : Int) * (brow i).getD k (0 : Int)) ((brow (p.length - 1)).getD k (0 : Int))).snd))) /\ True /\ inR .i64 ((k : Int) + 1) /\ True /\ ((∃ (y : Nat), ((i = 0 /\ y <= i + 1) /\ i + 1 - y < i + 1 - k) /\ (True /\ True /\ (p.length : Int) - 1 = (p.length : Int) - 1 /\ False /\ False /\ (i : Int) = (i : Int) /\ False /\ (p.length : Int) = (p.length : Int) /\ (i : Int) = (i : Int) /\ brow i = brow i /\ (k : Int) + 1 = (y : Int) /\ True) /\ (p = p /\ True /\ True) /\ m = m /\ ((0 : Int) = 0 /\ (0 : Int) = 0 /\ True) /\ False /\ False /\ True) ∨ ∃ (y : Nat), (y <= i + 1 /\ i + 1 - y < i + 1 - k) /\ (True /\ True /\ (p.length : Int) - 1 = (p.length : Int) - 1 /\ True /\ True /\ (i : Int) = (i : Int) /\ True /\ (p.length : Int) = (p.length : Int) /\ (i : Int) = (i : Int) /\ brow i = brow i /\ (k : Int) + 1 = (y : Int) /\ True) /\ (p = p /\ True /\ True) /\ m = m /\ ((0 : Int) = 0 /\ (0 : Int) = 0 /\ True) /\ List.take i (qs (whole p)) = List.take i (qs (whole p)) /\ brow (p.length - 1) = brow (p.length - 1) /\ ((rat ((wsum p (p.length - 1) i k).num, (↑(wsum p (p.length - 1) i k).den : Int)) + rat ((fracR (p.getD k (0 : Int) * (brow i).getD k (0 : Int)) ((brow (p.length - 1)).getD k (0 : Int))).fst, (fracR (p.getD k (0 : Int) * (brow i).getD k (0 : Int)) ((brow (p.length - 1)).getD k (0 : Int))).snd)).num = (wsum p (p.length - 1) i y).num /\ (↑(rat ((wsum p (p.length - 1) i k).num, (↑(wsum p (p.length - 1) i k).den : Int)) + rat ((fracR (p.getD k (0 : Int) * (brow i).getD k (0 : Int)) ((brow (p.length - 1)).getD k (0 : Int))).fst, (fracR (p.getD k (0 : Int) * (brow i).getD k (0 : Int)) ((brow (p.length - 1)).getD k (0 : Int))).snd)).den : Int) = (↑(wsum p (p.length - 1) i y).den : Int) /\ True) /\ True))) /\ (¬(k : Int) < 7 -> (∃ (y : Unit), i = 0 /\ (True /\ True /\ (p.length : Int) - 1 = (p.length : Int) - 1 /\ False /\ False /\ False /\ (p.length : Int) = (p.length : Int) /\ (i : Int) = (i : Int) /\ True) /\ (p = p /\ True /\ True) /\ m = m /\ ((0 : Int) = 0 /\ (0 : Int) = 0 /\ True) /\ False /\ False /\ True) ∨ ∃ (y : Unit), True /\ (True /\ True /\ (p.length : Int) - 1 = (p.length : Int) - 1 /\ True /\ True /\ True /\ (p.length : Int) = (p.length : Int) /\ (i : Int) = (i : Int) /\ True) /\ (p = p /\ True /\ True) /\ m = m /\ ((0 : Int) = 0 /\ (0 : Int) = 0 /\ True) /\ List.take i (qs (whole p)) = List.take i (qs (whole p)) /\ brow (p.length - 1) = brow (p.length - 1) /\ ((wsum p (p.length - 1) i k).num = (wsum p (p.length - 1) i (i + 1)).num /\ (↑(wsum p (p.length - 1) i k).den : Int) = (↑(wsum p (p.length - 1) i (i + 1)).den : Int) /\ True) /\ True)) (by kernel_rfl) ?_
   simp only [zz]
   unfold isPoly at hp
   have hle : k <= i + 1 := hk
   refine ⟨fun h => ⟨idx_nat (by omega), fun h2 => ?_, fun h2 => ?_⟩, fun h => ?_⟩
   · rw [show k = i + 1 by omega]; exact ⟨rfl, rfl⟩
   · have hc := ch_facts (n := p.length - 1) (k := k) (by omega) (by omega)
     have ht := term_num hp.2.2 (i := i) (k := k) (by omega) (by omega)
     rw [brow_get (n := i) (k := k) (by omega) (by omega), brow_get (n := p.length - 1) (k := k) (by omega) (by omega)]
     have hf : fracR (p.getD k 0 * ch i k) (ch (p.length - 1) k) = qp (term p (p.length - 1) i k) := fracR_eq (by omega)
     rw [hf]
     simp only [qp_fst, qp_snd, rat_num_den]
     exact ⟨idx_nat (by omega), by simp only [inR]; omega, idx_nat (by omega), ⟨by unfold small; omega, by unfold small; omega, by omega⟩, ⟨good_nd _, good_nd _, wsum_ok hp.2.2 (by omega) (by omega) (by omega)⟩, by simp only [inR]; omega, k + 1, by omega, by simp, rfl, rfl⟩
   · rw [show k = i + 1 by omega]; exact ⟨rfl, rfl⟩
theorem loop69 (l : EL) (p : List Int) (m : Memo) (hp : isPoly p) (R : Exit -> St -> Prop) : LoopOK (X69 l) L69_0 ⟨chks 2 [0, 3, 7, 8, 9, 37, 38] (fm69 p m), (ex69 p m).map (·.2)⟩ R := by
 refine loop_fams (X69_ok l) [0, 3, 7, 8, 9, 37, 38] (fm69 p m) (ex69 p m) 90 ⟨fun _ _ => ?_, fun (i : Nat) hi => ?_, trivial⟩
 · have h0 : 0 < p.length := hp.1
   have hL := loop69_2 l p m hp 0 h0
   refine of_eq (q := True /\ ((0 : Int) < (p.length : Int) -> True /\ True /\ True /\ True /\ True /\ True /\ (((0 : Int) <= 0 /\ (0 : Int) <= 6) /\ True) /\ True /\ LoopOK (X69 l) L69_2 { J := chks (2 : Nat) [(0 : Nat), (3 : Nat), (7 : Nat), (8 : Nat), (9 : Nat), (10 : Nat), (11 : Nat), (37 : Nat), (38 : Nat), (43 : Nat), (44 : Nat)] (fj69 p m (0 : Nat)), exits := List.map (fun (x : List Nat × Ex) => x.snd) (ej69 p m (0 : Nat)) } (bodyR (X69 l).m0 (ex69 p m) R) /\ ((∃ (y : Nat), ((0 : Nat) = 0 /\ y <= 1) /\ (True /\ True /\ (p.length : Int) - 1 = (p.length : Int) - 1 /\ True /\ True /\ (0 : Int) = 0 /\ True /\ (p.length : Int) = (p.length : Int) /\ (0 : Int) = 0 /\ brow (0 : Nat) = brow (0 : Nat) /\ (0 : Int) = (y : Int) /\ True) /\ (p = p /\ True /\ True) /\ m = m /\ ((0 : Int) = 0 /\ (0 : Int) = 0 /\ True) /\ brow (p.length - 1) = brow (p.length - 1) /\ ((0 : Int) = (wsum p (p.length - 1) (0 : Nat) y).num /\ (1 : Int) = (↑(wsum p (p.length - 1) (0 : Nat) y).den : Int) /\ True) /\ True) ∨ ∃ (y : Nat), y <= 1 /\ (True /\ True /\ (p.length : Int) - 1 = (p.length : Int) - 1 /\ False /\ False /\ (0 : Int) = 0 /\ False /\ (p.length : Int) = (p.length : Int) /\ (0 : Int) = 0 /\ brow (0 : Nat) = brow (0 : Nat) /\ (0 : Int) = (y : Int) /\ True) /\ (p = p /\ True /\ True) /\ m = m /\ ((0 : Int) = 0 /\ (0 : Int) = 0 /\ True) /\ False /\ False /\ False) /\ (∀ (y : Unit), (0 : Nat) = 0 -> True /\ True /\ True /\ sumPre (0 : Nat) [((wsum p (p.length - 1) (0 : Nat) (1 : Nat)).num, (↑(wsum p (p.length - 1) (0 : Nat) (1 : Nat)).den : Int))].length (nat_lit 16) /\ True /\ inR .i64 (1 : Int) /\ True /\ ((∃ (y : Unit), (True /\ p.length + 1 < p.length + 1) /\ (True /\ True /\ (p.length : Int) - 1 = (p.length : Int) - 1 /\ False /\ False /\ (p.length : Int) = (p.length : Int) /\ (1 : Int) = 0 /\ True) /\ (p = p /\ True /\ True) /\ m = m /\ ((0 : Int) = 0 /\ (0 : Int) = 0 /\ True) /\ False /\ True) ∨ ∃ (y : Nat), (y <= p.length /\ p.length - y < p.length + 1) /\ (True /\ True /\ (p.length : Int) - 1 = (p.length : Int) - 1 /\ True /\ True /\ (p.length : Int) = (p.length : Int) /\ (1 : Int) = (y : Int) /\ True) /\ (p = p /\ True /\ True) /\ m = m /\ ((0 : Int) = 0 /\ (0 : Int) = 0 /\ True) /\ [((wsum p (p.length - 1) (0 : Nat) (1 : Nat)).num, (↑(wsum p (p.length - 1) (0 : Nat) (1 : Nat)).den : Int))] = List.take y (qs (whole p)) /\ brow (p.length - 1) = brow (p.length - 1) /\ True)) /\ (∀ (y : Unit), True -> True /\ True /\ True /\ sumPre ([] : List Int).length [((wsum p (p.length - 1) (0 : Nat) (1 : Nat)).num, (↑(wsum p (p.length - 1) (0 : Nat) (1 : Nat)).den : Int))].length (nat_lit 16) /\ True /\ inR .i64 (1 : Int) /\ True /\ ((∃ (y : Unit), (True /\ p.length + 1 < p.length + 1) /\ (True /\ True /\ (p.length : Int) - 1 = (p.length : Int) - 1 /\ False /\ False /\ (p.length : Int) = (p.length : Int) /\ (1 : Int) = 0 /\ True) /\ (p = p /\ True /\ True) /\ m = m /\ ((0 : Int) = 0 /\ (0 : Int) = 0 /\ True) /\ False /\ True) ∨ ∃ (y : Nat), (y <= p.length /\ p.length - y < p.length + 1) /\ (True /\ True /\ (p.length : Int) - 1 = (p.length : Int) - 1 /\ True /\ True /\ (p.length : Int) = (p.length : Int) /\ (1 : Int) = (y : Int) /\ True) /\ (p = p /\ True /\ True) /\ m = m /\ ((0 : Int) = 0 /\ (0 : Int) = 0 /\ True) /\ [] ++ [((wsum p (p.length - 1) (0 : Nat) (1 : Nat)).num, (↑(wsum p (p.length - 1) (0 : Nat) (1 : Nat)).den : Int))] = List.take y (qs (whole p)) /\ brow (p.length - 1) = brow (p.length - 1) /\ True)) /\ True) /\ (¬(0 : Int) < (p.length : Int) -> ∃ (y : Unit), True /\ (True /\ True /\ False /\ True) /\ (p = p /\ True /\ True) /\ m = m /\ ((0 : Int) = 0 /\ (0 : Int) = 0 /\ True) /\ False)) (by kernel_rfl) ?_
   simp only [zz]
   unfold isPoly at hp
   have hs := whole_take h0
   simp only [Nat.zero_add, List.take_zero, List.nil_append] at hs
   refine ⟨fun _ => ⟨by omega, hL _, ⟨0, by omega, rfl, rfl, rfl⟩, fun _ _ => ⟨by unfold sumPre; simp, by simp only [inR]; omega, 1, by omega, rfl, hs.symm⟩, fun _ _ => ⟨by unfold sumPre; simp, by simp only [inR]; omega, 1, by omega, rfl, hs.symm⟩⟩, fun h => h (by omega)⟩
 · have hL := loop69_2 l p m hp i
   refine of_eq (q := True /\ ((i : Int) < (p.length : Int) -> True /\ True /\ True /\ True /\ True /\ True /\ (((0 : Int) <= (i : Int) /\ (i : Int) <= 6) /\ True) /\ True /\ LoopOK (X69 l) L69_2 { J := chks (2 : Nat) [(0 : Nat), (3 : Nat), (7 : Nat), (8 : Nat), (9 : Nat), (10 : Nat), (11 : Nat), (37 : Nat), (38 : Nat), (43 : Nat), (44 : Nat)] (fj69 p m i), exits := List.map (fun (x : List Nat × Ex) => x.snd) (ej69 p m i) } (bodyR (X69 l).m0 (ex69 p m) R) /\ ((∃ (y : Nat), (i = 0 /\ y <= i + 1) /\ (True /\ True /\ (p.length : Int) - 1 = (p.length : Int) - 1 /\ False /\ False /\ (i : Int) = (i : Int) /\ False /\ (p.length : Int) = (p.length : Int) /\ (i : Int) = (i : Int) /\ brow i = brow i /\ (0 : Int) = (y : Int) /\ True) /\ (p = p /\ True /\ True) /\ m = m /\ ((0 : Int) = 0 /\ (0 : Int) = 0 /\ True) /\ False /\ False /\ True) ∨ ∃ (y : Nat), y <= i + 1 /\ (True /\ True /\ (p.length : Int) - 1 = (p.length : Int) - 1 /\ True /\ True /\ (i : Int) = (i : Int) /\ True /\ (p.length : Int) = (p.length : Int) /\ (i : Int) = (i : Int) /\ brow i = brow i /\ (0 : Int) = (y : Int) /\ True) /\ (p = p /\ True /\ True) /\ m = m /\ ((0 : Int) = 0 /\ (0 : Int) = 0 /\ True) /\ List.take i (qs (whole p)) = List.take i (qs (whole p)) /\ brow (p.length - 1) = brow (p.length - 1) /\ ((0 : Int) = (wsum p (p.length - 1) i y).num /\ (1 : Int) = (↑(wsum p (p.length - 1) i y).den : Int) /\ True) /\ True) /\ (∀ (y : Unit), i = 0 -> True /\ True /\ True /\ sumPre (0 : Nat) [((wsum p (p.length - 1) i (i + 1)).num, (↑(wsum p (p.length - 1) i (i + 1)).den : Int))].length (nat_lit 16) /\ True /\ inR .i64 ((i : Int) + 1) /\ True /\ ((∃ (y : Unit), (True /\ p.length + 1 < p.length - i) /\ (True /\ True /\ (p.length : Int) - 1 = (p.length : Int) - 1 /\ False /\ False /\ (p.length : Int) = (p.length : Int) /\ (i : Int) + 1 = 0 /\ True) /\ (p = p /\ True /\ True) /\ m = m /\ ((0 : Int) = 0 /\ (0 : Int) = 0 /\ True) /\ False /\ True) ∨ ∃ (y : Nat), (y <= p.length /\ p.length - y < p.length - i) /\ (True /\ True /\ (p.length : Int) - 1 = (p.length : Int) - 1 /\ True /\ True /\ (p.length : Int) = (p.length : Int) /\ (i : Int) + 1 = (y : Int) /\ True) /\ (p = p /\ True /\ True) /\ m = m /\ ((0 : Int) = 0 /\ (0 : Int) = 0 /\ True) /\ [((wsum p (p.length - 1) i (i + 1)).num, (↑(wsum p (p.length - 1) i (i + 1)).den : Int))] = List.take y (qs (whole p)) /\ brow (p.length - 1) = brow (p.length - 1) /\ True)) /\ (∀ (y : Unit), True -> True /\ True /\ True /\ sumPre (List.take i (qs (whole p))).length [((wsum p (p.length - 1) i (i + 1)).num, (↑(wsum p (p.length - 1) i (i + 1)).den : Int))].length (nat_lit 16) /\ True /\ inR .i64 ((i : Int) + 1) /\ True /\ ((∃ (y : Unit), (True /\ p.length + 1 < p.length - i) /\ (True /\ True /\ (p.length : Int) - 1 = (p.length : Int) - 1 /\ False /\ False /\ (p.length : Int) = (p.length : Int) /\ (i : Int) + 1 = 0 /\ True) /\ (p = p /\ True /\ True) /\ m = m /\ ((0 : Int) = 0 /\ (0 : Int) = 0 /\ True) /\ False /\ True) ∨ ∃ (y : Nat), (y <= p.length /\ p.length - y < p.length - i) /\ (True /\ True /\ (p.length : Int) - 1 = (p.length : Int) - 1 /\ True /\ True /\ (p.length : Int) = (p.length : Int) /\ (i : Int) + 1 = (y : Int) /\ True) /\ (p = p /\ True /\ True) /\ m = m /\ ((0 : Int) = 0 /\ (0 : Int) = 0 /\ True) /\ List.take i (qs (whole p)) ++ [((wsum p (p.length - 1) i (i + 1)).num, (↑(wsum p (p.length - 1) i (i + 1)).den : Int))] = List.take y (qs (whole p)) /\ brow (p.length - 1) = brow (p.length - 1) /\ True)) /\ True) /\ (¬(i : Int) < (p.length : Int) -> ∃ (y : Unit), True /\ (True /\ True /\ True /\ True) /\ (p = p /\ True /\ True) /\ m = m /\ ((0 : Int) = 0 /\ (0 : Int) = 0 /\ True) /\ List.take i (qs (whole p)) = qs (whole p) /\ True)) (by kernel_rfl) ?_
   simp only [zz]
   unfold isPoly at hp
   have hi' : i <= p.length := hi
   have hln : (qs (whole p)).length = p.length := by rw [qs_length, whole_length]
   refine ⟨fun h => ?_, fun h => by rw [List.take_of_length_le (by omega)]⟩
   have hs := whole_take (p := p) (i := i) (by omega)
   refine ⟨by omega, hL (by omega) _, ⟨0, by omega, rfl, rfl, rfl⟩, fun _ h0 => ⟨by unfold sumPre; simp, by simp only [inR]; omega, i + 1, by omega, by omega, ?_⟩, fun _ _ => ⟨by unfold sumPre; simp; omega, by simp only [inR]; omega, i + 1, by omega, by omega, hs.symm⟩⟩
   rw [hs, h0]; try rfl
def pre69 (n : Int) (p : List Int) (m : Memo) (q : Int × Int) : Prop := isPoly p /\ isPiece q /\ q.1 < n /\ memoOk p m
def Known (n : Int) : Prop := ∀ p m q, pre69 n p m q -> GCall Tryd.prog gl 69 false [.ptr 0 0 [], ofD FR q] [cvO p, mmO m] [.sl FR (qc p q.1.toNat q.2.toNat)] [cvO p, mmO (cm p q.1.toNat q.2.toNat m)]
def e69n (n : Int) (h : Known n) : Entry Tryd.prog gl := entryC 69 ⟨Tryd.f69, by kernel_rfl, by kernel_rfl, by kernel_rfl⟩ (pre69 n) (fun p _ q => [.sl FR (qc p q.1.toNat q.2.toNat)]) (fun p m q => cm p q.1.toNat q.2.toNat m) h
set_option maxHeartbeats 4000000 in
theorem known_succ (n : Nat) (hn : n <= 6) (ih : Known n) : Known (n + 1 : Nat) := by
 intro p m q hq
 obtain ⟨q1, q2⟩ := q
 have hpc := hq.2.1
 unfold isPiece at hpc
 simp only at hpc
 obtain ⟨d, rfl⟩ : ∃ d : Nat, q1 = d := ⟨q1.toNat, by omega⟩
 obtain ⟨k, rfl⟩ : ∃ k : Nat, q2 = k := ⟨q2.toNat, by omega⟩
 refine gcall_of (X := (X69 [e69n n ih])) ((X69_ok _)) (f := 69) (fn := Tryd.f69) (c := bodyOf Tryd.f69) (by kernel_rfl) (by kernel_rfl) (view := false) (rvs := [.tmp 4]) (by kernel_rfl) (H := (H69 p m)) 200 (by kernel_rfl) ?_
 have hL := loop69 [e69n n ih] p m hq.1
 refine of_eq (q := True /\ True /\ True /\ True /\ True /\ True /\ True /\ True /\ True /\ True /\ True /\ True /\ True /\ True /\ ((mGet FR m ((d : Int), (k : Int))).isSome = true -> True /\ True /\ True /\ ((mGet FR m ((d : Int), (k : Int))).getD [] = qc p d k /\ True) /\ (p = p /\ True /\ True) /\ m = cm p d k m /\ True) /\ ((mGet FR m ((d : Int), (k : Int))).isSome = false -> True /\ True /\ True /\ True /\ True /\ inR .i64 ((p.length : Int) - 1) /\ True /\ True /\ True /\ True /\ True /\ (((d : Int), (k : Int)) = ((0 : Int), (0 : Int)) -> True /\ (((0 : Int) <= (p.length : Int) - 1 /\ (p.length : Int) - 1 <= 6) /\ True) /\ True /\ True /\ True /\ inR .i64 ((p.length : Int) - 1 + 1) /\ True /\ LoopOK (X69 [e69n (n : Int) ih]) L69_0 { J := chks (2 : Nat) [(0 : Nat), (3 : Nat), (7 : Nat), (8 : Nat), (9 : Nat), (37 : Nat), (38 : Nat)] (fm69 p m), exits := List.map (fun (x : List Nat × Ex) => x.snd) (ex69 p m) } (RetR (X69 [e69n (n : Int) ih]) false false [ResultVar.tmp (4 : Tmp)] [AV.sl FR (qc p ((d : Int), (k : Int)).fst.toNat ((d : Int), (k : Int)).snd.toNat)] [cvO p, mmO (cm p ((d : Int), (k : Int)).fst.toNat ((d : Int), (k : Int)).snd.toNat m)]) /\ ((∃ (y : Unit), True /\ (True /\ True /\ (p.length : Int) - 1 = (p.length : Int) - 1 /\ True /\ True /\ (p.length : Int) - 1 + 1 = (p.length : Int) /\ (0 : Int) = 0 /\ True) /\ (p = p /\ True /\ True) /\ m = m /\ ((d : Int) = 0 /\ (k : Int) = 0 /\ True) /\ brow ((p.length : Int) - 1).toNat = brow (p.length - 1) /\ True) ∨ ∃ (y : Nat), y <= p.length /\ (True /\ True /\ (p.length : Int) - 1 = (p.length : Int) - 1 /\ False /\ False /\ (p.length : Int) - 1 + 1 = (p.length : Int) /\ (0 : Int) = (y : Int) /\ True) /\ (p = p /\ True /\ True) /\ m = m /\ ((d : Int) = 0 /\ (k : Int) = 0 /\ True) /\ False /\ False) /\ (∀ (y : Unit), True -> True /\ True /\ True /\ True /\ True /\ True /\ True /\ True /\ True /\ True /\ (qs (whole p) = qc p d k /\ True) /\ (p = p /\ True /\ True) /\ mPut FR m ((0 : Int), (0 : Int)) (qs (whole p)) = cm p d k m /\ True) /\ True) /\ (¬((d : Int), (k : Int)) = ((0 : Int), (0 : Int)) -> True /\ true = true /\ True /\ true = true /\ True /\ true = true /\ inR .i64 ((d : Int) - 1) /\ true = true /\ True /\ true = true /\ True /\ true = true /\ (¬(2 : Int) = 0 /\ inR .i64 ((k : Int).tdiv (2 : Int))) /\ true = true /\ True /\ true = true /\ ((isPoly p /\ isPiece ((d : Int) - 1, (k : Int).tdiv (2 : Int)) /\ (d : Int) - 1 < (n : Int) /\ memoOk p m) /\ True /\ True /\ True) /\ True /\ True /\ ((True /\ AV.agg [AV.int .i64 (1 : Int), AV.int .i64 (2 : Int)] = AV.agg [AV.int .i64 (1 : Int), AV.int .i64 (2 : Int)]) /\ true = true) /\ (goodL (qc p ((d : Int) - 1).toNat ((k : Int).tdiv (2 : Int)).toNat) /\ good ((1 : Int), (2 : Int)) /\ ∃ (D : Int), ∃ (M : Int), ∃ (b : Int), Dv D M b (rat ((1 : Int), (2 : Int))) (rats (qc p ((d : Int) - 1).toNat ((k : Int).tdiv (2 : Int)).toNat))) /\ True /\ True /\ ((True /\ AV.ptr (2 : Nat) (0 : Nat) [(1 : Nat)] = AV.ptr (2 : Nat) (0 : Nat) [(1 : Nat)]) /\ true = true) /\ True /\ ((True /\ AV.int .i64 (k : Int) = AV.int .i64 (k : Int)) /\ true = true) /\ ¬(2 : Int) = 0 /\ ((¬(2 : Int) = 0 /\ AV.int .i64 ((k : Int).tmod (2 : Int)) = AV.int .i64 ((k : Int).tmod (2 : Int))) /\ true = true) /\ idxPre ((k : Int).tmod (2 : Int)) (2 : Nat) /\ True /\ True /\ True /\ True /\ True /\ True /\ True /\ True /\ True /\ True /\ True /\ True /\ True /\ ([qs (dvL (rat ((1 : Int), (2 : Int))) (rats (qc p ((d : Int) - 1).toNat ((k : Int).tdiv (2 : Int)).toNat))), qs (dvR (rat ((1 : Int), (2 : Int))) (rats (qc p ((d : Int) - 1).toNat ((k : Int).tdiv (2 : Int)).toNat)))].getD ((k : Int).tmod (2 : Int)).toNat [] = qc p d k /\ True) /\ (p = p /\ True /\ True) /\ mPut FR (cm p ((d : Int) - 1).toNat ((k : Int).tdiv (2 : Int)).toNat m) ((d : Int), (k : Int)) ([qs (dvL (rat ((1 : Int), (2 : Int))) (rats (qc p ((d : Int) - 1).toNat ((k : Int).tdiv (2 : Int)).toNat))), qs (dvR (rat ((1 : Int), (2 : Int))) (rats (qc p ((d : Int) - 1).toNat ((k : Int).tdiv (2 : Int)).toNat)))].getD ((k : Int).tmod (2 : Int)).toNat []) = cm p d k m /\ True))) (by kernel_rfl) ?_
 simp only [zz]
 obtain ⟨hp, _, hdn, hm⟩ := hq
 have hdn : (d : Int) < ((n + 1 : Nat) : Int) := hdn
 have hpp := hp
 unfold isPoly at hpp
 have hk2 : k < 2 ^ d := by
   have e : ((2 ^ d : Nat) : Int) = 2 ^ d := by rw [Int.natCast_pow]; try rfl
   have := hpc.2.2.2
   rw [Int.toNat_natCast, <- e] at this
   omega
 have hget : mGet FR m ((d : Int), (k : Int)) = mget m ((d : Int), (k : Int)) := rfl
 rw [hget]
 refine ⟨fun hs => ?_, fun hs => ?_⟩
 · obtain ⟨v, hv⟩ := Option.isSome_iff_exists.mp hs
   rw [hv]
   refine ⟨hm d k v hv, ?_⟩
   cases d with
   | zero => unfold cm; rw [show mget m (0, (k : Int)) = some v from hv]
   | succ d => unfold cm; rw [show mget m (((d + 1 : Nat) : Int), (k : Int)) = some v from hv]
 · have hn : mget m ((d : Int), (k : Int)) = none := by
     cases h : mget m ((d : Int), (k : Int)) with
     | none => rfl
     | some v => rw [h] at hs; cases hs
   refine ⟨by simp only [inR]; omega, fun h0 => ?_, fun h0 => ?_⟩
   · have hd0 : d = 0 := by have := congrArg Prod.fst h0; simp at this; omega
     have hk0 : k = 0 := by have := congrArg Prod.snd h0; simp at this; omega
     subst hd0 hk0
     refine ⟨by omega, by simp only [inR]; omega, hL _, ⟨by omega, ⟨rfl, rfl⟩, ?_⟩, fun _ _ => ⟨rfl, ?_⟩⟩
     · rw [show ((p.length : Int) - 1).toNat = p.length - 1 by omega]
     · unfold cm
       rw [show mget m (0, ((0 : Nat) : Int)) = none from hn]; try rfl
   · have hd : d ≠ 0 := fun e => h0 (by subst e; rw [show k = 0 by simpa using hk2]; rfl)
     obtain ⟨d, rfl⟩ : ∃ e, d = e + 1 := ⟨d - 1, by omega⟩
     have e1 : (((d + 1 : Nat) : Int) - 1) = (d : Int) := by omega
     have e2 : Int.tdiv (k : Int) 2 = ((k / 2 : Nat) : Int) := rfl
     have e3 : Int.tmod (k : Int) 2 = ((k % 2 : Nat) : Int) := rfl
     have hk64 : k < 64 := by
       have := Nat.pow_le_pow_right (show 0 < 2 by omega) (show d + 1 <= 6 by omega)
       omega
     have hk3 : k / 2 < 2 ^ d := by rw [Nat.pow_succ] at hk2; omega
     have hdv := (cnr_dv hpp.2.2 hpp.1 hpp.2.1 d (k / 2) (by omega)).2 (by omega)
     have hval : [qs (dvL (rat (1, 2)) (rats (qc p d (k / 2)))), qs (dvR (rat (1, 2)) (rats (qc p d (k / 2))))].getD (k % 2) [] = qc p (d + 1) k := by
       rw [rat_half, show qc p d (k / 2) = qs (cnr p d (k / 2)) from rfl, rats_qs]
       unfold qc
       conv => rhs; unfold cnr
       rcases Nat.mod_two_eq_zero_or_one k with h | h
       · rw [h, if_pos rfl]; try rfl
       · rw [h, if_neg (by omega)]; try rfl
     rw [e1, e2, e3]
     simp only [Int.toNat_natCast]
     rw [hval]
     refine ⟨by simp only [inR]; omega, ⟨by omega, by simp only [inR]; omega⟩, ⟨hp, ?_, by omega, hm⟩, ⟨goodL_qs _, good_half, ?_⟩, by omega, by omega, by unfold idxPre; omega, ?_⟩
     · unfold isPiece
       have e : ((2 ^ d : Nat) : Int) = 2 ^ d := by rw [Int.natCast_pow]; try rfl
       simp only [Int.toNat_natCast]
       rw [<- e]
       omega
     · rw [rat_half, show qc p d (k / 2) = qs (cnr p d (k / 2)) from rfl, rats_qs]
       exact ⟨_, _, _, hdv⟩
     · have hc : cm p (d + 1) k m = mput (cm p d (k / 2) m) (((d + 1 : Nat) : Int), (k : Int)) (qc p (d + 1) k) := by
         show (match mget m (((d + 1 : Nat) : Int), (k : Int)) with | some _ => m | none => _) = _
         rw [hn]
       exact ⟨rfl, hc.symm⟩
theorem known0 : Known 0 := fun p m q h => by
 have h1 := h.2.2.1
 have h2 := h.2.1
 unfold isPiece at h2
 omega
theorem known7 : Known 7 := known_succ 6 (by omega) (known_succ 5 (by omega) (known_succ 4 (by omega) (known_succ 3 (by omega) (known_succ 2 (by omega) (known_succ 1 (by omega) (known_succ 0 (by omega) known0))))))
noncomputable def e69 : Entry Tryd.prog gl := e69n 7 known7
end Go.Am.Bern

/- Bern: corners for others; functions over fractions. -/
namespace Go.Am.Bern
open Go Go.Am Go.Proofs
theorem call62 (p : List Int) (_ : True) : GCall Tryd.prog gl 62 false [.sl I64 p] [] [.ptr 0 0 []] [cvO p, mmO []] := by
 refine gcall_of (X := X []) (X_ok []) (f := 62) (fn := Tryd.f62) (c := bodyOf Tryd.f62) (by kernel_rfl) (by kernel_rfl) (view := false) (rvs := [.tmp 2]) (by kernel_rfl) (H := fun _ => none) 80 (by kernel_rfl) ?_
 refine of_eq (q := True /\ True /\ True /\ True /\ True /\ True /\ True /\ (True /\ True) /\ (p = p /\ True /\ True) /\ ([] : List ((Int × Int) × List (Int × Int))) = [] /\ True) (by kernel_rfl) ?_
 simp only [zz]
def e62 : Entry Tryd.prog gl := entry1 62 ⟨Tryd.f62, by kernel_rfl, by kernel_rfl, by kernel_rfl⟩ SI (fun _ => True) false (fun _ => [.ptr 0 0 []]) (fun p => [cvO p, mmO []]) (call62)
theorem qc_length (p : List Int) (d k : Nat) : (qc p d k).length = p.length := by rw [qc, qs_length, cnr_length]
theorem memoOk_nil (p : List Int) : memoOk p [] := fun d k v h => by simp [mget, mGet] at h
theorem call59 (p : List Int) (q : Int × Int) (h : isPoly p /\ isPiece q) : GCall Tryd.prog gl 59 false [.sl I64 p, ofD FR q] [] [.sl FR (qc p q.1.toNat q.2.toNat)] [] := by
 refine gcall_of (X := X [e69]) (X_ok [e69]) (f := 59) (fn := Tryd.f59) (c := bodyOf Tryd.f59) (by kernel_rfl) (by kernel_rfl) (view := false) (rvs := [.tmp 4]) (by kernel_rfl) (H := fun _ => none) 80 (by kernel_rfl) ?_
 refine of_eq (q := True /\ True /\ True /\ True /\ True /\ True /\ True /\ ((isPoly p /\ isPiece (q.fst, q.snd) /\ q.fst < 7 /\ memoOk p []) /\ True /\ True /\ True) /\ True /\ True /\ (qc p (Int.toNat q.fst) (Int.toNat q.snd) = qc p q.fst.toNat q.snd.toNat /\ True) /\ True) (by kernel_rfl) ?_
 simp only [zz]
 have := h.2
 exact ⟨h.1, h.2, by unfold isPiece at this; omega, memoOk_nil p⟩
def e59 : Entry Tryd.prog gl := entry2 59 ⟨Tryd.f59, by kernel_rfl, by kernel_rfl, by kernel_rfl⟩ SI FR (fun p q => isPoly p /\ isPiece q) false (fun p q => [.sl FR (qc p q.1.toNat q.2.toNat)]) (fun _ _ => []) (call59)
def cornersR (p : List Int) (q : Int × Int) : List (Int × Int) := if isPoly p /\ isPiece q then qc p q.1.toNat q.2.toNat else []
def cornersE (p : List Int) (q : Int × Int) : Int := if isPoly p then (if isPiece q then 0 else 1) else 80
theorem call13 (p : List Int) (q : Int × Int) (h : p.length < 1000000) : GCall Tryd.prog gl 13 false [.sl I64 p, ofD Q2 q] [] [.sl Q2 (cornersR p q), .int .i64 (cornersE p q)] [] := by
 refine gcall_of (X := X [e56,e57,e59,e58]) (X_ok [e56,e57,e59,e58]) (f := 13) (fn := Tryd.f13) (c := bodyOf Tryd.f13) (by kernel_rfl) (by kernel_rfl) (view := true) (rvs := [.tmp 4, .tmp 5]) (by kernel_rfl) (H := fun _ => none) 80 (by kernel_rfl) ?_
 refine of_eq (q := True /\ True /\ True /\ True /\ (p.length + 1 <= 1000000 /\ True) /\ True /\ True /\ True /\ (¬errOf p = 0 -> True /\ True /\ True /\ True /\ (([] : List (Int × Int)) = cornersR p q /\ errOf p = cornersE p q /\ True) /\ True) /\ (¬¬errOf p = 0 -> idxPre (0 : Int) (2 : Nat) /\ True /\ idxPre (1 : Int) (2 : Nat) /\ True /\ True /\ True /\ True /\ True /\ (True /\ True) /\ True /\ ((!decide (isPiece (q.fst, q.snd))) = true -> True /\ True /\ True /\ (([] : List (Int × Int)) = cornersR p q /\ (1 : Int) = cornersE p q /\ True) /\ True) /\ ((!decide (isPiece (q.fst, q.snd))) = false -> True /\ True /\ ((isPoly p /\ isPiece (q.fst, q.snd)) /\ True) /\ ((qc p (Int.toNat q.fst) (Int.toNat q.snd)).length + 1 <= 1000000 /\ True) /\ True /\ True /\ True /\ (qc p (Int.toNat q.fst) (Int.toNat q.snd) = cornersR p q /\ (0 : Int) = cornersE p q /\ True) /\ True))) (by kernel_rfl) ?_
 simp only [zz]
 have hl := fun d k => qc_length p d k
 refine ⟨by omega, fun he => ?_, fun he => ⟨by unfold idxPre; omega, by unfold idxPre; omega, fun hp => ?_, fun hp => ?_⟩⟩
 · have hn : ¬ isPoly p := fun h' => he (by simp [errOf, h'])
   simp [cornersR, cornersE, errOf, hn]
 · have hy : isPoly p := by
     false_or_by_contra; rename_i hn; exact he (by simp [errOf, hn])
   have hp : ¬ isPiece q := by simpa using hp
   simp [cornersR, cornersE, hy, hp]
 · have hy : isPoly p := by
     false_or_by_contra; rename_i hn; exact he (by simp [errOf, hn])
   have hp : isPiece q := by simpa using hp
   refine ⟨⟨hy, hp⟩, by rw [hl]; omega, ?_⟩
   simp [cornersR, cornersE, hy, hp]
def e13 : Entry Tryd.prog gl := entry2 13 ⟨Tryd.f13, by kernel_rfl, by kernel_rfl, by kernel_rfl⟩ SI Q2 (fun p q => p.length < 1000000) false (fun p q => [.sl Q2 (cornersR p q), .int .i64 (cornersE p q)]) (fun _ _ => []) (call13)
theorem call95 (x : Int × Int) (_ : True) : GCall Tryd.prog gl 95 true [ofD FR x] [] [.bool (decide (x.1 <= 0))] [] := by
 refine gcall_of (X := X []) (X_ok []) (f := 95) (fn := Tryd.f95) (c := bodyOf Tryd.f95) (by kernel_rfl) (by kernel_rfl) (view := false) (rvs := [.tmp 2]) (by kernel_rfl) (H := fun _ => none) 80 (by kernel_rfl) ?_
 refine of_eq (q := True /\ True /\ True /\ True /\ True /\ True /\ True /\ (decide (x.fst <= 0) = decide (x.fst <= 0) /\ True) /\ True) (by kernel_rfl) ?_
 simp only [zz]
def e95 : Entry Tryd.prog gl := entry1 95 ⟨Tryd.f95, by kernel_rfl, by kernel_rfl, by kernel_rfl⟩ FR (fun _ => True) true (fun x => [.bool (decide (x.1 <= 0))]) (fun _ => []) (call95)
/-- A function of data and of a function that is known. -/
def entryG (f : FuncId) (g : FuncId) (en : Enters Tryd.prog f) (t : Ty) (pre : t.D -> Prop) (res : t.D -> List AV) (ok : ∀ a, pre a -> GCall Tryd.prog gl f true [ofD t a, .clo g [] []] [] (res a) []) : Entry Tryd.prog gl where
 f := f
 lend := false
 en := en
 go := fun args ob0 => match args, ob0 with
   | [x, .clo g' [] []], [] => (match Nat.beq g' g, toD t x with
     | true, some a => some (pre a, true, res a, [])
     | _, _ => none)
   | _, _ => none
 ok := by
   intro args ob0 p s r o h hp
   split at h <;> try (cases h; done)
   rename_i x g'
   split at h <;> try (cases h; done)
   rename_i a hg ha
   injection h with h; injection h with h1 h2; injection h2 with h2 h3; injection h3 with h3 h4
   subst h1 h2 h3 h4
   have hg := Nat.eq_of_beq_eq_true hg
   subst hg
   refine (ok a hp).args rfl fun i y hy => ?_
   match i with
   | 0 => simp at hy; subst hy; exact ⟨x, rfl, fun E I F w u hu => TR.toD ha hu⟩
   | 1 => simp at hy; subst hy; exact ⟨_, rfl, fun E I F w u hu => hu⟩
   | i + 2 => simp at hy
theorem find_at {l : List (Int × Int)} {k : Nat} (hk : k < l.length) (h : ∀ x ∈ l.take k, 0 < x.1) (hx : (l.getD k (0, 0)).1 <= 0) : l.findIdx (fun x => decide (x.1 <= 0)) = k := by
 induction l generalizing k with
 | nil => simp at hk
 | cons a l ih =>
   cases k with
   | zero => simp at hx; simp [List.findIdx_cons, hx]
   | succ k =>
     have ha : 0 < a.1 := h a (by simp)
     have hb : ¬ a.1 <= 0 := by omega
     rw [List.findIdx_cons]
     simp only [hb, decide_false, cond_false]
     rw [ih (by simpa using hk) (fun x hx => h x (by simp [hx])) (by simpa using hx)]
theorem getD_mem {α : Type} {l : List α} {n : Nat} {d : α} (h : n < l.length) : l.getD n d ∈ l := by
 rw [List.getD_eq_getElem?_getD, List.getElem?_eq_getElem h]; exact List.getElem_mem h
def fnp (l : List (Int × Int)) : Int := if posL l then -1 else (l.findIdx (fun x => decide (x.1 <= 0)) : Nat)
noncomputable def L98_0 : Code := lp (bodyOf Tryd.f98) 0
def st98 (l : List (Int × Int)) (k : Nat) : St := ⟨.sl FR l :: .clo 95 [] [] :: .dead :: .dead :: .dead :: .dead :: .dead :: .int .i64 l.length :: .int .i64 k :: dd 10, []⟩
def ex98 (l : List (Int × Int)) : List (List Nat × Ex) := [([], ⟨0, Unit, fun _ => posL l, fun _ => ⟨dd 19, []⟩⟩)]
noncomputable def H98 (l : List (Int × Int)) : Nat -> Option Hint := fun _ => some ⟨chk 0 [0, 1, 7, 8] (inv72 l) (st98 l), (ex98 l).map (·.2)⟩
theorem loop98 (l : List (Int × Int)) (hl : l.length < 1000000) : LoopOK (X [e95]) L98_0 ⟨chk 0 [0, 1, 7, 8] (inv72 l) (st98 l), (ex98 l).map (·.2)⟩ (RetR (X [e95]) true false [.tmp 4] [.int .i64 (fnp l)] []) := by
 refine loop_ok (X_ok [e95]) (H := fun _ _ => none) [0, 1, 7, 8] (inv72 l) (st98 l) (fun k => l.length - k) (ex98 l) 80 fun (k : Nat) hk => ?_
 refine of_eq (q := True /\ ((k : Int) < (l.length : Int) -> True /\ True /\ True /\ True /\ True /\ idxPre (k : Int) l.length /\ True /\ (True /\ True) /\ (decide ((l.getD k (0, 0)).fst <= 0) = true -> True /\ True /\ True /\ ((k : Int) = fnp l /\ True) /\ True) /\ (decide ((l.getD k (0, 0)).fst <= 0) = false -> inR .i64 ((k : Int) + 1) /\ True /\ ∃ (y : Nat), (inv72 l y /\ l.length - y < l.length - k) /\ (l = l /\ (True /\ True) /\ (l.length : Int) = (l.length : Int) /\ (k : Int) + 1 = (y : Int) /\ True) /\ True)) /\ (¬(k : Int) < (l.length : Int) -> ∃ (y : Unit), posL l /\ True /\ True)) (by kernel_rfl) ?_
 simp only [zz]
 obtain ⟨h1, h2⟩ := hk
 refine ⟨fun hk => ?_, fun hk => ?_⟩
 · have hk : k < l.length := by omega
   refine ⟨by unfold idxPre; omega, fun hx => ?_, fun hx => ⟨by simp only [inR]; omega, k + 1, ⟨⟨by omega, ?_⟩, by omega⟩, rfl⟩⟩
   · have hx : (l.getD k (0, 0)).1 <= 0 := by simpa using hx
     have hn : ¬ posL l := fun hp => by
       have hm : l.getD k (0, 0) ∈ l := getD_mem hk
       have := hp _ hm
       omega
     simp [fnp, hn, find_at hk h2 hx]
   · have hx : ¬ (l.getD k (0, 0)).1 <= 0 := by simpa using hx
     rw [take_getD (d := (0, 0)) hk]
     intro x hm
     simp at hm
     rcases hm with hm | hm
     · exact h2 x hm
     · subst hm; simp at hx; omega
 · have : l.take k = l := List.take_of_length_le (by omega)
   rw [this] at h2; exact h2
theorem call98 (l : List (Int × Int)) (hl : l.length < 1000000) : GCall Tryd.prog gl 98 true [.sl FR l, .clo 95 [] []] [] [.int .i64 (fnp l)] [] := by
 refine gcall_of (X := X [e95]) (X_ok [e95]) (f := 98) (fn := Tryd.f98) (c := bodyOf Tryd.f98) (by kernel_rfl) (by kernel_rfl) (view := false) (rvs := [.tmp 4]) (by kernel_rfl) (H := (H98 l)) 80 (by kernel_rfl) ?_
 have hL := loop98 l hl
 refine of_eq (q := True /\ True /\ True /\ True /\ LoopOK (X [e95]) L98_0 { J := chk (0 : Nat) [(0 : Nat), (1 : Nat), (7 : Nat), (8 : Nat)] (inv72 l) (st98 l), exits := List.map (fun (x : List Nat × Ex) => x.snd) (ex98 l) } (RetR (X [e95]) true false [ResultVar.tmp (4 : Tmp)] [AV.int .i64 (fnp l)] []) /\ (∃ (y : Nat), inv72 l y /\ (l = l /\ (True /\ True) /\ (l.length : Int) = (l.length : Int) /\ (0 : Int) = (y : Int) /\ True) /\ True) /\ (∀ (y : Unit), posL l -> True /\ True /\ ((-1 : Int) = fnp l /\ True) /\ True) /\ True) (by kernel_rfl) ?_
 simp only [zz]
 exact ⟨hL, ⟨0, ⟨by omega, by simp⟩, rfl⟩, fun _ h => by simp [fnp, h]⟩
theorem fnp_ge (l : List (Int × Int)) : 0 <= fnp l ↔ ¬ posL l := by
 unfold fnp
 split
 · rename_i h; simp [h]
 · rename_i h; simp [h]
def e98 : Entry Tryd.prog gl := entryG 98 95 ⟨Tryd.f98, by kernel_rfl, by kernel_rfl, by kernel_rfl⟩ SF (fun l => l.length < 1000000) (fun l => [.int .i64 (fnp l)]) call98
theorem call94 (l : List (Int × Int)) (hl : l.length < 1000000) : GCall Tryd.prog gl 94 true [.sl FR l, .clo 95 [] []] [] [.bool (decide (¬ posL l))] [] := by
 refine gcall_of (X := X [e98]) (X_ok [e98]) (f := 94) (fn := Tryd.f94) (c := bodyOf Tryd.f94) (by kernel_rfl) (by kernel_rfl) (view := false) (rvs := [.tmp 4]) (by kernel_rfl) (H := fun _ => none) 80 (by kernel_rfl) ?_
 refine of_eq (q := True /\ True /\ True /\ (l.length + 1 <= 1000000 /\ True) /\ True /\ True /\ True /\ (decide ((0 : Int) <= fnp l) = decide ¬posL l /\ True) /\ True) (by kernel_rfl) ?_
 simp only [zz]
 exact ⟨by omega, by simp [fnp_ge]⟩
def e94 : Entry Tryd.prog gl := entryG 94 95 ⟨Tryd.f94, by kernel_rfl, by kernel_rfl, by kernel_rfl⟩ SF (fun l => l.length < 1000000) (fun l => [.bool (decide (¬ posL l))]) call94
theorem call71 (l : List (Int × Int)) (hl : l.length < 1000000) : GCall Tryd.prog gl 71 true [.sl FR l] [] [.bool (decide (posL l))] [] := by
 refine gcall_of (X := X [e94]) (X_ok [e94]) (f := 71) (fn := Tryd.f71) (c := bodyOf Tryd.f71) (by kernel_rfl) (by kernel_rfl) (view := false) (rvs := [.tmp 2]) (by kernel_rfl) (H := fun _ => none) 80 (by kernel_rfl) ?_
 refine of_eq (q := True /\ True /\ (l.length + 1 <= 1000000 /\ True) /\ True /\ True /\ True /\ ((!decide ¬posL l) = decide (posL l) /\ True) /\ True) (by kernel_rfl) ?_
 simp only [zz]
 exact ⟨by omega, by simp⟩
def e71 : Entry Tryd.prog gl := entry1 71 ⟨Tryd.f71, by kernel_rfl, by kernel_rfl, by kernel_rfl⟩ SF (fun l => l.length < 1000000) true (fun l => [.bool (decide (posL l))]) (fun _ => []) (call71)
theorem call64 (l : List (Int × Int)) (hl : l.length < 1000000) : GCall Tryd.prog gl 64 true [.sl FR l] [] [.bool (decide (chg l <= 1))] [] := by
 refine gcall_of (X := X [e65]) (X_ok [e65]) (f := 64) (fn := Tryd.f64) (c := bodyOf Tryd.f64) (by kernel_rfl) (by kernel_rfl) (view := false) (rvs := [.tmp 2]) (by kernel_rfl) (H := fun _ => none) 80 (by kernel_rfl) ?_
 refine of_eq (q := True /\ True /\ (l.length + 1 <= 1000000 /\ True) /\ True /\ True /\ True /\ (decide ((↑(chg l) : Int) <= 1) = decide (chg l <= 1) /\ True) /\ True) (by kernel_rfl) ?_
 simp only [zz]
 exact ⟨by omega, by congr 1; simp; omega⟩
def e64 : Entry Tryd.prog gl := entry1 64 ⟨Tryd.f64, by kernel_rfl, by kernel_rfl, by kernel_rfl⟩ SF (fun l => l.length < 1000000) true (fun l => [.bool (decide (chg l <= 1))]) (fun _ => []) (call64)
end Go.Am.Bern

/- Bern: values at the ends of pieces. -/
namespace Go.Am.Bern
open Go Go.Am Go.Proofs
theorem part_div {k D m : Nat} (hD : 0 < D) (hk : k <= D) (hm : D <= m) : part m (Rat.divInt k D) := by
 have hf : fr D k (Rat.divInt k D) := ⟨k, rfl, by omega, by omega⟩
 have hs := hf.spec (by omega)
 have e : (Rat.divInt (k : Int) (D : Int)).num * D = k * (Rat.divInt (k : Int) (D : Int)).den := by
   have h1 := Rat.num_divInt_den (Rat.divInt (k : Int) (D : Int))
   rwa [Rat.divInt_eq_divInt_iff (by have := (Rat.divInt (k : Int) (D : Int)).den_pos; omega) (by omega)] at h1
 have hp := (Rat.divInt (k : Int) (D : Int)).den_pos
 unfold part
 generalize (Rat.divInt (k : Int) (D : Int)).num = a at *
 generalize (Rat.divInt (k : Int) (D : Int)).den = b at *
 refine ⟨?_, ?_, ?_⟩
 · false_or_by_contra; rename_i h
   have h2 : a * (D : Int) < 0 := Int.mul_neg_of_neg_of_pos (by omega) (by omega)
   have h3 : (0 : Int) <= (k : Int) * (b : Int) := Int.mul_nonneg (by omega) (by omega)
   omega
 · false_or_by_contra; rename_i h
   have h2 : (b : Int) * (D : Int) < a * (D : Int) := Int.mul_lt_mul_of_pos_right (by omega) (by omega)
   have h3 : (k : Int) * (b : Int) <= (D : Int) * (b : Int) := Int.mul_le_mul_of_nonneg_right (by omega) (by omega)
   have h4 : (b : Int) * (D : Int) = (D : Int) * (b : Int) := Int.mul_comm _ _
   omega
 · have := hs.2.2.2.2; omega
theorem fracR_div {k D : Nat} (hD : 0 < D) : fracR k D = qp (Rat.divInt k D) := fracR_eq (by omega)
def at' (p : List Int) (k D : Nat) : Int := (hval (Rat.divInt k D) p).num
theorem errOf_poly {p : List Int} (h : ¬ ¬ errOf p = 0) : isPoly p := by
 false_or_by_contra; rename_i hn; exact h (by simp [errOf, hn])
theorem good_point {x : Int × Int} {m : Int} (h : isPoint x m) : good x := by
 unfold good rat
 rw [<- fracR_eq (by have := h.1; omega)]
 unfold fracR
 rw [h.2.2.2.2]; simp
def plainP (p : List Int) : Prop := ∀ k, k < 65 -> at' p k 64 ≠ 0
instance (p : List Int) : Decidable (plainP p) := inferInstanceAs (Decidable (∀ k, k < 65 -> at' p k 64 ≠ 0))
def inv61 (p : List Int) (k : Nat) : Prop := k <= 65 /\ ∀ j, j < k -> at' p j 64 ≠ 0
noncomputable def L61_0 : Code := lp (bodyOf Tryd.f61) 0
def st61 (p : List Int) (k : Nat) : St := ⟨.sl I64 p :: .dead :: .dead :: .dead :: .int .i64 k :: dd 9, []⟩
def ex61 (p : List Int) : List (List Nat × Ex) := [([], ⟨0, Unit, fun _ => plainP p, fun _ => ⟨dd 14, []⟩⟩)]
noncomputable def H61 (p : List Int) : Nat -> Option Hint := fun _ => some ⟨chk 0 [0, 4] (inv61 p) (st61 p), (ex61 p).map (·.2)⟩
theorem loop61 (p : List Int) (hp : isPoly p) : LoopOK (X [e74, e75]) L61_0 ⟨chk 0 [0, 4] (inv61 p) (st61 p), (ex61 p).map (·.2)⟩ (RetR (X [e74, e75]) true false [.tmp 2] [.bool (decide (plainP p))] []) := by
 refine loop_ok (X_ok [e74, e75]) (H := fun _ _ => none) [0, 4] (inv61 p) (st61 p) (fun k => 65 - k) (ex61 p) 80 fun (k : Nat) hk => ?_
 refine of_eq (q := True /\ ((k : Int) < 65 -> True /\ True /\ True /\ True /\ ((small (k : Int) /\ small (64 : Int) /\ (0 : Int) < 64) /\ True) /\ ((isPoly p /\ good ((fracR (k : Int) (64 : Int)).fst, (fracR (k : Int) (64 : Int)).snd) /\ part (64 : Int) (rat ((fracR (k : Int) (64 : Int)).fst, (fracR (k : Int) (64 : Int)).snd))) /\ True) /\ True /\ True /\ ((hval (rat ((fracR (k : Int) (64 : Int)).fst, (fracR (k : Int) (64 : Int)).snd)) p).num = 0 -> True /\ True /\ (false = decide (plainP p) /\ True) /\ True) /\ (¬(hval (rat ((fracR (k : Int) (64 : Int)).fst, (fracR (k : Int) (64 : Int)).snd)) p).num = 0 -> inR .i64 ((k : Int) + 1) /\ True /\ ∃ (y : Nat), (inv61 p y /\ (65 : Nat) - y < 65 - k) /\ (p = p /\ (k : Int) + 1 = (y : Int) /\ True) /\ True)) /\ (¬(k : Int) < 65 -> ∃ (y : Unit), plainP p /\ True /\ True)) (by kernel_rfl) ?_
 simp only [zz]
 obtain ⟨h1, h2⟩ := hk
 refine ⟨fun hk => ?_, fun hk j hj => h2 j (by omega)⟩
 have e : fracR (k : Int) 64 = qp (Rat.divInt k (64 : Nat)) := fracR_div (D := 64) (by omega)
 rw [e]
 simp only [qp_fst, qp_snd, rat_num_den]
 refine ⟨⟨by unfold small; omega, by unfold small; decide, by omega⟩, ⟨hp, good_nd _, part_div (k := k) (D := 64) (m := 64) (by decide) (by omega) (by decide)⟩, fun h => ?_, fun h => ⟨by simp only [inR]; omega, k + 1, ⟨⟨by omega, fun j hj => ?_⟩, by omega⟩, ?_⟩⟩
 · have hn : ¬ plainP p := fun hq => hq k (by omega) h
   simp [hn]
 · rcases Nat.lt_or_ge j k with hj' | hj'
   · exact h2 j hj'
   · rw [show j = k by omega]; exact h
 · rfl
theorem call61 (p : List Int) (hp : isPoly p) : GCall Tryd.prog gl 61 true [.sl I64 p] [] [.bool (decide (plainP p))] [] := by
 refine gcall_of (X := X [e74,e75]) (X_ok [e74,e75]) (f := 61) (fn := Tryd.f61) (c := bodyOf Tryd.f61) (by kernel_rfl) (by kernel_rfl) (view := false) (rvs := [.tmp 2]) (by kernel_rfl) (H := (H61 p)) 80 (by kernel_rfl) ?_
 have hL := loop61 p hp
 refine of_eq (q := True /\ True /\ LoopOK (X [e74, e75]) L61_0 { J := chk (0 : Nat) [(0 : Nat), (4 : Nat)] (inv61 p) (st61 p), exits := List.map (fun (x : List Nat × Ex) => x.snd) (ex61 p) } (RetR (X [e74, e75]) true false [ResultVar.tmp (2 : Tmp)] [AV.bool (decide (plainP p))] []) /\ (∃ (y : Nat), inv61 p y /\ (p = p /\ (0 : Int) = (y : Int) /\ True) /\ True) /\ (∀ (y : Unit), plainP p -> True /\ True /\ (true = decide (plainP p) /\ True) /\ True) /\ True) (by kernel_rfl) ?_
 simp only [zz]
 exact ⟨hL, ⟨0, ⟨by omega, fun j hj => by omega⟩, rfl⟩, fun _ h => by simp [h]⟩
def e61 : Entry Tryd.prog gl := entry1 61 ⟨Tryd.f61, by kernel_rfl, by kernel_rfl, by kernel_rfl⟩ SI (fun p => isPoly p) true (fun p => [.bool (decide (plainP p))]) (fun _ => []) (call61)
theorem point_part {x : Int × Int} {m : Nat} (h : isPoint x m) : good x /\ part m (rat x) := by
 have hg : good x := good_point h
 obtain ⟨h1, h2, h3, h4, h5⟩ := h
 have e : qp (rat x) = x := hg
 refine ⟨hg, ?_⟩
 have e1 : (rat x).num = x.1 := by rw [<- e]; simp
 have e2 : ((rat x).den : Int) = x.2 := by rw [<- e]; simp
 exact ⟨by omega, by omega, by omega⟩
def valueR (p : List Int) (x : Int × Int) : Int × Int := if isPoly p /\ isPoint x 64 then qp (hval (rat x) p) else (0, 0)
def valueE (p : List Int) (x : Int × Int) : Int := if isPoly p then (if isPoint x 64 then 0 else 1) else 80
theorem call45 (p : List Int) (x : Int × Int) (hp : p.length < 1000000) : GCall Tryd.prog gl 45 true [.sl I64 p, ofD Q2 x] [] [ofD Q2 (valueR p x), .int .i64 (valueE p x)] [] := by
 refine gcall_of (X := X [e56,e84,e75,e76]) (X_ok [e56,e84,e75,e76]) (f := 45) (fn := Tryd.f45) (c := bodyOf Tryd.f45) (by kernel_rfl) (by kernel_rfl) (view := false) (rvs := [.cell 4 48, .tmp 5]) (by kernel_rfl) (H := fun _ => none) 80 (by kernel_rfl) ?_
 refine of_eq (q := True /\ True /\ True /\ True /\ (p.length + 1 <= 1000000 /\ True) /\ True /\ True /\ True /\ (¬errOf p = 0 -> True /\ True /\ True /\ True /\ (True /\ True) /\ ([(0 : Int), (0 : Int)] = [(valueR p x).fst, (valueR p x).snd] /\ errOf p = valueE p x /\ True) /\ True) /\ (¬¬errOf p = 0 -> True /\ (Int.NonNeg (999935 : Int) /\ True) /\ True /\ ((!decide (isPoint (x.fst, x.snd) (64 : Int))) = true -> True /\ True /\ True /\ (True /\ True) /\ ([(0 : Int), (0 : Int)] = [(valueR p x).fst, (valueR p x).snd] /\ (1 : Int) = valueE p x /\ True) /\ True) /\ ((!decide (isPoint (x.fst, x.snd) (64 : Int))) = false -> True /\ idxPre (0 : Int) (2 : Nat) /\ True /\ idxPre (1 : Int) (2 : Nat) /\ True /\ True /\ ((isPoly p /\ good (x.fst, x.snd) /\ part (64 : Int) (rat (x.fst, x.snd))) /\ True) /\ (True /\ True) /\ True /\ True /\ (True /\ True) /\ ([(hval (rat (x.fst, x.snd)) p).num, (↑(hval (rat (x.fst, x.snd)) p).den : Int)] = [(valueR p x).fst, (valueR p x).snd] /\ (0 : Int) = valueE p x /\ True) /\ True))) (by kernel_rfl) ?_
 simp only [zz]
 refine ⟨by omega, fun he => ?_, fun he => ⟨Int.NonNeg.mk _, fun hx => ?_, fun hx => ?_⟩⟩
 · have hn : ¬ isPoly p := fun h' => he (by simp [errOf, h'])
   simp [valueR, valueE, errOf, hn]
 · have hy : isPoly p := errOf_poly he
   have hx : ¬ isPoint x 64 := by simpa using hx
   simp [valueR, valueE, hy, hx]
 · have hy : isPoly p := errOf_poly he
   have hx : isPoint x 64 := by simpa using hx
   have hq := point_part (m := 64) hx
   refine ⟨by unfold idxPre; omega, by unfold idxPre; omega, ⟨hy, hq.1, hq.2⟩, ?_⟩
   simp [valueR, valueE, hy, hx]
end Go.Am.Bern

/- Bern: proofs that are checked; the first place. -/
namespace Go.Am.Bern
open Go Go.Am Go.Proofs
def posAt (p : List Int) (x : Int × Int) : Prop := posL (qs (cnr p x.1.toNat x.2.toNat))
instance (p : List Int) (x : Int × Int) : Decidable (posAt p x) := inferInstanceAs (Decidable (posL _))
def posP (p : List Int) : Prop := ∀ k, k < 64 -> posL (qs (cnr p 6 k))
instance (p : List Int) : Decidable (posP p) := inferInstanceAs (Decidable (∀ k, k < 64 -> posL (qs (cnr p 6 k))))
theorem cov_piece : ∀ {l : List (Int × Int)} {a : Int}, cov a l -> ∀ x ∈ l, isPiece x
 | [], _, _, x, hx => by simp at hx
 | y :: l, a, h, x, hx => by
   unfold cov at h
   rcases List.mem_cons.mp hx with hx | hx
   · rw [hx]; exact h.1
   · exact cov_piece h.2.2 x hx
def prf (p : List Int) (l : List (Int × Int)) : Prop := cov 0 l /\ ∀ x ∈ l, posAt p x
instance (p : List Int) (l : List (Int × Int)) : Decidable (prf p l) := inferInstanceAs (Decidable (_ /\ ∀ x ∈ l, posAt p x))
def inv28 (p : List Int) (l : List (Int × Int)) (k : Nat) : Prop := k <= l.length /\ ∀ x ∈ l.take k, posAt p x
noncomputable def L28_0 : Code := lp (bodyOf Tryd.f28) 0
def st28 (p : List Int) (l : List (Int × Int)) (k : Nat) : St := ⟨.sl I64 p :: .sl Q2 l :: .dead :: .dead :: .dead :: .int .i64 k :: dd 17, []⟩
def ex28 (p : List Int) (l : List (Int × Int)) : List (List Nat × Ex) := [([], ⟨0, Unit, fun _ => ∀ x ∈ l, posAt p x, fun _ => ⟨dd 23, []⟩⟩)]
noncomputable def H28 (p : List Int) (l : List (Int × Int)) : Nat -> Option Hint := fun _ => some ⟨chk 0 [0, 1, 5] (inv28 p l) (st28 p l), (ex28 p l).map (·.2)⟩
theorem loop28 (p : List Int) (l : List (Int × Int)) (hp : isPoly p) (hl : l.length < 1000000) (hc : cov 0 l) : LoopOK (X [e73, e16, e72]) L28_0 ⟨chk 0 [0, 1, 5] (inv28 p l) (st28 p l), (ex28 p l).map (·.2)⟩ (RetR (X [e73, e16, e72]) true false [.tmp 4] [.bool (decide (prf p l))] []) := by
 refine loop_ok (X_ok [e73, e16, e72]) (H := fun _ _ => none) [0, 1, 5] (inv28 p l) (st28 p l) (fun k => l.length - k) (ex28 p l) 80 fun (k : Nat) hk => ?_
 refine of_eq (q := True /\ True /\ True /\ True /\ ((k : Int) < (l.length : Int) -> True /\ True /\ True /\ idxPre (k : Int) l.length /\ True /\ ((isPoly p /\ isPiece ((l.getD k (0, 0)).fst, (l.getD k (0, 0)).snd)) /\ True) /\ ((qs (cnr p (Int.toNat (l.getD k (0, 0)).fst) (Int.toNat (l.getD k (0, 0)).snd))).length + 1 <= 1000000 /\ True) /\ True /\ ((!decide (posL (qs (cnr p (Int.toNat (l.getD k (0, 0)).fst) (Int.toNat (l.getD k (0, 0)).snd))))) = true -> True /\ True /\ (false = decide (prf p l) /\ True) /\ True) /\ ((!decide (posL (qs (cnr p (Int.toNat (l.getD k (0, 0)).fst) (Int.toNat (l.getD k (0, 0)).snd))))) = false -> True /\ inR .i64 ((k : Int) + 1) /\ True /\ ∃ (y : Nat), (inv28 p l y /\ l.length - y < l.length - k) /\ (p = p /\ l = l /\ (k : Int) + 1 = (y : Int) /\ True) /\ True)) /\ (¬(k : Int) < (l.length : Int) -> ∃ (y : Unit), (∀ (x : Int × Int), x ∈ l -> posAt p x) /\ True /\ True)) (by kernel_rfl) ?_
 simp only [zz]
 obtain ⟨h1, h2⟩ := hk
 have hl' := fun d k => qc_length p d k
 unfold qc at hl'
 refine ⟨fun hk => ?_, fun hk => ?_⟩
 · have hk : k < l.length := by omega
   have hm : l.getD k (0, 0) ∈ l := getD_mem hk
   refine ⟨by unfold idxPre; omega, ⟨hp, cov_piece hc _ hm⟩, by rw [hl']; have := hp.2.1; omega, fun h => ?_, fun h => ⟨by simp only [inR]; omega, k + 1, ⟨⟨by omega, ?_⟩, by omega⟩, rfl⟩⟩
   · have hx : ¬ posAt p (l.getD k (0, 0)) := by unfold posAt; simpa using h
     have hn : ¬ prf p l := fun hq => hx (hq.2 _ hm)
     simp [hn]
   · have hx : posAt p (l.getD k (0, 0)) := by unfold posAt; simpa using h
     rw [take_getD (d := (0, 0)) hk]
     intro x hm
     rw [List.mem_append, List.mem_singleton] at hm
     rcases hm with hm | hm
     · exact h2 x hm
     · rw [hm]; exact hx
 · have : l.take k = l := List.take_of_length_le (by omega)
   rw [this] at h2; exact h2
theorem call28 (p : List Int) (l : List (Int × Int)) (hp : isPoly p /\ l.length < 1000000) : GCall Tryd.prog gl 28 true [.sl I64 p, .sl Q2 l] [] [.bool (decide (prf p l))] [] := by
 refine gcall_of (X := X [e73,e16,e72]) (X_ok [e73,e16,e72]) (f := 28) (fn := Tryd.f28) (c := bodyOf Tryd.f28) (by kernel_rfl) (by kernel_rfl) (view := false) (rvs := [.tmp 4]) (by kernel_rfl) (H := (H28 p l)) 80 (by kernel_rfl) ?_
 have hL := loop28 p l hp.1 hp.2
 refine of_eq (q := True /\ True /\ (l.length + 1 <= 1000000 /\ True) /\ True /\ ((!decide (cov (0 : Int) l)) = true -> True /\ True /\ (false = decide (prf p l) /\ True) /\ True) /\ ((!decide (cov (0 : Int) l)) = false -> True /\ LoopOK (X [e73, e16, e72]) L28_0 { J := chk (0 : Nat) [(0 : Nat), (1 : Nat), (5 : Nat)] (inv28 p l) (st28 p l), exits := List.map (fun (x : List Nat × Ex) => x.snd) (ex28 p l) } (RetR (X [e73, e16, e72]) true false [ResultVar.tmp (4 : Tmp)] [AV.bool (decide (prf p l))] []) /\ (∃ (y : Nat), inv28 p l y /\ (p = p /\ l = l /\ (0 : Int) = (y : Int) /\ True) /\ True) /\ (∀ (y : Unit), (∀ (x : Int × Int), x ∈ l -> posAt p x) -> True /\ True /\ (true = decide (prf p l) /\ True) /\ True) /\ True)) (by kernel_rfl) ?_
 simp only [zz]
 have := hp.2
 refine ⟨by omega, fun h => ?_, fun h => ?_⟩
 · have h : ¬ cov 0 l := by simpa using h
   have hn : ¬ prf p l := fun hq => h hq.1
   simp [hn]
 · have h : cov 0 l := by simpa using h
   exact ⟨hL h, ⟨0, ⟨by omega, by simp⟩, rfl⟩, fun _ h' => by simp [show prf p l from ⟨h, h'⟩]⟩
def e28 : Entry Tryd.prog gl := entry2 28 ⟨Tryd.f28, by kernel_rfl, by kernel_rfl, by kernel_rfl⟩ SI SQ (fun p l => isPoly p /\ l.length < 1000000) true (fun p l => [.bool (decide (prf p l))]) (fun _ _ => []) (call28)
def lowK (p : List Int) (D : Nat) : Nat -> Nat -> Option Rat
 | _, 0 => none
 | k, n + 1 => if at' p k D <= 0 then some (Rat.divInt k D) else lowK p D (k + 1) n
def lowD (p : List Int) : Nat -> Nat -> Option Rat
 | _, 0 => none
 | d, n + 1 => (lowK p (2 ^ d) 0 (2 ^ d + 1)).or (lowD p (d + 1) n)
def lowP (p : List Int) : Option Rat := lowD p 0 7
def lowQ (p : List Int) : Int × Int := match lowP p with | some x => qp x | none => (0, 0)
theorem pow_le6 {d : Nat} (h : d < 7) : 1 <= 2 ^ d /\ 2 ^ d <= 64 /\ (1 * (2 : Int) ^ d) = ((2 ^ d : Nat) : Int) :=
 ⟨Nat.pow_pos (by decide), Nat.pow_le_pow_right (n := 2) (by decide) (show d <= 6 by omega), by simp⟩
theorem fr2 (k d : Nat) : fracR k (1 * 2 ^ d) = qp (Rat.divInt k ((2 ^ d : Nat) : Int)) := by
 rw [show (1 * (2 : Int) ^ d) = ((2 ^ d : Nat) : Int) by simp]
 exact fracR_div (Nat.pow_pos (by decide))
theorem low_at {p : List Int} {D k : Nat} (hk : k <= D) (h : at' p k D <= 0) : lowK p D k (D + 1 - k) = some (Rat.divInt k D) := by
 rw [show D + 1 - k = (D - k) + 1 by omega, lowK, if_pos h]
theorem low_not {p : List Int} {D k : Nat} (hk : k <= D) (h : ¬ at' p k D <= 0) : lowK p D k (D + 1 - k) = lowK p D (k + 1) (D - k) := by
 rw [show D + 1 - k = (D - k) + 1 by omega, lowK, if_neg h]
def invA (p : List Int) (d : Nat) : Prop := d <= 7 /\ lowP p = lowD p d (7 - d)
def invB (p : List Int) (d k : Nat) : Prop := d < 7 /\ k <= 2 ^ d + 1 /\ lowP p = (lowK p (2 ^ d) k (2 ^ d + 1 - k)).or (lowD p (d + 1) (6 - d))
def low29 (p : List Int) : Int × Int := if isPoly p then lowQ p else (0, 0)
noncomputable def L29_0 : Code := lp (bodyOf Tryd.f29) 0
noncomputable def L29_2 : Code := lp (bodyOf Tryd.f29) 2
def st29 (p : List Int) (d : Nat) : St := ⟨.sl I64 p :: .dead :: .ptr 0 0 [] :: (dd 12 ++ .int .i64 d :: dd 24), [.bx (ofD Q2 (0, 0))]⟩
def ex29 (p : List Int) : List (List Nat × Ex) := [([2], ⟨0, Unit, fun _ => lowP p = none, fun _ => ⟨.dead :: .dead :: .ptr 0 0 [] :: dd 37, [.bx (ofD Q2 (0, 0))]⟩⟩)]
def st29b (p : List Int) (d : Nat) (k : Nat) : St := ⟨.sl I64 p :: .dead :: .ptr 0 0 [] :: .dead :: .dead :: .dead :: .int .i64 d :: (dd 8 ++ .int .i64 d :: (dd 5 ++ .int .i64 ((2 ^ d : Nat) + 1 : Int) :: .int .i64 k :: dd 17)), [.bx (ofD Q2 (0, 0))]⟩
def ex29b (p : List Int) (d : Nat) : List (List Nat × Ex) := [([0, 2, 15], ⟨2, Unit, fun _ => lowP p = lowD p (d + 1) (6 - d), fun _ => st29 p d⟩)]
noncomputable def H29b (p : List Int) (d : Nat) : Nat -> Option Hint := fun _ => some ⟨chk 0 [0, 2, 6, 15, 21, 22] (invB p d) (st29b p d), (ex29b p d).map (·.2)⟩
noncomputable def H29 (p : List Int) : Nat -> Option Hint := fun _ => some ⟨chk 0 [0, 2, 15] (invA p) (st29 p), (ex29 p).map (·.2)⟩
abbrev R29 (p : List Int) := RetR (X [e56, e74, e75, e76]) true false [.cell 2 48, .tmp 3, .tmp 4] [ofD Q2 (low29 p), .bool (decide (isPoly p) && (lowP p).isSome), .int .i64 (errOf p)] []
theorem loop29b (p : List Int) (hp : isPoly p) (d : Nat) (hd : d < 7) : LoopOK (X [e56, e74, e75, e76]) L29_2 ⟨chk 0 [0, 2, 6, 15, 21, 22] (invB p d) (st29b p d), (ex29b p d).map (·.2)⟩ (R29 p) := by
 refine loop_ok (X_ok [e56, e74, e75, e76]) (H := fun _ _ => none) [0, 2, 6, 15, 21, 22] (invB p d) (st29b p d) (fun k => 2 ^ d + 1 - k) (ex29b p d) 80 fun (k : Nat) hk => ?_
 refine of_eq (q := True /\ ((k : Int) < 2 ^ d + 1 -> True /\ True /\ True /\ True /\ inR .u64 (d : Int) /\ (((0 : Int) <= (d : Int) /\ (d : Int) < bitsOf .i64) /\ (-9223372036854775808 : Int) <= 1 * 2 ^ d /\ (1 : Int) * 2 ^ d <= 9223372036854775807) /\ ((small (k : Int) /\ small ((1 : Int) * 2 ^ d) /\ (0 : Int) < 1 * 2 ^ d) /\ True) /\ True /\ True /\ True /\ True /\ ((isPoly p /\ good ((fracR (k : Int) ((1 : Int) * 2 ^ d)).fst, (fracR (k : Int) ((1 : Int) * 2 ^ d)).snd) /\ part (64 : Int) (rat ((fracR (k : Int) ((1 : Int) * 2 ^ d)).fst, (fracR (k : Int) ((1 : Int) * 2 ^ d)).snd))) /\ True) /\ True /\ True /\ ((hval (rat ((fracR (k : Int) ((1 : Int) * 2 ^ d)).fst, (fracR (k : Int) ((1 : Int) * 2 ^ d)).snd)) p).num <= 0 -> True /\ (True /\ True) /\ True /\ True /\ True /\ (True /\ True) /\ ([(fracR (k : Int) ((1 : Int) * 2 ^ d)).fst, (fracR (k : Int) ((1 : Int) * 2 ^ d)).snd] = [(low29 p).fst, (low29 p).snd] /\ true = (decide (isPoly p) && (lowP p).isSome) /\ (0 : Int) = errOf p /\ True) /\ True) /\ (¬(hval (rat ((fracR (k : Int) ((1 : Int) * 2 ^ d)).fst, (fracR (k : Int) ((1 : Int) * 2 ^ d)).snd)) p).num <= 0 -> inR .i64 ((k : Int) + 1) /\ True /\ ∃ (y : Nat), (invB p d y /\ (2 : Nat) ^ d + 1 - y < 2 ^ d + 1 - k) /\ (p = p /\ True /\ (d : Int) = (d : Int) /\ (d : Int) = (d : Int) /\ (2 : Int) ^ d + 1 = 2 ^ d + 1 /\ (k : Int) + 1 = (y : Int) /\ True) /\ [(0 : Int), (0 : Int)] = [(0 : Int), (0 : Int)] /\ True)) /\ (¬(k : Int) < 2 ^ d + 1 -> ∃ (y : Unit), lowP p = lowD p (d + 1) ((6 : Nat) - d) /\ (p = p /\ True /\ (d : Int) = (d : Int) /\ True) /\ [(0 : Int), (0 : Int)] = [(0 : Int), (0 : Int)] /\ True)) (by kernel_rfl) ?_
 simp only [zz]
 obtain ⟨_, h1, h2⟩ := hk
 have ⟨hp1, hp2, hp3⟩ := pow_le6 hd
 have hi1 : (1 : Int) <= ((2 ^ d : Nat) : Int) := Int.ofNat_le.mpr hp1
 have hi2 : ((2 ^ d : Nat) : Int) <= 64 := Int.ofNat_le.mpr hp2
 have hi3 : (2 : Int) ^ d = ((2 ^ d : Nat) : Int) := by simp
 rw [fr2, hp3, hi3]
 simp only [qp_fst, qp_snd, rat_num_den]
 have hb : (0 <= (d : Int) /\ (d : Int) < bitsOf IntKind.i64) /\ -9223372036854775808 <= ((2 ^ d : Nat) : Int) /\ ((2 ^ d : Nat) : Int) <= 9223372036854775807 := ⟨⟨by omega, by simp only [bitsOf]; omega⟩, by omega, by omega⟩
 refine ⟨fun hk => ⟨by simp only [inR]; omega, hb, ⟨by unfold small; omega, by unfold small; rw [Int.natAbs_natCast]; omega, by omega⟩, ⟨hp, good_nd _, part_div (k := k) (D := 2 ^ d) (m := 64) (by omega) (by omega) (by omega)⟩, fun h => ?_, fun h => ⟨by simp only [inR]; omega, k + 1, ⟨⟨hd, by omega, ?_⟩, by omega⟩, rfl⟩⟩, fun hk => ?_⟩
 · rw [low_at (by omega) h] at h2
   simp [low29, lowQ, h2, hp, errOf]
 · rw [h2, low_not (by omega) h]
   congr 2; omega
 · rw [h2, show 2 ^ d + 1 - k = 0 by omega]
   simp [lowK]
theorem loop29 (p : List Int) (hp : isPoly p) : LoopOK (X [e56, e74, e75, e76]) L29_0 ⟨chk 0 [0, 2, 15] (invA p) (st29 p), (ex29 p).map (·.2)⟩ (R29 p) := by
 refine loop_ok (X_ok [e56, e74, e75, e76]) (H := fun d => H29b p d) [0, 2, 15] (invA p) (st29 p) (fun d => 7 - d) (ex29 p) 80 fun (d : Nat) hk => ?_
 have hL := loop29b p hp d
 refine of_eq (q := True /\ ((d : Int) < 7 -> True /\ True /\ True /\ inR .u64 (d : Int) /\ (((0 : Int) <= (d : Int) /\ (d : Int) < bitsOf .i64) /\ (-9223372036854775808 : Int) <= 1 * 2 ^ d /\ (1 : Int) * 2 ^ d <= 9223372036854775807) /\ inR .i64 ((1 : Int) * 2 ^ d + 1) /\ True /\ LoopOK (X [e56, e74, e75, e76]) L29_2 { J := chk (0 : Nat) [(0 : Nat), (2 : Nat), (6 : Nat), (15 : Nat), (21 : Nat), (22 : Nat)] (invB p d) (st29b p d), exits := List.map (fun (x : List Nat × Ex) => x.snd) (ex29b p d) } (R29 p) /\ (∃ (y : Nat), invB p d y /\ (p = p /\ True /\ (d : Int) = (d : Int) /\ (d : Int) = (d : Int) /\ (1 : Int) * 2 ^ d + 1 = 2 ^ d + 1 /\ (0 : Int) = (y : Int) /\ True) /\ [(0 : Int), (0 : Int)] = [(0 : Int), (0 : Int)] /\ True) /\ (∀ (y : Unit), lowP p = lowD p (d + 1) ((6 : Nat) - d) -> inR .i64 ((d : Int) + 1) /\ True /\ ∃ (y : Nat), (invA p y /\ (7 : Nat) - y < 7 - d) /\ (p = p /\ True /\ (d : Int) + 1 = (y : Int) /\ True) /\ [(0 : Int), (0 : Int)] = [(0 : Int), (0 : Int)] /\ True) /\ True) /\ (¬(d : Int) < 7 -> ∃ (y : Unit), lowP p = none /\ (True /\ True) /\ [(0 : Int), (0 : Int)] = [(0 : Int), (0 : Int)] /\ True)) (by kernel_rfl) ?_
 simp only [zz]
 obtain ⟨h1, h2⟩ := hk
 refine ⟨fun hd => ?_, fun hd => ?_⟩
 · have ⟨hp1, hp2, hp3⟩ := pow_le6 (d := d) (by omega)
   have hi1 : (1 : Int) <= ((2 ^ d : Nat) : Int) := Int.ofNat_le.mpr hp1
   have hi2 : ((2 ^ d : Nat) : Int) <= 64 := Int.ofNat_le.mpr hp2
   have hi3 : (2 : Int) ^ d = ((2 ^ d : Nat) : Int) := by simp
   have hb : (0 <= (d : Int) /\ (d : Int) < bitsOf IntKind.i64) /\ -9223372036854775808 <= ((2 ^ d : Nat) : Int) /\ ((2 ^ d : Nat) : Int) <= 9223372036854775807 := ⟨⟨by omega, by simp only [bitsOf]; omega⟩, by omega, by omega⟩
   rw [hp3, hi3]
   refine ⟨by simp only [inR]; omega, hb, by simp only [inR]; omega, hL (by omega), ⟨0, ⟨by omega, Nat.zero_le _, ?_⟩, rfl, rfl⟩, fun _ h => ⟨by simp only [inR]; omega, d + 1, ⟨⟨by omega, ?_⟩, by omega⟩, rfl⟩⟩
   · rw [h2, show 7 - d = (6 - d) + 1 by omega]; try rfl
   · rw [h, show 7 - (d + 1) = 6 - d by omega]
 · rw [h2, show 7 - d = 0 by omega]; try rfl
theorem call29 (p : List Int) (hp : p.length < 1000000) : GCall Tryd.prog gl 29 true [.sl I64 p] [] [ofD Q2 (low29 p), .bool (decide (isPoly p) && (lowP p).isSome), .int .i64 (errOf p)] [] := by
 refine gcall_of (X := X [e56,e74,e75,e76]) (X_ok [e56,e74,e75,e76]) (f := 29) (fn := Tryd.f29) (c := bodyOf Tryd.f29) (by kernel_rfl) (by kernel_rfl) (view := false) (rvs := [.cell 2 48, .tmp 3, .tmp 4]) (by kernel_rfl) (H := (H29 p)) 80 (by kernel_rfl) ?_
 have hL := loop29 p
 refine of_eq (q := True /\ True /\ True /\ True /\ (p.length + 1 <= 1000000 /\ True) /\ True /\ True /\ True /\ (¬errOf p = 0 -> True /\ True /\ True /\ True /\ True /\ (True /\ True) /\ ([(0 : Int), (0 : Int)] = [(low29 p).fst, (low29 p).snd] /\ false = (decide (isPoly p) && (lowP p).isSome) /\ errOf p = errOf p /\ True) /\ True) /\ (¬¬errOf p = 0 -> True /\ LoopOK (X [e56, e74, e75, e76]) L29_0 { J := chk (0 : Nat) [(0 : Nat), (2 : Nat), (15 : Nat)] (invA p) (st29 p), exits := List.map (fun (x : List Nat × Ex) => x.snd) (ex29 p) } (R29 p) /\ (∃ (y : Nat), invA p y /\ (p = p /\ True /\ (0 : Int) = (y : Int) /\ True) /\ [(0 : Int), (0 : Int)] = [(0 : Int), (0 : Int)] /\ True) /\ (∀ (y : Unit), lowP p = none -> True /\ True /\ True /\ True /\ (True /\ True) /\ ([(0 : Int), (0 : Int)] = [(low29 p).fst, (low29 p).snd] /\ false = (decide (isPoly p) && (lowP p).isSome) /\ (0 : Int) = errOf p /\ True) /\ True) /\ True)) (by kernel_rfl) ?_
 simp only [zz]
 refine ⟨by omega, fun he => ?_, fun he => ?_⟩
 · have hn : ¬ isPoly p := fun h' => he (by simp [errOf, h'])
   simp [low29, hn]
 · have hy : isPoly p := errOf_poly he
   exact ⟨hL hy, ⟨0, ⟨by omega, rfl⟩, rfl⟩, fun _ h => by simp [low29, lowQ, h, errOf, hy]⟩
def e29 : Entry Tryd.prog gl := entry1 29 ⟨Tryd.f29, by kernel_rfl, by kernel_rfl, by kernel_rfl⟩ SI (fun p => p.length < 1000000) true (fun p => [ofD Q2 (low29 p), .bool (decide (isPoly p) && (lowP p).isSome), .int .i64 (errOf p)]) (fun _ => []) (call29)
end Go.Am.Bern

/- Bern: corners of others. -/
namespace Go.Am.Bern
open Go Go.Am Go.Proofs
noncomputable def Xw (l : EL) (hs : Nat -> Bool) : Cy := { X l with hs := hs }
theorem Xw_ok (l : EL) (hs : Nat -> Bool) : (Xw l hs).Ok := { tt := (X_ok l).tt, Γ := (X_ok l).Γ, Γd := (X_ok l).Γd, Yl := (X_ok l).Yl }
def isGiv (x : Int × Int) : Prop := -1000000 <= x.1 /\ x.1 <= 1000000 /\ 1 <= x.2 /\ (240 : Int).tmod x.2 = 0 /\ gcdR x.1 x.2 = 1
instance (x : Int × Int) : Decidable (isGiv x) := inferInstanceAs (Decidable (_ /\ _))
def given (l : List (Int × Int)) (most : Int) : Prop := (∀ x ∈ l, isGiv x) /\ 1 <= l.length /\ (l.length : Int) <= most
instance (l : List (Int × Int)) (most : Int) : Decidable (given l most) := inferInstanceAs (Decidable (_ /\ _))
def openR (l : List (Int × Int)) (most : Int) : List (Int × Int) := if given l most then l else []
def hs80 : Nat -> Bool := fun t => Nat.beq t 38
noncomputable abbrev X80 : Cy := Xw [e96] hs80
theorem modU_neg {a : Int} (h : -1000000 <= a /\ a <= 1000000) : modU .i64 (0 - a) = -a := by
 rw [<- wrap_modU, wrap_inR (by simp only [inR]; omega)]; omega
theorem maxI_le {a b c : Int} : maxI a b <= c ↔ a <= c /\ b <= c := by unfold maxI; split <;> omega
theorem le240 {x : Int} (h1 : 1 <= x) (h2 : ¬ ¬ (240 : Int).tmod x = 0) : x <= 240 := by
 false_or_by_contra; rename_i h
 have : (240 : Int).tmod x = 240 := by rw [Int.tmod_eq_emod_of_nonneg (by omega)]; exact Int.emod_eq_of_lt (by omega) (by omega)
 omega
theorem bad80 {l : List (Int × Int)} {most : Int} {k : Nat} (hk : k < l.length) (h : ¬ isGiv (l.getD k (0, 0))) : [] = openR l most /\ false = decide (given l most) := by
 have hn : ¬ given l most := fun hg => h (hg.1 _ (getD_mem hk))
 simp [openR, hn]
theorem not_lt80 {x : Int × Int} (h : isGiv x) : ¬ 1000000 < maxI x.1 (modU .i64 (0 - x.1)) := by
 rw [modU_neg ⟨h.1, h.2.1⟩, Int.not_lt, maxI_le]; have := h.1; have := h.2.1; omega
noncomputable def L80_0 : Code := lp (bodyOf Tryd.f80) 0
def sz80 (l : List (Int × Int)) (_ : Unit) : St := ⟨.dead :: .dead :: .dead :: .dead :: .dead :: .dead :: .vv (.slice none 0 0) :: (dd 11 ++ .sl Q2 l :: .int .i64 l.length :: .int .i64 0 :: dd 45), []⟩
def st80 (l : List (Int × Int)) (k : Nat) : St := ⟨.dead :: .dead :: .dead :: .dead :: .dead :: .dead :: .own 0 0 :: (dd 11 ++ .sl Q2 l :: .int .i64 l.length :: .int .i64 k :: dd 45), [.sc 0 106 FR (l.take k)]⟩
def inv80 (l : List (Int × Int)) (k : Nat) : Prop := k <= l.length /\ ∀ x ∈ l.take k, isGiv x
def fm80 (l : List (Int × Int)) : List Fam := [⟨Unit, fun _ => True, sz80 l, fun _ => l.length + 1, fun _ _ => none⟩, ⟨Nat, inv80 l, st80 l, fun k => l.length - k, fun _ _ => none⟩]
def ex80 (l : List (Int × Int)) : List (List Nat × Ex) := [([6], ⟨0, Unit, fun _ => l = [], fun _ => ⟨.dead :: .dead :: .dead :: .dead :: .dead :: .dead :: .vv (.slice none 0 0) :: dd 59, []⟩⟩), ([6], ⟨0, Unit, fun _ => ∀ x ∈ l, isGiv x, fun _ => ⟨.dead :: .dead :: .dead :: .dead :: .dead :: .dead :: .own 0 0 :: dd 59, [.sc 0 106 FR l]⟩⟩)]
noncomputable def H80 (l : List (Int × Int)) : Nat -> Option Hint := fun _ => some ⟨chks 0 [6, 18, 19, 20] (fm80 l), (ex80 l).map (·.2)⟩
abbrev R80 (l : List (Int × Int)) (most : Int) := RetR X80 false true [.tmp 4, .tmp 5] [.sl FR (openR l most), .bool (decide (given l most))] []
theorem loop80 (l : List (Int × Int)) (most : Int) (hl : l.length < 1000000) : LoopOK X80 L80_0 ⟨chks 0 [6, 18, 19, 20] (fm80 l), (ex80 l).map (·.2)⟩ (R80 l most) := by
 refine loop_fams (Xw_ok [e96] hs80) [6, 18, 19, 20] (fm80 l) (ex80 l) 80 ⟨fun _ _ => ?_, fun (k : Nat) hk => ?_, trivial⟩
 · refine of_eq (q := True /\ ((0 : Int) < (l.length : Int) -> idxPre (0 : Int) l.length /\ True /\ True /\ True /\ idxPre (1 : Int) (2 : Nat) /\ True /\ True /\ True /\ ((l.getD (0 : Nat) (0, 0)).snd < 1 -> True /\ True /\ True /\ True /\ True /\ True /\ True /\ True /\ True /\ True /\ (([] : List (Int × Int)) = openR l most /\ false = decide (given l most) /\ True) /\ True) /\ (¬(l.getD (0 : Nat) (0, 0)).snd < 1 -> idxPre (1 : Int) (2 : Nat) /\ True /\ ¬(l.getD (0 : Nat) (0, 0)).snd = 0 /\ True /\ True /\ True /\ (¬Int.tmod (240 : Int) (l.getD (0 : Nat) (0, 0)).snd = 0 -> True /\ True /\ True /\ True /\ True /\ True /\ True /\ True /\ (([] : List (Int × Int)) = openR l most /\ false = decide (given l most) /\ True) /\ True) /\ (¬¬Int.tmod (240 : Int) (l.getD (0 : Nat) (0, 0)).snd = 0 -> idxPre (0 : Int) (2 : Nat) /\ True /\ idxPre (0 : Int) (2 : Nat) /\ True /\ True /\ True /\ True /\ True /\ True /\ ((1000000 : Int) < maxI (l.getD (0 : Nat) (0, 0)).fst (modU .i64 ((0 : Int) - (l.getD (0 : Nat) (0, 0)).fst)) -> True /\ True /\ True /\ True /\ True /\ True /\ (([] : List (Int × Int)) = openR l most /\ false = decide (given l most) /\ True) /\ True) /\ (¬(1000000 : Int) < maxI (l.getD (0 : Nat) (0, 0)).fst (modU .i64 ((0 : Int) - (l.getD (0 : Nat) (0, 0)).fst)) -> idxPre (0 : Int) (2 : Nat) /\ True /\ True /\ True /\ True /\ ((l.getD (0 : Nat) (0, 0)).fst < (-1000000 : Int) -> True /\ True /\ True /\ True /\ (([] : List (Int × Int)) = openR l most /\ false = decide (given l most) /\ True) /\ True) /\ (¬(l.getD (0 : Nat) (0, 0)).fst < (-1000000 : Int) -> idxPre (0 : Int) (2 : Nat) /\ True /\ idxPre (1 : Int) (2 : Nat) /\ True /\ True /\ ((smalls [(l.getD (0 : Nat) (0, 0)).fst, (l.getD (0 : Nat) (0, 0)).snd] /\ [(l.getD (0 : Nat) (0, 0)).fst, (l.getD (0 : Nat) (0, 0)).snd].length < 1000000) /\ True) /\ True /\ True /\ (¬(↑(gcdL [(l.getD (0 : Nat) (0, 0)).fst, (l.getD (0 : Nat) (0, 0)).snd]) : Int) = 1 -> True /\ True /\ True /\ (([] : List (Int × Int)) = openR l most /\ false = decide (given l most) /\ True) /\ True) /\ (¬¬(↑(gcdL [(l.getD (0 : Nat) (0, 0)).fst, (l.getD (0 : Nat) (0, 0)).snd]) : Int) = 1 -> True /\ idxPre (0 : Int) (2 : Nat) /\ True /\ idxPre (1 : Int) (2 : Nat) /\ True /\ True /\ True /\ sumPre (0 : Nat) [((l.getD (0 : Nat) (0, 0)).fst, (l.getD (0 : Nat) (0, 0)).snd)].length (nat_lit 16) /\ True /\ inR .i64 (1 : Int) /\ True /\ ((∃ (y : Unit), (True /\ l.length + 1 < l.length + 1) /\ (False /\ l = l /\ (l.length : Int) = (l.length : Int) /\ (1 : Int) = 0 /\ True) /\ True) ∨ ∃ (y : Nat), (inv80 l y /\ l.length - y < l.length + 1) /\ (True /\ l = l /\ (l.length : Int) = (l.length : Int) /\ (1 : Int) = (y : Int) /\ True) /\ [((l.getD (0 : Nat) (0, 0)).fst, (l.getD (0 : Nat) (0, 0)).snd)] = List.take y l /\ True))))))) /\ (¬(0 : Int) < (l.length : Int) -> (∃ (y : Unit), l = [] /\ (True /\ True) /\ True) ∨ ∃ (y : Unit), (∀ (x : Int × Int), x ∈ l -> isGiv x) /\ (False /\ True) /\ False)) (by kernel_rfl) ?_
   simp only [zz]
   refine ⟨fun hk' => ?_, fun hk' => ?_⟩
   · have hlt : 0 < l.length := by omega
     have bad := fun h => bad80 (most := most) hlt h
     generalize hx : l.getD 0 (0, 0) = x at *
     refine ⟨by unfold idxPre; omega, i12, fun h1 => bad fun g => ?_, fun h1 => ⟨i12, by omega, fun h2 => bad fun g => ?_, fun h2 => ⟨i02, i02, fun h3 => bad fun g => ?_, fun h3 => ⟨i02, fun h4 => bad fun g => ?_, fun h4 => ⟨i02, i12, ⟨fun y hy => ?_, by simp⟩, fun h5 => bad fun g => ?_, fun h5 => ⟨i02, i12, ?_, by simp only [inR]; omega, 0 + 1, ⟨⟨by omega, ?_⟩, by omega⟩, ?_⟩⟩⟩⟩⟩⟩
     · have := g.2.2.1; omega
     · exact h2 g.2.2.2.1
     · exact not_lt80 g h3
     · have := g.1; omega
     · have h3 := (maxI_le.mp (Int.not_lt.mp h3)).1
       have : x.2 <= 240 := le240 (by omega) (by omega)
       simp only [List.mem_cons, List.not_mem_nil, or_false] at hy
       unfold small
       rcases hy with rfl | rfl <;> omega
     · rw [gcdL_two _ _ (by omega)] at h5; exact h5 g.2.2.2.2
     · unfold sumPre; simp; try omega
     · have h3 := (maxI_le.mp (Int.not_lt.mp h3)).1
       rw [gcdL_two _ _ (by omega)] at h5
       have gx : isGiv x := ⟨by omega, h3, by omega, by omega, by omega⟩
       rw [take_getD (d := (0, 0)) hlt, hx]
       intro y hy
       rw [List.mem_append, List.mem_singleton] at hy
       rcases hy with hy | hy
       · simp at hy
       · rw [hy]; exact gx
     · rw [take_getD (d := (0, 0)) hlt, hx]; exact ⟨rfl, rfl⟩
   · exact List.length_eq_zero_iff.mp (by omega)
 · refine of_eq (q := True /\ ((k : Int) < (l.length : Int) -> idxPre (k : Int) l.length /\ True /\ True /\ True /\ idxPre (1 : Int) (2 : Nat) /\ True /\ True /\ True /\ ((l.getD k (0, 0)).snd < 1 -> True /\ True /\ True /\ True /\ True /\ True /\ True /\ True /\ True /\ True /\ (([] : List (Int × Int)) = openR l most /\ false = decide (given l most) /\ True) /\ True) /\ (¬(l.getD k (0, 0)).snd < 1 -> idxPre (1 : Int) (2 : Nat) /\ True /\ ¬(l.getD k (0, 0)).snd = 0 /\ True /\ True /\ True /\ (¬Int.tmod (240 : Int) (l.getD k (0, 0)).snd = 0 -> True /\ True /\ True /\ True /\ True /\ True /\ True /\ True /\ (([] : List (Int × Int)) = openR l most /\ false = decide (given l most) /\ True) /\ True) /\ (¬¬Int.tmod (240 : Int) (l.getD k (0, 0)).snd = 0 -> idxPre (0 : Int) (2 : Nat) /\ True /\ idxPre (0 : Int) (2 : Nat) /\ True /\ True /\ True /\ True /\ True /\ True /\ ((1000000 : Int) < maxI (l.getD k (0, 0)).fst (modU .i64 ((0 : Int) - (l.getD k (0, 0)).fst)) -> True /\ True /\ True /\ True /\ True /\ True /\ (([] : List (Int × Int)) = openR l most /\ false = decide (given l most) /\ True) /\ True) /\ (¬(1000000 : Int) < maxI (l.getD k (0, 0)).fst (modU .i64 ((0 : Int) - (l.getD k (0, 0)).fst)) -> idxPre (0 : Int) (2 : Nat) /\ True /\ True /\ True /\ True /\ ((l.getD k (0, 0)).fst < (-1000000 : Int) -> True /\ True /\ True /\ True /\ (([] : List (Int × Int)) = openR l most /\ false = decide (given l most) /\ True) /\ True) /\ (¬(l.getD k (0, 0)).fst < (-1000000 : Int) -> idxPre (0 : Int) (2 : Nat) /\ True /\ idxPre (1 : Int) (2 : Nat) /\ True /\ True /\ ((smalls [(l.getD k (0, 0)).fst, (l.getD k (0, 0)).snd] /\ [(l.getD k (0, 0)).fst, (l.getD k (0, 0)).snd].length < 1000000) /\ True) /\ True /\ True /\ (¬(↑(gcdL [(l.getD k (0, 0)).fst, (l.getD k (0, 0)).snd]) : Int) = 1 -> True /\ True /\ True /\ (([] : List (Int × Int)) = openR l most /\ false = decide (given l most) /\ True) /\ True) /\ (¬¬(↑(gcdL [(l.getD k (0, 0)).fst, (l.getD k (0, 0)).snd]) : Int) = 1 -> True /\ idxPre (0 : Int) (2 : Nat) /\ True /\ idxPre (1 : Int) (2 : Nat) /\ True /\ True /\ True /\ sumPre (List.take k l).length [((l.getD k (0, 0)).fst, (l.getD k (0, 0)).snd)].length (nat_lit 16) /\ True /\ inR .i64 ((k : Int) + 1) /\ True /\ ((∃ (y : Unit), (True /\ l.length + 1 < l.length - k) /\ (False /\ l = l /\ (l.length : Int) = (l.length : Int) /\ (k : Int) + 1 = 0 /\ True) /\ True) ∨ ∃ (y : Nat), (inv80 l y /\ l.length - y < l.length - k) /\ (True /\ l = l /\ (l.length : Int) = (l.length : Int) /\ (k : Int) + 1 = (y : Int) /\ True) /\ List.take k l ++ [((l.getD k (0, 0)).fst, (l.getD k (0, 0)).snd)] = List.take y l /\ True))))))) /\ (¬(k : Int) < (l.length : Int) -> (∃ (y : Unit), l = [] /\ (False /\ True) /\ True) ∨ ∃ (y : Unit), (∀ (x : Int × Int), x ∈ l -> isGiv x) /\ (True /\ True) /\ List.take k l = l /\ True)) (by kernel_rfl) ?_
   simp only [zz]
   obtain ⟨hk1, hk2⟩ := hk
   refine ⟨fun hk' => ?_, fun hk' => ?_⟩
   · have hlt : k < l.length := by omega
     have bad := fun h => bad80 (most := most) hlt h
     generalize hx : l.getD k (0, 0) = x at *
     refine ⟨by unfold idxPre; omega, i12, fun h1 => bad fun g => ?_, fun h1 => ⟨i12, by omega, fun h2 => bad fun g => ?_, fun h2 => ⟨i02, i02, fun h3 => bad fun g => ?_, fun h3 => ⟨i02, fun h4 => bad fun g => ?_, fun h4 => ⟨i02, i12, ⟨fun y hy => ?_, by simp⟩, fun h5 => bad fun g => ?_, fun h5 => ⟨i02, i12, ?_, by simp only [inR]; omega, k + 1, ⟨⟨by omega, ?_⟩, by omega⟩, ?_⟩⟩⟩⟩⟩⟩
     · have := g.2.2.1; omega
     · exact h2 g.2.2.2.1
     · exact not_lt80 g h3
     · have := g.1; omega
     · have h3 := (maxI_le.mp (Int.not_lt.mp h3)).1
       have : x.2 <= 240 := le240 (by omega) (by omega)
       simp only [List.mem_cons, List.not_mem_nil, or_false] at hy
       unfold small
       rcases hy with rfl | rfl <;> omega
     · rw [gcdL_two _ _ (by omega)] at h5; exact h5 g.2.2.2.2
     · unfold sumPre; simp; try omega
     · have h3 := (maxI_le.mp (Int.not_lt.mp h3)).1
       rw [gcdL_two _ _ (by omega)] at h5
       have gx : isGiv x := ⟨by omega, h3, by omega, by omega, by omega⟩
       rw [take_getD (d := (0, 0)) hlt, hx]
       intro y hy
       rw [List.mem_append, List.mem_singleton] at hy
       rcases hy with hy | hy
       · exact hk2 y hy
       · rw [hy]; exact gx
     · rw [take_getD (d := (0, 0)) hlt, hx]; exact ⟨rfl, rfl⟩
   · rw [List.take_of_length_le (by omega)] at *; exact ⟨hk2, rfl⟩
theorem call80 (l : List (Int × Int)) (most : Int) (hl : l.length < 1000000) : GCall Tryd.prog gl 80 false [.sl Q2 l, .int .i64 most] [] [.sl FR (openR l most), .bool (decide (given l most))] [] := by
 refine gcall_of (X := (X80)) ((Xw_ok [e96] hs80)) (f := 80) (fn := Tryd.f80) (c := bodyOf Tryd.f80) (by kernel_rfl) (by kernel_rfl) (view := true) (rvs := [.tmp 4, .tmp 5]) (by kernel_rfl) (H := (H80 l)) 80 (by kernel_rfl) ?_
 have hL := loop80 l most hl
 refine of_eq (q := True /\ True /\ True /\ True /\ True /\ True /\ ((l.length : Int) < 1 -> True /\ True /\ True /\ True /\ (([] : List (Int × Int)) = openR l most /\ false = decide (given l most) /\ True) /\ True) /\ (¬(l.length : Int) < 1 -> True /\ True /\ True /\ True /\ True /\ (most < (l.length : Int) -> True /\ True /\ True /\ (([] : List (Int × Int)) = openR l most /\ false = decide (given l most) /\ True) /\ True) /\ (¬most < (l.length : Int) -> True /\ True /\ True /\ True /\ LoopOK X80 L80_0 { J := chks (0 : Nat) [(6 : Nat), (18 : Nat), (19 : Nat), (20 : Nat)] (fm80 l), exits := List.map (fun (x : List Nat × Ex) => x.snd) (ex80 l) } (R80 l most) /\ ((∃ (y : Unit), True /\ (True /\ l = l /\ (l.length : Int) = (l.length : Int) /\ (0 : Int) = 0 /\ True) /\ True) ∨ ∃ (y : Nat), inv80 l y /\ (False /\ l = l /\ (l.length : Int) = (l.length : Int) /\ (0 : Int) = (y : Int) /\ True) /\ False) /\ (∀ (y : Unit), l = [] -> True /\ True /\ True /\ True /\ (([] : List (Int × Int)) = openR l most /\ true = decide (given l most) /\ True) /\ True) /\ (∀ (y : Unit), (∀ (x : Int × Int), x ∈ l -> isGiv x) -> True /\ True /\ True /\ True /\ (l = openR l most /\ true = decide (given l most) /\ True) /\ True) /\ True))) (by kernel_rfl) ?_
 simp only [zz]
 have hb : ¬ given l most -> [] = openR l most /\ false = decide (given l most) := fun hn => by simp [openR, hn]
 refine ⟨fun h => hb fun g => ?_, fun h => ⟨fun h2 => hb fun g => ?_, fun h2 => ⟨hL, fun _ h3 => ?_, fun _ h3 => ?_⟩⟩⟩
 · have := g.2.1; omega
 · have := g.2.2; omega
 · simp [h3] at h
 · have hg : given l most := ⟨h3, by omega, by omega⟩
   simp [openR, hg]
def e80 : Entry Tryd.prog gl := entry2 80 ⟨Tryd.f80, by kernel_rfl, by kernel_rfl, by kernel_rfl⟩ SQ I64 (fun l (most : Int) => l.length < 1000000) false (fun l (most : Int) => [.sl FR (openR l most), .bool (decide (given l most))]) (fun _ _ => []) (call80)
theorem call37 (l : List (Int × Int)) (hl : l.length < 1000000) : GCall Tryd.prog gl 37 true [.sl Q2 l] [] [.int .i64 (if given l 7 then chg l else 0), .int .i64 (if given l 7 then 0 else 1)] [] := by
 refine gcall_of (X := X [e80,e65]) (X_ok [e80,e65]) (f := 37) (fn := Tryd.f37) (c := bodyOf Tryd.f37) (by kernel_rfl) (by kernel_rfl) (view := false) (rvs := [.tmp 2, .tmp 3]) (by kernel_rfl) (H := fun _ => none) 80 (by kernel_rfl) ?_
 refine of_eq (q := True /\ True /\ True /\ (l.length + 1 <= 1000000 /\ True) /\ True /\ True /\ True /\ True /\ True /\ True /\ True /\ ((!decide (given l (7 : Int))) = true -> True /\ True /\ True /\ (((0 : Int) = if given l (7 : Int) then (↑(chg l) : Int) else (0 : Int)) /\ ((1 : Int) = if given l (7 : Int) then (0 : Int) else (1 : Int)) /\ True) /\ True) /\ ((!decide (given l (7 : Int))) = false -> True /\ ((openR l (7 : Int)).length + 1 <= 1000000 /\ True) /\ True /\ True /\ True /\ (((↑(chg (openR l (7 : Int))) : Int) = if given l (7 : Int) then (↑(chg l) : Int) else (0 : Int)) /\ ((0 : Int) = if given l (7 : Int) then (0 : Int) else (1 : Int)) /\ True) /\ True)) (by kernel_rfl) ?_
 simp only [zz]
 refine ⟨by omega, fun h => ?_, fun h => ?_⟩
 · have h : ¬ given l 7 := by simpa using h
   simp [h]
 · have h : given l 7 := by simpa using h
   simp [openR, h]; omega
def e37 : Entry Tryd.prog gl := entry1 37 ⟨Tryd.f37, by kernel_rfl, by kernel_rfl, by kernel_rfl⟩ SQ (fun l => l.length < 1000000) true (fun l => [.int .i64 (if given l 7 then chg l else 0), .int .i64 (if given l 7 then 0 else 1)]) (fun _ => []) (call37)
end Go.Am.Bern

/- Bern: proofs that are checked; the derivative. -/
namespace Go.Am.Bern
open Go Go.Am Go.Proofs
structure S31 where
 k : Nat
 a : Int
 m : Memo
end Go.Am.Bern

/- Bern: the derivative and the mirror. -/
namespace Go.Am.Bern
open Go Go.Am Go.Proofs
end Go.Am.Bern

/- Bern: the mirror. -/
namespace Go.Am.Bern
open Go Go.Am Go.Proofs
def sg (j : Nat) : Int := 1 - 2 * ((j : Int).tmod 2)
def mrow (c : Int) (k j : Nat) (l : List Int) : List Int := (List.range l.length).map fun i => if i < j then l.getD i 0 + c * ch k i * sg i else l.getD i 0
def mK (p : List Int) : Nat -> List Int
 | 0 => List.replicate p.length 0
 | k + 1 => mrow (p.getD k 0) k (k + 1) (mK p k)
def mir (p : List Int) : List Int := mK p p.length
end Go.Am.Bern

/- Bern: lists of corners. -/
namespace Go.Am.Bern
open Go Go.Am Go.Proofs
theorem giv_good {x : Int × Int} (h : isGiv x) : good x := by
 unfold good rat
 rw [<- fracR_eq (by have := h.2.2.1; omega)]
 unfold fracR
 rw [h.2.2.2.2]; simp
theorem giv_fr {x : Int × Int} (h : isGiv x) : fr 240 240000000 (rat x) := by
 obtain ⟨h1, h2, h3, h4, h5⟩ := h
 obtain ⟨c, hc⟩ := Int.dvd_of_tmod_eq_zero h4
 have c1 : 1 <= c := by
   false_or_by_contra; rename_i hn
   have := Int.mul_nonneg (a := x.2) (b := -c) (by omega) (by omega)
   rw [Int.mul_neg] at this; omega
 have c2 : c <= 240 := by
   have := Int.mul_le_mul_of_nonneg_right (show 1 <= x.2 by omega) (show 0 <= c by omega); omega
 refine ⟨x.1 * c, ?_, ?_⟩
 · unfold rat; rw [hc, Rat.divInt_mul_right (by omega)]
 · have := mul_abs (a := x.1) (b := c) (A := 1000000) (B := 240) (by omega) (by omega); omega
theorem given_facts {l : List (Int × Int)} {m : Int} (h : given l m) : goodL l /\ frs 240 240000000 (rats l) := by
 constructor
 · have : ∀ l : List (Int × Int), (∀ x ∈ l, isGiv x) -> goodL l := by
     intro l
     induction l with
     | nil => intro _; try rfl
     | cons a l ih =>
       intro h
       have h1 : good a := giv_good (h a (by simp))
       have h2 := ih fun x hx => h x (by simp [hx])
       unfold goodL at *
       unfold good at h1
       simp only [rats, qs, List.map_cons] at *
       rw [h1, h2]
   exact this l h.1
 · intro r hr
   simp only [rats, List.mem_map] at hr
   obtain ⟨x, hx, rfl⟩ := hr
   exact giv_fr (h.1 x hx)
theorem rats_length (l : List (Int × Int)) : (rats l).length = l.length := by simp [rats]
theorem pow16 : ∀ n : Fin 17, 240 * (n.val : Int) ^ 7 < 9223372036854775808 /\ 240000000 * (n.val : Int) ^ 7 < 9223372036854775808 := by decide
theorem given_dv {l : List (Int × Int)} {x : Int × Int} {m : Int} (h : given l m) (hm : m <= 7) (hx : isPoint x 16) : Dv 240 240000000 x.2 (rat x) (rats l) := by
 have hp := point_part (m := 16) hx
 have hg : qp (rat x) = x := hp.1
 have e2 : ((rat x).den : Int) = x.2 := by rw [<- hg]; simp
 have := hx.1
 have := hx.2.1
 have hw := pow16 ⟨x.2.toNat, by omega⟩
 dsimp only at hw
 rw [Int.toNat_of_nonneg (by omega)] at hw
 exact ⟨by decide, by decide, e2, ⟨hp.2.1, hp.2.2.1⟩, hw.1, hw.2, by rw [rats_length]; have := h.2; omega, (given_facts h).2⟩
theorem point_half : isPoint (1, 2) 16 := by unfold isPoint; decide
def halfR (l : List (Int × Int)) : List (List (Int × Int)) := if given l 7 then [qs (dvL half (rats l)), qs (dvR half (rats l))] else [[], []]
theorem call35 (l : List (Int × Int)) (hl : l.length < 1000000) : GCall Tryd.prog gl 35 false [.sl Q2 l] [] [.ar (.sl Q2) 2 (halfR l), .int .i64 (if given l 7 then 0 else 1)] [] := by
 refine gcall_of (X := X [e80,e83,e58]) (X_ok [e80,e83,e58]) (f := 35) (fn := Tryd.f35) (c := bodyOf Tryd.f35) (by kernel_rfl) (by kernel_rfl) (view := true) (rvs := [.cell 2 58, .tmp 3]) (by kernel_rfl) (H := fun _ => none) 80 (by kernel_rfl) ?_
 refine of_eq (q := True /\ True /\ True /\ (l.length + 1 <= 1000000 /\ True) /\ True /\ True /\ True /\ True /\ True /\ True /\ True /\ ((!decide (given l (7 : Int))) = true -> True /\ True /\ True /\ (True /\ True) /\ (([] : List (Int × Int)) :: ([] : List (Int × Int)) :: ([] : List (List (Int × Int))) = halfR l /\ ((1 : Int) = if given l (7 : Int) then (0 : Int) else (1 : Int)) /\ True) /\ True) /\ ((!decide (given l (7 : Int))) = false -> True /\ True /\ ((goodL (openR l (7 : Int)) /\ good ((1 : Int), (2 : Int)) /\ ∃ (D : Int), ∃ (M : Int), ∃ (b : Int), Dv D M b (rat ((1 : Int), (2 : Int))) (rats (openR l (7 : Int)))) /\ True) /\ True /\ True /\ idxPre (0 : Int) (2 : Nat) /\ True /\ (qs (dvL (rat ((1 : Int), (2 : Int))) (rats (openR l (7 : Int))))).length + 1 <= 1000000 /\ idxPre (1 : Int) (2 : Nat) /\ True /\ (qs (dvR (rat ((1 : Int), (2 : Int))) (rats (openR l (7 : Int))))).length + 1 <= 1000000 /\ True /\ True /\ True /\ (True /\ True) /\ ([qs (dvL (rat ((1 : Int), (2 : Int))) (rats (openR l (7 : Int)))), qs (dvR (rat ((1 : Int), (2 : Int))) (rats (openR l (7 : Int))))] = halfR l /\ ((0 : Int) = if given l (7 : Int) then (0 : Int) else (1 : Int)) /\ True) /\ True)) (by kernel_rfl) ?_
 simp only [zz]
 refine ⟨by omega, fun h => ?_, fun h => ?_⟩
 · have h : ¬ given l 7 := by simpa using h
   simp [halfR, h]
 · have h : given l 7 := by simpa using h
   have e : openR l 7 = l := by simp [openR, h]
   have h3 := rats_length l
   rw [e, rat_half]
   have hd := given_dv h (by omega) point_half
   rw [rat_half] at hd
   exact ⟨⟨(given_facts h).1, good_half, _, _, _, hd⟩, i02, by rw [qs_length, dvL_length]; omega, i12, by rw [qs_length, dvR_length]; omega, by simp [halfR, h]⟩
def atR (l : List (Int × Int)) (x : Int × Int) : Int × Int := if given l 7 /\ isPoint x 16 then (qs (dvR (rat x) (rats l))).getD 0 (0, 0) else (0, 0)
def rz (l : List Rat) (i : Nat) : Rat := (if 0 < i then l.getD (i - 1) 0 * Rat.divInt i l.length else 0) + (if i < l.length then l.getD i 0 * Rat.divInt ((l.length - i : Nat) : Int) l.length else 0)
def rzs (l : List Rat) (i : Nat) : List Rat := (List.range i).map (rz l)
theorem rzs_length (l : List Rat) (i : Nat) : (rzs l i).length = i := by simp [rzs]
theorem rzs_step (l : List Rat) (i : Nat) : rzs l (i + 1) = rzs l i ++ [rz l i] := by simp [rzs, List.range_succ]
def raise (l : List Rat) : List Rat := rzs l (l.length + 1)
theorem frs_getD {D M : Int} {l : List Rat} {i : Nat} (h : frs D M l) (hi : i < l.length) : fr D M (l.getD i 0) := h _ (getD_mem hi)
theorem rz_mul {l : List Rat} (h : frs 240 240000000 l) (hl : l.length <= 6) {i k : Nat} (hi : i < l.length) (hk : k <= l.length) : mulOk (l.getD i 0) (Rat.divInt k l.length) /\ fr (240 * (l.length : Int)) 1440000000 (l.getD i 0 * Rat.divInt k l.length) := by
 have h1 := frs_getD h hi
 have h2 := h1.mul (D' := (l.length : Int)) (n := (k : Int)) 6 ⟨by omega, by omega⟩
 have h3 := part_div (k := k) (D := l.length) (m := 6) (by omega) hk hl
 refine ⟨⟨h1.sq (by omega) (by omega) (by omega), ⟨by unfold small; have := h3.1; have := h3.2; omega, by unfold small; have := h3.2; omega⟩, _, _, ?_, ?_, ?_, h2⟩, h2.by rfl (by omega)⟩ <;> omega
theorem rz_add {l : List Rat} (h : frs 240 240000000 l) (hl : l.length <= 6) {i j k m : Nat} (hi : i < l.length) (hj : j < l.length) (hk : k <= l.length) (hm : m <= l.length) : addOk (l.getD i 0 * Rat.divInt k l.length) (l.getD j 0 * Rat.divInt m l.length) :=
 ⟨_, _, _, by omega, by omega, (rz_mul h hl hi hk).2, (rz_mul h hl hj hm).2, by omega⟩
theorem div_self {n : Nat} (h : 0 < n) : Rat.divInt n n = 1 := by
 have := Rat.divInt_mul_right (n := 1) (d := 1) (a := (n : Int)) (by omega)
 rw [Int.one_mul] at this; rw [this]; try rfl
theorem rz_first {l : List Rat} (h : 0 < l.length) : rz l 0 = l.getD 0 0 := by
 simp [rz, h, div_self h, Rat.zero_add, Rat.mul_one]
theorem rz_last {l : List Rat} (h : 0 < l.length) : rz l l.length = l.getD (l.length - 1) 0 := by
 simp [rz, h, div_self h, Rat.add_zero, Rat.mul_one]
theorem rz_mid {l : List Rat} {i : Nat} (h0 : 0 < i) (h : i < l.length) : rz l i = l.getD (i - 1) 0 * Rat.divInt i l.length + l.getD i 0 * Rat.divInt ((l.length - i : Nat) : Int) l.length := by
 simp [rz, h0, h]
def raiseR (l : List (Int × Int)) : List (Int × Int) := if given l 6 then qs (raise (rats l)) else []
noncomputable def L34_0 : Code := lp (bodyOf Tryd.f34) 0
def st34 (q : List Rat) (i : Nat) : St := ⟨.dead :: .dead :: .dead :: .dead :: .sl FR (qs q) :: .dead :: .int .i64 q.length :: .own 0 0 :: .int .i64 i :: dd 50, [.sc 0 106 FR (qs (rzs q i))]⟩
def inv34 (q : List Rat) (i : Nat) : Prop := 1 <= i /\ i <= q.length
def ex34 (q : List Rat) : List (List Nat × Ex) := [([4, 6, 7], ⟨0, Unit, fun _ => True, fun _ => ⟨.dead :: .dead :: .dead :: .dead :: .sl FR (qs q) :: .dead :: .int .i64 q.length :: .own 0 0 :: dd 51, [.sc 0 106 FR (qs (rzs q q.length))]⟩⟩)]
noncomputable def H34 (q : List Rat) : Nat -> Option Hint := fun _ => some ⟨chk 0 [4, 6, 7, 8] (inv34 q) (st34 q), (ex34 q).map (·.2)⟩
noncomputable def X34 : Cy := Xd [e80, e74, e81, e82, e58] (drOf [(9, 22)])
theorem loop34 (q : List Rat) (h : frs 240 240000000 q) (hl : q.length <= 6) (R : Exit -> St -> Prop) : LoopOK X34 L34_0 ⟨chk 0 [4, 6, 7, 8] (inv34 q) (st34 q), (ex34 q).map (·.2)⟩ R := by
 refine loop_ok (Xd_ok _ _) (H := fun _ _ => none) [4, 6, 7, 8] (inv34 q) (st34 q) (fun i => q.length - i) (ex34 q) 80 fun (i : Nat) hi => ?_
 refine of_eq (q := True /\ True /\ True /\ ((i : Int) < (q.length : Int) -> True /\ True /\ True /\ inR .i64 ((i : Int) - 1) /\ idxPre ((i : Int) - 1) (qs q).length /\ True /\ True /\ True /\ (small (i : Int) /\ small (q.length : Int) /\ (0 : Int) < (q.length : Int)) /\ (good (((qs q).getD ((i : Int) - 1).toNat ((0 : Int), (0 : Int))).fst, ((qs q).getD ((i : Int) - 1).toNat ((0 : Int), (0 : Int))).snd) /\ good ((fracR (i : Int) (q.length : Int)).fst, (fracR (i : Int) (q.length : Int)).snd) /\ mulOk (rat (((qs q).getD ((i : Int) - 1).toNat ((0 : Int), (0 : Int))).fst, ((qs q).getD ((i : Int) - 1).toNat ((0 : Int), (0 : Int))).snd)) (rat ((fracR (i : Int) (q.length : Int)).fst, (fracR (i : Int) (q.length : Int)).snd))) /\ True /\ True /\ idxPre (i : Int) (qs q).length /\ True /\ True /\ True /\ inR .i64 ((q.length : Int) - (i : Int)) /\ True /\ (small ((q.length : Int) - (i : Int)) /\ small (q.length : Int) /\ (0 : Int) < (q.length : Int)) /\ (good (((qs q).getD i (0, 0)).fst, ((qs q).getD i (0, 0)).snd) /\ good ((fracR ((q.length : Int) - (i : Int)) (q.length : Int)).fst, (fracR ((q.length : Int) - (i : Int)) (q.length : Int)).snd) /\ mulOk (rat (((qs q).getD i (0, 0)).fst, ((qs q).getD i (0, 0)).snd)) (rat ((fracR ((q.length : Int) - (i : Int)) (q.length : Int)).fst, (fracR ((q.length : Int) - (i : Int)) (q.length : Int)).snd))) /\ (good ((rat (((qs q).getD ((i : Int) - 1).toNat ((0 : Int), (0 : Int))).fst, ((qs q).getD ((i : Int) - 1).toNat ((0 : Int), (0 : Int))).snd) * rat ((fracR (i : Int) (q.length : Int)).fst, (fracR (i : Int) (q.length : Int)).snd)).num, (↑(rat (((qs q).getD ((i : Int) - 1).toNat ((0 : Int), (0 : Int))).fst, ((qs q).getD ((i : Int) - 1).toNat ((0 : Int), (0 : Int))).snd) * rat ((fracR (i : Int) (q.length : Int)).fst, (fracR (i : Int) (q.length : Int)).snd)).den : Int)) /\ good ((rat (((qs q).getD i (0, 0)).fst, ((qs q).getD i (0, 0)).snd) * rat ((fracR ((q.length : Int) - (i : Int)) (q.length : Int)).fst, (fracR ((q.length : Int) - (i : Int)) (q.length : Int)).snd)).num, (↑(rat (((qs q).getD i (0, 0)).fst, ((qs q).getD i (0, 0)).snd) * rat ((fracR ((q.length : Int) - (i : Int)) (q.length : Int)).fst, (fracR ((q.length : Int) - (i : Int)) (q.length : Int)).snd)).den : Int)) /\ addOk (rat ((rat (((qs q).getD ((i : Int) - 1).toNat ((0 : Int), (0 : Int))).fst, ((qs q).getD ((i : Int) - 1).toNat ((0 : Int), (0 : Int))).snd) * rat ((fracR (i : Int) (q.length : Int)).fst, (fracR (i : Int) (q.length : Int)).snd)).num, (↑(rat (((qs q).getD ((i : Int) - 1).toNat ((0 : Int), (0 : Int))).fst, ((qs q).getD ((i : Int) - 1).toNat ((0 : Int), (0 : Int))).snd) * rat ((fracR (i : Int) (q.length : Int)).fst, (fracR (i : Int) (q.length : Int)).snd)).den : Int))) (rat ((rat (((qs q).getD i (0, 0)).fst, ((qs q).getD i (0, 0)).snd) * rat ((fracR ((q.length : Int) - (i : Int)) (q.length : Int)).fst, (fracR ((q.length : Int) - (i : Int)) (q.length : Int)).snd)).num, (↑(rat (((qs q).getD i (0, 0)).fst, ((qs q).getD i (0, 0)).snd) * rat ((fracR ((q.length : Int) - (i : Int)) (q.length : Int)).fst, (fracR ((q.length : Int) - (i : Int)) (q.length : Int)).snd)).den : Int)))) /\ True /\ sumPre (qs (rzs q i)).length [((rat ((rat (((qs q).getD ((i : Int) - 1).toNat ((0 : Int), (0 : Int))).fst, ((qs q).getD ((i : Int) - 1).toNat ((0 : Int), (0 : Int))).snd) * rat ((fracR (i : Int) (q.length : Int)).fst, (fracR (i : Int) (q.length : Int)).snd)).num, (↑(rat (((qs q).getD ((i : Int) - 1).toNat ((0 : Int), (0 : Int))).fst, ((qs q).getD ((i : Int) - 1).toNat ((0 : Int), (0 : Int))).snd) * rat ((fracR (i : Int) (q.length : Int)).fst, (fracR (i : Int) (q.length : Int)).snd)).den : Int)) + rat ((rat (((qs q).getD i (0, 0)).fst, ((qs q).getD i (0, 0)).snd) * rat ((fracR ((q.length : Int) - (i : Int)) (q.length : Int)).fst, (fracR ((q.length : Int) - (i : Int)) (q.length : Int)).snd)).num, (↑(rat (((qs q).getD i (0, 0)).fst, ((qs q).getD i (0, 0)).snd) * rat ((fracR ((q.length : Int) - (i : Int)) (q.length : Int)).fst, (fracR ((q.length : Int) - (i : Int)) (q.length : Int)).snd)).den : Int))).num, (↑(rat ((rat (((qs q).getD ((i : Int) - 1).toNat ((0 : Int), (0 : Int))).fst, ((qs q).getD ((i : Int) - 1).toNat ((0 : Int), (0 : Int))).snd) * rat ((fracR (i : Int) (q.length : Int)).fst, (fracR (i : Int) (q.length : Int)).snd)).num, (↑(rat (((qs q).getD ((i : Int) - 1).toNat ((0 : Int), (0 : Int))).fst, ((qs q).getD ((i : Int) - 1).toNat ((0 : Int), (0 : Int))).snd) * rat ((fracR (i : Int) (q.length : Int)).fst, (fracR (i : Int) (q.length : Int)).snd)).den : Int)) + rat ((rat (((qs q).getD i (0, 0)).fst, ((qs q).getD i (0, 0)).snd) * rat ((fracR ((q.length : Int) - (i : Int)) (q.length : Int)).fst, (fracR ((q.length : Int) - (i : Int)) (q.length : Int)).snd)).num, (↑(rat (((qs q).getD i (0, 0)).fst, ((qs q).getD i (0, 0)).snd) * rat ((fracR ((q.length : Int) - (i : Int)) (q.length : Int)).fst, (fracR ((q.length : Int) - (i : Int)) (q.length : Int)).snd)).den : Int))).den : Int))].length (nat_lit 16) /\ True /\ True /\ inR .i64 ((i : Int) + 1) /\ True /\ ∃ (y : Nat), (inv34 q y /\ q.length - y < q.length - i) /\ (qs q = qs q /\ (q.length : Int) = (q.length : Int) /\ True /\ (i : Int) + 1 = (y : Int) /\ True) /\ qs (rzs q i) ++ [((rat ((rat (((qs q).getD ((i : Int) - 1).toNat ((0 : Int), (0 : Int))).fst, ((qs q).getD ((i : Int) - 1).toNat ((0 : Int), (0 : Int))).snd) * rat ((fracR (i : Int) (q.length : Int)).fst, (fracR (i : Int) (q.length : Int)).snd)).num, (↑(rat (((qs q).getD ((i : Int) - 1).toNat ((0 : Int), (0 : Int))).fst, ((qs q).getD ((i : Int) - 1).toNat ((0 : Int), (0 : Int))).snd) * rat ((fracR (i : Int) (q.length : Int)).fst, (fracR (i : Int) (q.length : Int)).snd)).den : Int)) + rat ((rat (((qs q).getD i (0, 0)).fst, ((qs q).getD i (0, 0)).snd) * rat ((fracR ((q.length : Int) - (i : Int)) (q.length : Int)).fst, (fracR ((q.length : Int) - (i : Int)) (q.length : Int)).snd)).num, (↑(rat (((qs q).getD i (0, 0)).fst, ((qs q).getD i (0, 0)).snd) * rat ((fracR ((q.length : Int) - (i : Int)) (q.length : Int)).fst, (fracR ((q.length : Int) - (i : Int)) (q.length : Int)).snd)).den : Int))).num, (↑(rat ((rat (((qs q).getD ((i : Int) - 1).toNat ((0 : Int), (0 : Int))).fst, ((qs q).getD ((i : Int) - 1).toNat ((0 : Int), (0 : Int))).snd) * rat ((fracR (i : Int) (q.length : Int)).fst, (fracR (i : Int) (q.length : Int)).snd)).num, (↑(rat (((qs q).getD ((i : Int) - 1).toNat ((0 : Int), (0 : Int))).fst, ((qs q).getD ((i : Int) - 1).toNat ((0 : Int), (0 : Int))).snd) * rat ((fracR (i : Int) (q.length : Int)).fst, (fracR (i : Int) (q.length : Int)).snd)).den : Int)) + rat ((rat (((qs q).getD i (0, 0)).fst, ((qs q).getD i (0, 0)).snd) * rat ((fracR ((q.length : Int) - (i : Int)) (q.length : Int)).fst, (fracR ((q.length : Int) - (i : Int)) (q.length : Int)).snd)).num, (↑(rat (((qs q).getD i (0, 0)).fst, ((qs q).getD i (0, 0)).snd) * rat ((fracR ((q.length : Int) - (i : Int)) (q.length : Int)).fst, (fracR ((q.length : Int) - (i : Int)) (q.length : Int)).snd)).den : Int))).den : Int))] = qs (rzs q y) /\ True) /\ (¬(i : Int) < (q.length : Int) -> ∃ (y : Unit), True /\ (qs q = qs q /\ (q.length : Int) = (q.length : Int) /\ True /\ True) /\ qs (rzs q i) = qs (rzs q q.length) /\ True)) (by kernel_rfl) ?_
 simp only [zz]
 obtain ⟨h1, h2⟩ := hi
 refine ⟨fun h3 => ?_, fun h3 => by rw [show i = q.length by omega]⟩
 have hq := qs_length q
 have e1 : ((i : Int) - 1).toNat = i - 1 := by omega
 have e2 : (qs q).getD (i - 1) (0, 0) = qp (q.getD (i - 1) 0) := qs_getD (by omega)
 have e3 : (qs q).getD i (0, 0) = qp (q.getD i 0) := qs_getD (by omega)
 have e4 : fracR (i : Int) q.length = qp (Rat.divInt i q.length) := fracR_div (by omega)
 have e5 : fracR ((q.length : Int) - i) q.length = qp (Rat.divInt ((q.length - i : Nat) : Int) q.length) := by
   rw [show ((q.length : Int) - i) = ((q.length - i : Nat) : Int) by omega]; exact fracR_div (by omega)
 simp only [e1, e2, e3, e4, e5, qp_fst, qp_snd, rat_num_den]
 have m1 := rz_mul h hl (i := i - 1) (k := i) (by omega) (by omega)
 have m2 := rz_mul h hl (i := i) (k := q.length - i) (by omega) (by omega)
 have a1 := rz_add h hl (i := i - 1) (j := i) (k := i) (m := q.length - i) (by omega) (by omega) (by omega) (by omega)
 refine ⟨by simp only [inR]; omega, by unfold idxPre; omega, ⟨by unfold small; omega, by unfold small; omega, by omega⟩, ⟨good_nd _, good_nd _, m1.1⟩, by unfold idxPre; omega, by simp only [inR]; omega, ⟨by unfold small; omega, by unfold small; omega, by omega⟩, ⟨good_nd _, good_nd _, m2.1⟩, ⟨good_nd _, good_nd _, a1⟩, ?_, by simp only [inR]; omega, i + 1, ⟨⟨by omega, by omega⟩, by omega⟩, rfl, ?_⟩
 · unfold sumPre; rw [qs_length, rzs_length]; simp; omega
 · rw [rzs_step, rz_mid (by omega) (by omega)]; simp [qs]; try rfl
theorem call34 (l : List (Int × Int)) (hl : l.length < 1000000) : GCall Tryd.prog gl 34 false [.sl Q2 l] [] [.sl Q2 (raiseR l), .int .i64 (if given l 6 then 0 else 1)] [] := by
 refine gcall_of (X := (X34)) ((Xd_ok _ _)) (f := 34) (fn := Tryd.f34) (c := bodyOf Tryd.f34) (by kernel_rfl) (by kernel_rfl) (view := true) (rvs := [.tmp 2, .tmp 3]) (by kernel_rfl) (H := (H34 (rats l))) 80 (by kernel_rfl) ?_
 have hL := loop34 (rats l)
 refine of_eq (q := True /\ True /\ True /\ (l.length + 1 <= 1000000 /\ True) /\ True /\ True /\ True /\ True /\ True /\ True /\ True /\ ((!decide (given l (6 : Int))) = true -> True /\ True /\ True /\ (([] : List (Int × Int)) = raiseR l /\ ((1 : Int) = if given l (6 : Int) then (0 : Int) else (1 : Int)) /\ True) /\ True) /\ ((!decide (given l (6 : Int))) = false -> True /\ True /\ True /\ True /\ idxPre (0 : Int) (openR l (6 : Int)).length /\ True /\ True /\ True /\ True /\ LoopOK X34 L34_0 { J := chk (0 : Nat) [(4 : Nat), (6 : Nat), (7 : Nat), (8 : Nat)] (inv34 (rats l)) (st34 (rats l)), exits := List.map (fun (x : List Nat × Ex) => x.snd) (ex34 (rats l)) } (RetR X34 false true [ResultVar.tmp (2 : Tmp), ResultVar.tmp (3 : Tmp)] [AV.sl Q2 (raiseR l), AV.int .i64 (if given l (6 : Int) then (0 : Int) else (1 : Int))] []) /\ (∃ (y : Nat), inv34 (rats l) y /\ (openR l (6 : Int) = qs (rats l) /\ (↑(openR l (6 : Int)).length : Int) = (↑(rats l).length : Int) /\ True /\ (1 : Int) = (y : Int) /\ True) /\ [(((openR l (6 : Int)).getD (0 : Nat) (0, 0)).fst, ((openR l (6 : Int)).getD (0 : Nat) (0, 0)).snd)] = qs (rzs (rats l) y) /\ True) /\ (∀ (y : Unit), True -> True /\ True /\ True /\ inR .i64 ((↑(rats l).length : Int) - 1) /\ idxPre ((↑(rats l).length : Int) - 1) (qs (rats l)).length /\ True /\ True /\ sumPre (qs (rzs (rats l) (rats l).length)).length [(((qs (rats l)).getD ((↑(rats l).length : Int) - 1).toNat ((0 : Int), (0 : Int))).fst, ((qs (rats l)).getD ((↑(rats l).length : Int) - 1).toNat ((0 : Int), (0 : Int))).snd)].length (nat_lit 16) /\ ((qs (rzs (rats l) (rats l).length) ++ [(((qs (rats l)).getD ((↑(rats l).length : Int) - 1).toNat ((0 : Int), (0 : Int))).fst, ((qs (rats l)).getD ((↑(rats l).length : Int) - 1).toNat ((0 : Int), (0 : Int))).snd)]).length + 1 <= 1000000 /\ True) /\ True /\ True /\ True /\ (qs (rzs (rats l) (rats l).length) ++ [(((qs (rats l)).getD ((↑(rats l).length : Int) - 1).toNat ((0 : Int), (0 : Int))).fst, ((qs (rats l)).getD ((↑(rats l).length : Int) - 1).toNat ((0 : Int), (0 : Int))).snd)] = raiseR l /\ ((0 : Int) = if given l (6 : Int) then (0 : Int) else (1 : Int)) /\ True) /\ True) /\ True)) (by kernel_rfl) ?_
 simp only [zz]
 refine ⟨by omega, fun h => ?_, fun h => ?_⟩
 · have h : ¬ given l 6 := by simpa using h
   simp [raiseR, h]
 · have h : given l 6 := by simpa using h
   have e : openR l 6 = l := by simp [openR, h]
   have hg := given_facts h
   have h3 := rats_length l
   have h4 := h.2
   have hgl : qs (rats l) = l := hg.1
   have hq := qs_length (rzs (rats l) (rats l).length)
   have hr := rzs_length (rats l) (rats l).length
   have e1 : (((rats l).length : Int) - 1).toNat = (rats l).length - 1 := by omega
   have e2 : l.getD 0 (0, 0) = qp ((rats l).getD 0 0) := by have := qs_getD (l := rats l) (k := 0) (by omega); rwa [hgl] at this
   have e3 : l.getD ((rats l).length - 1) (0, 0) = qp ((rats l).getD ((rats l).length - 1) 0) := by have := qs_getD (l := rats l) (k := (rats l).length - 1) (by omega); rwa [hgl] at this
   have hlen : (qs (rzs (rats l) (rats l).length) ++ [qp ((rats l).getD ((rats l).length - 1) 0)]).length = (rats l).length + 1 := by rw [List.length_append, qs_length, rzs_length]; try rfl
   rw [e, hgl, e1, e2, e3]
   refine ⟨by unfold idxPre; omega, hL hg.2 (by omega) _, ⟨1, ⟨by omega, by omega⟩, ⟨rfl, by omega, rfl⟩, ?_⟩, fun _ _ => ⟨by simp only [inR]; omega, by unfold idxPre; omega, by unfold sumPre; rw [qs_length, rzs_length]; simp; omega, Nat.le_trans (Nat.le_of_eq (congrArg (· + 1) hlen)) (by omega), ?_, by simp [h]⟩⟩
   · simp only [rzs, List.range_one, List.map_cons, List.map_nil, qs]
     rw [rz_first (by omega)]
     try rfl
   · rw [raiseR, if_pos h, raise, rzs_step, rz_last (by omega)]
     simp [qs]; try rfl
end Go.Am.Bern

/- Bern: functions of the laws. -/
namespace Go.Am.Bern
open Go Go.Am Go.Proofs
def u64 (x : Int) : Int := modU .u64 x
theorem u64_nn (x : Int) : 0 <= u64 x /\ u64 x < 18446744073709551616 := by unfold u64; simp only [modU]; omega
def tm (x : Int) : Int := (u64 x).tmod 201 - 100
theorem tm_range (x : Int) : -100 <= tm x /\ tm x <= 100 := by
 have := u64_nn x
 unfold tm; rw [Int.tmod_eq_emod_of_nonneg this.1]; omega
noncomputable def L12_0 : Code := lp (bodyOf Tryd.f12) 0
def tmL (l : List Int) : List Int := if l = [] then [1] else (l.take 7).map tm
def st12 (l : List Int) (k : Nat) : St := ⟨.sl I64 l :: .dead :: .dead :: .own 0 0 :: .int .i64 k :: dd 29, [.sc 0 3 I64 ((l.take k).map tm)]⟩
def ex12 (l : List Int) : List (List Nat × Ex) := [([3], ⟨0, Unit, fun _ => True, fun _ => ⟨.dead :: .dead :: .dead :: .own 0 0 :: dd 30, [.sc 0 3 I64 ((l.take 7).map tm)]⟩⟩)]
def inv12 (l : List Int) (k : Nat) : Prop := k <= l.length /\ k <= 7
noncomputable def H12 (l : List Int) : Nat -> Option Hint := fun _ => some ⟨chk 0 [0, 3, 4] (inv12 l) (st12 l), (ex12 l).map (·.2)⟩
def hs12 : Nat -> Bool := fun t => Nat.beq t 21
theorem loop12 (l : List Int) (hl : l.length < 1000000000000000) (R : Exit -> St -> Prop) : LoopOK (Xw [] hs12) L12_0 ⟨chk 0 [0, 3, 4] (inv12 l) (st12 l), (ex12 l).map (·.2)⟩ R := by
 refine loop_ok (Xw_ok [] hs12) (H := fun _ _ => none) [0, 3, 4] (inv12 l) (st12 l) (fun k => l.length - k) (ex12 l) 80 fun (k : Nat) hk => ?_
 refine of_eq (q := True /\ True /\ True /\ True /\ True /\ ((k : Int) < (l.length : Int) -> True /\ True /\ True /\ ((k : Int) < 7 -> True /\ True /\ True /\ idxPre (k : Int) l.length /\ True /\ True /\ ¬(201 : Int) = 0 /\ inR .i64 ((modU .u64 (l.getD k (0 : Int))).tmod (201 : Int)) /\ inR .i64 ((modU .u64 (l.getD k (0 : Int))).tmod (201 : Int) - 100) /\ True /\ sumPre (List.map tm (List.take k l)).length [(modU .u64 (l.getD k (0 : Int))).tmod (201 : Int) - 100].length (nat_lit 8) /\ True /\ True /\ inR .i64 ((k : Int) + 1) /\ True /\ ∃ (y : Nat), (inv12 l y /\ l.length - y < l.length - k) /\ (l = l /\ True /\ (k : Int) + 1 = (y : Int) /\ True) /\ List.map tm (List.take k l) ++ [(modU .u64 (l.getD k (0 : Int))).tmod (201 : Int) - 100] = List.map tm (List.take y l) /\ True) /\ (¬(k : Int) < 7 -> ∃ (y : Unit), True /\ (True /\ True) /\ List.map tm (List.take k l) = List.map tm (List.take (7 : Nat) l) /\ True)) /\ (¬(k : Int) < (l.length : Int) -> True /\ ∃ (y : Unit), True /\ (True /\ True) /\ List.map tm (List.take k l) = List.map tm (List.take (7 : Nat) l) /\ True)) (by kernel_rfl) ?_
 simp only [zz]
 obtain ⟨h1, h2⟩ := hk
 refine ⟨fun h => ⟨fun h3 => ?_, fun h3 => by rw [show k = 7 by omega]⟩, fun h => ?_⟩
 · have hr := tm_range (l.getD k 0)
   have hu := u64_nn (l.getD k 0)
   have e : (modU IntKind.u64 (l.getD k 0)).tmod 201 = tm (l.getD k 0) + 100 := by unfold tm u64; omega
   rw [e]
   refine ⟨idx_nat (by omega), by omega, by simp only [inR]; omega, by simp only [inR]; omega, by unfold sumPre; simp; omega, by simp only [inR]; omega, k + 1, ⟨⟨by omega, by omega⟩, by omega⟩, rfl, ?_⟩
   rw [take_getD (d := 0) (by omega), List.map_append, show tm (l.getD k 0) + 100 - 100 = tm (l.getD k 0) by omega]
   rfl
 · rw [List.take_of_length_le (by omega), List.take_of_length_le (by omega)]
theorem tmL_poly (l : List Int) : isPoly (tmL l) := by
 unfold tmL
 split
 · exact ⟨by decide, by decide, fun x hx => by simp at hx; subst hx; omega⟩
 · rename_i h
   have : l.length ≠ 0 := fun e => h (List.length_eq_zero_iff.mp e)
   refine ⟨by simp; omega, by simp; omega, fun x hx => ?_⟩
   obtain ⟨y, _, rfl⟩ := List.mem_map.mp hx
   exact tm_range y
def hs17 : Nat -> Bool := fun t => Nat.beq t 6 || Nat.beq t 12
def pcR (x : Int × Int) : Int × Int := ((u64 x.1).tmod 7, (u64 x.2).tmod (2 ^ ((u64 x.1).tmod 7).toNat))
theorem pcR_piece (x : Int × Int) : isPiece (pcR x) := by
 have h1 := u64_nn x.1
 have h2 := u64_nn x.2
 unfold isPiece pcR
 dsimp only
 have e : (u64 x.1).tmod 7 = u64 x.1 % 7 := Int.tmod_eq_emod_of_nonneg h1.1
 have hp : (0 : Int) < 2 ^ ((u64 x.1).tmod 7).toNat := Int.pow_pos (by omega)
 refine ⟨by omega, by omega, ?_, ?_⟩
 · rw [Int.tmod_eq_emod_of_nonneg h2.1]; exact Int.emod_nonneg _ (by omega)
 · rw [Int.tmod_eq_emod_of_nonneg h2.1]; exact Int.emod_lt_of_pos _ hp
theorem call17 (x : Int × Int) (_ : True) : GCall Tryd.prog gl 17 true [ofD Q2 x] [] [ofD Q2 (pcR x)] [] := by
 refine gcall_of (X := (Xw [] hs17)) ((Xw_ok [] hs17)) (f := 17) (fn := Tryd.f17) (c := bodyOf Tryd.f17) (by kernel_rfl) (by kernel_rfl) (view := false) (rvs := [.cell 2 23]) (by kernel_rfl) (H := fun _ => none) 80 (by kernel_rfl) ?_
 refine of_eq (q := True /\ True /\ idxPre (0 : Int) (2 : Nat) /\ True /\ True /\ ¬(7 : Int) = 0 /\ inR .i64 ((modU .u64 x.fst).tmod (7 : Int)) /\ True /\ True /\ idxPre (1 : Int) (2 : Nat) /\ True /\ True /\ True /\ (((0 : Int) <= (modU .u64 x.fst).tmod (7 : Int) /\ (modU .u64 x.fst).tmod (7 : Int) < bitsOf .u64) /\ True) /\ ¬modU .u64 ((1 : Int) * 2 ^ ((modU .u64 x.fst).tmod (7 : Int)).toNat) = 0 /\ inR .i64 ((modU .u64 x.snd).tmod (modU .u64 ((1 : Int) * 2 ^ ((modU .u64 x.fst).tmod (7 : Int)).toNat))) /\ True /\ True /\ (True /\ True) /\ ([(modU .u64 x.fst).tmod (7 : Int), (modU .u64 x.snd).tmod (modU .u64 ((1 : Int) * 2 ^ ((modU .u64 x.fst).tmod (7 : Int)).toNat))] = [(pcR x).fst, (pcR x).snd] /\ True) /\ True) (by kernel_rfl) ?_
 simp only [zz]
 have h1 := u64_nn x.1
 have h2 := u64_nn x.2
 have hp := pcR_piece x
 obtain ⟨p1, p2, p3, p4⟩ := hp
 unfold pcR at *
 dsimp only at *
 have e1 : modU .u64 x.1 = u64 x.1 := rfl
 have e2 : modU .u64 x.2 = u64 x.2 := rfl
 rw [e1, e2]
 have hw := pow_le6 (d := ((u64 x.1).tmod 7).toNat) (by omega)
 have hi1 : (1 : Int) <= ((2 ^ ((u64 x.1).tmod 7).toNat : Nat) : Int) := Int.ofNat_le.mpr hw.1
 have hi2 : ((2 ^ ((u64 x.1).tmod 7).toNat : Nat) : Int) <= 64 := Int.ofNat_le.mpr hw.2.1
 have hi3 : (2 : Int) ^ ((u64 x.1).tmod 7).toNat = ((2 ^ ((u64 x.1).tmod 7).toNat : Nat) : Int) := by simp
 rw [hi3] at p3 p4 |-
 have e3 : modU .u64 (1 * ((2 ^ ((u64 x.1).tmod 7).toNat : Nat) : Int)) = ((2 ^ ((u64 x.1).tmod 7).toNat : Nat) : Int) := by
   rw [Int.one_mul]; simp only [modU]; exact Int.emod_eq_of_lt (by omega) (by omega)
 rw [e3]
 exact ⟨i02, by omega, by simp only [inR]; omega, i12, ⟨by omega, by simp only [bitsOf]; omega⟩, by omega, by simp only [inR]; omega, rfl⟩
def e17 : Entry Tryd.prog gl := entry1 17 ⟨Tryd.f17, by kernel_rfl, by kernel_rfl, by kernel_rfl⟩ Q2 (fun _ => True) true (fun x => [ofD Q2 (pcR x)]) (fun _ => []) (call17)
def den6 (x : Int × Int) : Int := ([1, 2, 3, 5, 48, 240] : List Int).getD ((u64 x.2).tmod 6).toNat 0
def crn (x : Int × Int) : Int × Int := fracR ((u64 x.1).tmod 2001 - 1000) (den6 x)
theorem den6_range0 : ∀ n : Fin 6, 1 <= ([1, 2, 3, 5, 48, 240] : List Int).getD n.val 0 /\ ([1, 2, 3, 5, 48, 240] : List Int).getD n.val 0 <= 240 /\ (240 : Int).tmod (([1, 2, 3, 5, 48, 240] : List Int).getD n.val 0) = 0 := by decide
theorem den6_range (x : Int × Int) : 1 <= den6 x /\ den6 x <= 240 /\ (240 : Int).tmod (den6 x) = 0 := by
 have hv := u64_nn x.2
 have e5 : (u64 x.2).tmod 6 = u64 x.2 % 6 := Int.tmod_eq_emod_of_nonneg hv.1
 exact den6_range0 ⟨((u64 x.2).tmod 6).toNat, by omega⟩
theorem crn_facts (x : Int × Int) : 1 <= den6 x /\ den6 x <= 240 := ⟨(den6_range x).1, (den6_range x).2.1⟩
def crnL (l : List (Int × Int)) (m : Nat) : List (Int × Int) := if l = [] ∨ m = 0 then [(-1, 2)] else (l.take m).map crn
noncomputable def L42_0 : Code := lp (bodyOf Tryd.f42) 0
noncomputable abbrev X42 : Cy := Xw [e46] (fun t => Nat.beq t 25 || Nat.beq t 34 || Nat.beq t 26)
def sz42 (l : List (Int × Int)) (m : Nat) (_ : Unit) : St := ⟨.sl Q2 l :: .int .i64 m :: .dead :: .dead :: .dead :: .vv (.slice none 0 0) :: .int .i64 0 :: dd 43, []⟩
def st42 (l : List (Int × Int)) (m : Nat) (k : Nat) : St := ⟨.sl Q2 l :: .int .i64 m :: .dead :: .dead :: .dead :: .own 0 0 :: .int .i64 k :: dd 43, [.sc 0 48 Q2 ((l.take k).map crn)]⟩
def fm42 (l : List (Int × Int)) (m : Nat) : List Fam := [⟨Unit, fun _ => True, sz42 l m, fun _ => l.length + 1, fun _ _ => none⟩, ⟨Nat, fun k => 1 <= k /\ k <= l.length /\ k <= m, st42 l m, fun k => l.length - k, fun _ _ => none⟩]
def ex42 (l : List (Int × Int)) (m : Nat) : List (List Nat × Ex) := [([5], ⟨0, Unit, fun _ => l = [] ∨ m = 0, fun _ => ⟨.dead :: .dead :: .dead :: .dead :: .dead :: .vv (.slice none 0 0) :: dd 44, []⟩⟩), ([5], ⟨0, Unit, fun _ => ¬ (l = [] ∨ m = 0), fun _ => ⟨.dead :: .dead :: .dead :: .dead :: .dead :: .own 0 0 :: dd 44, [.sc 0 48 Q2 ((l.take m).map crn)]⟩⟩)]
noncomputable def H42 (l : List (Int × Int)) (m : Nat) : Nat -> Option Hint := fun _ => some ⟨chks 0 [0, 1, 5, 6] (fm42 l m), (ex42 l m).map (·.2)⟩
theorem loop42 (l : List (Int × Int)) (m : Nat) (hl : l.length < 1000000000000000) (hm : m < 1000000) (R : Exit -> St -> Prop) : LoopOK X42 L42_0 ⟨chks 0 [0, 1, 5, 6] (fm42 l m), (ex42 l m).map (·.2)⟩ R := by
 refine loop_fams (Xw_ok _ _) [0, 1, 5, 6] (fm42 l m) (ex42 l m) 80 ⟨fun _ _ => ?_, fun (k : Nat) hk => ?_, trivial⟩
 · refine of_eq (q := True /\ True /\ True /\ True /\ True /\ ((0 : Int) < (l.length : Int) -> True /\ True /\ True /\ True /\ ((0 : Int) < (m : Int) -> True /\ True /\ True /\ idxPre (0 : Int) l.length /\ idxPre (1 : Int) (2 : Nat) /\ True /\ True /\ ¬(6 : Int) = 0 /\ idxPre ((modU .u64 (l.getD (0 : Nat) (0, 0)).snd).tmod (6 : Int)) (6 : Nat) /\ True /\ True /\ True /\ True /\ idxPre (0 : Int) l.length /\ idxPre (0 : Int) (2 : Nat) /\ True /\ True /\ ¬(2001 : Int) = 0 /\ inR .i64 ((modU .u64 (l.getD (0 : Nat) (0, 0)).fst).tmod (2001 : Int)) /\ inR .i64 ((modU .u64 (l.getD (0 : Nat) (0, 0)).fst).tmod (2001 : Int) - 1000) /\ True /\ ((small ((modU .u64 (l.getD (0 : Nat) (0, 0)).fst).tmod (2001 : Int) - 1000) /\ small ([(1 : Int), (2 : Int), (3 : Int), (5 : Int), (48 : Int), (240 : Int)].getD ((modU .u64 (l.getD (0 : Nat) (0, 0)).snd).tmod (6 : Int)).toNat (0 : Int))) /\ True) /\ True /\ sumPre (0 : Nat) [((fracR ((modU .u64 (l.getD (0 : Nat) (0, 0)).fst).tmod (2001 : Int) - 1000) ([(1 : Int), (2 : Int), (3 : Int), (5 : Int), (48 : Int), (240 : Int)].getD ((modU .u64 (l.getD (0 : Nat) (0, 0)).snd).tmod (6 : Int)).toNat (0 : Int))).fst, (fracR ((modU .u64 (l.getD (0 : Nat) (0, 0)).fst).tmod (2001 : Int) - 1000) ([(1 : Int), (2 : Int), (3 : Int), (5 : Int), (48 : Int), (240 : Int)].getD ((modU .u64 (l.getD (0 : Nat) (0, 0)).snd).tmod (6 : Int)).toNat (0 : Int))).snd)].length (nat_lit 16) /\ True /\ True /\ inR .i64 (1 : Int) /\ True /\ ((∃ (y : Unit), (True /\ l.length + 1 < l.length + 1) /\ (l = l /\ (m : Int) = (m : Int) /\ False /\ (1 : Int) = 0 /\ True) /\ True) ∨ ∃ (y : Nat), (((1 : Nat) <= y /\ y <= l.length /\ y <= m) /\ l.length - y < l.length + 1) /\ (l = l /\ (m : Int) = (m : Int) /\ True /\ (1 : Int) = (y : Int) /\ True) /\ [((fracR ((modU .u64 (l.getD (0 : Nat) (0, 0)).fst).tmod (2001 : Int) - 1000) ([(1 : Int), (2 : Int), (3 : Int), (5 : Int), (48 : Int), (240 : Int)].getD ((modU .u64 (l.getD (0 : Nat) (0, 0)).snd).tmod (6 : Int)).toNat (0 : Int))).fst, (fracR ((modU .u64 (l.getD (0 : Nat) (0, 0)).fst).tmod (2001 : Int) - 1000) ([(1 : Int), (2 : Int), (3 : Int), (5 : Int), (48 : Int), (240 : Int)].getD ((modU .u64 (l.getD (0 : Nat) (0, 0)).snd).tmod (6 : Int)).toNat (0 : Int))).snd)] = List.map crn (List.take y l) /\ True)) /\ (¬(0 : Int) < (m : Int) -> (∃ (y : Unit), (l = [] ∨ m = 0) /\ (True /\ True) /\ True) ∨ ∃ (y : Unit), ¬(l = [] ∨ m = 0) /\ (False /\ True) /\ False)) /\ (¬(0 : Int) < (l.length : Int) -> True /\ ((∃ (y : Unit), (l = [] ∨ m = 0) /\ (True /\ True) /\ True) ∨ ∃ (y : Unit), ¬(l = [] ∨ m = 0) /\ (False /\ True) /\ False))) (by kernel_rfl) ?_
   simp only [zz]
   refine ⟨fun h => ⟨fun h2 => ?_, fun h2 => by omega⟩, fun h => by left; exact List.length_eq_zero_iff.mp (by omega)⟩
   obtain ⟨c1, c2⟩ := crn_facts (l.getD 0 (0, 0))
   have hu := u64_nn (l.getD 0 (0, 0)).1
   have hv := u64_nn (l.getD 0 (0, 0)).2
   have e1 : modU .u64 (l.getD 0 (0, 0)).1 = u64 (l.getD 0 (0, 0)).1 := rfl
   have e2 : modU .u64 (l.getD 0 (0, 0)).2 = u64 (l.getD 0 (0, 0)).2 := rfl
   have e3 : ([1, 2, 3, 5, 48, 240] : List Int).getD ((u64 (l.getD 0 (0, 0)).2).tmod 6).toNat 0 = den6 (l.getD 0 (0, 0)) := rfl
   have e4 : (u64 (l.getD 0 (0, 0)).1).tmod 2001 = u64 (l.getD 0 (0, 0)).1 % 2001 := Int.tmod_eq_emod_of_nonneg hu.1
   have e5 : (u64 (l.getD 0 (0, 0)).2).tmod 6 = u64 (l.getD 0 (0, 0)).2 % 6 := Int.tmod_eq_emod_of_nonneg hv.1
   rw [e1, e2, e3]
   refine ⟨by unfold idxPre; omega, i12, by omega, by rw [e5]; unfold idxPre; omega, by unfold idxPre; omega, i02, by omega, by rw [e4]; simp only [inR]; omega, by rw [e4]; simp only [inR]; omega, ⟨by rw [e4]; unfold small; omega, by unfold small; omega⟩, by unfold sumPre; simp, by simp only [inR]; omega, 1, ⟨⟨by omega, by omega, by omega⟩, by omega⟩, rfl, ?_⟩
   rw [take_getD (d := (0, 0)) (by omega)]; try rfl
 · refine of_eq (q := True /\ True /\ True /\ True /\ True /\ ((k : Int) < (l.length : Int) -> True /\ True /\ True /\ True /\ ((k : Int) < (m : Int) -> True /\ True /\ True /\ idxPre (k : Int) l.length /\ idxPre (1 : Int) (2 : Nat) /\ True /\ True /\ ¬(6 : Int) = 0 /\ idxPre ((modU .u64 (l.getD k (0, 0)).snd).tmod (6 : Int)) (6 : Nat) /\ True /\ True /\ True /\ True /\ idxPre (k : Int) l.length /\ idxPre (0 : Int) (2 : Nat) /\ True /\ True /\ ¬(2001 : Int) = 0 /\ inR .i64 ((modU .u64 (l.getD k (0, 0)).fst).tmod (2001 : Int)) /\ inR .i64 ((modU .u64 (l.getD k (0, 0)).fst).tmod (2001 : Int) - 1000) /\ True /\ ((small ((modU .u64 (l.getD k (0, 0)).fst).tmod (2001 : Int) - 1000) /\ small ([(1 : Int), (2 : Int), (3 : Int), (5 : Int), (48 : Int), (240 : Int)].getD ((modU .u64 (l.getD k (0, 0)).snd).tmod (6 : Int)).toNat (0 : Int))) /\ True) /\ True /\ sumPre (List.map crn (List.take k l)).length [((fracR ((modU .u64 (l.getD k (0, 0)).fst).tmod (2001 : Int) - 1000) ([(1 : Int), (2 : Int), (3 : Int), (5 : Int), (48 : Int), (240 : Int)].getD ((modU .u64 (l.getD k (0, 0)).snd).tmod (6 : Int)).toNat (0 : Int))).fst, (fracR ((modU .u64 (l.getD k (0, 0)).fst).tmod (2001 : Int) - 1000) ([(1 : Int), (2 : Int), (3 : Int), (5 : Int), (48 : Int), (240 : Int)].getD ((modU .u64 (l.getD k (0, 0)).snd).tmod (6 : Int)).toNat (0 : Int))).snd)].length (nat_lit 16) /\ True /\ True /\ inR .i64 ((k : Int) + 1) /\ True /\ ((∃ (y : Unit), (True /\ l.length + 1 < l.length - k) /\ (l = l /\ (m : Int) = (m : Int) /\ False /\ (k : Int) + 1 = 0 /\ True) /\ True) ∨ ∃ (y : Nat), (((1 : Nat) <= y /\ y <= l.length /\ y <= m) /\ l.length - y < l.length - k) /\ (l = l /\ (m : Int) = (m : Int) /\ True /\ (k : Int) + 1 = (y : Int) /\ True) /\ List.map crn (List.take k l) ++ [((fracR ((modU .u64 (l.getD k (0, 0)).fst).tmod (2001 : Int) - 1000) ([(1 : Int), (2 : Int), (3 : Int), (5 : Int), (48 : Int), (240 : Int)].getD ((modU .u64 (l.getD k (0, 0)).snd).tmod (6 : Int)).toNat (0 : Int))).fst, (fracR ((modU .u64 (l.getD k (0, 0)).fst).tmod (2001 : Int) - 1000) ([(1 : Int), (2 : Int), (3 : Int), (5 : Int), (48 : Int), (240 : Int)].getD ((modU .u64 (l.getD k (0, 0)).snd).tmod (6 : Int)).toNat (0 : Int))).snd)] = List.map crn (List.take y l) /\ True)) /\ (¬(k : Int) < (m : Int) -> (∃ (y : Unit), (l = [] ∨ m = 0) /\ (False /\ True) /\ True) ∨ ∃ (y : Unit), ¬(l = [] ∨ m = 0) /\ (True /\ True) /\ List.map crn (List.take k l) = List.map crn (List.take m l) /\ True)) /\ (¬(k : Int) < (l.length : Int) -> True /\ ((∃ (y : Unit), (l = [] ∨ m = 0) /\ (False /\ True) /\ True) ∨ ∃ (y : Unit), ¬(l = [] ∨ m = 0) /\ (True /\ True) /\ List.map crn (List.take k l) = List.map crn (List.take m l) /\ True))) (by kernel_rfl) ?_
   simp only [zz]
   obtain ⟨k1, k2, k3⟩ := hk
   have hne : ¬ (l = [] ∨ m = 0) := fun h => by rcases h with h | h <;> subst h <;> simp at * <;> omega
   refine ⟨fun h => ⟨fun h2 => ?_, fun h2 => ⟨hne, by rw [show k = m by omega]⟩⟩, fun h => ⟨hne, by rw [List.take_of_length_le (by omega), List.take_of_length_le (by omega)]⟩⟩
   obtain ⟨c1, c2⟩ := crn_facts (l.getD k (0, 0))
   have hu := u64_nn (l.getD k (0, 0)).1
   have hv := u64_nn (l.getD k (0, 0)).2
   have e1 : modU .u64 (l.getD k (0, 0)).1 = u64 (l.getD k (0, 0)).1 := rfl
   have e2 : modU .u64 (l.getD k (0, 0)).2 = u64 (l.getD k (0, 0)).2 := rfl
   have e3 : ([1, 2, 3, 5, 48, 240] : List Int).getD ((u64 (l.getD k (0, 0)).2).tmod 6).toNat 0 = den6 (l.getD k (0, 0)) := rfl
   have e4 : (u64 (l.getD k (0, 0)).1).tmod 2001 = u64 (l.getD k (0, 0)).1 % 2001 := Int.tmod_eq_emod_of_nonneg hu.1
   have e5 : (u64 (l.getD k (0, 0)).2).tmod 6 = u64 (l.getD k (0, 0)).2 % 6 := Int.tmod_eq_emod_of_nonneg hv.1
   rw [e1, e2, e3]
   refine ⟨idx_nat (by omega), i12, by omega, by rw [e5]; unfold idxPre; omega, idx_nat (by omega), i02, by omega, by rw [e4]; simp only [inR]; omega, by rw [e4]; simp only [inR]; omega, ⟨by rw [e4]; unfold small; omega, by unfold small; omega⟩, by unfold sumPre; simp; omega, by simp only [inR]; omega, k + 1, ⟨⟨by omega, by omega, by omega⟩, by omega⟩, rfl, ?_⟩
   rw [take_getD (d := (0, 0)) (by omega), List.map_append]; try rfl
theorem call42 (l : List (Int × Int)) (m : Nat) (h : l.length < 1000000000000000 /\ m < 1000000) : GCall Tryd.prog gl 42 false [.sl Q2 l, .int .i64 m] [] [.sl Q2 (crnL l m)] [] := by
 refine gcall_of (X := (X42)) ((Xw_ok _ _)) (f := 42) (fn := Tryd.f42) (c := bodyOf Tryd.f42) (by kernel_rfl) (by kernel_rfl) (view := true) (rvs := [.tmp 4]) (by kernel_rfl) (H := (H42 l m)) 80 (by kernel_rfl) ?_
 have hL := loop42 l m h.1 h.2
 refine of_eq (q := True /\ True /\ True /\ LoopOK X42 L42_0 { J := chks (0 : Nat) [(0 : Nat), (1 : Nat), (5 : Nat), (6 : Nat)] (fm42 l m), exits := List.map (fun (x : List Nat × Ex) => x.snd) (ex42 l m) } (RetR X42 false true [ResultVar.tmp (4 : Tmp)] [AV.sl Q2 (crnL l m)] []) /\ ((∃ (y : Unit), True /\ (l = l /\ (m : Int) = (m : Int) /\ True /\ (0 : Int) = 0 /\ True) /\ True) ∨ ∃ (y : Nat), ((1 : Nat) <= y /\ y <= l.length /\ y <= m) /\ (l = l /\ (m : Int) = (m : Int) /\ False /\ (0 : Int) = (y : Int) /\ True) /\ False) /\ (∀ (y : Unit), l = [] ∨ m = 0 -> True /\ True /\ True /\ ((0 : Int) = 0 -> True /\ True /\ True /\ sumPre (0 : Nat) [((-1 : Int), (2 : Int))].length (nat_lit 16) /\ True /\ True /\ True /\ True /\ ([((-1 : Int), (2 : Int))] = crnL l m /\ True) /\ True) /\ (¬(0 : Int) = 0 -> True /\ True /\ True /\ (([] : List (Int × Int)) = crnL l m /\ True) /\ True)) /\ (∀ (y : Unit), ¬(l = [] ∨ m = 0) -> True /\ True /\ True /\ ((↑(List.map crn (List.take m l)).length : Int) = 0 -> True /\ True /\ True /\ sumPre (List.map crn (List.take m l)).length [((-1 : Int), (2 : Int))].length (nat_lit 16) /\ True /\ True /\ True /\ True /\ (List.map crn (List.take m l) ++ [((-1 : Int), (2 : Int))] = crnL l m /\ True) /\ True) /\ (¬(↑(List.map crn (List.take m l)).length : Int) = 0 -> True /\ True /\ True /\ (List.map crn (List.take m l) = crnL l m /\ True) /\ True)) /\ True) (by kernel_rfl) ?_
 simp only [zz]
 refine ⟨hL _, fun _ h1 => ⟨fun _ => ⟨by unfold sumPre; simp, by rw [crnL, if_pos h1]⟩, fun h2 => absurd trivial h2⟩, fun _ h1 => ⟨fun h2 => ?_, fun h2 => by rw [crnL, if_neg h1]⟩⟩
 exfalso
 have h2 : (List.map crn (List.take m l)).length = 0 := by omega
 rw [List.length_map, List.length_take] at h2
 rcases Nat.lt_or_ge 0 m with h3 | h3
 · exact h1 (.inl (List.length_eq_zero_iff.mp (by omega)))
 · exact h1 (.inr (by omega))
def e42 : Entry Tryd.prog gl := entry2 42 ⟨Tryd.f42, by kernel_rfl, by kernel_rfl, by kernel_rfl⟩ SQ I64 (fun l (m : Int) => l.length < 1000000000000000 /\ 0 <= m /\ m < 1000000) false (fun l (m : Int) => [.sl Q2 (crnL l m.toNat)]) (fun _ _ => []) (fun l (m : Int) h => by have h : l.length < 1000000000000000 /\ 0 <= m /\ m < 1000000 := h; have := call42 l m.toNat ⟨h.1, by omega⟩; rwa [Int.toNat_of_nonneg h.2.1] at this)
noncomputable def L44_0 : Code := lp (bodyOf Tryd.f44) 0
def lowL (l : List (Int × Int)) (k : Nat) : Int × Int := (l.take k).foldl (fun a x => if rat x < rat a then x else a) (l.getD 0 (0, 0))
def highL (l : List (Int × Int)) (k : Nat) : Int × Int := (l.take k).foldl (fun a x => if rat a < rat x then x else a) (l.getD 0 (0, 0))
theorem lowL_step {l : List (Int × Int)} {k : Nat} (h : k < l.length) : lowL l (k + 1) = if rat (l.getD k (0, 0)) < rat (lowL l k) then l.getD k (0, 0) else lowL l k := by
 unfold lowL; rw [take_getD (d := (0, 0)) h, List.foldl_append]; try rfl
theorem highL_step {l : List (Int × Int)} {k : Nat} (h : k < l.length) : highL l (k + 1) = if rat (highL l k) < rat (l.getD k (0, 0)) then l.getD k (0, 0) else highL l k := by
 unfold highL; rw [take_getD (d := (0, 0)) h, List.foldl_append]; try rfl
theorem fold_mem {α : Type} {L : List α} (f : α -> α -> α) (hf : ∀ a x, f a x = a ∨ f a x = x) : ∀ (m : List α) (a : α), (∀ x ∈ m, x ∈ L) -> a ∈ L -> m.foldl f a ∈ L
 | [], a, _, h => h
 | x :: m, a, hm, h => by
   rw [List.foldl_cons]
   refine fold_mem f hf m _ (fun y hy => hm y (by simp [hy])) ?_
   rcases hf a x with e | e <;> rw [e]
   · exact h
   · exact hm x (by simp)
theorem lowL_mem {l : List (Int × Int)} {k : Nat} (h : 0 < l.length) : lowL l k ∈ l :=
 fold_mem _ (fun a x => by split <;> simp) _ _ (fun x hx => List.mem_of_mem_take hx) (getD_mem h)
theorem highL_mem {l : List (Int × Int)} {k : Nat} (h : 0 < l.length) : highL l k ∈ l :=
 fold_mem _ (fun a x => by split <;> simp) _ _ (fun x hx => List.mem_of_mem_take hx) (getD_mem h)
def st44 (l : List (Int × Int)) (k : Nat) : St := ⟨.sl Q2 l :: .dead :: .ptr 0 0 [] :: .ptr 1 0 [] :: .ptr 2 0 [] :: .ptr 3 0 [] :: .int .i64 k :: dd 34, [.bx (ofD Q2 (0, 0)), .bx (ofD Q2 (0, 0)), .bx (ofD Q2 (lowL l k)), .bx (ofD Q2 (highL l k))]⟩
def inv44 (l : List (Int × Int)) (k : Nat) : Prop := 1 <= k /\ k <= l.length
def ex44 (l : List (Int × Int)) : List (List Nat × Ex) := [([2, 3, 4, 5], ⟨0, Unit, fun _ => True, fun _ => ⟨.dead :: .dead :: .ptr 0 0 [] :: .ptr 1 0 [] :: .ptr 2 0 [] :: .ptr 3 0 [] :: dd 35, [.bx (ofD Q2 (0, 0)), .bx (ofD Q2 (0, 0)), .bx (ofD Q2 (lowL l l.length)), .bx (ofD Q2 (highL l l.length))]⟩⟩)]
noncomputable def H44 (l : List (Int × Int)) : Nat -> Option Hint := fun _ => some ⟨chk 0 [0, 2, 3, 4, 5, 6] (inv44 l) (st44 l), (ex44 l).map (·.2)⟩
def lessOk (l : List (Int × Int)) : Prop := ∀ x ∈ l, good x /\ ∀ y ∈ l, addOk (rat x) (-rat y)
noncomputable def X44 : Cy := Xd [e47] (drOf [(1, 10), (9, 1000000)])
theorem loop44 (l : List (Int × Int)) (hl : l.length < 1000000000000000) (ho : lessOk l) (R : Exit -> St -> Prop) : LoopOK X44 L44_0 ⟨chk 0 [0, 2, 3, 4, 5, 6] (inv44 l) (st44 l), (ex44 l).map (·.2)⟩ R := by
 refine loop_ok (Xd_ok _ _) (H := fun _ _ => none) [0, 2, 3, 4, 5, 6] (inv44 l) (st44 l) (fun k => l.length - k) (ex44 l) 80 fun (k : Nat) hk => ?_
 refine of_eq (q := True /\ True /\ True /\ True /\ ((k : Int) < (l.length : Int) -> True /\ True /\ idxPre (k : Int) l.length /\ True /\ True /\ (good ((l.getD k (0, 0)).fst, (l.getD k (0, 0)).snd) /\ good ((lowL l k).fst, (lowL l k).snd) /\ addOk (rat ((l.getD k (0, 0)).fst, (l.getD k (0, 0)).snd)) (-rat ((lowL l k).fst, (lowL l k).snd))) /\ (decide (rat ((l.getD k (0, 0)).fst, (l.getD k (0, 0)).snd) < rat ((lowL l k).fst, (lowL l k).snd)) = true -> True /\ True /\ idxPre (k : Int) l.length /\ True /\ True /\ True /\ True /\ True /\ idxPre (k : Int) l.length /\ True /\ (good ((highL l k).fst, (highL l k).snd) /\ good ((l.getD k (0, 0)).fst, (l.getD k (0, 0)).snd) /\ addOk (rat ((highL l k).fst, (highL l k).snd)) (-rat ((l.getD k (0, 0)).fst, (l.getD k (0, 0)).snd))) /\ (decide (rat ((highL l k).fst, (highL l k).snd) < rat ((l.getD k (0, 0)).fst, (l.getD k (0, 0)).snd)) = true -> True /\ True /\ idxPre (k : Int) l.length /\ True /\ True /\ True /\ inR .i64 ((k : Int) + 1) /\ True /\ ∃ (y : Nat), (inv44 l y /\ l.length - y < l.length - k) /\ (l = l /\ True /\ True /\ True /\ True /\ (k : Int) + 1 = (y : Int) /\ True) /\ [(0 : Int), (0 : Int)] = [(0 : Int), (0 : Int)] /\ [(0 : Int), (0 : Int)] = [(0 : Int), (0 : Int)] /\ [(l.getD k (0, 0)).fst, (l.getD k (0, 0)).snd] = [(lowL l y).fst, (lowL l y).snd] /\ [(l.getD k (0, 0)).fst, (l.getD k (0, 0)).snd] = [(highL l y).fst, (highL l y).snd] /\ True) /\ (decide (rat ((highL l k).fst, (highL l k).snd) < rat ((l.getD k (0, 0)).fst, (l.getD k (0, 0)).snd)) = false -> True /\ inR .i64 ((k : Int) + 1) /\ True /\ ∃ (y : Nat), (inv44 l y /\ l.length - y < l.length - k) /\ (l = l /\ True /\ True /\ True /\ True /\ (k : Int) + 1 = (y : Int) /\ True) /\ [(0 : Int), (0 : Int)] = [(0 : Int), (0 : Int)] /\ [(0 : Int), (0 : Int)] = [(0 : Int), (0 : Int)] /\ [(l.getD k (0, 0)).fst, (l.getD k (0, 0)).snd] = [(lowL l y).fst, (lowL l y).snd] /\ [(highL l k).fst, (highL l k).snd] = [(highL l y).fst, (highL l y).snd] /\ True)) /\ (decide (rat ((l.getD k (0, 0)).fst, (l.getD k (0, 0)).snd) < rat ((lowL l k).fst, (lowL l k).snd)) = false -> True /\ True /\ True /\ idxPre (k : Int) l.length /\ True /\ (good ((highL l k).fst, (highL l k).snd) /\ good ((l.getD k (0, 0)).fst, (l.getD k (0, 0)).snd) /\ addOk (rat ((highL l k).fst, (highL l k).snd)) (-rat ((l.getD k (0, 0)).fst, (l.getD k (0, 0)).snd))) /\ (decide (rat ((highL l k).fst, (highL l k).snd) < rat ((l.getD k (0, 0)).fst, (l.getD k (0, 0)).snd)) = true -> True /\ True /\ idxPre (k : Int) l.length /\ True /\ True /\ True /\ inR .i64 ((k : Int) + 1) /\ True /\ ∃ (y : Nat), (inv44 l y /\ l.length - y < l.length - k) /\ (l = l /\ True /\ True /\ True /\ True /\ (k : Int) + 1 = (y : Int) /\ True) /\ [(0 : Int), (0 : Int)] = [(0 : Int), (0 : Int)] /\ [(0 : Int), (0 : Int)] = [(0 : Int), (0 : Int)] /\ [(lowL l k).fst, (lowL l k).snd] = [(lowL l y).fst, (lowL l y).snd] /\ [(l.getD k (0, 0)).fst, (l.getD k (0, 0)).snd] = [(highL l y).fst, (highL l y).snd] /\ True) /\ (decide (rat ((highL l k).fst, (highL l k).snd) < rat ((l.getD k (0, 0)).fst, (l.getD k (0, 0)).snd)) = false -> True /\ inR .i64 ((k : Int) + 1) /\ True /\ ∃ (y : Nat), (inv44 l y /\ l.length - y < l.length - k) /\ (l = l /\ True /\ True /\ True /\ True /\ (k : Int) + 1 = (y : Int) /\ True) /\ [(0 : Int), (0 : Int)] = [(0 : Int), (0 : Int)] /\ [(0 : Int), (0 : Int)] = [(0 : Int), (0 : Int)] /\ [(lowL l k).fst, (lowL l k).snd] = [(lowL l y).fst, (lowL l y).snd] /\ [(highL l k).fst, (highL l k).snd] = [(highL l y).fst, (highL l y).snd] /\ True))) /\ (¬(k : Int) < (l.length : Int) -> ∃ (y : Unit), True /\ (True /\ True /\ True /\ True /\ True) /\ [(0 : Int), (0 : Int)] = [(0 : Int), (0 : Int)] /\ [(0 : Int), (0 : Int)] = [(0 : Int), (0 : Int)] /\ [(lowL l k).fst, (lowL l k).snd] = [(lowL l l.length).fst, (lowL l l.length).snd] /\ [(highL l k).fst, (highL l k).snd] = [(highL l l.length).fst, (highL l l.length).snd] /\ True)) (by kernel_rfl) ?_
 simp only [zz]
 obtain ⟨h1, h2⟩ := hk
 refine ⟨fun h => ?_, fun h => by rw [show k = l.length by omega]; exact ⟨rfl, rfl⟩⟩
 have hk : k < l.length := by omega
 have hx : l.getD k (0, 0) ∈ l := getD_mem hk
 have ha := lowL_mem (l := l) (k := k) (by omega)
 have hb := highL_mem (l := l) (k := k) (by omega)
 have hc := lowL_step hk
 have hd := highL_step hk
 have hf := ho _ hx
 generalize l.getD k (0, 0) = x at *
 have ik : idxPre (k : Int) l.length := idx_nat hk
 have ir : inR .i64 ((k : Int) + 1) := by simp only [inR]; omega
 have iv : inv44 l (k + 1) /\ l.length - (k + 1) < l.length - k := ⟨⟨by omega, by omega⟩, by omega⟩
 refine ⟨ik, ⟨hf.1, (ho _ ha).1, hf.2 _ ha⟩, fun g => ?_, fun g => ?_⟩
 · have g : rat x < rat (lowL l k) := of_decide_eq_true g
   rw [if_pos g] at hc
   refine ⟨ik, ik, ⟨(ho _ hb).1, hf.1, (ho _ hb).2 _ hx⟩, fun g2 => ?_, fun g2 => ?_⟩
   · have g2 : rat (highL l k) < rat x := of_decide_eq_true g2
     rw [if_pos g2] at hd
     exact ⟨ik, ir, k + 1, iv, rfl, by rw [hc], by rw [hd]⟩
   · have g2 : ¬ rat (highL l k) < rat x := of_decide_eq_false g2
     rw [if_neg g2] at hd
     exact ⟨ir, k + 1, iv, rfl, by rw [hc], by rw [hd]⟩
 · have g : ¬ rat x < rat (lowL l k) := of_decide_eq_false g
   rw [if_neg g] at hc
   refine ⟨ik, ⟨(ho _ hb).1, hf.1, (ho _ hb).2 _ hx⟩, fun g2 => ?_, fun g2 => ?_⟩
   · have g2 : rat (highL l k) < rat x := of_decide_eq_true g2
     rw [if_pos g2] at hd
     exact ⟨ik, ir, k + 1, iv, rfl, by rw [hc], by rw [hd]⟩
   · have g2 : ¬ rat (highL l k) < rat x := of_decide_eq_false g2
     rw [if_neg g2] at hd
     exact ⟨ir, k + 1, iv, rfl, by rw [hc], by rw [hd]⟩
/- call44 (extremes) lacks: its region 1 is drawn, and in one mode a load comes after a store. -/
end Go.Am.Bern

/- Bern: pieces that cover a piece, as they grow (parted). -/
namespace Go.Am.Bern
open Go Go.Am Go.Proofs
abbrev PQ := Int × Int
section
variable (gd : List PQ -> Bool) (p : List Int)
/-- Is there a cover of piece (d, k), n levels being left? -/
def grB : Nat -> Nat -> Nat -> Bool
 | 0, d, k => gd (qc p d k)
 | n + 1, d, k => gd (qc p d k) || (grB n (d + 1) (2 * k) && grB n (d + 1) (2 * k + 1))
/-- The pieces that are added. -/
def grL : Nat -> Nat -> Nat -> List PQ
 | 0, d, k => if gd (qc p d k) then [((d : Int), (k : Int))] else []
 | n + 1, d, k => if gd (qc p d k) then [((d : Int), (k : Int))] else
     if grB gd p n (d + 1) (2 * k) then grL n (d + 1) (2 * k) ++ grL n (d + 1) (2 * k + 1) else grL n (d + 1) (2 * k)
/-- The corners that are known then. -/
def grM : Nat -> Nat -> Nat -> Memo -> Memo
 | 0, d, k, m => cm p d k m
 | n + 1, d, k, m => if gd (qc p d k) then cm p d k m else
     if grB gd p n (d + 1) (2 * k) then grM n (d + 1) (2 * k + 1) (grM n (d + 1) (2 * k) (cm p d k m)) else grM n (d + 1) (2 * k) (cm p d k m)
theorem grM_ok : ∀ {n d k : Nat} {m : Memo}, memoOk p m -> memoOk p (grM gd p n d k m)
 | 0, d, k, m, h => cm_ok h
 | n + 1, d, k, m, h => by
   unfold grM
   split
   · exact cm_ok h
   · split
     · exact grM_ok (grM_ok (cm_ok h))
     · exact grM_ok (cm_ok h)
theorem grL_ne : ∀ {n d k : Nat}, grB gd p n d k = true -> grL gd p n d k ≠ []
 | 0, d, k, h => by unfold grB at h; unfold grL; rw [if_pos h]; simp
 | n + 1, d, k, h => by
   unfold grB at h
   unfold grL
   split
   · simp
   · rename_i hg
     have h : grB gd p n (d + 1) (2 * k) = true /\ grB gd p n (d + 1) (2 * k + 1) = true := by simpa [hg] using h
     rw [if_pos h.1]
     intro e
     exact grL_ne h.1 (List.append_eq_nil_iff.mp e).1
def hvB (n d k : Nat) : Bool := grB gd p n (d + 1) (2 * k) && grB gd p n (d + 1) (2 * k + 1)
def hvL (n d k : Nat) : List PQ := if grB gd p n (d + 1) (2 * k) then grL gd p n (d + 1) (2 * k) ++ grL gd p n (d + 1) (2 * k + 1) else grL gd p n (d + 1) (2 * k)
def hvM (n d k : Nat) (m : Memo) : Memo := if grB gd p n (d + 1) (2 * k) then grM gd p n (d + 1) (2 * k + 1) (grM gd p n (d + 1) (2 * k) m) else grM gd p n (d + 1) (2 * k) m
end
def rfC : Code -> Option (Array Tmp × Code × Code)
 | .seq a b => (match rfC a with
   | some r => some r
   | none => rfC b)
 | .cond _ a b => (match rfC a with
   | some r => some r
   | none => rfC b)
 | .block _ b => rfC b
 | .loop b => rfC b
 | .scope b => rfC b
 | .rangeFunc _ ps a b => some (ps, a, b)
 | _ => none
noncomputable def rcC (ixs : List Nat) (f : Func) : RcC := match rfC (bodyOf f) with
 | some r => ⟨ixs, f.ntmps, r.1, r.2.1, r.2.2⟩
 | none => ⟨[], 0, #[], .skip, .skip⟩
noncomputable def C91 : RcC := rcC [4, 6] Tryd.f91
def clo91 (g c o r : Nat) : AV := .clo 91 [] [.ptr g 0 [], .ptr c 0 [], .ptr o 0 [], .ptr r 0 []]
def cvB (p : List Int) (mi : Nat) : Ob := .bx (.agg [.sl I64 p, .mp mi])
def pieO (v : Nat) (l : List PQ) : Ob := .sc v 87 FR l
def bq (q : PQ) : Ob := .bx (ofD FR q)
def rc91 (a b : Nat) : AV := .clo 0 [.ptr a 0 [], .ptr b 0 []] []
def unCvB : Ob -> Option (List Int)
 | .bx (.agg [.sl e xs, .mp _]) => castL e I64 xs
 | _ => none
def isNl : Ob -> Bool
 | .bx (.vv _) => true
 | _ => false
def unPie : Ob -> Option (List PQ)
 | .sc _ _ e xs => castL e FR xs
 | _ => none
def yst (b o : Bool) : LoopState := if b && !o then .ready else .done
def yjp (b o : Bool) : Option Code := if b then (if o then some .ret else none) else some (.exit 0)
def jR (b : Bool) : Option Code := if b then some .ret else some (.exit 0)
noncomputable def Xy (l : EL) (yl : List (YEntry Tryd.prog gl)) (ro : Option Nat) (m0 : Nat) (dr : Nat -> Option Nat) : Cy := mkY Tryd.prog tt gl l yl ro m0 dr
theorem Xy_ok (l : EL) (yl : List (YEntry Tryd.prog gl)) (ro : Option Nat) (m0 : Nat) (dr : Nat -> Option Nat) : (Xy l yl ro m0 dr).Ok := mkY_ok tt_ok l yl ro m0 dr
noncomputable def Xb (l : EL) (yl : List (YEntry Tryd.prog gl)) (ro : Option Nat) (m0 : Nat) (bs : List Nat) (dr : Nat -> Option Nat) : Cy := { mkY Tryd.prog tt gl l yl ro m0 dr with bs := bs }
theorem Xb_ok (l : EL) (yl : List (YEntry Tryd.prog gl)) (ro : Option Nat) (m0 : Nat) (bs : List Nat) (dr : Nat -> Option Nat) : (Xb l yl ro m0 bs dr).Ok := (mkY_ok tt_ok l yl ro m0 dr).bump bs
theorem call92 (q : PQ) (_ : True) : GCall Tryd.prog gl 92 true [ofD FR q] [] [.clo 97 [] [.ptr 0 0 []]] [bq q] := by
 refine gcall_of (X := X []) (X_ok []) (f := 92) (fn := Tryd.f92) (c := bodyOf Tryd.f92) (by kernel_rfl) (by kernel_rfl) (view := false) (rvs := [.tmp 2]) (by kernel_rfl) (H := fun _ => none) 80 (by kernel_rfl) ?_
 refine of_eq (q := True /\ True /\ True /\ True /\ True /\ ((True /\ True /\ True) /\ True) /\ (q.fst = q.fst /\ q.snd = q.snd /\ True) /\ True) (by kernel_rfl) ?_
 simp only [zz]
def e92 : Entry Tryd.prog gl := entry1 92 ⟨Tryd.f92, by kernel_rfl, by kernel_rfl, by kernel_rfl⟩ FR (fun _ => True) true (fun _ => [.clo 97 [] [.ptr 0 0 []]]) (fun q => [bq q]) (call92)
def pre91 (n d k : Nat) (p : List Int) (m : Memo) : Prop := isPoly p /\ d + n = 6 /\ k < 2 ^ d /\ memoOk p m
theorem pre_left {n d k : Nat} {p : List Int} {m : Memo} (h : pre91 (n + 1) d k p m) : pre91 n (d + 1) (2 * k) p m := by
 obtain ⟨h1, h2, h3, h4⟩ := h
 exact ⟨h1, by omega, by rw [Nat.pow_succ]; omega, h4⟩
theorem pre_right {n d k : Nat} {p : List Int} {m : Memo} (h : pre91 (n + 1) d k p m) : pre91 n (d + 1) (2 * k + 1) p m := by
 obtain ⟨h1, h2, h3, h4⟩ := h
 exact ⟨h1, by omega, by rw [Nat.pow_succ]; omega, h4⟩
theorem pre_lt {n d k : Nat} {p : List Int} {m : Memo} (h : pre91 n d k p m) : d <= 6 /\ k < 64 := by
 obtain ⟨_, h2, h3, _⟩ := h
 have := Nat.pow_le_pow_right (show 0 < 2 by omega) (show d <= 6 by omega)
 omega
theorem pre_memo {n d k : Nat} {p : List Int} {m m' : Memo} (h : pre91 n d k p m) (hm : memoOk p m') : pre91 n d k p m' := ⟨h.1, h.2.1, h.2.2.1, hm⟩
def odd (k : Nat) : Bool := decide (k % 2 = 1)
theorem odd_spec (k : Nat) : (Int.tmod (k : Int) 2 = 1) ↔ odd k = true := by
 have : Int.tmod (k : Int) 2 = ((k % 2 : Nat) : Int) := rfl
 rw [this]; unfold odd; simp; omega
theorem odd0 (k : Nat) : odd (2 * k) = false := by unfold odd; simp
theorem odd1 (k : Nat) : odd (2 * k + 1) = true := by unfold odd; simp <;> omega
theorem tn0 (k : Nat) : (2 * (k : Int) + 0).toNat = 2 * k := by omega
theorem tn1 (k : Nat) : (2 * (k : Int) + 1).toNat = 2 * k + 1 := by omega
theorem piece_of {n d k : Nat} {p : List Int} {m : Memo} (h : pre91 n d k p m) : isPiece ((d : Int), (k : Int)) := by
 obtain ⟨_, h2, h3, _⟩ := h
 unfold isPiece
 have e : ((2 ^ d : Nat) : Int) = 2 ^ d := by rw [Int.natCast_pow]; try rfl
 simp only [Int.toNat_natCast]
 rw [<- e]
 omega
section
variable (gd : List PQ -> Bool) (p : List Int)
theorem grL_succ (n d k : Nat) : grL gd p (n + 1) d k = if gd (qc p d k) then [((d : Int), (k : Int))] else hvL gd p n d k := rfl
theorem grM_succ (n d k : Nat) (m : Memo) : grM gd p (n + 1) d k m = if gd (qc p d k) then cm p d k m else hvM gd p n d k (cm p d k m) := rfl
theorem grB_succ (n d k : Nat) : grB gd p (n + 1) d k = (gd (qc p d k) || hvB gd p n d k) := rfl
theorem grL_len : ∀ (n d k : Nat), (grL gd p n d k).length <= 2 ^ n
 | 0, d, k => by unfold grL; split <;> simp
 | n + 1, d, k => by
   have h1 := grL_len n (d + 1) (2 * k)
   have h2 := grL_len n (d + 1) (2 * k + 1)
   rw [grL_succ]
   have : 0 < 2 ^ n := Nat.two_pow_pos n
   split
   · simp only [List.length_cons, List.length_nil]; rw [Nat.pow_succ]; omega
   · unfold hvL
     split
     · rw [List.length_append, Nat.pow_succ]; omega
     · rw [Nat.pow_succ]; omega
end
end Go.Am.Bern

/- Bern: pieces that cover a piece; the property is function 71. -/
namespace Go.Am.Bern.P71
open Go Go.Am Go.Proofs Go.Am.Bern
def gd : List PQ -> Bool := fun l => decide (posL l)
def gdB : Ob := .bx (.clo 71 [] [])
def gN (p : List Int) (m : Memo) : List Ob := [gdB, .bx (.ptr 2 0 []), cvB p 3, mmO m, .bx nl, .bx (clo91 0 1 4 5)]
def gO (p : List Int) (m : Memo) (l : List PQ) : List Ob := [gdB, .bx (.ptr 2 0 []), cvB p 3, mmO m, .bx (.own 6 0), .bx (clo91 0 1 4 5), pieO 0 l]
def gS (v : Nat) (p : List Int) (m : Memo) (l : List PQ) : List Ob := [gdB, .bx (.ptr 2 0 []), cvB p 3, mmO m, .bx (.own 5 v), pieO v l, .bx (clo91 0 1 4 6)]
def aN (q : PQ) : List AV := [ofD FR q, .ptr 0 0 [], .ptr 1 0 [], .ptr 4 0 [], .ptr 5 0 []]
def aS (q : PQ) : List AV := [ofD FR q, .ptr 0 0 [], .ptr 1 0 [], .ptr 4 0 [], .ptr 6 0 []]
def GN (n : Nat) : Prop := ∀ (d k : Nat) (p : List Int) (m : Memo), pre91 n d k p m -> grL gd p n d k = [] -> GCall Tryd.prog gl 91 false (aN ((d : Int), (k : Int))) (gN p m) [.ff] (gN p (grM gd p n d k m))
def GO (n : Nat) : Prop := ∀ (d k : Nat) (p : List Int) (m : Memo), pre91 n d k p m -> grL gd p n d k ≠ [] -> GCall Tryd.prog gl 91 false (aN ((d : Int), (k : Int))) (gN p m) [.bool (grB gd p n d k)] (gO p (grM gd p n d k m) (grL gd p n d k))
def GS (n : Nat) : Prop := ∀ (d k : Nat) (p : List Int) (m : Memo) (l : List PQ), pre91 n d k p m -> l.length + (grL gd p n d k).length < 1000000 ->
 GCall Tryd.prog gl 91 false (aS ((d : Int), (k : Int))) (gS 0 p m l) [.bool (grB gd p n d k)] (gS 1 p (grM gd p n d k m) (l ++ grL gd p n d k))
def get91N (xs : List AV) (obs : List Ob) : Option (PQ × List Int × Memo) :=
 match xs with
 | x :: _ => (match toD FR x, unCvB (obs.getD 2 .gone), unMm (obs.getD 3 .gone), isNl (obs.getD 4 .gone) with
   | some q, some p, some m, true => some (q, p, m)
   | _, _, _, _ => none)
 | _ => none
def get91S (xs : List AV) (obs : List Ob) : Option (PQ × List Int × Memo × List PQ) :=
 match xs with
 | x :: _ => (match toD FR x, unCvB (obs.getD 2 .gone), unMm (obs.getD 3 .gone), unPie (obs.getD 5 .gone) with
   | some q, some p, some m, some l => some (q, p, m, l)
   | _, _, _, _ => none)
 | _ => none
theorem en91 : Enters Tryd.prog 91 := ⟨Tryd.f91, by kernel_rfl, by kernel_rfl, by kernel_rfl⟩
def e91N (n : Nat) (h : GN n) : Entry Tryd.prog gl := entryW 91 en91 true get91N (fun x => ∃ d k : Nat, x.1 = ((d : Int), (k : Int)) /\ pre91 n d k x.2.1 x.2.2 /\ grL gd x.2.1 n d k = []) false (fun x => aN x.1) (fun x => gN x.2.1 x.2.2) (fun _ => [.ff])
 (fun x => gN x.2.1 (grM gd x.2.1 n x.1.1.toNat x.1.2.toNat x.2.2)) (by
   rintro ⟨q, p, m⟩ ⟨d, k, hq, h1, h2⟩
   simp only at hq; subst hq
   exact h d k p m h1 h2)
def e91O (n : Nat) (h : GO n) : Entry Tryd.prog gl := entryW 91 en91 true get91N (fun x => ∃ d k : Nat, x.1 = ((d : Int), (k : Int)) /\ pre91 n d k x.2.1 x.2.2 /\ grL gd x.2.1 n d k ≠ []) false (fun x => aN x.1) (fun x => gN x.2.1 x.2.2) (fun x => [.bool (grB gd x.2.1 n x.1.1.toNat x.1.2.toNat)])
 (fun x => gO x.2.1 (grM gd x.2.1 n x.1.1.toNat x.1.2.toNat x.2.2) (grL gd x.2.1 n x.1.1.toNat x.1.2.toNat)) (by
   rintro ⟨q, p, m⟩ ⟨d, k, hq, h1, h2⟩
   simp only at hq; subst hq
   exact h d k p m h1 h2)
def e91S (n : Nat) (h : GS n) : Entry Tryd.prog gl := entryW 91 en91 true get91S (fun x => ∃ d k : Nat, x.1 = ((d : Int), (k : Int)) /\ pre91 n d k x.2.1 x.2.2.1 /\ x.2.2.2.length + (grL gd x.2.1 n d k).length < 1000000) false (fun x => aS x.1) (fun x => gS 0 x.2.1 x.2.2.1 x.2.2.2) (fun x => [.bool (grB gd x.2.1 n x.1.1.toNat x.1.2.toNat)])
 (fun x => gS 1 x.2.1 (grM gd x.2.1 n x.1.1.toNat x.1.2.toNat x.2.2.1) (x.2.2.2 ++ grL gd x.2.1 n x.1.1.toNat x.1.2.toNat)) (by
   rintro ⟨q, p, m, l⟩ ⟨d, k, hq, h1, h2⟩
   simp only at hq; subst hq
   exact h d k p m l h1 h2)
noncomputable def yN (s : LoopState) (j : Option Code) (p : List Int) (m : Memo) (b : AV) : List Ob := [.lp C91 s j (rc91 1 7), .bx (clo91 2 3 6 1), gdB, .bx (.ptr 4 0 []), cvB p 5, mmO m, .bx nl, .bx b]
noncomputable def yO (s : LoopState) (j : Option Code) (p : List Int) (m : Memo) (l : List PQ) (b : AV) : List Ob := [.lp C91 s j (rc91 1 7), .bx (clo91 2 3 6 1), gdB, .bx (.ptr 4 0 []), cvB p 5, mmO m, .bx (.own 8 0), .bx b, pieO 0 l]
noncomputable def yS (v : Nat) (s : LoopState) (j : Option Code) (p : List Int) (m : Memo) (l : List PQ) (b : AV) : List Ob := [.lp C91 s j (rc91 1 8), .bx (clo91 2 3 6 1), gdB, .bx (.ptr 4 0 []), cvB p 5, mmO m, .bx (.own 7 v), pieO v l, .bx b]
def aY (i : Int) (q : PQ) : List AV := [.yld 0, .int .i64 i, ofD FR q]
def YN (n : Nat) : Prop := ∀ (i : Int) (d k : Nat) (p : List Int) (m : Memo), pre91 n d k p m -> grL gd p n d k = [] -> GYield Tryd.prog gl false (aY i ((d : Int), (k : Int))) (yN .ready none p m .ff) [.ff] (yN .done (some (.exit 0)) p (grM gd p n d k m) .ff)
def YO (n : Nat) : Prop := ∀ (i : Int) (d k : Nat) (p : List Int) (m : Memo), pre91 n d k p m -> grL gd p n d k ≠ [] ->
 GYield Tryd.prog gl false (aY i ((d : Int), (k : Int))) (yN .ready none p m .ff) [.bool (grB gd p n d k && !odd k)] (yO (yst (grB gd p n d k) (odd k)) (yjp (grB gd p n d k) (odd k)) p (grM gd p n d k m) (grL gd p n d k) (.bool (grB gd p n d k && odd k)))
def YS (n : Nat) : Prop := ∀ (i : Int) (d k : Nat) (p : List Int) (m : Memo) (l : List PQ), pre91 n d k p m -> l.length + (grL gd p n d k).length < 1000000 ->
 GYield Tryd.prog gl false (aY i ((d : Int), (k : Int))) (yS 0 .ready none p m l .ff) [.bool (grB gd p n d k && !odd k)] (yS 1 (yst (grB gd p n d k) (odd k)) (yjp (grB gd p n d k) (odd k)) p (grM gd p n d k m) (l ++ grL gd p n d k) (.bool (grB gd p n d k && odd k)))
theorem yN_of (n : Nat) (h : GN n) : YN n := by
 intro i d k p m hp hl
 refine gyield_of (X := Xy [e91N n h] [] (some 0) 8 (fun _ => none)) (Xy_ok _ _ _ _ _) (C := C91) (j := none) (vs := [.ptr 1 0 [], .ptr 7 0 []]) (xs := [.int .i64 i, ofD FR ((d : Int), (k : Int))]) (view := false) (by kernel_rfl) (by kernel_rfl) (by kernel_rfl) (H := fun _ => none) 90 90 ?_
 refine of_eq (q := True /\ True /\ True /\ True /\ (((∃ (d_1 : Nat), ∃ (k_1 : Nat), ((d : Int), (k : Int)) = ((d_1 : Int), (k_1 : Int)) /\ pre91 n d_1 k_1 p m /\ grL P71.gd p n d_1 k_1 = []) /\ (((d : Int) = (d : Int) /\ (k : Int) = (k : Int) /\ True) /\ True /\ True /\ True /\ True /\ True) /\ (True /\ True) /\ True /\ (p = p /\ True /\ True) /\ m = m /\ True /\ (True /\ True /\ True /\ True /\ True /\ True) /\ True) /\ True /\ True /\ True /\ True /\ True /\ True /\ True) /\ True /\ (false = false /\ True) /\ (C91 = C91 /\ LoopState.done = LoopState.done /\ some (Code.exit (0 : Nat)) = some (Code.exit (0 : Nat)) /\ (True /\ True /\ True) /\ True) /\ (True /\ True /\ True /\ True /\ True /\ True) /\ (True /\ True) /\ True /\ (p = p /\ True /\ True) /\ grM P71.gd p n d k m = grM P71.gd p n d k m /\ True /\ false = false /\ True) (by kernel_rfl) ?_
 simp only [zz]
 exact ⟨d, k, rfl, hp, hl⟩
theorem yO_of (n : Nat) (h : GO n) : YO n := by
 intro i d k p m hp hl
 refine gyield_of (X := Xy [e91O n h] [] (some 0) 8 (fun _ => none)) (Xy_ok _ _ _ _ _) (C := C91) (j := none) (vs := [.ptr 1 0 [], .ptr 7 0 []]) (xs := [.int .i64 i, ofD FR ((d : Int), (k : Int))]) (view := false) (by kernel_rfl) (by kernel_rfl) (by kernel_rfl) (H := fun _ => none) 90 90 ?_
 refine of_eq (q := True /\ True /\ True /\ True /\ (((∃ (d_1 : Nat), ∃ (k_1 : Nat), ((d : Int), (k : Int)) = ((d_1 : Int), (k_1 : Int)) /\ pre91 n d_1 k_1 p m /\ ¬grL P71.gd p n d_1 k_1 = []) /\ (((d : Int) = (d : Int) /\ (k : Int) = (k : Int) /\ True) /\ True /\ True /\ True /\ True /\ True) /\ (True /\ True) /\ True /\ (p = p /\ True /\ True) /\ m = m /\ True /\ (True /\ True /\ True /\ True /\ True /\ True) /\ True) /\ True /\ True /\ True /\ True /\ True /\ True /\ True) /\ True /\ ((!grB P71.gd p n d k) = true -> (false = (grB P71.gd p n d k && !odd k) /\ True) /\ (C91 = C91 /\ yst (grB P71.gd p n d k) (odd k) = LoopState.done /\ yjp (grB P71.gd p n d k) (odd k) = some (Code.exit (0 : Nat)) /\ (True /\ True /\ True) /\ True) /\ (True /\ True /\ True /\ True /\ True /\ True) /\ (True /\ True) /\ True /\ (p = p /\ True /\ True) /\ grM P71.gd p n d k m = grM P71.gd p n d k m /\ True /\ false = (grB P71.gd p n d k && odd k) /\ grL P71.gd p n d k = grL P71.gd p n d k /\ True) /\ ((!grB P71.gd p n d k) = false -> True /\ True /\ ¬(2 : Int) = 0 /\ True /\ ((k : Int).tmod (2 : Int) = 1 -> True /\ (false = (grB P71.gd p n d k && !odd k) /\ True) /\ (C91 = C91 /\ yst (grB P71.gd p n d k) (odd k) = LoopState.done /\ yjp (grB P71.gd p n d k) (odd k) = some Code.ret /\ (True /\ True /\ True) /\ True) /\ (True /\ True /\ True /\ True /\ True /\ True) /\ (True /\ True) /\ True /\ (p = p /\ True /\ True) /\ grM P71.gd p n d k m = grM P71.gd p n d k m /\ True /\ true = (grB P71.gd p n d k && odd k) /\ grL P71.gd p n d k = grL P71.gd p n d k /\ True) /\ (¬(k : Int).tmod (2 : Int) = 1 -> (true = (grB P71.gd p n d k && !odd k) /\ True) /\ (C91 = C91 /\ yst (grB P71.gd p n d k) (odd k) = LoopState.ready /\ yjp (grB P71.gd p n d k) (odd k) = none /\ (True /\ True /\ True) /\ True) /\ (True /\ True /\ True /\ True /\ True /\ True) /\ (True /\ True) /\ True /\ (p = p /\ True /\ True) /\ grM P71.gd p n d k m = grM P71.gd p n d k m /\ True /\ false = (grB P71.gd p n d k && odd k) /\ grL P71.gd p n d k = grL P71.gd p n d k /\ True))) (by kernel_rfl) ?_
 simp only [zz]
 refine ⟨⟨d, k, rfl, hp, hl⟩, fun hb => ?_, fun hb => ⟨by omega, fun ho => ?_, fun ho => ?_⟩⟩
 · have hb' : grB gd p n d k = false := by simpa using hb
   rw [hb']; simp [yst, yjp]
 · have hb' : grB gd p n d k = true := by simpa using hb
   rw [hb', (odd_spec k).mp ho]; simp [yst, yjp]
 · have hb' : grB gd p n d k = true := by simpa using hb
   have ho' : odd k = false := by simpa [odd_spec] using ho
   rw [hb', ho']; simp [yst, yjp]
theorem yS_of (n : Nat) (h : GS n) : YS n := by
 intro i d k p m l hp hl
 refine gyield_of (X := Xb [e91S n h] [] (some 0) 9 [7] (fun _ => none)) (Xb_ok _ _ _ _ _ _) (C := C91) (j := none) (vs := [.ptr 1 0 [], .ptr 8 0 []]) (xs := [.int .i64 i, ofD FR ((d : Int), (k : Int))]) (view := false) (by kernel_rfl) (by kernel_rfl) (by kernel_rfl) (H := fun _ => none) 90 90 ?_
 refine of_eq (q := True /\ True /\ True /\ True /\ (((∃ (d_1 : Nat), ∃ (k_1 : Nat), ((d : Int), (k : Int)) = ((d_1 : Int), (k_1 : Int)) /\ pre91 n d_1 k_1 p m /\ l.length + (grL P71.gd p n d_1 k_1).length < 1000000) /\ (((d : Int) = (d : Int) /\ (k : Int) = (k : Int) /\ True) /\ True /\ True /\ True /\ True /\ True) /\ (True /\ True) /\ True /\ (p = p /\ True /\ True) /\ m = m /\ True /\ l = l /\ (True /\ True /\ True /\ True /\ True /\ True) /\ True) /\ True /\ True /\ True /\ True /\ True /\ True /\ True /\ True) /\ True /\ ((!grB P71.gd p n d k) = true -> (false = (grB P71.gd p n d k && !odd k) /\ True) /\ (C91 = C91 /\ yst (grB P71.gd p n d k) (odd k) = LoopState.done /\ yjp (grB P71.gd p n d k) (odd k) = some (Code.exit (0 : Nat)) /\ (True /\ True /\ True) /\ True) /\ (True /\ True /\ True /\ True /\ True /\ True) /\ (True /\ True) /\ True /\ (p = p /\ True /\ True) /\ grM P71.gd p n d k m = grM P71.gd p n d k m /\ True /\ l ++ grL P71.gd p n d k = l ++ grL P71.gd p n d k /\ false = (grB P71.gd p n d k && odd k) /\ True) /\ ((!grB P71.gd p n d k) = false -> True /\ True /\ ¬(2 : Int) = 0 /\ True /\ ((k : Int).tmod (2 : Int) = 1 -> True /\ (false = (grB P71.gd p n d k && !odd k) /\ True) /\ (C91 = C91 /\ yst (grB P71.gd p n d k) (odd k) = LoopState.done /\ yjp (grB P71.gd p n d k) (odd k) = some Code.ret /\ (True /\ True /\ True) /\ True) /\ (True /\ True /\ True /\ True /\ True /\ True) /\ (True /\ True) /\ True /\ (p = p /\ True /\ True) /\ grM P71.gd p n d k m = grM P71.gd p n d k m /\ True /\ l ++ grL P71.gd p n d k = l ++ grL P71.gd p n d k /\ true = (grB P71.gd p n d k && odd k) /\ True) /\ (¬(k : Int).tmod (2 : Int) = 1 -> (true = (grB P71.gd p n d k && !odd k) /\ True) /\ (C91 = C91 /\ yst (grB P71.gd p n d k) (odd k) = LoopState.ready /\ yjp (grB P71.gd p n d k) (odd k) = none /\ (True /\ True /\ True) /\ True) /\ (True /\ True /\ True /\ True /\ True /\ True) /\ (True /\ True) /\ True /\ (p = p /\ True /\ True) /\ grM P71.gd p n d k m = grM P71.gd p n d k m /\ True /\ l ++ grL P71.gd p n d k = l ++ grL P71.gd p n d k /\ false = (grB P71.gd p n d k && odd k) /\ True))) (by kernel_rfl) ?_
 simp only [zz]
 refine ⟨⟨d, k, rfl, hp, hl⟩, fun hb => ?_, fun hb => ⟨by omega, fun ho => ?_, fun ho => ?_⟩⟩
 · have hb' : grB gd p n d k = false := by simpa using hb
   rw [hb']; simp [yst, yjp]
 · have hb' : grB gd p n d k = true := by simpa using hb
   rw [hb', (odd_spec k).mp ho]; simp [yst, yjp]
 · have hb' : grB gd p n d k = true := by simpa using hb
   have ho' : odd k = false := by simpa [odd_spec] using ho
   rw [hb', ho']; simp [yst, yjp]
def getYN (xs : List AV) (obs : List Ob) : Option (Int × PQ × List Int × Memo) :=
 match xs with
 | [_, i, x] => (match toInt .i64 i, toD FR x, unCvB (obs.getD 4 .gone), unMm (obs.getD 5 .gone), isNl (obs.getD 6 .gone) with
   | some i, some q, some p, some m, true => some (i, q, p, m)
   | _, _, _, _, _ => none)
 | _ => none
def getYS (xs : List AV) (obs : List Ob) : Option (Int × PQ × List Int × Memo × List PQ) :=
 match xs with
 | [_, i, x] => (match toInt .i64 i, toD FR x, unCvB (obs.getD 4 .gone), unMm (obs.getD 5 .gone), unPie (obs.getD 7 .gone) with
   | some i, some q, some p, some m, some l => some (i, q, p, m, l)
   | _, _, _, _, _ => none)
 | _ => none
noncomputable def EYN (n : Nat) (h : YN n) : YEntry Tryd.prog gl := yentryW getYN (fun x => ∃ d k : Nat, x.2.1 = ((d : Int), (k : Int)) /\ pre91 n d k x.2.2.1 x.2.2.2 /\ grL gd x.2.2.1 n d k = []) false (fun x => aY x.1 x.2.1) (fun x => yN .ready none x.2.2.1 x.2.2.2 .ff) (fun _ => [.ff])
 (fun x => yN .done (some (.exit 0)) x.2.2.1 (grM gd x.2.2.1 n x.2.1.1.toNat x.2.1.2.toNat x.2.2.2) .ff) (by
   rintro ⟨i, q, p, m⟩ ⟨d, k, hq, h1, h2⟩
   simp only at hq; subst hq
   exact h i d k p m h1 h2)
noncomputable def EYO (n : Nat) (h : YO n) : YEntry Tryd.prog gl := yentryW getYN (fun x => ∃ d k : Nat, x.2.1 = ((d : Int), (k : Int)) /\ pre91 n d k x.2.2.1 x.2.2.2 /\ grL gd x.2.2.1 n d k ≠ []) false (fun x => aY x.1 x.2.1) (fun x => yN .ready none x.2.2.1 x.2.2.2 .ff)
 (fun x => [.bool (grB gd x.2.2.1 n x.2.1.1.toNat x.2.1.2.toNat && !odd x.2.1.2.toNat)])
 (fun x => yO (yst (grB gd x.2.2.1 n x.2.1.1.toNat x.2.1.2.toNat) (odd x.2.1.2.toNat)) (yjp (grB gd x.2.2.1 n x.2.1.1.toNat x.2.1.2.toNat) (odd x.2.1.2.toNat)) x.2.2.1 (grM gd x.2.2.1 n x.2.1.1.toNat x.2.1.2.toNat x.2.2.2) (grL gd x.2.2.1 n x.2.1.1.toNat x.2.1.2.toNat) (.bool (grB gd x.2.2.1 n x.2.1.1.toNat x.2.1.2.toNat && odd x.2.1.2.toNat))) (by
   rintro ⟨i, q, p, m⟩ ⟨d, k, hq, h1, h2⟩
   simp only at hq; subst hq
   exact h i d k p m h1 h2)
noncomputable def EYS (n : Nat) (h : YS n) : YEntry Tryd.prog gl := yentryW getYS (fun x => ∃ d k : Nat, x.2.1 = ((d : Int), (k : Int)) /\ pre91 n d k x.2.2.1 x.2.2.2.1 /\ x.2.2.2.2.length + (grL gd x.2.2.1 n d k).length < 1000000) false (fun x => aY x.1 x.2.1) (fun x => yS 0 .ready none x.2.2.1 x.2.2.2.1 x.2.2.2.2 .ff)
 (fun x => [.bool (grB gd x.2.2.1 n x.2.1.1.toNat x.2.1.2.toNat && !odd x.2.1.2.toNat)])
 (fun x => yS 1 (yst (grB gd x.2.2.1 n x.2.1.1.toNat x.2.1.2.toNat) (odd x.2.1.2.toNat)) (yjp (grB gd x.2.2.1 n x.2.1.1.toNat x.2.1.2.toNat) (odd x.2.1.2.toNat)) x.2.2.1 (grM gd x.2.2.1 n x.2.1.1.toNat x.2.1.2.toNat x.2.2.2.1) (x.2.2.2.2 ++ grL gd x.2.2.1 n x.2.1.1.toNat x.2.1.2.toNat) (.bool (grB gd x.2.2.1 n x.2.1.1.toNat x.2.1.2.toNat && odd x.2.1.2.toNat))) (by
   rintro ⟨i, q, p, m, l⟩ ⟨d, k, hq, h1, h2⟩
   simp only at hq; subst hq
   exact h i d k p m l h1 h2)
noncomputable def hN (s : LoopState) (j : Option Code) (p : List Int) (m : Memo) (b : AV) (q : PQ) : List Ob := [.lp C91 s j (rc91 1 7), .bx (clo91 2 3 6 1), gdB, .bx (.ptr 4 0 []), cvB p 5, mmO m, .bx nl, .bx b, bq q]
noncomputable def hO (s : LoopState) (j : Option Code) (p : List Int) (m : Memo) (l : List PQ) (b : AV) (q : PQ) : List Ob := [.lp C91 s j (rc91 1 7), .bx (clo91 2 3 6 1), gdB, .bx (.ptr 4 0 []), cvB p 5, mmO m, .bx (.own 9 0), .bx b, bq q, pieO 0 l]
noncomputable def hS (v : Nat) (s : LoopState) (j : Option Code) (p : List Int) (m : Memo) (l : List PQ) (b : AV) (q : PQ) : List Ob := [.lp C91 s j (rc91 1 8), .bx (clo91 2 3 6 1), gdB, .bx (.ptr 4 0 []), cvB p 5, mmO m, .bx (.own 7 v), pieO v l, .bx b, bq q]
def HN (n : Nat) : Prop := ∀ (d k : Nat) (p : List Int) (m : Memo), pre91 (n + 1) d k p m -> hvL gd p n d k = [] ->
 GCall Tryd.prog gl 97 false [.yld 0, .ptr 8 0 []] (hN .ready none p m .ff ((d : Int), (k : Int))) [] (hN .done (some (.exit 0)) p (hvM gd p n d k m) .ff ((d : Int), (k : Int)))
def HO (n : Nat) : Prop := ∀ (d k : Nat) (p : List Int) (m : Memo), pre91 (n + 1) d k p m -> hvL gd p n d k ≠ [] -> (hvL gd p n d k).length < 1000000 ->
 GCall Tryd.prog gl 97 false [.yld 0, .ptr 8 0 []] (hN .ready none p m .ff ((d : Int), (k : Int))) [] (hO .done (jR (hvB gd p n d k)) p (hvM gd p n d k m) (hvL gd p n d k) (.bool (hvB gd p n d k)) ((d : Int), (k : Int)))
def HS (n : Nat) : Prop := ∀ (d k : Nat) (p : List Int) (m : Memo) (l : List PQ), pre91 (n + 1) d k p m -> l.length + (hvL gd p n d k).length < 1000000 ->
 GCall Tryd.prog gl 97 false [.yld 0, .ptr 9 0 []] (hS 0 .ready none p m l .ff ((d : Int), (k : Int))) [] (hS 1 .done (jR (hvB gd p n d k)) p (hvM gd p n d k m) (l ++ hvL gd p n d k) (.bool (hvB gd p n d k)) ((d : Int), (k : Int)))
def s97 (x i : Nat) (obs : List Ob) : St := ⟨.yld 0 :: .ptr x 0 [] :: .dead :: .dead :: .int .i64 i :: dd 16, obs⟩
noncomputable def L97_0 : Code := lp (bodyOf Tryd.f97) 0
def ex97 : List (List Nat × Ex) := []
noncomputable def fm97N (p : List Int) (m : Memo) (d k : Nat) : List Fam := [⟨Unit, fun _ => True, fun _ => s97 8 0 (hN .ready none p m .ff ((d : Int), (k : Int))), fun _ => 2, fun _ _ => none⟩]
noncomputable def H97N (p : List Int) (m : Memo) (d k : Nat) : Nat -> Option Hint := fun _ => some ⟨chks 9 [0, 1, 4] (fm97N p m d k), ex97.map (·.2)⟩
theorem loop97N (n : Nat) (h : YN n) (p : List Int) (m : Memo) (d k : Nat) (hp : pre91 (n + 1) d k p m) (hl : grL gd p n (d + 1) (2 * k) = []) : LoopOK (Xy [] [EYN n h] none 9 (fun _ => none)) L97_0 ⟨chks 9 [0, 1, 4] (fm97N p m d k), ex97.map (·.2)⟩
   (RetR (Xy [] [EYN n h] none 9 (fun _ => none)) false false [] [] (hN .done (some (.exit 0)) p (grM gd p n (d + 1) (2 * k) m) .ff ((d : Int), (k : Int)))) := by
 refine loop_fams (Xy_ok _ _ _ _ _) [0, 1, 4] (fm97N p m d k) ex97 90 ⟨fun _ _ => ?_, trivial⟩
 refine of_eq (q := True /\ ((0 : Int) < 2 -> True /\ True /\ True /\ True /\ True /\ True /\ inR .i64 ((d : Int) + 1) /\ True /\ True /\ inR .i64 ((2 : Int) * (k : Int)) /\ True /\ inR .i64 ((2 : Int) * (k : Int) + 0) /\ True /\ (((∃ (d_1 : Nat), ∃ (k_1 : Nat), ((d : Int) + 1, (2 : Int) * (k : Int) + 0) = ((d_1 : Int), (k_1 : Int)) /\ pre91 n d_1 k_1 p m /\ grL P71.gd p n d_1 k_1 = []) /\ (True /\ (0 : Int) = 0 /\ ((d : Int) + 1 = (d : Int) + 1 /\ (2 : Int) * (k : Int) + 0 = 2 * (k : Int) + 0 /\ True) /\ True) /\ (C91 = C91 /\ LoopState.ready = LoopState.ready /\ (none : Option Code) = none /\ (True /\ True /\ True) /\ True) /\ (True /\ True /\ True /\ True /\ True /\ True) /\ (True /\ True) /\ True /\ (p = p /\ True /\ True) /\ m = m /\ True /\ false = false /\ True) /\ True /\ True /\ True /\ True /\ True /\ True /\ True /\ True /\ True) /\ True /\ True /\ True /\ (C91 = C91 /\ LoopState.done = LoopState.done /\ some (Code.exit (0 : Nat)) = some (Code.exit (0 : Nat)) /\ (True /\ True /\ True) /\ True) /\ (True /\ True /\ True /\ True /\ True /\ True) /\ (True /\ True) /\ True /\ (p = p /\ True /\ True) /\ grM P71.gd p n (d + 1) ((2 : Int) * (k : Int) + 0).toNat m = grM P71.gd p n (d + 1) ((2 : Nat) * k) m /\ True /\ false = false /\ ((d : Int) = (d : Int) /\ (k : Int) = (k : Int) /\ True) /\ True) /\ (¬(0 : Int) < 2 -> False)) (by kernel_rfl) ?_
 simp only [zz]
 have hb := pre_lt hp
 refine ⟨fun _ => ⟨by simp only [inR]; omega, by simp only [inR]; omega, by simp only [inR]; omega, ⟨d + 1, 2 * k, by simp, pre_left hp, hl⟩, ?_⟩, by omega⟩
 rw [tn0]
theorem hvN {n d k : Nat} {p : List Int} (h : hvL gd p n d k = []) : grL gd p n (d + 1) (2 * k) = [] /\ ∀ m, hvM gd p n d k m = grM gd p n (d + 1) (2 * k) m := by
 unfold hvL at h
 split at h
 · rename_i hb
   exact absurd (List.append_eq_nil_iff.mp h).1 (grL_ne gd p hb)
 · rename_i hb
   exact ⟨h, fun m => by unfold hvM; rw [if_neg hb]⟩
theorem hvO {n d k : Nat} {p : List Int} (h : hvL gd p n d k ≠ []) : grL gd p n (d + 1) (2 * k) ≠ [] := by
 unfold hvL at h
 split at h
 · rename_i hb; exact grL_ne gd p hb
 · exact h
theorem hN_of (n : Nat) (h : YN n) : HN n := by
 intro d k p m hp hl
 obtain ⟨h1, h2⟩ := hvN hl
 rw [h2]
 refine gcall_of (X := (Xy [] [EYN n h] none 9 (fun _ => none))) ((Xy_ok _ _ _ _ _)) (f := 97) (fn := Tryd.f97) (c := bodyOf Tryd.f97) (by kernel_rfl) (by kernel_rfl) (view := false) (rvs := []) (by kernel_rfl) (H := (H97N p m d k)) 80 (by kernel_rfl) ?_
 have hL := loop97N n h p m d k hp h1
 refine of_eq (q := True /\ LoopOK (Xy [] [P71.EYN n h] none (9 : Nat) fun (x : Nat) => none) P71.L97_0 { J := chks (9 : Nat) [(0 : Nat), (1 : Nat), (4 : Nat)] (P71.fm97N p m d k), exits := List.map (fun (x : List Nat × Ex) => x.snd) P71.ex97 } (RetR (Xy [] [P71.EYN n h] none (9 : Nat) fun (x : Nat) => none) false false [] [] (P71.hN LoopState.done (some (Code.exit (0 : Nat))) p (grM P71.gd p n (d + 1) ((2 : Nat) * k) m) AV.ff ((d : Int), (k : Int)))) /\ (∃ (y : Unit), True /\ (True /\ True /\ (0 : Int) = 0 /\ True) /\ (C91 = C91 /\ LoopState.ready = LoopState.ready /\ (none : Option Code) = none /\ (True /\ True /\ True) /\ True) /\ (True /\ True /\ True /\ True /\ True /\ True) /\ (True /\ True) /\ True /\ (p = p /\ True /\ True) /\ m = m /\ True /\ false = false /\ ((d : Int) = (d : Int) /\ (k : Int) = (k : Int) /\ True) /\ True) /\ True) (by kernel_rfl) ?_
 simp only [zz]
 exact hL
noncomputable def fm97O (p : List Int) (m : Memo) (n d k : Nat) : List Fam := [⟨Unit, fun _ => True, fun _ => s97 8 0 (hN .ready none p m .ff ((d : Int), (k : Int))), fun _ => 2, fun _ _ => none⟩,
 ⟨Unit, fun _ => grB gd p n (d + 1) (2 * k) = true, fun _ => s97 8 1 (hO .ready none p (grM gd p n (d + 1) (2 * k) m) (grL gd p n (d + 1) (2 * k)) .ff ((d : Int), (k : Int))), fun _ => 1, fun _ _ => none⟩]
noncomputable def H97O (p : List Int) (m : Memo) (n d k : Nat) : Nat -> Option Hint := fun _ => some ⟨chks 9 [0, 1, 4] (fm97O p m n d k), ex97.map (·.2)⟩
theorem loop97O (n : Nat) (h : YO n) (h' : YS n) (p : List Int) (m : Memo) (d k : Nat) (hp : pre91 (n + 1) d k p m) (hl : hvL gd p n d k ≠ []) (hz : (hvL gd p n d k).length < 1000000) : LoopOK (Xy [] [EYO n h, EYS n h'] none 9 (fun _ => none)) L97_0 ⟨chks 9 [0, 1, 4] (fm97O p m n d k), ex97.map (·.2)⟩
   (RetR (Xy [] [EYO n h, EYS n h'] none 9 (fun _ => none)) false false [] [] (hO .done (jR (hvB gd p n d k)) p (hvM gd p n d k m) (hvL gd p n d k) (.bool (hvB gd p n d k)) ((d : Int), (k : Int)))) := by
 refine loop_fams (Xy_ok _ _ _ _ _) [0, 1, 4] (fm97O p m n d k) ex97 90 ⟨fun _ _ => ?_, fun _ hb1 => ?_, trivial⟩
 · refine of_eq (q := True /\ ((0 : Int) < 2 -> True /\ True /\ True /\ True /\ True /\ True /\ inR .i64 ((d : Int) + 1) /\ True /\ True /\ inR .i64 ((2 : Int) * (k : Int)) /\ True /\ inR .i64 ((2 : Int) * (k : Int) + 0) /\ True /\ (((∃ (d_1 : Nat), ∃ (k_1 : Nat), ((d : Int) + 1, (2 : Int) * (k : Int) + 0) = ((d_1 : Int), (k_1 : Int)) /\ pre91 n d_1 k_1 p m /\ ¬grL P71.gd p n d_1 k_1 = []) /\ (True /\ (0 : Int) = 0 /\ ((d : Int) + 1 = (d : Int) + 1 /\ (2 : Int) * (k : Int) + 0 = 2 * (k : Int) + 0 /\ True) /\ True) /\ (C91 = C91 /\ LoopState.ready = LoopState.ready /\ (none : Option Code) = none /\ (True /\ True /\ True) /\ True) /\ (True /\ True /\ True /\ True /\ True /\ True) /\ (True /\ True) /\ True /\ (p = p /\ True /\ True) /\ m = m /\ True /\ false = false /\ True) /\ True /\ True /\ True /\ True /\ True /\ True /\ True /\ True /\ True) /\ True /\ ((!(grB P71.gd p n (d + 1) ((2 : Int) * (k : Int) + 0).toNat && !odd ((2 : Int) * (k : Int) + 0).toNat)) = true -> True /\ True /\ (C91 = C91 /\ LoopState.done = yst (grB P71.gd p n (d + 1) ((2 : Int) * (k : Int) + 0).toNat) (odd ((2 : Int) * (k : Int) + 0).toNat) /\ jR (hvB P71.gd p n d k) = yjp (grB P71.gd p n (d + 1) ((2 : Int) * (k : Int) + 0).toNat) (odd ((2 : Int) * (k : Int) + 0).toNat) /\ (True /\ True /\ True) /\ True) /\ (True /\ True /\ True /\ True /\ True /\ True) /\ (True /\ True) /\ True /\ (p = p /\ True /\ True) /\ grM P71.gd p n (d + 1) ((2 : Int) * (k : Int) + 0).toNat m = hvM P71.gd p n d k m /\ True /\ (grB P71.gd p n (d + 1) ((2 : Int) * (k : Int) + 0).toNat && odd ((2 : Int) * (k : Int) + 0).toNat) = hvB P71.gd p n d k /\ ((d : Int) = (d : Int) /\ (k : Int) = (k : Int) /\ True) /\ grL P71.gd p n (d + 1) ((2 : Int) * (k : Int) + 0).toNat = hvL P71.gd p n d k /\ True) /\ ((!(grB P71.gd p n (d + 1) ((2 : Int) * (k : Int) + 0).toNat && !odd ((2 : Int) * (k : Int) + 0).toNat)) = false -> inR .i64 (1 : Int) /\ True /\ ((∃ (y : Unit), (True /\ (2 : Nat) < 2) /\ (True /\ True /\ (1 : Int) = 0 /\ True) /\ (C91 = C91 /\ LoopState.ready = yst (grB P71.gd p n (d + 1) ((2 : Int) * (k : Int) + 0).toNat) (odd ((2 : Int) * (k : Int) + 0).toNat) /\ (none : Option Code) = yjp (grB P71.gd p n (d + 1) ((2 : Int) * (k : Int) + 0).toNat) (odd ((2 : Int) * (k : Int) + 0).toNat) /\ (True /\ True /\ True) /\ True) /\ (True /\ True /\ True /\ True /\ True /\ True) /\ (True /\ True) /\ True /\ (p = p /\ True /\ True) /\ grM P71.gd p n (d + 1) ((2 : Int) * (k : Int) + 0).toNat m = m /\ False /\ (grB P71.gd p n (d + 1) ((2 : Int) * (k : Int) + 0).toNat && odd ((2 : Int) * (k : Int) + 0).toNat) = false /\ ((d : Int) = (d : Int) /\ (k : Int) = (k : Int) /\ True) /\ True) ∨ ∃ (y : Unit), (grB P71.gd p n (d + 1) ((2 : Nat) * k) = true /\ (1 : Nat) < 2) /\ (True /\ True /\ (1 : Int) = 1 /\ True) /\ (C91 = C91 /\ LoopState.ready = yst (grB P71.gd p n (d + 1) ((2 : Int) * (k : Int) + 0).toNat) (odd ((2 : Int) * (k : Int) + 0).toNat) /\ (none : Option Code) = yjp (grB P71.gd p n (d + 1) ((2 : Int) * (k : Int) + 0).toNat) (odd ((2 : Int) * (k : Int) + 0).toNat) /\ (True /\ True /\ True) /\ True) /\ (True /\ True /\ True /\ True /\ True /\ True) /\ (True /\ True) /\ True /\ (p = p /\ True /\ True) /\ grM P71.gd p n (d + 1) ((2 : Int) * (k : Int) + 0).toNat m = grM P71.gd p n (d + 1) ((2 : Nat) * k) m /\ True /\ (grB P71.gd p n (d + 1) ((2 : Int) * (k : Int) + 0).toNat && odd ((2 : Int) * (k : Int) + 0).toNat) = false /\ ((d : Int) = (d : Int) /\ (k : Int) = (k : Int) /\ True) /\ grL P71.gd p n (d + 1) ((2 : Int) * (k : Int) + 0).toNat = grL P71.gd p n (d + 1) ((2 : Nat) * k) /\ True))) /\ (¬(0 : Int) < 2 -> False)) (by kernel_rfl) ?_
   simp only [zz]
   have hb := pre_lt hp
   rw [tn0, odd0]
   refine ⟨fun _ => ⟨by simp only [inR]; omega, by simp only [inR]; omega, by simp only [inR]; omega, ⟨d + 1, 2 * k, by simp, pre_left hp, hvO hl⟩, fun hg => ?_, fun hg => ?_⟩, by omega⟩
   · have hg : grB gd p n (d + 1) (2 * k) = false := by simpa using hg
     simp [hvB, hvM, hvL, hg, yst, yjp, jR]
   · have hg : grB gd p n (d + 1) (2 * k) = true := by simpa using hg
     simp only [hg]
     exact ⟨by simp only [inR]; omega, ⟨trivial, by omega⟩, by simp [yst, yjp]⟩
 · have hb1 : grB gd p n (d + 1) (2 * k) = true := hb1
   refine of_eq (q := True /\ ((1 : Int) < 2 -> True /\ True /\ True /\ True /\ True /\ True /\ inR .i64 ((d : Int) + 1) /\ True /\ True /\ inR .i64 ((2 : Int) * (k : Int)) /\ True /\ inR .i64 ((2 : Int) * (k : Int) + 1) /\ True /\ (((∃ (d_1 : Nat), ∃ (k_1 : Nat), ((d : Int) + 1, (2 : Int) * (k : Int) + 1) = ((d_1 : Int), (k_1 : Int)) /\ pre91 n d_1 k_1 p (grM P71.gd p n (d + 1) ((2 : Nat) * k) m) /\ (grL P71.gd p n (d + 1) ((2 : Nat) * k)).length + (grL P71.gd p n d_1 k_1).length < 1000000) /\ (True /\ (1 : Int) = 1 /\ ((d : Int) + 1 = (d : Int) + 1 /\ (2 : Int) * (k : Int) + 1 = 2 * (k : Int) + 1 /\ True) /\ True) /\ (C91 = C91 /\ LoopState.ready = LoopState.ready /\ (none : Option Code) = none /\ (True /\ True /\ True) /\ True) /\ (True /\ True /\ True /\ True /\ True /\ True) /\ (True /\ True) /\ True /\ (p = p /\ True /\ True) /\ grM P71.gd p n (d + 1) ((2 : Nat) * k) m = grM P71.gd p n (d + 1) ((2 : Nat) * k) m /\ True /\ grL P71.gd p n (d + 1) ((2 : Nat) * k) = grL P71.gd p n (d + 1) ((2 : Nat) * k) /\ false = false /\ True) /\ True /\ True /\ True /\ True /\ True /\ True /\ True /\ True /\ True /\ True) /\ True /\ ((!(grB P71.gd p n (d + 1) ((2 : Int) * (k : Int) + 1).toNat && !odd ((2 : Int) * (k : Int) + 1).toNat)) = true -> True /\ True /\ (C91 = C91 /\ LoopState.done = yst (grB P71.gd p n (d + 1) ((2 : Int) * (k : Int) + 1).toNat) (odd ((2 : Int) * (k : Int) + 1).toNat) /\ jR (hvB P71.gd p n d k) = yjp (grB P71.gd p n (d + 1) ((2 : Int) * (k : Int) + 1).toNat) (odd ((2 : Int) * (k : Int) + 1).toNat) /\ (True /\ True /\ True) /\ True) /\ (True /\ True /\ True /\ True /\ True /\ True) /\ (True /\ True) /\ True /\ (p = p /\ True /\ True) /\ grM P71.gd p n (d + 1) ((2 : Int) * (k : Int) + 1).toNat (grM P71.gd p n (d + 1) ((2 : Nat) * k) m) = hvM P71.gd p n d k m /\ True /\ (grB P71.gd p n (d + 1) ((2 : Int) * (k : Int) + 1).toNat && odd ((2 : Int) * (k : Int) + 1).toNat) = hvB P71.gd p n d k /\ ((d : Int) = (d : Int) /\ (k : Int) = (k : Int) /\ True) /\ grL P71.gd p n (d + 1) ((2 : Nat) * k) ++ grL P71.gd p n (d + 1) ((2 : Int) * (k : Int) + 1).toNat = hvL P71.gd p n d k /\ True) /\ ((!(grB P71.gd p n (d + 1) ((2 : Int) * (k : Int) + 1).toNat && !odd ((2 : Int) * (k : Int) + 1).toNat)) = false -> inR .i64 (2 : Int) /\ True /\ ((∃ (y : Unit), (True /\ (2 : Nat) < 1) /\ (True /\ True /\ (2 : Int) = 0 /\ True) /\ (C91 = C91 /\ LoopState.ready = yst (grB P71.gd p n (d + 1) ((2 : Int) * (k : Int) + 1).toNat) (odd ((2 : Int) * (k : Int) + 1).toNat) /\ (none : Option Code) = yjp (grB P71.gd p n (d + 1) ((2 : Int) * (k : Int) + 1).toNat) (odd ((2 : Int) * (k : Int) + 1).toNat) /\ (True /\ True /\ True) /\ True) /\ (True /\ True /\ True /\ True /\ True /\ True) /\ (True /\ True) /\ True /\ (p = p /\ True /\ True) /\ grM P71.gd p n (d + 1) ((2 : Int) * (k : Int) + 1).toNat (grM P71.gd p n (d + 1) ((2 : Nat) * k) m) = m /\ False /\ (grB P71.gd p n (d + 1) ((2 : Int) * (k : Int) + 1).toNat && odd ((2 : Int) * (k : Int) + 1).toNat) = false /\ ((d : Int) = (d : Int) /\ (k : Int) = (k : Int) /\ True) /\ True) ∨ ∃ (y : Unit), (grB P71.gd p n (d + 1) ((2 : Nat) * k) = true /\ (1 : Nat) < 1) /\ (True /\ True /\ (2 : Int) = 1 /\ True) /\ (C91 = C91 /\ LoopState.ready = yst (grB P71.gd p n (d + 1) ((2 : Int) * (k : Int) + 1).toNat) (odd ((2 : Int) * (k : Int) + 1).toNat) /\ (none : Option Code) = yjp (grB P71.gd p n (d + 1) ((2 : Int) * (k : Int) + 1).toNat) (odd ((2 : Int) * (k : Int) + 1).toNat) /\ (True /\ True /\ True) /\ True) /\ (True /\ True /\ True /\ True /\ True /\ True) /\ (True /\ True) /\ True /\ (p = p /\ True /\ True) /\ grM P71.gd p n (d + 1) ((2 : Int) * (k : Int) + 1).toNat (grM P71.gd p n (d + 1) ((2 : Nat) * k) m) = grM P71.gd p n (d + 1) ((2 : Nat) * k) m /\ True /\ (grB P71.gd p n (d + 1) ((2 : Int) * (k : Int) + 1).toNat && odd ((2 : Int) * (k : Int) + 1).toNat) = false /\ ((d : Int) = (d : Int) /\ (k : Int) = (k : Int) /\ True) /\ grL P71.gd p n (d + 1) ((2 : Nat) * k) ++ grL P71.gd p n (d + 1) ((2 : Int) * (k : Int) + 1).toNat = grL P71.gd p n (d + 1) ((2 : Nat) * k) /\ True))) /\ (¬(1 : Int) < 2 -> False)) (by kernel_rfl) ?_
   simp only [zz]
   have hb := pre_lt hp
   rw [tn1, odd1]
   have e1 : hvL gd p n d k = grL gd p n (d + 1) (2 * k) ++ grL gd p n (d + 1) (2 * k + 1) := by unfold hvL; rw [if_pos hb1]
   have e2 : hvM gd p n d k m = grM gd p n (d + 1) (2 * k + 1) (grM gd p n (d + 1) (2 * k) m) := by unfold hvM; rw [if_pos hb1]
   have e3 : hvB gd p n d k = grB gd p n (d + 1) (2 * k + 1) := by unfold hvB; rw [hb1]; try rfl
   rw [e1, e2, e3]
   rw [e1, List.length_append] at hz
   refine ⟨fun _ => ⟨by simp only [inR]; omega, by simp only [inR]; omega, by simp only [inR]; omega, ⟨d + 1, 2 * k + 1, by simp, pre_memo (pre_right hp) (grM_ok gd p hp.2.2.2), hz⟩, fun _ => ?_, fun hg => ?_⟩, by omega⟩
   · cases grB gd p n (d + 1) (2 * k + 1) <;> simp [yst, yjp, jR]
   · simp at hg
theorem hO_of (n : Nat) (h : YO n) (h' : YS n) : HO n := by
 intro d k p m hp hl hz
 refine gcall_of (X := (Xy [] [EYO n h, EYS n h'] none 9 (fun _ => none))) ((Xy_ok _ _ _ _ _)) (f := 97) (fn := Tryd.f97) (c := bodyOf Tryd.f97) (by kernel_rfl) (by kernel_rfl) (view := false) (rvs := []) (by kernel_rfl) (H := (H97O p m n d k)) 80 (by kernel_rfl) ?_
 have hL := loop97O n h h' p m d k hp hl hz
 refine of_eq (q := True /\ LoopOK (Xy [] [P71.EYO n h, P71.EYS n h'] none (9 : Nat) fun (x : Nat) => none) P71.L97_0 { J := chks (9 : Nat) [(0 : Nat), (1 : Nat), (4 : Nat)] (P71.fm97O p m n d k), exits := List.map (fun (x : List Nat × Ex) => x.snd) P71.ex97 } (RetR (Xy [] [P71.EYO n h, P71.EYS n h'] none (9 : Nat) fun (x : Nat) => none) false false [] [] (P71.hO LoopState.done (jR (hvB P71.gd p n d k)) p (hvM P71.gd p n d k m) (hvL P71.gd p n d k) (AV.bool (hvB P71.gd p n d k)) ((d : Int), (k : Int)))) /\ ((∃ (y : Unit), True /\ (True /\ True /\ (0 : Int) = 0 /\ True) /\ (C91 = C91 /\ LoopState.ready = LoopState.ready /\ (none : Option Code) = none /\ (True /\ True /\ True) /\ True) /\ (True /\ True /\ True /\ True /\ True /\ True) /\ (True /\ True) /\ True /\ (p = p /\ True /\ True) /\ m = m /\ True /\ false = false /\ ((d : Int) = (d : Int) /\ (k : Int) = (k : Int) /\ True) /\ True) ∨ ∃ (y : Unit), grB P71.gd p n (d + 1) ((2 : Nat) * k) = true /\ (True /\ True /\ (0 : Int) = 1 /\ True) /\ (C91 = C91 /\ LoopState.ready = LoopState.ready /\ (none : Option Code) = none /\ (True /\ True /\ True) /\ True) /\ (True /\ True /\ True /\ True /\ True /\ True) /\ (True /\ True) /\ True /\ (p = p /\ True /\ True) /\ m = grM P71.gd p n (d + 1) ((2 : Nat) * k) m /\ False /\ false = false /\ ((d : Int) = (d : Int) /\ (k : Int) = (k : Int) /\ True) /\ False) /\ True) (by kernel_rfl) ?_
 simp only [zz]
 exact hL
noncomputable def fm97S (p : List Int) (m : Memo) (l : List PQ) (n d k : Nat) : List Fam := [⟨Unit, fun _ => True, fun _ => s97 9 0 (hS 0 .ready none p m l .ff ((d : Int), (k : Int))), fun _ => 2, fun _ _ => none⟩,
 ⟨Unit, fun _ => grB gd p n (d + 1) (2 * k) = true, fun _ => s97 9 1 (hS 1 .ready none p (grM gd p n (d + 1) (2 * k) m) (l ++ grL gd p n (d + 1) (2 * k)) .ff ((d : Int), (k : Int))), fun _ => 1, fun _ _ => none⟩]
noncomputable def H97S (p : List Int) (m : Memo) (l : List PQ) (n d k : Nat) : Nat -> Option Hint := fun _ => some ⟨chks 10 [0, 1, 4] (fm97S p m l n d k), ex97.map (·.2)⟩
theorem loop97S (n : Nat) (h' : YS n) (p : List Int) (m : Memo) (l : List PQ) (d k : Nat) (hp : pre91 (n + 1) d k p m) (hz : l.length + (hvL gd p n d k).length < 1000000) : LoopOK (Xb [] [EYS n h'] none 10 [7] (fun _ => none)) L97_0 ⟨chks 10 [0, 1, 4] (fm97S p m l n d k), ex97.map (·.2)⟩
   (RetR (Xb [] [EYS n h'] none 10 [7] (fun _ => none)) false false [] [] (hS 1 .done (jR (hvB gd p n d k)) p (hvM gd p n d k m) (l ++ hvL gd p n d k) (.bool (hvB gd p n d k)) ((d : Int), (k : Int)))) := by
 have hle : (grL gd p n (d + 1) (2 * k)).length <= (hvL gd p n d k).length := by
   unfold hvL; split
   · simp
   · exact Nat.le_refl _
 refine loop_fams (Xb_ok _ _ _ _ _ _) [0, 1, 4] (fm97S p m l n d k) ex97 90 ⟨fun _ _ => ?_, fun _ hb1 => ?_, trivial⟩
 · refine of_eq (q := True /\ ((0 : Int) < 2 -> True /\ True /\ True /\ True /\ True /\ True /\ inR .i64 ((d : Int) + 1) /\ True /\ True /\ inR .i64 ((2 : Int) * (k : Int)) /\ True /\ inR .i64 ((2 : Int) * (k : Int) + 0) /\ True /\ (((∃ (d_1 : Nat), ∃ (k_1 : Nat), ((d : Int) + 1, (2 : Int) * (k : Int) + 0) = ((d_1 : Int), (k_1 : Int)) /\ pre91 n d_1 k_1 p m /\ l.length + (grL P71.gd p n d_1 k_1).length < 1000000) /\ (True /\ (0 : Int) = 0 /\ ((d : Int) + 1 = (d : Int) + 1 /\ (2 : Int) * (k : Int) + 0 = 2 * (k : Int) + 0 /\ True) /\ True) /\ (C91 = C91 /\ LoopState.ready = LoopState.ready /\ (none : Option Code) = none /\ (True /\ True /\ True) /\ True) /\ (True /\ True /\ True /\ True /\ True /\ True) /\ (True /\ True) /\ True /\ (p = p /\ True /\ True) /\ m = m /\ True /\ l = l /\ false = false /\ True) /\ True /\ True /\ True /\ True /\ True /\ True /\ True /\ True /\ True /\ True) /\ True /\ ((!(grB P71.gd p n (d + 1) ((2 : Int) * (k : Int) + 0).toNat && !odd ((2 : Int) * (k : Int) + 0).toNat)) = true -> True /\ True /\ (C91 = C91 /\ LoopState.done = yst (grB P71.gd p n (d + 1) ((2 : Int) * (k : Int) + 0).toNat) (odd ((2 : Int) * (k : Int) + 0).toNat) /\ jR (hvB P71.gd p n d k) = yjp (grB P71.gd p n (d + 1) ((2 : Int) * (k : Int) + 0).toNat) (odd ((2 : Int) * (k : Int) + 0).toNat) /\ (True /\ True /\ True) /\ True) /\ (True /\ True /\ True /\ True /\ True /\ True) /\ (True /\ True) /\ True /\ (p = p /\ True /\ True) /\ grM P71.gd p n (d + 1) ((2 : Int) * (k : Int) + 0).toNat m = hvM P71.gd p n d k m /\ True /\ l ++ grL P71.gd p n (d + 1) ((2 : Int) * (k : Int) + 0).toNat = l ++ hvL P71.gd p n d k /\ (grB P71.gd p n (d + 1) ((2 : Int) * (k : Int) + 0).toNat && odd ((2 : Int) * (k : Int) + 0).toNat) = hvB P71.gd p n d k /\ ((d : Int) = (d : Int) /\ (k : Int) = (k : Int) /\ True) /\ True) /\ ((!(grB P71.gd p n (d + 1) ((2 : Int) * (k : Int) + 0).toNat && !odd ((2 : Int) * (k : Int) + 0).toNat)) = false -> inR .i64 (1 : Int) /\ True /\ ((∃ (y : Unit), (True /\ (2 : Nat) < 2) /\ (True /\ True /\ (1 : Int) = 0 /\ True) /\ (C91 = C91 /\ LoopState.ready = yst (grB P71.gd p n (d + 1) ((2 : Int) * (k : Int) + 0).toNat) (odd ((2 : Int) * (k : Int) + 0).toNat) /\ (none : Option Code) = yjp (grB P71.gd p n (d + 1) ((2 : Int) * (k : Int) + 0).toNat) (odd ((2 : Int) * (k : Int) + 0).toNat) /\ (True /\ True /\ True) /\ True) /\ (True /\ True /\ True /\ True /\ True /\ True) /\ (True /\ True) /\ True /\ (p = p /\ True /\ True) /\ grM P71.gd p n (d + 1) ((2 : Int) * (k : Int) + 0).toNat m = m /\ False /\ False /\ (grB P71.gd p n (d + 1) ((2 : Int) * (k : Int) + 0).toNat && odd ((2 : Int) * (k : Int) + 0).toNat) = false /\ ((d : Int) = (d : Int) /\ (k : Int) = (k : Int) /\ True) /\ True) ∨ ∃ (y : Unit), (grB P71.gd p n (d + 1) ((2 : Nat) * k) = true /\ (1 : Nat) < 2) /\ (True /\ True /\ (1 : Int) = 1 /\ True) /\ (C91 = C91 /\ LoopState.ready = yst (grB P71.gd p n (d + 1) ((2 : Int) * (k : Int) + 0).toNat) (odd ((2 : Int) * (k : Int) + 0).toNat) /\ (none : Option Code) = yjp (grB P71.gd p n (d + 1) ((2 : Int) * (k : Int) + 0).toNat) (odd ((2 : Int) * (k : Int) + 0).toNat) /\ (True /\ True /\ True) /\ True) /\ (True /\ True /\ True /\ True /\ True /\ True) /\ (True /\ True) /\ True /\ (p = p /\ True /\ True) /\ grM P71.gd p n (d + 1) ((2 : Int) * (k : Int) + 0).toNat m = grM P71.gd p n (d + 1) ((2 : Nat) * k) m /\ True /\ l ++ grL P71.gd p n (d + 1) ((2 : Int) * (k : Int) + 0).toNat = l ++ grL P71.gd p n (d + 1) ((2 : Nat) * k) /\ (grB P71.gd p n (d + 1) ((2 : Int) * (k : Int) + 0).toNat && odd ((2 : Int) * (k : Int) + 0).toNat) = false /\ ((d : Int) = (d : Int) /\ (k : Int) = (k : Int) /\ True) /\ True))) /\ (¬(0 : Int) < 2 -> False)) (by kernel_rfl) ?_
   simp only [zz]
   have hb := pre_lt hp
   rw [tn0, odd0]
   refine ⟨fun _ => ⟨by simp only [inR]; omega, by simp only [inR]; omega, by simp only [inR]; omega, ⟨d + 1, 2 * k, by simp, pre_left hp, by omega⟩, fun hg => ?_, fun hg => ?_⟩, by omega⟩
   · have hg : grB gd p n (d + 1) (2 * k) = false := by simpa using hg
     simp [hvB, hvM, hvL, hg, yst, yjp, jR]
   · have hg : grB gd p n (d + 1) (2 * k) = true := by simpa using hg
     simp only [hg]
     exact ⟨by simp only [inR]; omega, ⟨trivial, by omega⟩, by simp [yst, yjp]⟩
 · have hb1 : grB gd p n (d + 1) (2 * k) = true := hb1
   refine of_eq (q := True /\ ((1 : Int) < 2 -> True /\ True /\ True /\ True /\ True /\ True /\ inR .i64 ((d : Int) + 1) /\ True /\ True /\ inR .i64 ((2 : Int) * (k : Int)) /\ True /\ inR .i64 ((2 : Int) * (k : Int) + 1) /\ True /\ (((∃ (d_1 : Nat), ∃ (k_1 : Nat), ((d : Int) + 1, (2 : Int) * (k : Int) + 1) = ((d_1 : Int), (k_1 : Int)) /\ pre91 n d_1 k_1 p (grM P71.gd p n (d + 1) ((2 : Nat) * k) m) /\ (l ++ grL P71.gd p n (d + 1) ((2 : Nat) * k)).length + (grL P71.gd p n d_1 k_1).length < 1000000) /\ (True /\ (1 : Int) = 1 /\ ((d : Int) + 1 = (d : Int) + 1 /\ (2 : Int) * (k : Int) + 1 = 2 * (k : Int) + 1 /\ True) /\ True) /\ (C91 = C91 /\ LoopState.ready = LoopState.ready /\ (none : Option Code) = none /\ (True /\ True /\ True) /\ True) /\ (True /\ True /\ True /\ True /\ True /\ True) /\ (True /\ True) /\ True /\ (p = p /\ True /\ True) /\ grM P71.gd p n (d + 1) ((2 : Nat) * k) m = grM P71.gd p n (d + 1) ((2 : Nat) * k) m /\ True /\ l ++ grL P71.gd p n (d + 1) ((2 : Nat) * k) = l ++ grL P71.gd p n (d + 1) ((2 : Nat) * k) /\ false = false /\ True) /\ True /\ True /\ True /\ True /\ True /\ True /\ True /\ True /\ True /\ True) /\ True /\ ((!(grB P71.gd p n (d + 1) ((2 : Int) * (k : Int) + 1).toNat && !odd ((2 : Int) * (k : Int) + 1).toNat)) = true -> True /\ True /\ (C91 = C91 /\ LoopState.done = yst (grB P71.gd p n (d + 1) ((2 : Int) * (k : Int) + 1).toNat) (odd ((2 : Int) * (k : Int) + 1).toNat) /\ jR (hvB P71.gd p n d k) = yjp (grB P71.gd p n (d + 1) ((2 : Int) * (k : Int) + 1).toNat) (odd ((2 : Int) * (k : Int) + 1).toNat) /\ (True /\ True /\ True) /\ True) /\ (True /\ True /\ True /\ True /\ True /\ True) /\ (True /\ True) /\ True /\ (p = p /\ True /\ True) /\ grM P71.gd p n (d + 1) ((2 : Int) * (k : Int) + 1).toNat (grM P71.gd p n (d + 1) ((2 : Nat) * k) m) = hvM P71.gd p n d k m /\ True /\ l ++ grL P71.gd p n (d + 1) ((2 : Nat) * k) ++ grL P71.gd p n (d + 1) ((2 : Int) * (k : Int) + 1).toNat = l ++ hvL P71.gd p n d k /\ (grB P71.gd p n (d + 1) ((2 : Int) * (k : Int) + 1).toNat && odd ((2 : Int) * (k : Int) + 1).toNat) = hvB P71.gd p n d k /\ ((d : Int) = (d : Int) /\ (k : Int) = (k : Int) /\ True) /\ True) /\ ((!(grB P71.gd p n (d + 1) ((2 : Int) * (k : Int) + 1).toNat && !odd ((2 : Int) * (k : Int) + 1).toNat)) = false -> inR .i64 (2 : Int) /\ True /\ ((∃ (y : Unit), (True /\ (2 : Nat) < 1) /\ (True /\ True /\ (2 : Int) = 0 /\ True) /\ (C91 = C91 /\ LoopState.ready = yst (grB P71.gd p n (d + 1) ((2 : Int) * (k : Int) + 1).toNat) (odd ((2 : Int) * (k : Int) + 1).toNat) /\ (none : Option Code) = yjp (grB P71.gd p n (d + 1) ((2 : Int) * (k : Int) + 1).toNat) (odd ((2 : Int) * (k : Int) + 1).toNat) /\ (True /\ True /\ True) /\ True) /\ (True /\ True /\ True /\ True /\ True /\ True) /\ (True /\ True) /\ True /\ (p = p /\ True /\ True) /\ grM P71.gd p n (d + 1) ((2 : Int) * (k : Int) + 1).toNat (grM P71.gd p n (d + 1) ((2 : Nat) * k) m) = m /\ False /\ False /\ (grB P71.gd p n (d + 1) ((2 : Int) * (k : Int) + 1).toNat && odd ((2 : Int) * (k : Int) + 1).toNat) = false /\ ((d : Int) = (d : Int) /\ (k : Int) = (k : Int) /\ True) /\ True) ∨ ∃ (y : Unit), (grB P71.gd p n (d + 1) ((2 : Nat) * k) = true /\ (1 : Nat) < 1) /\ (True /\ True /\ (2 : Int) = 1 /\ True) /\ (C91 = C91 /\ LoopState.ready = yst (grB P71.gd p n (d + 1) ((2 : Int) * (k : Int) + 1).toNat) (odd ((2 : Int) * (k : Int) + 1).toNat) /\ (none : Option Code) = yjp (grB P71.gd p n (d + 1) ((2 : Int) * (k : Int) + 1).toNat) (odd ((2 : Int) * (k : Int) + 1).toNat) /\ (True /\ True /\ True) /\ True) /\ (True /\ True /\ True /\ True /\ True /\ True) /\ (True /\ True) /\ True /\ (p = p /\ True /\ True) /\ grM P71.gd p n (d + 1) ((2 : Int) * (k : Int) + 1).toNat (grM P71.gd p n (d + 1) ((2 : Nat) * k) m) = grM P71.gd p n (d + 1) ((2 : Nat) * k) m /\ True /\ l ++ grL P71.gd p n (d + 1) ((2 : Nat) * k) ++ grL P71.gd p n (d + 1) ((2 : Int) * (k : Int) + 1).toNat = l ++ grL P71.gd p n (d + 1) ((2 : Nat) * k) /\ (grB P71.gd p n (d + 1) ((2 : Int) * (k : Int) + 1).toNat && odd ((2 : Int) * (k : Int) + 1).toNat) = false /\ ((d : Int) = (d : Int) /\ (k : Int) = (k : Int) /\ True) /\ True))) /\ (¬(1 : Int) < 2 -> False)) (by kernel_rfl) ?_
   simp only [zz]
   have hb := pre_lt hp
   rw [tn1, odd1]
   have e1 : hvL gd p n d k = grL gd p n (d + 1) (2 * k) ++ grL gd p n (d + 1) (2 * k + 1) := by unfold hvL; rw [if_pos hb1]
   have e2 : hvM gd p n d k m = grM gd p n (d + 1) (2 * k + 1) (grM gd p n (d + 1) (2 * k) m) := by unfold hvM; rw [if_pos hb1]
   have e3 : hvB gd p n d k = grB gd p n (d + 1) (2 * k + 1) := by unfold hvB; rw [hb1]; try rfl
   rw [e1, e2, e3]
   rw [e1, List.length_append] at hz
   refine ⟨fun _ => ⟨by simp only [inR]; omega, by simp only [inR]; omega, by simp only [inR]; omega, ⟨d + 1, 2 * k + 1, by simp, pre_memo (pre_right hp) (grM_ok gd p hp.2.2.2), by rw [List.length_append]; omega⟩, fun _ => ?_, fun hg => ?_⟩, by omega⟩
   · cases grB gd p n (d + 1) (2 * k + 1) <;> simp [yst, yjp, jR]
   · simp at hg
theorem hS_of (n : Nat) (h' : YS n) : HS n := by
 intro d k p m l hp hz
 refine gcall_of (X := (Xb [] [EYS n h'] none 10 [7] (fun _ => none))) ((Xb_ok _ _ _ _ _ _)) (f := 97) (fn := Tryd.f97) (c := bodyOf Tryd.f97) (by kernel_rfl) (by kernel_rfl) (view := false) (rvs := []) (by kernel_rfl) (H := (H97S p m l n d k)) 80 (by kernel_rfl) ?_
 have hL := loop97S n h' p m l d k hp hz
 refine of_eq (q := True /\ LoopOK (Xb [] [P71.EYS n h'] none (10 : Nat) [(7 : Nat)] fun (x : Nat) => none) P71.L97_0 { J := chks (10 : Nat) [(0 : Nat), (1 : Nat), (4 : Nat)] (P71.fm97S p m l n d k), exits := List.map (fun (x : List Nat × Ex) => x.snd) P71.ex97 } (RetR (Xb [] [P71.EYS n h'] none (10 : Nat) [(7 : Nat)] fun (x : Nat) => none) false false [] [] (P71.hS (1 : Nat) LoopState.done (jR (hvB P71.gd p n d k)) p (hvM P71.gd p n d k m) (l ++ hvL P71.gd p n d k) (AV.bool (hvB P71.gd p n d k)) ((d : Int), (k : Int)))) /\ ((∃ (y : Unit), True /\ (True /\ True /\ (0 : Int) = 0 /\ True) /\ (C91 = C91 /\ LoopState.ready = LoopState.ready /\ (none : Option Code) = none /\ (True /\ True /\ True) /\ True) /\ (True /\ True /\ True /\ True /\ True /\ True) /\ (True /\ True) /\ True /\ (p = p /\ True /\ True) /\ m = m /\ True /\ l = l /\ false = false /\ ((d : Int) = (d : Int) /\ (k : Int) = (k : Int) /\ True) /\ True) ∨ ∃ (y : Unit), grB P71.gd p n (d + 1) ((2 : Nat) * k) = true /\ (True /\ True /\ (0 : Int) = 1 /\ True) /\ (C91 = C91 /\ LoopState.ready = LoopState.ready /\ (none : Option Code) = none /\ (True /\ True /\ True) /\ True) /\ (True /\ True /\ True /\ True /\ True /\ True) /\ (True /\ True) /\ True /\ (p = p /\ True /\ True) /\ m = grM P71.gd p n (d + 1) ((2 : Nat) * k) m /\ False /\ False /\ false = false /\ ((d : Int) = (d : Int) /\ (k : Int) = (k : Int) /\ True) /\ True) /\ True) (by kernel_rfl) ?_
 simp only [zz]
 exact hL
def unBq : Ob -> Option PQ
 | .bx c => toD FR c
 | _ => none
def get97N (_ : List AV) (obs : List Ob) : Option (PQ × List Int × Memo) :=
 match unCvB (obs.getD 4 .gone), unMm (obs.getD 5 .gone), isNl (obs.getD 6 .gone), unBq (obs.getD 8 .gone) with
 | some p, some m, true, some q => some (q, p, m)
 | _, _, _, _ => none
def get97S (_ : List AV) (obs : List Ob) : Option (PQ × List Int × Memo × List PQ) :=
 match unCvB (obs.getD 4 .gone), unMm (obs.getD 5 .gone), unPie (obs.getD 7 .gone), unBq (obs.getD 9 .gone) with
 | some p, some m, some l, some q => some (q, p, m, l)
 | _, _, _, _ => none
theorem en97 : Enters Tryd.prog 97 := ⟨Tryd.f97, by kernel_rfl, by kernel_rfl, by kernel_rfl⟩
noncomputable def e97N (n : Nat) (h : HN n) : Entry Tryd.prog gl := entryW 97 en97 true get97N (fun x => ∃ d k : Nat, x.1 = ((d : Int), (k : Int)) /\ pre91 (n + 1) d k x.2.1 x.2.2 /\ hvL gd x.2.1 n d k = []) false (fun _ => [.yld 0, .ptr 8 0 []]) (fun x => hN .ready none x.2.1 x.2.2 .ff x.1) (fun _ => [])
 (fun x => hN .done (some (.exit 0)) x.2.1 (hvM gd x.2.1 n x.1.1.toNat x.1.2.toNat x.2.2) .ff x.1) (by
   rintro ⟨q, p, m⟩ ⟨d, k, hq, h1, h2⟩
   simp only at hq; subst hq
   exact h d k p m h1 h2)
noncomputable def e97O (n : Nat) (h : HO n) : Entry Tryd.prog gl := entryW 97 en97 true get97N (fun x => ∃ d k : Nat, x.1 = ((d : Int), (k : Int)) /\ pre91 (n + 1) d k x.2.1 x.2.2 /\ hvL gd x.2.1 n d k ≠ [] /\ (hvL gd x.2.1 n d k).length < 1000000) false (fun _ => [.yld 0, .ptr 8 0 []]) (fun x => hN .ready none x.2.1 x.2.2 .ff x.1) (fun _ => [])
 (fun x => hO .done (jR (hvB gd x.2.1 n x.1.1.toNat x.1.2.toNat)) x.2.1 (hvM gd x.2.1 n x.1.1.toNat x.1.2.toNat x.2.2) (hvL gd x.2.1 n x.1.1.toNat x.1.2.toNat) (.bool (hvB gd x.2.1 n x.1.1.toNat x.1.2.toNat)) x.1) (by
   rintro ⟨q, p, m⟩ ⟨d, k, hq, h1, h2, h3⟩
   simp only at hq; subst hq
   exact h d k p m h1 h2 h3)
noncomputable def e97S (n : Nat) (h : HS n) : Entry Tryd.prog gl := entryW 97 en97 true get97S (fun x => ∃ d k : Nat, x.1 = ((d : Int), (k : Int)) /\ pre91 (n + 1) d k x.2.1 x.2.2.1 /\ x.2.2.2.length + (hvL gd x.2.1 n d k).length < 1000000) false (fun _ => [.yld 0, .ptr 9 0 []]) (fun x => hS 0 .ready none x.2.1 x.2.2.1 x.2.2.2 .ff x.1) (fun _ => [])
 (fun x => hS 1 .done (jR (hvB gd x.2.1 n x.1.1.toNat x.1.2.toNat)) x.2.1 (hvM gd x.2.1 n x.1.1.toNat x.1.2.toNat x.2.2.1) (x.2.2.2 ++ hvL gd x.2.1 n x.1.1.toNat x.1.2.toNat) (.bool (hvB gd x.2.1 n x.1.1.toNat x.1.2.toNat)) x.1) (by
   rintro ⟨q, p, m, l⟩ ⟨d, k, hq, h1, h2⟩
   simp only at hq; subst hq
   exact h d k p m l h1 h2)
noncomputable def E91 : EL := [e69, e71, e92]
theorem gN0 : GN 0 := by
 intro d k p m hp hl
 have h0 := pre_lt hp
 have hpc := piece_of hp
 have hln := qc_length p d k
 have hpl := hp.1.2.1
 have hd6 := hp.2.1
 refine gcall_of (X := (Xy E91 [] none 6 (drOf [(1, 4005)]))) ((Xy_ok _ _ _ _ _)) (f := 91) (fn := Tryd.f91) (c := bodyOf Tryd.f91) (by kernel_rfl) (by kernel_rfl) (view := false) (rvs := [.cell 6 4]) (by kernel_rfl) (H := fun _ => none) 80 (by kernel_rfl) ?_
 refine of_eq (q := True /\ True /\ True /\ true = true /\ True /\ true = true /\ True /\ true = true /\ ((isPoly p /\ isPiece ((d : Int), (k : Int)) /\ (d : Int) < 7 /\ memoOk p m) /\ True /\ True /\ True) /\ ((True /\ AV.clo (71 : FuncId) [] [] = AV.clo (71 : FuncId) [] []) /\ True) /\ (qc p d k).length + 1 <= 1000000 /\ True /\ (decide (posL (qc p d k)) = true -> True /\ True /\ True /\ sumPre (0 : Nat) [((d : Int), (k : Int))].length (nat_lit 16) /\ True /\ True /\ (True /\ True) /\ (true = false /\ True) /\ (True /\ True) /\ True /\ (p = p /\ True /\ True) /\ cm p d k m = grM P71.gd p (0 : Nat) d k m /\ False /\ (True /\ True /\ True /\ True /\ True /\ True) /\ True) /\ (decide (posL (qc p d k)) = false -> True /\ True /\ True /\ ((d : Int) = 6 -> True /\ (True /\ True) /\ (false = false /\ True) /\ (True /\ True) /\ True /\ (p = p /\ True /\ True) /\ cm p d k m = grM P71.gd p (0 : Nat) d k m /\ True /\ (True /\ True /\ True /\ True /\ True /\ True) /\ True) /\ (¬(d : Int) = 6 -> True /\ (True /\ True) /\ False))) (by kernel_rfl) ?_
 simp only [zz]
 refine ⟨⟨hp.1, hpc, by omega, hp.2.2.2⟩, by omega, fun h => ?_, fun h => ⟨fun _ => rfl, fun h6 => by omega⟩⟩
 have h : gd (qc p d k) = true := h
 unfold grL at hl
 rw [if_pos h] at hl
 cases hl
theorem gO0 : GO 0 := by
 intro d k p m hp hl
 have h0 := pre_lt hp
 have hpc := piece_of hp
 have hln := qc_length p d k
 have hpl := hp.1.2.1
 have hd6 := hp.2.1
 refine gcall_of (X := (Xy E91 [] none 6 (drOf [(1, 4005)]))) ((Xy_ok _ _ _ _ _)) (f := 91) (fn := Tryd.f91) (c := bodyOf Tryd.f91) (by kernel_rfl) (by kernel_rfl) (view := false) (rvs := [.cell 6 4]) (by kernel_rfl) (H := fun _ => none) 80 (by kernel_rfl) ?_
 refine of_eq (q := True /\ True /\ True /\ true = true /\ True /\ true = true /\ True /\ true = true /\ ((isPoly p /\ isPiece ((d : Int), (k : Int)) /\ (d : Int) < 7 /\ memoOk p m) /\ True /\ True /\ True) /\ ((True /\ AV.clo (71 : FuncId) [] [] = AV.clo (71 : FuncId) [] []) /\ True) /\ (qc p d k).length + 1 <= 1000000 /\ True /\ (decide (posL (qc p d k)) = true -> True /\ True /\ True /\ sumPre (0 : Nat) [((d : Int), (k : Int))].length (nat_lit 16) /\ True /\ True /\ (True /\ True) /\ (true = grB P71.gd p (0 : Nat) d k /\ True) /\ (True /\ True) /\ True /\ (p = p /\ True /\ True) /\ cm p d k m = grM P71.gd p (0 : Nat) d k m /\ True /\ (True /\ True /\ True /\ True /\ True /\ True) /\ [((d : Int), (k : Int))] = grL P71.gd p (0 : Nat) d k /\ True) /\ (decide (posL (qc p d k)) = false -> True /\ True /\ True /\ ((d : Int) = 6 -> True /\ (True /\ True) /\ (false = grB P71.gd p (0 : Nat) d k /\ True) /\ (True /\ True) /\ True /\ (p = p /\ True /\ True) /\ cm p d k m = grM P71.gd p (0 : Nat) d k m /\ False /\ (True /\ True /\ True /\ True /\ True /\ True) /\ False) /\ (¬(d : Int) = 6 -> True /\ (True /\ True) /\ False))) (by kernel_rfl) ?_
 simp only [zz]
 refine ⟨⟨hp.1, hpc, by omega, hp.2.2.2⟩, by omega, fun h => ?_, fun h => ⟨fun _ => ?_, fun h6 => by omega⟩⟩
 · have h : gd (qc p d k) = true := h
   refine ⟨by unfold sumPre; simp, h.symm, rfl, ?_⟩
   unfold grL; rw [if_pos h]
 · have h : gd (qc p d k) = false := h
   unfold grL at hl
   rw [if_neg (by simp [h])] at hl
   exact hl rfl
theorem gS0 : GS 0 := by
 intro d k p m l hp hl
 have h0 := pre_lt hp
 have hpc := piece_of hp
 have hln := qc_length p d k
 have hpl := hp.1.2.1
 have hd6 := hp.2.1
 refine gcall_of (X := (Xb E91 [] none 7 [5] (drOf [(1, 4005)]))) ((Xb_ok _ _ _ _ _ _)) (f := 91) (fn := Tryd.f91) (c := bodyOf Tryd.f91) (by kernel_rfl) (by kernel_rfl) (view := false) (rvs := [.cell 6 4]) (by kernel_rfl) (H := fun _ => none) 80 (by kernel_rfl) ?_
 refine of_eq (q := True /\ True /\ True /\ true = true /\ True /\ true = true /\ True /\ true = true /\ ((isPoly p /\ isPiece ((d : Int), (k : Int)) /\ (d : Int) < 7 /\ memoOk p m) /\ True /\ True /\ True) /\ ((True /\ AV.clo (71 : FuncId) [] [] = AV.clo (71 : FuncId) [] []) /\ True) /\ (qc p d k).length + 1 <= 1000000 /\ True /\ (decide (posL (qc p d k)) = true -> True /\ True /\ True /\ sumPre l.length [((d : Int), (k : Int))].length (nat_lit 16) /\ True /\ True /\ (True /\ True) /\ (true = grB P71.gd p (0 : Nat) d k /\ True) /\ (True /\ True) /\ True /\ (p = p /\ True /\ True) /\ cm p d k m = grM P71.gd p (0 : Nat) d k m /\ True /\ l ++ [((d : Int), (k : Int))] = l ++ grL P71.gd p (0 : Nat) d k /\ (True /\ True /\ True /\ True /\ True /\ True) /\ True) /\ (decide (posL (qc p d k)) = false -> True /\ True /\ True /\ ((d : Int) = 6 -> True /\ (True /\ True) /\ (false = grB P71.gd p (0 : Nat) d k /\ True) /\ (True /\ True) /\ True /\ (p = p /\ True /\ True) /\ cm p d k m = grM P71.gd p (0 : Nat) d k m /\ True /\ l = l ++ grL P71.gd p (0 : Nat) d k /\ (True /\ True /\ True /\ True /\ True /\ True) /\ True) /\ (¬(d : Int) = 6 -> True /\ (True /\ True) /\ False))) (by kernel_rfl) ?_
 simp only [zz]
 refine ⟨⟨hp.1, hpc, by omega, hp.2.2.2⟩, by omega, fun h => ?_, fun h => ⟨fun _ => ?_, fun h6 => by omega⟩⟩
 · have h : gd (qc p d k) = true := h
   refine ⟨by unfold sumPre; simp; omega, h.symm, rfl, ?_⟩
   unfold grL; rw [if_pos h]; try rfl
 · have h : gd (qc p d k) = false := h
   refine ⟨h.symm, rfl, ?_⟩
   unfold grL; rw [if_neg (by simp [h])]; simp
theorem gN1 (n : Nat) (h : HN n) : GN (n + 1) := by
 intro d k p m hp hl
 have h0 := pre_lt hp
 have hpc := piece_of hp
 have hln := qc_length p d k
 have hpl := hp.1.2.1
 have hd6 := hp.2.1
 refine gcall_of (X := (Xy (e97N n h :: E91) [] none 6 (drOf [(1, 4005)]))) ((Xy_ok _ _ _ _ _)) (f := 91) (fn := Tryd.f91) (c := bodyOf Tryd.f91) (by kernel_rfl) (by kernel_rfl) (view := false) (rvs := [.cell 6 4]) (by kernel_rfl) (H := fun _ => none) 80 (by kernel_rfl) ?_
 refine of_eq (q := True /\ True /\ True /\ true = true /\ True /\ true = true /\ True /\ true = true /\ ((isPoly p /\ isPiece ((d : Int), (k : Int)) /\ (d : Int) < 7 /\ memoOk p m) /\ True /\ True /\ True) /\ ((True /\ AV.clo (71 : FuncId) [] [] = AV.clo (71 : FuncId) [] []) /\ True) /\ (qc p d k).length + 1 <= 1000000 /\ True /\ (decide (posL (qc p d k)) = true -> True /\ True /\ True /\ sumPre (0 : Nat) [((d : Int), (k : Int))].length (nat_lit 16) /\ True /\ True /\ (True /\ True) /\ (true = false /\ True) /\ (True /\ True) /\ True /\ (p = p /\ True /\ True) /\ cm p d k m = grM P71.gd p (n + 1) d k m /\ False /\ (True /\ True /\ True /\ True /\ True /\ True) /\ True) /\ (decide (posL (qc p d k)) = false -> True /\ True /\ True /\ ((d : Int) = 6 -> True /\ (True /\ True) /\ (false = false /\ True) /\ (True /\ True) /\ True /\ (p = p /\ True /\ True) /\ cm p d k m = grM P71.gd p (n + 1) d k m /\ True /\ (True /\ True /\ True /\ True /\ True /\ True) /\ True) /\ (¬(d : Int) = 6 -> True /\ (True /\ True) /\ ((((∃ (d_1 : Nat), ∃ (k_1 : Nat), ((d : Int), (k : Int)) = ((d_1 : Int), (k_1 : Int)) /\ pre91 (n + 1) d_1 k_1 p (cm p d k m) /\ hvL P71.gd p n d_1 k_1 = []) /\ (True /\ True /\ True) /\ (C91 = C91 /\ LoopState.ready = LoopState.ready /\ (none : Option Code) = none /\ (True /\ True /\ True) /\ True) /\ (True /\ True /\ True /\ True /\ True /\ True) /\ (True /\ True) /\ True /\ (p = p /\ True /\ True) /\ cm p d k m = cm p d k m /\ True /\ false = false /\ ((d : Int) = (d : Int) /\ (k : Int) = (k : Int) /\ True) /\ True) /\ True /\ True /\ True /\ True /\ True /\ True /\ True /\ True /\ True /\ True) /\ ¬LoopState.done = LoopState.busy) /\ (some (Code.exit (0 : Nat)) = none -> True /\ (True /\ True) /\ (false = false /\ True) /\ (True /\ True) /\ True /\ (p = p /\ True /\ True) /\ hvM P71.gd p n d k (cm p d k m) = grM P71.gd p (n + 1) d k m /\ True /\ (True /\ True /\ True /\ True /\ True /\ True) /\ True) /\ (some (Code.exit (0 : Nat)) = some (Code.exit (0 : Nat)) ∨ some (Code.exit (0 : Nat)) = some Code.ret ∨ some (Code.exit (0 : Nat)) = none) /\ (some (Code.exit (0 : Nat)) = some (Code.exit (0 : Nat)) -> True /\ (True /\ True) /\ (false = false /\ True) /\ (True /\ True) /\ True /\ (p = p /\ True /\ True) /\ hvM P71.gd p n d k (cm p d k m) = grM P71.gd p (n + 1) d k m /\ True /\ (True /\ True /\ True /\ True /\ True /\ True) /\ True) /\ (some (Code.exit (0 : Nat)) = some Code.ret -> (True /\ True) /\ (false = false /\ True) /\ (True /\ True) /\ True /\ (p = p /\ True /\ True) /\ hvM P71.gd p n d k (cm p d k m) = grM P71.gd p (n + 1) d k m /\ True /\ (True /\ True /\ True /\ True /\ True /\ True) /\ True) /\ True))) (by kernel_rfl) ?_
 simp only [zz]
 have hg : gd (qc p d k) = false := by
   cases hg : gd (qc p d k) with
   | false => rfl
   | true => rw [grL_succ, if_pos hg] at hl; cases hl
 have e : hvM gd p n d k (cm p d k m) = grM gd p (n + 1) d k m := by rw [grM_succ, if_neg (by simp [hg])]
 have e2 : hvL gd p n d k = [] := by rwa [grL_succ, if_neg (by simp [hg])] at hl
 refine ⟨⟨hp.1, hpc, by omega, hp.2.2.2⟩, by omega, fun h => ?_, fun h => ⟨fun _ => by omega, fun h6 => ?_⟩⟩
 · have h : gd (qc p d k) = true := h
   rw [hg] at h; cases h
 · exact ⟨⟨⟨d, k, rfl, pre_memo hp (cm_ok hp.2.2.2), e2⟩, by simp⟩, fun _ => e, .inl trivial, fun _ => e, fun _ => e⟩
theorem gO1 (n : Nat) (h : HO n) : GO (n + 1) := by
 intro d k p m hp hl
 have h0 := pre_lt hp
 have hpc := piece_of hp
 have hln := qc_length p d k
 have hpl := hp.1.2.1
 have hd6 := hp.2.1
 refine gcall_of (X := (Xy (e97O n h :: E91) [] none 6 (drOf [(1, 4005)]))) ((Xy_ok _ _ _ _ _)) (f := 91) (fn := Tryd.f91) (c := bodyOf Tryd.f91) (by kernel_rfl) (by kernel_rfl) (view := false) (rvs := [.cell 6 4]) (by kernel_rfl) (H := fun _ => none) 80 (by kernel_rfl) ?_
 refine of_eq (q := True /\ True /\ True /\ true = true /\ True /\ true = true /\ True /\ true = true /\ ((isPoly p /\ isPiece ((d : Int), (k : Int)) /\ (d : Int) < 7 /\ memoOk p m) /\ True /\ True /\ True) /\ ((True /\ AV.clo (71 : FuncId) [] [] = AV.clo (71 : FuncId) [] []) /\ True) /\ (qc p d k).length + 1 <= 1000000 /\ True /\ (decide (posL (qc p d k)) = true -> True /\ True /\ True /\ sumPre (0 : Nat) [((d : Int), (k : Int))].length (nat_lit 16) /\ True /\ True /\ (True /\ True) /\ (true = grB P71.gd p (n + 1) d k /\ True) /\ (True /\ True) /\ True /\ (p = p /\ True /\ True) /\ cm p d k m = grM P71.gd p (n + 1) d k m /\ True /\ (True /\ True /\ True /\ True /\ True /\ True) /\ [((d : Int), (k : Int))] = grL P71.gd p (n + 1) d k /\ True) /\ (decide (posL (qc p d k)) = false -> True /\ True /\ True /\ ((d : Int) = 6 -> True /\ (True /\ True) /\ (false = grB P71.gd p (n + 1) d k /\ True) /\ (True /\ True) /\ True /\ (p = p /\ True /\ True) /\ cm p d k m = grM P71.gd p (n + 1) d k m /\ False /\ (True /\ True /\ True /\ True /\ True /\ True) /\ False) /\ (¬(d : Int) = 6 -> True /\ (True /\ True) /\ ((((∃ (d_1 : Nat), ∃ (k_1 : Nat), ((d : Int), (k : Int)) = ((d_1 : Int), (k_1 : Int)) /\ pre91 (n + 1) d_1 k_1 p (cm p d k m) /\ ¬hvL P71.gd p n d_1 k_1 = [] /\ (hvL P71.gd p n d_1 k_1).length < 1000000) /\ (True /\ True /\ True) /\ (C91 = C91 /\ LoopState.ready = LoopState.ready /\ (none : Option Code) = none /\ (True /\ True /\ True) /\ True) /\ (True /\ True /\ True /\ True /\ True /\ True) /\ (True /\ True) /\ True /\ (p = p /\ True /\ True) /\ cm p d k m = cm p d k m /\ True /\ false = false /\ ((d : Int) = (d : Int) /\ (k : Int) = (k : Int) /\ True) /\ True) /\ True /\ True /\ True /\ True /\ True /\ True /\ True /\ True /\ True /\ True) /\ ¬LoopState.done = LoopState.busy) /\ (jR (hvB P71.gd p n d k) = none -> True /\ (True /\ True) /\ (false = grB P71.gd p (n + 1) d k /\ True) /\ (True /\ True) /\ True /\ (p = p /\ True /\ True) /\ hvM P71.gd p n d k (cm p d k m) = grM P71.gd p (n + 1) d k m /\ True /\ (True /\ True /\ True /\ True /\ True /\ True) /\ hvL P71.gd p n d k = grL P71.gd p (n + 1) d k /\ True) /\ (jR (hvB P71.gd p n d k) = some (Code.exit (0 : Nat)) ∨ jR (hvB P71.gd p n d k) = some Code.ret ∨ jR (hvB P71.gd p n d k) = none) /\ (jR (hvB P71.gd p n d k) = some (Code.exit (0 : Nat)) -> True /\ (True /\ True) /\ (false = grB P71.gd p (n + 1) d k /\ True) /\ (True /\ True) /\ True /\ (p = p /\ True /\ True) /\ hvM P71.gd p n d k (cm p d k m) = grM P71.gd p (n + 1) d k m /\ True /\ (True /\ True /\ True /\ True /\ True /\ True) /\ hvL P71.gd p n d k = grL P71.gd p (n + 1) d k /\ True) /\ (jR (hvB P71.gd p n d k) = some Code.ret -> (True /\ True) /\ (hvB P71.gd p n d k = grB P71.gd p (n + 1) d k /\ True) /\ (True /\ True) /\ True /\ (p = p /\ True /\ True) /\ hvM P71.gd p n d k (cm p d k m) = grM P71.gd p (n + 1) d k m /\ True /\ (True /\ True /\ True /\ True /\ True /\ True) /\ hvL P71.gd p n d k = grL P71.gd p (n + 1) d k /\ True) /\ True))) (by kernel_rfl) ?_
 simp only [zz]
 have hln2 := grL_len gd p (n + 1) d k
 have hn2 := Nat.pow_le_pow_right (show 0 < 2 by omega) (show n + 1 <= 6 by omega)
 refine ⟨⟨hp.1, hpc, by omega, hp.2.2.2⟩, by omega, fun h => ?_, fun h => ⟨fun _ => by omega, fun h6 => ?_⟩⟩
 · have hg : gd (qc p d k) = true := h
   rw [grB_succ, grM_succ, grL_succ, if_pos hg, if_pos hg, hg]
   exact ⟨by unfold sumPre; simp, rfl, rfl, rfl⟩
 · have hg : gd (qc p d k) = false := h
   have hng : ¬ gd (qc p d k) = true := by simp [hg]
   rw [grL_succ, if_neg hng] at hl hln2
   rw [grB_succ, grM_succ, grL_succ, if_neg hng, if_neg hng, hg]
   refine ⟨⟨⟨d, k, rfl, pre_memo hp (cm_ok hp.2.2.2), hl, by omega⟩, by simp⟩, ?_⟩
   cases hvB gd p n d k <;> simp [jR]
theorem gS1 (n : Nat) (h : HS n) : GS (n + 1) := by
 intro d k p m l hp hl
 have h0 := pre_lt hp
 have hpc := piece_of hp
 have hln := qc_length p d k
 have hpl := hp.1.2.1
 have hd6 := hp.2.1
 refine gcall_of (X := (Xb (e97S n h :: E91) [] none 7 [5] (drOf [(1, 4005)]))) ((Xb_ok _ _ _ _ _ _)) (f := 91) (fn := Tryd.f91) (c := bodyOf Tryd.f91) (by kernel_rfl) (by kernel_rfl) (view := false) (rvs := [.cell 6 4]) (by kernel_rfl) (H := fun _ => none) 80 (by kernel_rfl) ?_
 refine of_eq (q := True /\ True /\ True /\ true = true /\ True /\ true = true /\ True /\ true = true /\ ((isPoly p /\ isPiece ((d : Int), (k : Int)) /\ (d : Int) < 7 /\ memoOk p m) /\ True /\ True /\ True) /\ ((True /\ AV.clo (71 : FuncId) [] [] = AV.clo (71 : FuncId) [] []) /\ True) /\ (qc p d k).length + 1 <= 1000000 /\ True /\ (decide (posL (qc p d k)) = true -> True /\ True /\ True /\ sumPre l.length [((d : Int), (k : Int))].length (nat_lit 16) /\ True /\ True /\ (True /\ True) /\ (true = grB P71.gd p (n + 1) d k /\ True) /\ (True /\ True) /\ True /\ (p = p /\ True /\ True) /\ cm p d k m = grM P71.gd p (n + 1) d k m /\ True /\ l ++ [((d : Int), (k : Int))] = l ++ grL P71.gd p (n + 1) d k /\ (True /\ True /\ True /\ True /\ True /\ True) /\ True) /\ (decide (posL (qc p d k)) = false -> True /\ True /\ True /\ ((d : Int) = 6 -> True /\ (True /\ True) /\ (false = grB P71.gd p (n + 1) d k /\ True) /\ (True /\ True) /\ True /\ (p = p /\ True /\ True) /\ cm p d k m = grM P71.gd p (n + 1) d k m /\ True /\ l = l ++ grL P71.gd p (n + 1) d k /\ (True /\ True /\ True /\ True /\ True /\ True) /\ True) /\ (¬(d : Int) = 6 -> True /\ (True /\ True) /\ ((((∃ (d_1 : Nat), ∃ (k_1 : Nat), ((d : Int), (k : Int)) = ((d_1 : Int), (k_1 : Int)) /\ pre91 (n + 1) d_1 k_1 p (cm p d k m) /\ l.length + (hvL P71.gd p n d_1 k_1).length < 1000000) /\ (True /\ True /\ True) /\ (C91 = C91 /\ LoopState.ready = LoopState.ready /\ (none : Option Code) = none /\ (True /\ True /\ True) /\ True) /\ (True /\ True /\ True /\ True /\ True /\ True) /\ (True /\ True) /\ True /\ (p = p /\ True /\ True) /\ cm p d k m = cm p d k m /\ True /\ l = l /\ false = false /\ ((d : Int) = (d : Int) /\ (k : Int) = (k : Int) /\ True) /\ True) /\ True /\ True /\ True /\ True /\ True /\ True /\ True /\ True /\ True /\ True /\ True) /\ ¬LoopState.done = LoopState.busy) /\ (jR (hvB P71.gd p n d k) = none -> True /\ (True /\ True) /\ (false = grB P71.gd p (n + 1) d k /\ True) /\ (True /\ True) /\ True /\ (p = p /\ True /\ True) /\ hvM P71.gd p n d k (cm p d k m) = grM P71.gd p (n + 1) d k m /\ True /\ l ++ hvL P71.gd p n d k = l ++ grL P71.gd p (n + 1) d k /\ (True /\ True /\ True /\ True /\ True /\ True) /\ True) /\ (jR (hvB P71.gd p n d k) = some (Code.exit (0 : Nat)) ∨ jR (hvB P71.gd p n d k) = some Code.ret ∨ jR (hvB P71.gd p n d k) = none) /\ (jR (hvB P71.gd p n d k) = some (Code.exit (0 : Nat)) -> True /\ (True /\ True) /\ (false = grB P71.gd p (n + 1) d k /\ True) /\ (True /\ True) /\ True /\ (p = p /\ True /\ True) /\ hvM P71.gd p n d k (cm p d k m) = grM P71.gd p (n + 1) d k m /\ True /\ l ++ hvL P71.gd p n d k = l ++ grL P71.gd p (n + 1) d k /\ (True /\ True /\ True /\ True /\ True /\ True) /\ True) /\ (jR (hvB P71.gd p n d k) = some Code.ret -> (True /\ True) /\ (hvB P71.gd p n d k = grB P71.gd p (n + 1) d k /\ True) /\ (True /\ True) /\ True /\ (p = p /\ True /\ True) /\ hvM P71.gd p n d k (cm p d k m) = grM P71.gd p (n + 1) d k m /\ True /\ l ++ hvL P71.gd p n d k = l ++ grL P71.gd p (n + 1) d k /\ (True /\ True /\ True /\ True /\ True /\ True) /\ True) /\ True))) (by kernel_rfl) ?_
 simp only [zz]
 refine ⟨⟨hp.1, hpc, by omega, hp.2.2.2⟩, by omega, fun h => ?_, fun h => ⟨fun _ => by omega, fun h6 => ?_⟩⟩
 · have hg : gd (qc p d k) = true := h
   rw [grB_succ, grM_succ, grL_succ, if_pos hg, if_pos hg, hg]
   exact ⟨by unfold sumPre; simp; omega, rfl, rfl, rfl⟩
 · have hg : gd (qc p d k) = false := h
   have hng : ¬ gd (qc p d k) = true := by simp [hg]
   rw [grL_succ, if_neg hng] at hl
   rw [grB_succ, grM_succ, grL_succ, if_neg hng, if_neg hng, hg]
   refine ⟨⟨⟨d, k, rfl, pre_memo hp (cm_ok hp.2.2.2), hl⟩, by simp⟩, ?_⟩
   cases hvB gd p n d k <;> simp [jR]
/-- All levels. -/
theorem g_all : ∀ n, GN n /\ GO n /\ GS n
 | 0 => ⟨gN0, gO0, gS0⟩
 | n + 1 => by
   obtain ⟨h1, h2, h3⟩ := g_all n
   exact ⟨gN1 n (hN_of n (yN_of n h1)), gO1 n (hO_of n (yO_of n h2) (yS_of n h3)), gS1 n (hS_of n (yS_of n h3))⟩
noncomputable def e91n : Entry Tryd.prog gl := e91N 6 (g_all 6).1
noncomputable def e91o : Entry Tryd.prog gl := e91O 6 (g_all 6).2.1
def coverB (p : List Int) : Bool := grB gd p 6 0 0
def coverL (p : List Int) : List PQ := grL gd p 6 0 0
def coverM (p : List Int) (m : Memo) : Memo := grM gd p 6 0 0 m
def a63 : List AV := [.ptr 0 0 [], ofD FR ((0 : Int), (0 : Int)), .clo 71 [] []]
def P63N : Prop := ∀ (p : List Int) (m : Memo), isPoly p -> memoOk p m -> coverB p = false -> GCall Tryd.prog gl 63 false a63 [cvO p, mmO m] [nl] [cvO p, mmO (coverM p m)]
def P63O : Prop := ∀ (p : List Int) (m : Memo), isPoly p -> memoOk p m -> coverB p = true -> GCall Tryd.prog gl 63 false a63 [cvO p, mmO m] [.own 2 0] [cvO p, mmO (coverM p m), pieO 0 (coverL p)]
theorem pre6 {p : List Int} {m : Memo} (hp : isPoly p) (hm : memoOk p m) : pre91 6 0 0 p m := ⟨hp, rfl, by omega, hm⟩
theorem call63N : P63N := by
 intro p m hp hm hb
 have hb' : grB gd p 6 0 0 = false := hb
 by_cases hl : grL gd p 6 0 0 = []
 · refine gcall_of (X := (Xy [e91n] [] none 2 (fun _ => none))) ((Xy_ok _ _ _ _ _)) (f := 63) (fn := Tryd.f63) (c := bodyOf Tryd.f63) (by kernel_rfl) (by kernel_rfl) (view := false) (rvs := [.tmp 6]) (by kernel_rfl) (H := fun _ => none) 80 (by kernel_rfl) ?_
   refine of_eq (q := True /\ True /\ True /\ True /\ True /\ True /\ True /\ True /\ True /\ True /\ (((∃ (d : Nat), ∃ (k : Nat), ((0 : Int), (0 : Int)) = ((d : Int), (k : Int)) /\ pre91 (6 : Nat) d k p m /\ grL P71.gd p (6 : Nat) d k = []) /\ (((0 : Int) = 0 /\ (0 : Int) = 0 /\ True) /\ True /\ True /\ True /\ True /\ True) /\ (True /\ True) /\ True /\ (p = p /\ True /\ True) /\ m = m /\ True /\ (True /\ True /\ True /\ True /\ True /\ True) /\ True) /\ True /\ True /\ True /\ True /\ True /\ True /\ True) /\ True /\ True /\ True /\ (True /\ True) /\ (p = p /\ True /\ True) /\ grM P71.gd p (6 : Nat) (0 : Nat) (0 : Nat) m = P71.coverM p m /\ True) (by kernel_rfl) ?_
   simp only [zz]
   exact ⟨⟨0, 0, rfl, pre6 hp hm, hl⟩, rfl⟩
 · refine gcall_of (X := (Xy [e91o] [] none 2 (fun _ => none))) ((Xy_ok _ _ _ _ _)) (f := 63) (fn := Tryd.f63) (c := bodyOf Tryd.f63) (by kernel_rfl) (by kernel_rfl) (view := false) (rvs := [.tmp 6]) (by kernel_rfl) (H := fun _ => none) 80 (by kernel_rfl) ?_
   refine of_eq (q := True /\ True /\ True /\ True /\ True /\ True /\ True /\ True /\ True /\ True /\ (((∃ (d : Nat), ∃ (k : Nat), ((0 : Int), (0 : Int)) = ((d : Int), (k : Int)) /\ pre91 (6 : Nat) d k p m /\ ¬grL P71.gd p (6 : Nat) d k = []) /\ (((0 : Int) = 0 /\ (0 : Int) = 0 /\ True) /\ True /\ True /\ True /\ True /\ True) /\ (True /\ True) /\ True /\ (p = p /\ True /\ True) /\ m = m /\ True /\ (True /\ True /\ True /\ True /\ True /\ True) /\ True) /\ True /\ True /\ True /\ True /\ True /\ True /\ True) /\ True /\ ((!grB P71.gd p (6 : Nat) (0 : Nat) (0 : Nat)) = true -> True /\ True /\ (True /\ True) /\ (p = p /\ True /\ True) /\ grM P71.gd p (6 : Nat) (0 : Nat) (0 : Nat) m = P71.coverM p m /\ True) /\ ((!grB P71.gd p (6 : Nat) (0 : Nat) (0 : Nat)) = false -> True /\ True /\ True /\ (False /\ True) /\ (p = p /\ True /\ True) /\ grM P71.gd p (6 : Nat) (0 : Nat) (0 : Nat) m = P71.coverM p m /\ True)) (by kernel_rfl) ?_
   simp only [zz]
   refine ⟨⟨0, 0, rfl, pre6 hp hm, hl⟩, fun _ => rfl, fun h => ?_⟩
   simp [hb'] at h
theorem call63O : P63O := by
 intro p m hp hm hb
 have hb' : grB gd p 6 0 0 = true := hb
 have hl := grL_ne gd p hb'
 refine gcall_of (X := (Xy [e91o] [] none 2 (fun _ => none))) ((Xy_ok _ _ _ _ _)) (f := 63) (fn := Tryd.f63) (c := bodyOf Tryd.f63) (by kernel_rfl) (by kernel_rfl) (view := false) (rvs := [.tmp 6]) (by kernel_rfl) (H := fun _ => none) 80 (by kernel_rfl) ?_
 refine of_eq (q := True /\ True /\ True /\ True /\ True /\ True /\ True /\ True /\ True /\ True /\ (((∃ (d : Nat), ∃ (k : Nat), ((0 : Int), (0 : Int)) = ((d : Int), (k : Int)) /\ pre91 (6 : Nat) d k p m /\ ¬grL P71.gd p (6 : Nat) d k = []) /\ (((0 : Int) = 0 /\ (0 : Int) = 0 /\ True) /\ True /\ True /\ True /\ True /\ True) /\ (True /\ True) /\ True /\ (p = p /\ True /\ True) /\ m = m /\ True /\ (True /\ True /\ True /\ True /\ True /\ True) /\ True) /\ True /\ True /\ True /\ True /\ True /\ True /\ True) /\ True /\ ((!grB P71.gd p (6 : Nat) (0 : Nat) (0 : Nat)) = true -> True /\ True /\ (False /\ True) /\ (p = p /\ True /\ True) /\ grM P71.gd p (6 : Nat) (0 : Nat) (0 : Nat) m = P71.coverM p m /\ False) /\ ((!grB P71.gd p (6 : Nat) (0 : Nat) (0 : Nat)) = false -> True /\ True /\ True /\ (True /\ True) /\ (p = p /\ True /\ True) /\ grM P71.gd p (6 : Nat) (0 : Nat) (0 : Nat) m = P71.coverM p m /\ grL P71.gd p (6 : Nat) (0 : Nat) (0 : Nat) = P71.coverL p /\ True)) (by kernel_rfl) ?_
 simp only [zz]
 refine ⟨⟨0, 0, rfl, pre6 hp hm, hl⟩, fun h => ?_, fun _ => ⟨rfl, rfl⟩⟩
 simp [hb'] at h
end Go.Am.Bern.P71
