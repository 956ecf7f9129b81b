/- Part B4 of the proof that the law named in the last file returns true at every input and leaves its arguments as they were; no condition of its own. -/
import Derived.Test.YtfpoonbcnabihaaB3
import Derived.Test.YtfpoonbcnabihaaA2
import Derived.Test.YtfpoonbcnabihaaRows
import Derived.WalkKit
import Derived.ProofKit
import Derived.OpenShut
import Derived.SizedLaws
import Derived.ChangeOld
import Derived.Below
import Derived.Stop.Joined
set_option linter.unusedSimpArgs false
set_option linter.unusedVariables false
/- Shells: the reference's Pieces. -/
namespace Go.Am.Sh
open Go Go.Am Go.Proofs
/-- Set x is one of the first k of a list. -/
def inK (s : List Int) (x : Nat) : Nat -> Bool
 | 0 => false
 | k + 1 => inK s x k || decide (s.getD k 0 = x)
/-- Set x is no part of another of the first k. -/
def mxS (s : List Int) (x : Nat) : Nat -> Bool
 | 0 => true
 | k + 1 => mxS s x k && (decide (s.getD k 0 = x) || !sub x (s.getD k 0).toNat)
def pieB (s : List Int) (x : Nat) : Bool := inK s x s.length && mxS s x s.length
def pieL (s : List Int) : List Int := trueN (pieB s) 64
structure ok22 (s : List Int) : Prop where
 h : okL s
 l : s.length < 1000000
noncomputable def L22_0 : Code := lp (bodyOf Try.f22) 0
noncomputable def L22_2 : Code := lp (bodyOf Try.f22) 2
def sz22 (s : List Int) (k : Nat) : St := ⟨.sl I64 s :: dd 2 ++ nl :: .int .i64 k :: dd 49, []⟩
def jz22 (s : List Int) (k i : Nat) : St := ⟨.sl I64 s :: dd 2 ++ nl :: .int .i64 k :: .bool (inK s k i) :: .bool (mxS s k i) :: .int .i64 i :: dd 46, []⟩
def ejz22 (s : List Int) (k : Nat) : List (List Nat × Ex) := [([0, 3, 4, 5, 6], ⟨2, Unit, fun _ => True, fun _ => ⟨.sl I64 s :: dd 2 ++ nl :: .int .i64 k :: .bool (inK s k s.length) :: .bool (mxS s k s.length) :: dd 47, []⟩⟩)]
def hz22 (s : List Int) (k : Nat) : Hint := ⟨chk 0 [0, 3, 4, 5, 6, 7] (fun i => i <= s.length) (jz22 s k), (ejz22 s k).map (·.2)⟩
theorem loop22z (s : List Int) (k : Nat) (h : ok22 s) (hk : k < 64) (R : Exit -> St -> Prop) : LoopOK (X [e63]) L22_2 (hz22 s k) R := by
 refine loop_ok (X_ok _) (H := fun _ _ => none) [0, 3, 4, 5, 6, 7] (fun i => i <= s.length) (jz22 s k) (fun i => s.length - i) (ejz22 s k) 150 fun (i : Nat) hi => ?_
 refine of_eq (q := (fun (m : Prop) => (fun (j : Bool) => (fun (f : Prop) => (fun (e : Nat) => (fun (d : Int) => (fun (c : Int) => (fun (g : Prop) => (fun (b : Prop) => (fun (a : Int) => (fun (n : Prop) => (fun (l : Bool) => (fun (h : Prop) => b /\ b /\ b /\ b /\ ((i : Int) < (s.length : Int) -> b /\ b /\ (inK s k i = true -> b /\ b /\ b /\ b /\ (j = true -> b /\ b /\ f /\ b /\ b /\ b /\ b /\ (d = a -> b /\ b /\ b /\ b /\ g /\ b /\ ∃ (y : Nat), (y <= e /\ e - y < e - i) /\ (m /\ b /\ n /\ true = inK s k y /\ true = mxS s k y /\ c = (y : Int) /\ b) /\ b) /\ (¬d = a -> b /\ b /\ b /\ f /\ b /\ h /\ b /\ b /\ b /\ b /\ b /\ g /\ b /\ ∃ (y : Nat), (y <= e /\ e - y < e - i) /\ (m /\ b /\ n /\ true = inK s k y /\ (!sub k d.toNat) = mxS s k y /\ c = (y : Int) /\ b) /\ b)) /\ (j = false -> b /\ b /\ b /\ g /\ b /\ ∃ (y : Nat), (y <= e /\ e - y < e - i) /\ (m /\ b /\ n /\ true = inK s k y /\ false = mxS s k y /\ c = (y : Int) /\ b) /\ b)) /\ (inK s k i = false -> b /\ b /\ f /\ b /\ b /\ b /\ b /\ b /\ b /\ b /\ (j = true -> b /\ b /\ f /\ b /\ b /\ b /\ b /\ (d = a -> b /\ b /\ b /\ b /\ g /\ b /\ ∃ (y : Nat), (y <= e /\ e - y < e - i) /\ (m /\ b /\ n /\ l = inK s k y /\ true = mxS s k y /\ c = (y : Int) /\ b) /\ b) /\ (¬d = a -> b /\ b /\ b /\ f /\ b /\ h /\ b /\ b /\ b /\ b /\ b /\ g /\ b /\ ∃ (y : Nat), (y <= e /\ e - y < e - i) /\ (m /\ b /\ n /\ l = inK s k y /\ (!sub k d.toNat) = mxS s k y /\ c = (y : Int) /\ b) /\ b)) /\ (j = false -> b /\ b /\ b /\ g /\ b /\ ∃ (y : Nat), (y <= e /\ e - y < e - i) /\ (m /\ b /\ n /\ l = inK s k y /\ false = mxS s k y /\ c = (y : Int) /\ b) /\ b))) /\ (¬(i : Int) < (s.length : Int) -> ∃ (y : Unit), b /\ (m /\ b /\ n /\ inK s k i = inK s k e /\ j = mxS s k e /\ b) /\ b)) ((((0 : Int) <= a /\ a < 64) /\ (0 : Int) <= d /\ d < 64) /\ b)) (decide (d = a))) (a = a)) ((k : Int))) (True)) (inR .i64 c)) ((i : Int) + 1)) (s.getD i (0 : Int))) (s.length)) (idxPre (i : Int) s.length)) (mxS s k i)) (s = s)) (by kernel_rfl) ?_
 simp only [zz]
 have hi : i <= s.length := hi
 obtain ⟨q1, q2⟩ := okL_get h.h i
 have hl := h.l
 refine ⟨fun hlt => ?_, fun hlt => by rw [show s.length = i by omega]; exact ⟨rfl, rfl⟩⟩
 have hx : idxPre (i : Int) s.length := idx_nat (by omega)
 have hn : ∀ b c, b = inK s k (i + 1) -> c = mxS s k (i + 1) -> inR .i64 ((i : Int) + 1) /\ ∃ y : Nat, (y <= s.length /\ s.length - y < s.length - i) /\ b = inK s k y /\ c = mxS s k y /\ (i : Int) + 1 = (y : Int) := fun b c hb hc => ⟨by simp only [inR]; omega, i + 1, by omega, hb, hc, by omega⟩
 have hr : (0 <= (k : Int) /\ (k : Int) < 64) /\ 0 <= s.getD i 0 /\ s.getD i 0 < 64 := ⟨⟨by omega, by omega⟩, q1, q2⟩
 refine ⟨fun hI => ⟨fun hM => ⟨hx, fun he => hn _ _ ?_ ?_, fun he => ⟨hx, hr, hn _ _ ?_ ?_⟩⟩, fun hM => hn _ _ ?_ ?_⟩, fun hI => ⟨hx, fun hM => ⟨hx, fun he => hn _ _ ?_ ?_, fun he => ⟨hx, hr, hn _ _ ?_ ?_⟩⟩, fun hM => hn _ _ ?_ ?_⟩⟩
 · rw [inK, hI]; try rfl
 · rw [mxS, hM, decide_eq_true he]; try rfl
 · rw [inK, hI]; try rfl
 · rw [mxS, hM, decide_eq_false he]; try rfl
 · rw [inK, hI]; try rfl
 · rw [mxS, hM]; try rfl
 · rw [inK, hI]; try rfl
 · rw [mxS, hM, decide_eq_true he]; try rfl
 · rw [inK, hI]; try rfl
 · rw [mxS, hM, decide_eq_false he]; try rfl
 · rw [inK, hI]; try rfl
 · rw [mxS, hM]; try rfl
def st22 (s : List Int) (k : Nat) : St := ⟨.sl I64 s :: dd 2 ++ .own 0 0 :: .int .i64 k :: dd 49, [.sc 0 3 I64 (trueN (pieB s) k)]⟩
def jt22 (s : List Int) (k i : Nat) : St := ⟨.sl I64 s :: dd 2 ++ .own 0 0 :: .int .i64 k :: .bool (inK s k i) :: .bool (mxS s k i) :: .int .i64 i :: dd 46, [.sc 0 3 I64 (trueN (pieB s) k)]⟩
def ejt22 (s : List Int) (k : Nat) : List (List Nat × Ex) := [([0, 3, 4, 5, 6], ⟨2, Unit, fun _ => True, fun _ => ⟨.sl I64 s :: dd 2 ++ .own 0 0 :: .int .i64 k :: .bool (inK s k s.length) :: .bool (mxS s k s.length) :: dd 47, [.sc 0 3 I64 (trueN (pieB s) k)]⟩⟩)]
def ht22 (s : List Int) (k : Nat) : Hint := ⟨chk 0 [0, 3, 4, 5, 6, 7] (fun i => i <= s.length) (jt22 s k), (ejt22 s k).map (·.2)⟩
theorem loop22t (s : List Int) (k : Nat) (h : ok22 s) (hk : k < 64) (R : Exit -> St -> Prop) : LoopOK (X [e63]) L22_2 (ht22 s k) R := by
 refine loop_ok (X_ok _) (H := fun _ _ => none) [0, 3, 4, 5, 6, 7] (fun i => i <= s.length) (jt22 s k) (fun i => s.length - i) (ejt22 s k) 150 fun (i : Nat) hi => ?_
 refine of_eq (q := (fun (o : Prop) => (fun (l : Bool) => (fun (g : Prop) => (fun (f : Nat) => (fun (e : Int) => (fun (d : Prop) => (fun (c : Int) => (fun (h : Prop) => (fun (b : Int) => (fun (n : Prop) => (fun (m : Bool) => (fun (j : Prop) => (fun (a : Prop) => d /\ d /\ d /\ d /\ ((i : Int) < (s.length : Int) -> d /\ d /\ (inK s k i = true -> d /\ d /\ d /\ d /\ (l = true -> d /\ d /\ g /\ d /\ d /\ d /\ d /\ (e = b -> d /\ d /\ d /\ d /\ h /\ d /\ ∃ (y : Nat), (y <= f /\ f - y < f - i) /\ (o /\ d /\ n /\ true = inK s k y /\ true = mxS s k y /\ c = (y : Int) /\ d) /\ a) /\ (¬e = b -> d /\ d /\ d /\ g /\ d /\ j /\ d /\ d /\ d /\ d /\ d /\ h /\ d /\ ∃ (y : Nat), (y <= f /\ f - y < f - i) /\ (o /\ d /\ n /\ true = inK s k y /\ (!sub k e.toNat) = mxS s k y /\ c = (y : Int) /\ d) /\ a)) /\ (l = false -> d /\ d /\ d /\ h /\ d /\ ∃ (y : Nat), (y <= f /\ f - y < f - i) /\ (o /\ d /\ n /\ true = inK s k y /\ false = mxS s k y /\ c = (y : Int) /\ d) /\ a)) /\ (inK s k i = false -> d /\ d /\ g /\ d /\ d /\ d /\ d /\ d /\ d /\ d /\ (l = true -> d /\ d /\ g /\ d /\ d /\ d /\ d /\ (e = b -> d /\ d /\ d /\ d /\ h /\ d /\ ∃ (y : Nat), (y <= f /\ f - y < f - i) /\ (o /\ d /\ n /\ m = inK s k y /\ true = mxS s k y /\ c = (y : Int) /\ d) /\ a) /\ (¬e = b -> d /\ d /\ d /\ g /\ d /\ j /\ d /\ d /\ d /\ d /\ d /\ h /\ d /\ ∃ (y : Nat), (y <= f /\ f - y < f - i) /\ (o /\ d /\ n /\ m = inK s k y /\ (!sub k e.toNat) = mxS s k y /\ c = (y : Int) /\ d) /\ a)) /\ (l = false -> d /\ d /\ d /\ h /\ d /\ ∃ (y : Nat), (y <= f /\ f - y < f - i) /\ (o /\ d /\ n /\ m = inK s k y /\ false = mxS s k y /\ c = (y : Int) /\ d) /\ a))) /\ (¬(i : Int) < (s.length : Int) -> ∃ (y : Unit), d /\ (o /\ d /\ n /\ inK s k i = inK s k f /\ l = mxS s k f /\ d) /\ a)) (trueN (pieB s) k = trueN (pieB s) k /\ d)) ((((0 : Int) <= b /\ b < 64) /\ (0 : Int) <= e /\ e < 64) /\ d)) (decide (e = b))) (b = b)) ((k : Int))) (inR .i64 c)) ((i : Int) + 1)) (True)) (s.getD i (0 : Int))) (s.length)) (idxPre (i : Int) s.length)) (mxS s k i)) (s = s)) (by kernel_rfl) ?_
 simp only [zz]
 have hi : i <= s.length := hi
 obtain ⟨q1, q2⟩ := okL_get h.h i
 have hl := h.l
 refine ⟨fun hlt => ?_, fun hlt => by rw [show s.length = i by omega]; exact ⟨rfl, rfl⟩⟩
 have hx : idxPre (i : Int) s.length := idx_nat (by omega)
 have hn : ∀ b c, b = inK s k (i + 1) -> c = mxS s k (i + 1) -> inR .i64 ((i : Int) + 1) /\ ∃ y : Nat, (y <= s.length /\ s.length - y < s.length - i) /\ b = inK s k y /\ c = mxS s k y /\ (i : Int) + 1 = (y : Int) := fun b c hb hc => ⟨by simp only [inR]; omega, i + 1, by omega, hb, hc, by omega⟩
 have hr : (0 <= (k : Int) /\ (k : Int) < 64) /\ 0 <= s.getD i 0 /\ s.getD i 0 < 64 := ⟨⟨by omega, by omega⟩, q1, q2⟩
 refine ⟨fun hI => ⟨fun hM => ⟨hx, fun he => hn _ _ ?_ ?_, fun he => ⟨hx, hr, hn _ _ ?_ ?_⟩⟩, fun hM => hn _ _ ?_ ?_⟩, fun hI => ⟨hx, fun hM => ⟨hx, fun he => hn _ _ ?_ ?_, fun he => ⟨hx, hr, hn _ _ ?_ ?_⟩⟩, fun hM => hn _ _ ?_ ?_⟩⟩
 · rw [inK, hI]; try rfl
 · rw [mxS, hM, decide_eq_true he]; try rfl
 · rw [inK, hI]; try rfl
 · rw [mxS, hM, decide_eq_false he]; try rfl
 · rw [inK, hI]; try rfl
 · rw [mxS, hM]; try rfl
 · rw [inK, hI]; try rfl
 · rw [mxS, hM, decide_eq_true he]; try rfl
 · rw [inK, hI]; try rfl
 · rw [mxS, hM, decide_eq_false he]; try rfl
 · rw [inK, hI]; try rfl
 · rw [mxS, hM]; try rfl
noncomputable def fm22 (s : List Int) : List Fam := [⟨Nat, fun k => k <= 64 /\ trueN (pieB s) k = [], sz22 s, fun k => 64 - k, fun k _ => some (hz22 s k)⟩, ⟨Nat, fun k => k <= 64, st22 s, fun k => 64 - k, fun k _ => some (ht22 s k)⟩]
def ex22 (s : List Int) : List (List Nat × Ex) := [([3], ⟨0, Unit, fun _ => pieL s = [], fun _ => ⟨dd 3 ++ nl :: dd 50, []⟩⟩), ([3], ⟨0, Unit, fun _ => True, fun _ => ⟨dd 3 ++ .own 0 0 :: dd 50, [.sc 0 3 I64 (pieL s)]⟩⟩)]
noncomputable def H22 (s : List Int) : Nat -> Option Hint := fun _ => some ⟨chks 0 [0, 3, 4] (fm22 s), (ex22 s).map (·.2)⟩
theorem loop22 (s : List Int) (h : ok22 s) (R : Exit -> St -> Prop) : LoopOK (X [e63]) L22_0 ⟨chks 0 [0, 3, 4] (fm22 s), (ex22 s).map (·.2)⟩ R := by
 refine loop_fams (X_ok _) [0, 3, 4] (fm22 s) (ex22 s) 150 ⟨fun (k : Nat) hk => ?_, fun (k : Nat) hk => ?_, trivial⟩
 · have hL := fun hk => loop22z s k h hk
   refine of_eq (q := (fun (f : Nat) => (fun (d : Nat) => (fun (c : Prop) => (fun (b : Int) => (fun (e : Int) => (fun (a : Prop) => c /\ c /\ (b < 64 -> c /\ c /\ c /\ LoopOK (X [e63]) L22_2 (hz22 s k) (bodyR (X [e63]).m0 (ex22 s) R) /\ (∃ (y : Nat), y <= f /\ (s = s /\ c /\ b = b /\ false = inK s k y /\ true = mxS s k y /\ (0 : Int) = (y : Int) /\ c) /\ c) /\ (∀ (y : Unit), c -> c /\ c /\ (inK s k f = true -> c /\ c /\ (mxS s k f = true -> c /\ c /\ c /\ sumPre (0 : Nat) [b].length (nat_lit 8) /\ c /\ c /\ inR .i64 e /\ c /\ ((∃ (y : Nat), ((y <= d /\ trueN (pieB s) y = []) /\ d - y < d - k) /\ (s = s /\ False /\ e = (y : Int) /\ c) /\ c) ∨ ∃ (y : Nat), (y <= d /\ d - y < d - k) /\ (s = s /\ c /\ e = (y : Int) /\ c) /\ [b] = trueN (pieB s) y /\ c)) /\ (mxS s k f = false -> a)) /\ (inK s k f = false -> c /\ a)) /\ c) /\ (¬b < 64 -> (∃ (y : Unit), pieL s = [] /\ (c /\ c) /\ c) ∨ ∃ (y : Unit), c /\ (False /\ c) /\ False)) (c /\ inR .i64 e /\ c /\ ((∃ (y : Nat), ((y <= d /\ trueN (pieB s) y = []) /\ d - y < d - k) /\ (s = s /\ c /\ e = (y : Int) /\ c) /\ c) ∨ ∃ (y : Nat), (y <= d /\ d - y < d - k) /\ (s = s /\ False /\ e = (y : Int) /\ c) /\ False))) (b + 1)) ((k : Int))) (True)) ((64 : Nat))) (s.length)) (by kernel_rfl) ?_
   simp only [zz]
   obtain ⟨k1, k2⟩ := hk
   have hf : k < 64 -> pieB s k = false -> inR .i64 ((k : Int) + 1) /\ ∃ y : Nat, ((y <= 64 /\ trueN (pieB s) y = []) /\ 64 - y < 64 - k) /\ (k : Int) + 1 = (y : Int) := fun h3 hb => ⟨by simp only [inR]; omega, k + 1, ⟨⟨by omega, by rw [trueN, hb, k2]; rfl⟩, by omega⟩, by omega⟩
   have hz : ∃ y : Nat, y <= s.length /\ false = inK s k y /\ true = mxS s k y /\ (0 : Int) = (y : Int) := ⟨0, Nat.zero_le _, rfl, rfl, rfl⟩
   refine ⟨fun h3 => ⟨hL (by omega) _, hz, fun _ _ => ⟨fun hI => ⟨fun hM => ⟨by unfold sumPre; simp, by simp only [inR]; omega, k + 1, by omega, by omega, ?_⟩, fun hM => hf (by omega) ?_⟩, fun hI => hf (by omega) ?_⟩⟩, fun h3 => ?_⟩
   · have hb : pieB s k = true := by unfold pieB; rw [hI, hM]; try rfl
     rw [trueN, if_pos hb, k2]; try rfl
   · unfold pieB; rw [hI, hM]; try rfl
   · unfold pieB; rw [hI]; try rfl
   · unfold pieL; rw [show 64 = k by omega, k2]
 · have hL := fun hk => loop22t s k h hk
   refine of_eq (q := (fun (h : Nat) => (fun (f : Nat) => (fun (e : Prop) => (fun (d : Int) => (fun (g : Int) => (fun (c : List Int) => (fun (b : Prop) => (fun (a : Prop) => e /\ e /\ (d < 64 -> e /\ e /\ e /\ LoopOK (X [e63]) L22_2 (ht22 s k) (bodyR (X [e63]).m0 (ex22 s) R) /\ (∃ (y : Nat), y <= h /\ (s = s /\ e /\ d = d /\ false = inK s k y /\ true = mxS s k y /\ (0 : Int) = (y : Int) /\ e) /\ c = c /\ e) /\ (∀ (y : Unit), e -> e /\ e /\ (inK s k h = true -> e /\ e /\ (mxS s k h = true -> e /\ e /\ e /\ sumPre c.length [d].length (nat_lit 8) /\ e /\ e /\ inR .i64 g /\ e /\ (b ∨ ∃ (y : Nat), (y <= f /\ f - y < f - k) /\ (s = s /\ e /\ g = (y : Int) /\ e) /\ c ++ [d] = trueN (pieB s) y /\ e)) /\ (mxS s k h = false -> a)) /\ (inK s k h = false -> e /\ a)) /\ e) /\ (¬d < 64 -> (∃ (y : Unit), pieL s = [] /\ (False /\ e) /\ e) ∨ ∃ (y : Unit), e /\ (e /\ e) /\ c = pieL s /\ e)) (e /\ inR .i64 g /\ e /\ (b ∨ ∃ (y : Nat), (y <= f /\ f - y < f - k) /\ (s = s /\ e /\ g = (y : Int) /\ e) /\ c = trueN (pieB s) y /\ e))) (∃ (y : Nat), ((y <= f /\ trueN (pieB s) y = []) /\ f - y < f - k) /\ (s = s /\ False /\ g = (y : Int) /\ e) /\ e)) (trueN (pieB s) k)) (d + 1)) ((k : Int))) (True)) ((64 : Nat))) (s.length)) (by kernel_rfl) ?_
   simp only [zz]
   have hk : k <= 64 := hk
   have hl := trueN_len (pieB s) k
   have hf : k < 64 -> pieB s k = false -> inR .i64 ((k : Int) + 1) /\ ∃ y : Nat, (y <= 64 /\ 64 - y < 64 - k) /\ (k : Int) + 1 = (y : Int) /\ trueN (pieB s) k = trueN (pieB s) y := fun h3 hb => ⟨by simp only [inR]; omega, k + 1, by omega, by omega, by rw [trueN, hb]; rfl⟩
   have hz : ∃ y : Nat, y <= s.length /\ false = inK s k y /\ true = mxS s k y /\ (0 : Int) = (y : Int) := ⟨0, Nat.zero_le _, rfl, rfl, rfl⟩
   refine ⟨fun h3 => ⟨hL (by omega) _, hz, fun _ _ => ⟨fun hI => ⟨fun hM => ⟨by unfold sumPre; simp; omega, by simp only [inR]; omega, k + 1, by omega, by omega, ?_⟩, fun hM => hf (by omega) ?_⟩, fun hI => hf (by omega) ?_⟩⟩, fun h3 => ?_⟩
   · have hb : pieB s k = true := by unfold pieB; rw [hI, hM]; try rfl
     rw [trueN, if_pos hb]; try rfl
   · unfold pieB; rw [hI, hM]; try rfl
   · unfold pieB; rw [hI]; try rfl
   · unfold pieL; rw [show 64 = k by omega]
theorem call22 (s : List Int) (h : ok22 s) : GCall Try.prog gl 22 true [.sl I64 s] [] [.sl I64 (pieL s)] [] := by
 refine gcall_of (X := (X [e63])) ((X_ok _)) (f := 22) (fn := Try.f22) (c := bodyOf Try.f22) (by kernel_rfl) (by kernel_rfl) (view := true) (rvs := [.tmp 2]) (by kernel_rfl) (H := (H22 s)) 80 (by kernel_rfl) ?_
 have hL := loop22 s h
 refine of_eq (q := (fun (b : Prop) => (fun (a : List Int) => b /\ b /\ b /\ LoopOK (X [e63]) L22_0 { J := chks (0 : Nat) [(0 : Nat), (3 : Nat), (4 : Nat)] (fm22 s), exits := List.map (fun (x : List Nat × Ex) => x.snd) (ex22 s) } (RetR (X [e63]) true true [ResultVar.tmp (2 : Tmp)] [AV.sl I64 a] []) /\ ((∃ (y : Nat), (y <= 64 /\ trueN (pieB s) y = []) /\ (s = s /\ b /\ (0 : Int) = (y : Int) /\ b) /\ b) ∨ ∃ (y : Nat), y <= 64 /\ (s = s /\ False /\ (0 : Int) = (y : Int) /\ b) /\ False) /\ (∀ (y : Unit), a = [] -> b /\ b /\ b /\ (([] : List Int) = a /\ b) /\ b) /\ (∀ (y : Unit), b -> b /\ b /\ b /\ (a = a /\ b) /\ b) /\ b) (pieL s)) (True)) (by kernel_rfl) ?_
 simp only [zz]
 exact ⟨hL _, ⟨0, ⟨Nat.zero_le _, rfl⟩, rfl⟩, fun _ h => h.symm, fun _ h => h⟩
def e22 : Entry Try.prog gl := entry1 22 ⟨Try.f22, by kernel_rfl, by kernel_rfl, by kernel_rfl⟩ SI (fun s => ok22 s) true (fun s => [.sl I64 (pieL s)]) (fun _ => []) (call22)
end Go.Am.Sh

/- Shells: tame. -/
namespace Go.Am.Sh
open Go Go.Am Go.Proofs
def hs14 : Nat -> Bool := fun t => Nat.beq t 10 || Nat.beq t 30
noncomputable def Xh (l : EL) (hs : Nat -> Bool) (dr : Nat -> Option Nat) : Cy := { Xd l dr with hs := hs }
theorem Xh_ok (l : EL) (hs : Nat -> Bool) (dr : Nat -> Option Nat) : (Xh l hs dr).Ok := { tt := (Xd_ok l dr).tt, Γ := (Xd_ok l dr).Γ, Γd := (Xd_ok l dr).Γd, Yl := (Xd_ok l dr).Yl }
noncomputable abbrev X14 : Cy := Xh [e22] hs14 (drOf [(6, 11)])
def tmN (n : Int) : Int := 1 + (modU .u64 n).tmod 6
def tmS (n : Int) (l : List Int) (k : Nat) : List Int := 1 :: (l.take k).map fun x => (modU .u64 x).tmod (2 ^ (tmN n).toNat)
theorem tmN_bd (n : Int) : numOk (tmN n) := by
 have h1 : 0 <= modU .u64 n := u64_nn n
 have e := Int.tmod_eq_emod_of_nonneg (b := 6) h1
 unfold tmN numOk
 omega
theorem tm_pow (n : Int) : modU .u64 (1 * 2 ^ (tmN n).toNat) = 2 ^ (tmN n).toNat := by
 obtain ⟨e1, e2, e3⟩ := numOk_pow (tmN_bd n)
 rw [Int.one_mul, <- e1]
 show _ % 18446744073709551616 = _
 omega
theorem tm_pos (n : Int) : (2 : Int) <= 2 ^ (tmN n).toNat /\ (2 : Int) ^ (tmN n).toNat <= 64 := by
 obtain ⟨e1, e2, e3⟩ := numOk_pow (tmN_bd n)
 omega
theorem tm_x {n : Int} (x : Int) : 0 <= (modU .u64 x).tmod (2 ^ (tmN n).toNat) /\ (modU .u64 x).tmod (2 ^ (tmN n).toNat) < 2 ^ (tmN n).toNat /\ (modU .u64 x).tmod (2 ^ (tmN n).toNat) < 64 := by
 have h := tm_pos n
 have h3 := Int.tmod_nonneg (a := modU .u64 x) (2 ^ (tmN n).toNat) (u64_nn x)
 have h4 := Int.tmod_lt_of_pos (modU .u64 x) (show (0 : Int) < 2 ^ (tmN n).toNat by omega)
 omega
theorem tm_mem {n : Int} {l : List Int} {k : Nat} {x : Int} (h : x ∈ tmS n l k) : 0 <= x /\ x < 2 ^ (tmN n).toNat := by
 have hp := tm_pos n
 unfold tmS at h
 simp only [List.mem_cons, List.mem_map] at h
 rcases h with h | ⟨y, _, h⟩
 · omega
 · have := tm_x (n := n) y
   omega
theorem tm_ok (n : Int) (l : List Int) : ok22 (tmS n l 10) := ⟨fun x hx => by have := tm_mem hx; have := tm_pos n; omega, by unfold tmS; simp; omega⟩
theorem tm_lt (n : Int) (l : List Int) : ∀ x ∈ tmS n l 10, x < 2 ^ (tmN n).toNat := fun x hx => (tm_mem hx).2
theorem trueN_asc {g : Nat -> Bool} : ∀ {k i j : Nat}, i < j -> j < (trueN g k).length -> (trueN g k).getD i 0 < (trueN g k).getD j 0
 | 0, i, j, _, h => by simp [trueN] at h
 | k + 1, i, j, hij, h => by
   rw [trueN] at h |-
   by_cases hg : g k = true
   · rw [if_pos hg] at h |-
     rw [List.length_append, List.length_singleton] at h
     rcases Nat.lt_or_ge j (trueN g k).length with hj | hj
     · rw [getD_append_left (by omega), getD_append_left hj]; exact trueN_asc hij hj
     · have e : (trueN g k ++ [(k : Int)]).getD j 0 = k := by
         rw [List.getD_eq_getElem?_getD, List.getElem?_append_right hj, show j - (trueN g k).length = 0 by omega]; try rfl
       rw [e, getD_append_left (by omega)]
       obtain ⟨m, h1, h2, _⟩ := trueN_mem (mem_getD (d := 0) (show i < (trueN g k).length by omega))
       omega
   · rw [if_neg hg] at h |-; exact trueN_asc hij h
theorem inK_iff {s : List Int} {x : Nat} : ∀ {k : Nat}, inK s x k = true ↔ ∃ i, i < k /\ s.getD i 0 = x
 | 0 => by simp [inK]
 | k + 1 => by
   rw [inK, Bool.or_eq_true, inK_iff, decide_eq_true_eq]
   constructor
   · rintro (⟨i, h1, h2⟩ | h)
     · exact ⟨i, by omega, h2⟩
     · exact ⟨k, by omega, h⟩
   · rintro ⟨i, h1, h2⟩
     rcases Nat.lt_or_ge i k with h3 | h3
     · exact .inl ⟨i, h3, h2⟩
     · exact .inr (by rw [show k = i by omega]; exact h2)
theorem mxS_iff {s : List Int} {x : Nat} : ∀ {k : Nat}, mxS s x k = true ↔ ∀ i, i < k -> s.getD i 0 = x ∨ sub x (s.getD i 0).toNat = false
 | 0 => by simp [mxS]
 | k + 1 => by
   rw [mxS, Bool.and_eq_true, mxS_iff, Bool.or_eq_true, decide_eq_true_eq, Bool.not_eq_true']
   constructor
   · rintro ⟨h1, h2⟩ i hi
     rcases Nat.lt_or_ge i k with h3 | h3
     · exact h1 i h3
     · rw [show i = k by omega]; exact h2
   · intro h
     exact ⟨fun i hi => h i (by omega), h k (by omega)⟩
theorem pie_mem {s : List Int} {y : Int} (h : y ∈ pieL s) : ∃ x : Nat, y = x /\ x < 64 /\ (∃ i, i < s.length /\ s.getD i 0 = x) /\ ∀ i, i < s.length -> s.getD i 0 = x ∨ sub x (s.getD i 0).toNat = false := by
 obtain ⟨x, h1, h2, h3⟩ := trueN_mem h
 unfold pieB at h3
 rw [Bool.and_eq_true, inK_iff, mxS_iff] at h3
 exact ⟨x, h1, h2, h3.1, h3.2⟩
theorem pie_pos {s : List Int} (h1 : ∃ i, i < s.length /\ 1 <= s.getD i 0) : ∀ y ∈ pieL s, 1 <= y := fun y hy => by
 obtain ⟨x, rfl, h2, h3, h4⟩ := pie_mem hy
 obtain ⟨i, hi, h5⟩ := h1
 rcases Nat.eq_zero_or_pos x with h0 | h0
 · subst h0
   rcases h4 i hi with h6 | h6
   · omega
   · rw [sub_zero] at h6; cases h6
 · omega
theorem max_ex (s : List Int) : ∀ k, ∃ i, i < k + 1 /\ ∀ j, j < k + 1 -> s.getD j 0 <= s.getD i 0
 | 0 => ⟨0, by omega, fun j hj => by rw [show j = 0 by omega]; exact Int.le_refl _⟩
 | k + 1 => by
   obtain ⟨i, h1, h2⟩ := max_ex s k
   by_cases h : s.getD i 0 <= s.getD (k + 1) 0
   · refine ⟨k + 1, by omega, fun j hj => ?_⟩
     rcases Nat.lt_or_ge j (k + 1) with h3 | h3
     · exact Int.le_trans (h2 j h3) h
     · rw [show j = k + 1 by omega]; exact Int.le_refl _
   · refine ⟨i, by omega, fun j hj => ?_⟩
     rcases Nat.lt_or_ge j (k + 1) with h3 | h3
     · exact h2 j h3
     · rw [show j = k + 1 by omega]; omega
theorem pie_ne {s : List Int} (h : okL s) (hl : 1 <= s.length) : 1 <= (pieL s).length := by
 obtain ⟨k, hk⟩ : ∃ k, s.length = k + 1 := ⟨s.length - 1, by omega⟩
 obtain ⟨i, h1, h2⟩ := max_ex s k
 have hr := okL_get h i
 have hb : pieB s (s.getD i 0).toNat = true := by
   unfold pieB
   rw [Bool.and_eq_true, inK_iff, mxS_iff]
   refine ⟨⟨i, by omega, by omega⟩, fun j hj => ?_⟩
   have h3 := h2 j (by omega)
   have h4 := okL_get h j
   cases hs : sub (s.getD i 0).toNat (s.getD j 0).toNat with
   | false => exact .inr rfl
   | true => have := sub_le hs; exact .inl (by omega)
 have := trueN_has (g := pieB s) (k := 64) (by omega) hb
 exact List.length_pos_of_mem this
theorem take_get {l : List Int} {k m : Nat} (h : k < m) : (l.take m).getD k 0 = l.getD k 0 := by
 rw [List.getD_eq_getElem?_getD, List.getD_eq_getElem?_getD, List.getElem?_take_of_lt h]
theorem pie_cx {n : Int} {s : List Int} (hn : numOk n) (h : ok22 s) (hlt : ∀ x ∈ s, x < 2 ^ n.toNat) (h1 : ∃ i, i < s.length /\ 1 <= s.getD i 0) : cxOk n ((pieL s).take 10) := by
 have hne := pie_ne h.h (by obtain ⟨i, hi, _⟩ := h1; omega)
 have hlen : ((pieL s).take 10).length <= 10 /\ 1 <= ((pieL s).take 10).length /\ ((pieL s).take 10).length <= (pieL s).length := by rw [List.length_take]; omega
 refine ⟨hn, ⟨hlen.2.1, hlen.1⟩, fun k hk => ?_⟩
 have hk1 : k < (pieL s).length := by omega
 have hmem := mem_getD (d := (0 : Int)) hk1
 have hpos := pie_pos h1 _ hmem
 obtain ⟨x, e, hx, ⟨i, hi, hi2⟩, hmx⟩ := pie_mem hmem
 have hrk := trueN_ok (pieB s) _ hmem
 refine ⟨by rw [take_get (by omega)]; exact hpos, by rw [take_get (by omega), e, <- hi2]; exact hlt _ (mem_getD hi), fun h0 => by rw [take_get (by omega), take_get (by omega)]; exact trueN_asc (by omega) hk1, fun j hj hne2 => ?_⟩
 have hj1 : j < (pieL s).length := by omega
 have hmem2 := mem_getD (d := (0 : Int)) hj1
 obtain ⟨y, e2, hy, ⟨i2, hi3, hi4⟩, hmy⟩ := pie_mem hmem2
 have hrj := trueN_ok (pieB s) _ hmem2
 rw [take_get (by omega), take_get (by omega), Ne, sub_and hrk hrj, e, e2, Int.toNat_natCast, Int.toNat_natCast]
 rcases hmx i2 hi3 with h5 | h5
 · exfalso
   have hxy : (pieL s).getD k 0 = (pieL s).getD j 0 := by omega
   rcases Nat.lt_or_ge j k with h6 | h6
   · have := trueN_asc (g := pieB s) (k := 64) h6 hk1
     unfold pieL at hxy; omega
   · have := trueN_asc (g := pieB s) (k := 64) (show k < j by omega) hj1
     unfold pieL at hxy; omega
 · rw [hi4, Int.toNat_natCast] at h5
   rw [h5]; simp
noncomputable def L14_0 : Code := lp (bodyOf Try.f14) 0
def st14 (n : Int) (l : List Int) (k : Nat) : St := ⟨.int .i64 (tmN n) :: .sl I64 l :: dd 4 ++ .own 0 0 :: .int .i64 k :: dd 51, [.sc 0 3 I64 (tmS n l k)]⟩
def in14 (l : List Int) (k : Nat) : Prop := k <= l.length /\ k <= 10
def ex14 (n : Int) (l : List Int) : List (List Nat × Ex) := [([0, 6], ⟨0, Unit, fun _ => True, fun _ => ⟨.int .i64 (tmN n) :: dd 5 ++ .own 0 0 :: dd 52, [.sc 0 3 I64 (tmS n l 10)]⟩⟩)]
noncomputable def H14 (n : Int) (l : List Int) : Nat -> Option Hint := fun _ => some ⟨chk 0 [0, 1, 6, 7] (in14 l) (st14 n l), (ex14 n l).map (·.2)⟩
theorem loop14 (n : Int) (l : List Int) (hl : l.length < 1000000000000000) (R : Exit -> St -> Prop) : LoopOK X14 L14_0 ⟨chk 0 [0, 1, 6, 7] (in14 l) (st14 n l), (ex14 n l).map (·.2)⟩ R := by
 refine loop_ok (Xh_ok _ _ _) (H := fun _ _ => none) [0, 1, 6, 7] (in14 l) (st14 n l) (fun k => l.length - k) (ex14 n l) 150 fun (k : Nat) hk => ?_
 refine of_eq (q := (fun (e : Int) => (fun (d : Prop) => (fun (c : Int) => (fun (f : Int) => (fun (b : Prop) => (fun (a : Int) => d /\ d /\ d /\ d /\ d /\ (e < (l.length : Int) -> d /\ d /\ d /\ (e < 10 -> d /\ d /\ d /\ idxPre e l.length /\ d /\ d /\ d /\ (((0 : Int) <= c /\ c < bitsOf .u64) /\ d) /\ ¬f = 0 /\ inR .i64 a /\ d /\ sumPre (tmS n l k).length [a].length (nat_lit 8) /\ d /\ d /\ inR .i64 (e + 1) /\ d /\ ∃ (y : Nat), (in14 l y /\ l.length - y < l.length - k) /\ (c = c /\ l = l /\ d /\ e + 1 = (y : Int) /\ d) /\ tmS n l k ++ [a] = tmS n l y /\ d) /\ (¬e < 10 -> b)) /\ (¬e < (l.length : Int) -> d /\ b)) ((modU .u64 (l.getD k (0 : Int))).tmod f)) (∃ (y : Unit), d /\ (c = c /\ d /\ d) /\ tmS n l k = tmS n l (10 : Nat) /\ d)) (modU .u64 ((1 : Int) * 2 ^ c.toNat))) (tmN n)) (True)) ((k : Int))) (by kernel_rfl) ?_
 simp only [zz]
 obtain ⟨k1, k2⟩ := hk
 obtain ⟨b1, b2⟩ := tmN_bd n
 have hp := tm_pow n
 refine ⟨fun h => ⟨fun h2 => ?_, fun h2 => by rw [show k = 10 by omega]⟩, fun h => ?_⟩
 · rw [hp]
   have hx := tm_x (n := n) (l.getD k 0)
   have hlen : (tmS n l k).length <= 11 := by unfold tmS; simp; omega
   refine ⟨idx_nat (by omega), ⟨by omega, by simp only [bitsOf]; omega⟩, by have := tm_pos n; omega, by simp only [inR]; omega, by unfold sumPre; simp; omega, by simp only [inR]; omega, k + 1, ⟨⟨by omega, by omega⟩, by omega⟩, by omega, ?_⟩
   unfold tmS
   rw [take_getD (d := 0) (show k < l.length by omega), List.map_append]
   rfl
 · unfold tmS
   rw [List.take_of_length_le (by omega), List.take_of_length_le (by omega)]
def tmP (n : Int) (l : List Int) : List Int := (pieL (tmS n l 10)).take 10
theorem call14 (n : Int) (l : List Int) (hl : l.length < 1000000000000000) : GCall Try.prog gl 14 false [.int .i64 n, .sl I64 l] [] [.int .i64 (tmN n), .sl I64 (tmP n l)] [] := by
 refine gcall_of (X := X14) ((Xh_ok _ _ _)) (f := 14) (fn := Try.f14) (c := bodyOf Try.f14) (by kernel_rfl) (by kernel_rfl) (view := true) (rvs := [.tmp 4, .tmp 5]) (by kernel_rfl) (H := (H14 n l)) 200 (by kernel_rfl) ?_
 have hL := loop14 n l hl
 refine of_eq (q := (fun (m : Int) => (fun (k : Int) => (fun (i : Option Int) => (fun (h : Int) => (fun (g : Int) => (fun (d : Prop) => (fun (a : List Int) => (fun (j : Nat) => (fun (e : Option Int) => (fun (c : List Int) => (fun (f : Option Int) => (fun (b : Prop) => d /\ d /\ d /\ d /\ ¬(6 : Int) = k /\ inR .i64 g /\ inR .i64 (m + g) /\ d /\ d /\ d /\ d /\ LoopOK X14 L14_0 { J := chk (0 : Nat) [(0 : Nat), (1 : Nat), (6 : Nat), (7 : Nat)] (in14 l) (st14 n l), exits := List.map (fun (x : List Nat × Ex) => x.snd) (ex14 n l) } (RetR X14 false true [ResultVar.tmp (4 : Tmp), ResultVar.tmp (5 : Tmp)] [AV.int .i64 h, AV.sl I64 (tmP n l)] []) /\ (∃ (y : Nat), in14 l y /\ (m + g = h /\ l = l /\ d /\ k = (y : Int) /\ d) /\ [m] = tmS n l y /\ d) /\ (∀ (y : Unit), d -> d /\ (ok22 (tmS n l (10 : Nat)) /\ d) /\ d /\ d /\ d /\ d /\ d /\ (m < (j : Int) -> d /\ idxPre k j /\ d /\ d /\ d /\ (a.getD (0 : Nat) k = k -> d /\ slPre j j (some m) i i /\ d /\ d /\ d /\ d /\ d /\ d /\ d /\ d /\ d /\ slPre c.length c.length i f f /\ d /\ d /\ d /\ (h = h /\ cutL c i f = tmP n l /\ d) /\ d) /\ (¬a.getD (0 : Nat) k = k -> b)) /\ (¬m < (j : Int) -> d /\ b)) /\ d) (d /\ d /\ d /\ d /\ d /\ d /\ d /\ d /\ slPre j j i e e /\ d /\ d /\ d /\ (h = h /\ cutL a i e = tmP n l /\ d) /\ d)) (some (minI (c.length : Int) (10 : Int)))) (cutL a (some m) i)) (some (minI (j : Int) (10 : Int)))) (a.length)) (pieL (tmS n l (10 : Nat)))) (True)) ((modU .u64 n).tmod (6 : Int))) (tmN n)) (none)) ((0 : Int))) ((1 : Int))) (by kernel_rfl) ?_
 simp only [zz]
 obtain ⟨b1, b2⟩ := tmN_bd n
 have hb : 1 + (modU .u64 n).tmod 6 = tmN n := rfl
 have hz : ∀ L : List Int, cutL L none (some (minI (L.length : Int) 10)) = L.take 10 /\ slPre L.length L.length none (some (minI (L.length : Int) 10)) (some (minI (L.length : Int) 10)) := fun L => by
   unfold minI cutL slPre
   simp only
   by_cases h : (10 : Int) < L.length
   · rw [if_pos h]; exact ⟨rfl, by omega⟩
   · rw [if_neg h, Int.toNat_natCast]
     exact ⟨by rw [List.take_of_length_le (Nat.le_refl _), List.take_of_length_le (by omega)], by omega⟩
 rw [hb]
 obtain ⟨z1, z2⟩ := hz (pieL (tmS n l 10))
 refine ⟨by decide, by simp only [inR]; omega, by simp only [inR]; omega, hL _, ⟨0, ⟨Nat.zero_le _, Nat.zero_le _⟩, ⟨rfl, rfl⟩, by simp [tmS]⟩, fun _ _ => ⟨tm_ok n l, fun h => ⟨by unfold idxPre; omega, fun h0 => ?_, fun _ => ⟨z2, z1⟩⟩, fun _ => ⟨z2, z1⟩⟩⟩
 exfalso
 have := pie_pos (s := tmS n l 10) ⟨0, by simp [tmS], by simp [tmS]⟩ _ (mem_getD (d := 0) (show 0 < (pieL (tmS n l 10)).length by omega))
 omega
theorem tm_cx (n : Int) (l : List Int) : cxOk (tmN n) (tmP n l) := pie_cx (tmN_bd n) (tm_ok n l) (tm_lt n l) ⟨0, by simp [tmS], by simp [tmS]⟩
end Go.Am.Sh

/- Shells: the reference's Counts, choose, Hs, Euler. -/
namespace Go.Am.Sh
open Go Go.Am Go.Proofs
def e14 : Entry Try.prog gl := entry2 14 ⟨Try.f14, by kernel_rfl, by kernel_rfl, by kernel_rfl⟩ I64 SI (fun (_ : Int) l => (l : List Int).length < 1000000000000000) false (fun n l => [.int .i64 (tmN n), .sl I64 (tmP n l)]) (fun _ _ => []) (call14)
theorem isF_lt {n : Int} {p : List Int} (h : cxOk n p) {x : Nat} (hx : isF p x = true) : x < 2 ^ n.toNat := by
 unfold isF at hx
 rw [List.any_eq_true] at hx
 obtain ⟨s, hs, h2⟩ := hx
 have h3 := sub_le h2
 obtain ⟨k, hk, rfl⟩ := List.getElem_of_mem hs
 have h4 := (h.2.2 k hk).2.1
 rw [getD_lt hk] at h4
 obtain ⟨e1, e2, e3⟩ := numOk_pow h.1
 have h5 := h.ok _ hs
 omega
def chK (n : Int) : Nat -> Int
 | 0 => 1
 | k + 1 => (chK n k * (n - (k + 1) + 1)).tdiv (k + 1)
end Go.Am.Sh

/- Shells: the reference's Hs and Euler. -/
namespace Go.Am.Sh
open Go Go.Am Go.Proofs
def sg (j : Nat) : Int := 1 - 2 * ((j % 2 : Nat) : Int)
def htm (f : List Int) (k i : Nat) : Int := f.getD i 0 * chK ((f.length - 1 - i : Nat) : Int) (k - i) * sg (k - i)
def hsum (f : List Int) (k : Nat) : Nat -> Int
 | 0 => 0
 | i + 1 => hsum f k i + htm f k i
def rhL (f : List Int) : List Int := (List.range f.length).map fun j => hsum f j (j + 1)
structure okF (f : List Int) : Prop where
 b : bdd 64 f
 l : 1 <= f.length /\ f.length <= 7
def euK (f : List Int) : Nat -> Int
 | 0 => 0
 | i + 1 => euK f i + f.getD (i + 1) 0 * (2 * (((i + 1) % 2 : Nat) : Int) - 1)
end Go.Am.Sh

/- Shells: the law of the counts. -/
namespace Go.Am.Sh
open Go Go.Am Go.Proofs
theorem hq1 (a : Int) : hsK [a] 1 = rhL [a] := by
 simp [hsK, rhL, hsum, htm, sg, chK]
theorem hq2 (a b : Int) : hsK [a, b] 2 = rhL [a, b] := by
 simp [hsK, rhL, hsum, htm, sg, chK, triJ, List.range_succ]
 try omega
theorem hq3 (a b c : Int) : hsK [a, b, c] 3 = rhL [a, b, c] := by
 simp [hsK, rhL, hsum, htm, sg, chK, triJ, List.range_succ]
 try omega
def wE (s : Int) : Int := if 0 < s then 2 * ((pc s.toNat % 2 : Nat) : Int) - 1 else 0
def sw (l : List Int) : Nat -> Int
 | 0 => 0
 | k + 1 => sw l k + wE (l.getD k 0)
theorem sw_app {l m : List Int} : ∀ {k : Nat}, k <= l.length -> sw (l ++ m) k = sw l k
 | 0, _ => rfl
 | k + 1, h => by rw [sw, sw, sw_app (by omega), getD_append_left (by omega)]
theorem sw_trueN (g : Nat -> Bool) : ∀ k, sw (trueN g k) (trueN g k).length = eulN g k
 | 0 => rfl
 | k + 1 => by
   have ih := sw_trueN g k
   have h2 : (pc k : Int).tmod 2 = ((pc k % 2 : Nat) : Int) := by rw [Int.tmod_eq_emod_of_nonneg (by omega)]; omega
   rw [eulN, trueN, h2]
   by_cases hg : g k = true
   · rw [if_pos hg, List.length_append, List.length_singleton, sw, sw_app (Nat.le_refl _), ih]
     have e : (trueN g k ++ [(k : Int)]).getD (trueN g k).length 0 = k := by
       rw [List.getD_eq_getElem?_getD, List.getElem?_append_right (Nat.le_refl _), Nat.sub_self]; try rfl
     rw [e, hg]
     unfold wE
     by_cases h0 : 0 < k
     · rw [if_pos (by omega), Int.toNat_natCast, decide_eq_true h0]; try rfl
     · rw [if_neg (by omega), decide_eq_false h0]; simp
   · have hg : g k = false := by simpa using hg
     rw [hg]; simpa using ih
theorem euK_set {f : List Int} {j : Nat} (hj : j < f.length) : ∀ d : Nat, euK (f.set j (f.getD j 0 + 1)) d = euK f d + if 1 <= j /\ j <= d then 2 * ((j % 2 : Nat) : Int) - 1 else 0
 | 0 => by rw [if_neg (by omega)]; try rfl
 | d + 1 => by
   rw [euK, euK, euK_set hj d]
   by_cases e : j = d + 1
   · subst e
     rw [List.getD_eq_getElem?_getD (l := f.set _ _), List.getElem?_set_self hj, Option.getD_some, if_neg (by omega), if_pos (by omega)]
     rcases Nat.mod_two_eq_zero_or_one (d + 1) with e | e <;> rw [e] <;> omega
   · rw [List.getD_eq_getElem?_getD (l := f.set _ _), List.getElem?_set_ne e, <- List.getD_eq_getElem?_getD]
     by_cases h : 1 <= j /\ j <= d
     · rw [if_pos h, if_pos (by omega)]; omega
     · rw [if_neg h, if_neg (by omega)]; omega
theorem euK_cnt {l : List Int} {d : Nat} (hl : okL l) (hd : ∀ k, k < l.length -> pc (l.getD k 0).toNat <= d) : ∀ k, k <= l.length -> euK (cntL l d k) d = sw l k
 | 0, _ => by
   have : ∀ m, euK (cntL l d 0) m = 0 := fun m => by
     induction m with
     | zero => rfl
     | succ m ih =>
       rw [euK, ih]
       rcases Nat.lt_or_ge d (m + 1) with h | h
       · rw [List.getD_eq_getElem?_getD, List.getElem?_eq_none (by rw [cntL_length]; omega)]; simp
       · rw [cntL_getD (by omega)]; simp
   exact this d
 | k + 1, h => by
   have ih := euK_cnt hl hd k (by omega)
   have h1 := hd k (by omega)
   have h2 := okL_get hl k
   rw [<- cntL_step (show k < l.length by omega) h1, euK_set (by rw [cntL_length]; omega), ih, sw]
   congr 1
   unfold wE
   have h3 := pc_pos ⟨(l.getD k 0).toNat, by omega⟩
   simp only at h3
   by_cases h0 : 0 < l.getD k 0
   · rw [if_pos h0, if_pos ⟨h3 (by omega), h1⟩]
   · rw [if_neg h0, show l.getD k 0 = 0 by omega]; try rfl
theorem eul_eq {n : Int} {p : List Int} (h : cxOk n p) : eulN (isF p) 64 = euK (cnts p) ((cnts p).length - 1) := by
 have h1 := euK_cnt (fcs_ok p) (d := (mxL p).toNat) (fun k hk => fcs_pc h.ok hk) (fcs p).length (Nat.le_refl _)
 have h2 := sw_trueN (isF p) 64
 rw [cnts_length]
 show _ = euK (cntL (fcs p) (mxL p).toNat (fcs p).length) _
 rw [Nat.add_sub_cancel, h1]
 exact h2.symm
end Go.Am.Sh

/- Shells: Made. -/
namespace Go.Am.Sh
open Go Go.Am Go.Proofs
def obN (n : Int) : List Ob := [.bx (.int .i64 n)]
def badB (n s : Int) : Bool := decide (s < 0 ∨ 2 ^ n.toNat <= s)
structure ok83m (x : List Int × Int) : Prop where
 n : numOk x.2
 l : x.1.length <= 64
def badL (n : Int) (p : List Int) : Bool := p.any (badB n)
def madOk (n : Int) (p : List Int) : Prop := numOk n /\ p.length <= 64 /\ badL n p = false
instance (n p) : Decidable (madOk n p) := by unfold madOk numOk; infer_instance
def madE (n : Int) (p : List Int) : Int := if madOk n p then fewE (grL (isF p)) else 1
def madR (n : Int) (p : List Int) : List Int := if madOk n p then fewR (grL (isF p)) else []
theorem grow_one : ∀ x s : Fin 64, sub x.val s.val = true -> x.val ≠ s.val -> ∃ v : Fin 6, x.val ||| 2 ^ v.val ≠ x.val /\ sub (x.val ||| 2 ^ v.val) s.val = true := by decide +kernel
theorem sub_or : ∀ x s : Fin 64, ∀ v : Fin 6, sub (x.val ||| 2 ^ v.val) s.val = true -> sub x.val s.val = true /\ (x.val ||| 2 ^ v.val ≠ x.val -> x.val ≠ s.val) := by decide +kernel
theorem isF_iff {s : List Int} {x : Nat} : isF s x = true ↔ ∃ i, i < s.length /\ sub x (s.getD i 0).toNat = true := by
 unfold isF
 rw [List.any_eq_true]
 constructor
 · rintro ⟨a, ha, h⟩
   obtain ⟨i, hi, e⟩ := List.getElem_of_mem ha
   exact ⟨i, hi, by rw [getD_lt hi, e]; exact h⟩
 · rintro ⟨i, hi, h⟩
   exact ⟨_, mem_getD hi, h⟩
theorem grt_pie {s : List Int} (h : okL s) {x : Nat} (hx : x < 64) : grtB (isF s) x = pieB s x := by
 have hr := okL_get h
 rw [Bool.eq_iff_iff]
 unfold grtB pieB
 rw [Bool.and_eq_true, Bool.and_eq_true, inK_iff, mxS_iff, isF_iff, List.all_eq_true]
 constructor
 · rintro ⟨⟨i, hi, h1⟩, h2⟩
   have key : ∀ j, j < s.length -> sub x (s.getD j 0).toNat = true -> x = (s.getD j 0).toNat := fun j hj hs => by
     refine Classical.byContradiction fun hne => ?_
     obtain ⟨v, h3, h4⟩ := grow_one ⟨x, hx⟩ ⟨(s.getD j 0).toNat, by have := hr j; omega⟩ hs hne
     have h5 := h2 v.val (List.mem_range.mpr v.isLt)
     have h6 : isF s (x ||| 2 ^ v.val) = true := isF_iff.mpr ⟨j, hj, h4⟩
     simp only at h3
     rw [h6, decide_eq_false h3] at h5
     cases h5
   refine ⟨⟨i, hi, by have := key i hi h1; have := hr i; omega⟩, fun j hj => ?_⟩
   cases hs : sub x (s.getD j 0).toNat with
   | false => exact .inr rfl
   | true => exact .inl (by have := key j hj hs; have := hr j; omega)
 · rintro ⟨⟨i, hi, h1⟩, h2⟩
   refine ⟨⟨i, hi, by rw [h1, Int.toNat_natCast]; exact sub_self x⟩, fun v hv => ?_⟩
   have hv := List.mem_range.mp hv
   by_cases he : x ||| 2 ^ v = x
   · rw [decide_eq_true he]; try rfl
   · rw [decide_eq_false he]
     cases hf : isF s (x ||| 2 ^ v) with
     | false => rfl
     | true =>
       exfalso
       obtain ⟨j, hj, h3⟩ := isF_iff.mp hf
       obtain ⟨h4, h5⟩ := sub_or ⟨x, hx⟩ ⟨(s.getD j 0).toNat, by have := hr j; omega⟩ ⟨v, hv⟩ h3
       have h5 := h5 he
       simp only at h4 h5
       rcases h2 j hj with h6 | h6
       · omega
       · rw [h6] at h4; cases h4
theorem grL_pie {s : List Int} (h : okL s) : grL (isF s) = pieL s := trueN_ext fun x hx => grt_pie h hx
end Go.Am.Sh

/- Shells: the reference's Moment. -/
namespace Go.Am.Sh
open Go Go.Am Go.Proofs
def gapB (k a b : Nat) : Bool := decide (k / 2 ^ a % 2 = 0) && decide (k / 2 ^ b % 2 = 0) && decide (pc (k / 2 ^ (a + 1) % 2 ^ (b - a - 1)) % 2 = 1)
def inB (k a : Nat) : Nat -> Bool
 | 0 => true
 | j + 1 => inB k a j && !gapB k a (a + 1 + j)
theorem pow_cast (j : Nat) : (2 ^ j : Int) = ((2 ^ j : Nat) : Int) := by rw [Int.natCast_pow]; try rfl
theorem kt {k a j : Nat} : ((k : Int) / 2 ^ (a + 1)).tmod (1 * 2 ^ j) = ((k / 2 ^ (a + 1) % 2 ^ j : Nat) : Int) := by
 rw [Int.one_mul, pow_cast, pow_cast]
 generalize 2 ^ (a + 1) = P
 generalize 2 ^ j = Q
 have e1 : (k : Int) / (P : Int) = ((k / P : Nat) : Int) := by rw [Int.natCast_ediv]
 rw [e1, Int.tmod_eq_emod_of_nonneg (Int.natCast_nonneg _), Int.natCast_emod]
theorem pt {x : Nat} : ((pc x : Nat) : Int).tmod 2 = ((pc x % 2 : Nat) : Int) := by
 rw [Int.tmod_eq_emod_of_nonneg (Int.natCast_nonneg _)]; omega
end Go.Am.Sh

/- Shells: the law's pure. -/
namespace Go.Am.Sh
open Go Go.Am Go.Proofs
structure cxS (n : Int) (p : List Int) : Prop where
 rng : ∀ s ∈ p, 1 <= s /\ s < 2 ^ n.toNat
 asc : p.Pairwise (· < ·)
 anti : ∀ a ∈ p, ∀ b ∈ p, a ≠ b -> bAnd .i64 a b ≠ a
theorem pair_get {l : List Int} : (∀ k, 0 < k -> k < l.length -> l.getD (k - 1) 0 < l.getD k 0) -> l.Pairwise (· < ·) := by
 induction l with
 | nil => intro _; exact List.Pairwise.nil
 | cons a l ih =>
   intro h
   have h1 : ∀ k, 0 < k -> k < l.length -> l.getD (k - 1) 0 < l.getD k 0 := fun k h0 hk => by
     have := h (k + 1) (by omega) (by simp; omega)
     rw [show k + 1 - 1 = (k - 1) + 1 by omega] at this
     simpa using this
   have ip := ih h1
   refine List.Pairwise.cons (fun b hb => ?_) ip
   cases l with
   | nil => cases hb
   | cons c l =>
     have h2 : a < c := by simpa using h 1 (by omega) (by simp)
     rcases List.mem_cons.mp hb with h3 | h3
     · rw [h3]; exact h2
     · exact Int.lt_trans h2 ((List.pairwise_cons.mp ip).1 b h3)
theorem cxS_of {n : Int} {p : List Int} (h : cxOk n p) : cxS n p := by
 have hg : ∀ s ∈ p, ∃ k, k < p.length /\ p.getD k 0 = s := fun s hs => by
   obtain ⟨k, hk, e⟩ := List.getElem_of_mem hs
   exact ⟨k, hk, by rw [getD_lt hk]; exact e⟩
 refine ⟨fun s hs => ?_, pair_get fun k h0 hk => (h.2.2 k hk).2.2.1 h0, fun a ha b hb hne => ?_⟩
 · obtain ⟨k, hk, rfl⟩ := hg s hs
   exact ⟨(h.2.2 k hk).1, (h.2.2 k hk).2.1⟩
 · obtain ⟨i, hi, rfl⟩ := hg a ha
   obtain ⟨j, hj, rfl⟩ := hg b hb
   exact (h.2.2 i hi).2.2.2 j hj (fun e => hne (by rw [e]))
end Go.Am.Sh

/- Shells: what follows, in the program and in the reference; IsShelling. -/
namespace Go.Am.Sh
open Go Go.Am Go.Proofs
end Go.Am.Sh

/- Shells: the reference's Shellable. -/
namespace Go.Am.Sh
open Go Go.Am Go.Proofs
/-- The sets that are reached: one row, the first k of its pieces. -/
def rowC (p : List Int) (D : Nat) (xs : List Bool) : Nat -> List Bool
 | 0 => xs
 | k + 1 => if D / 2 ^ k % 2 = 0 /\ nxB p D k = true then (rowC p D xs k).set (D ||| 2 ^ k) true else rowC p D xs k
/-- ... the first rows. -/
def canC (p : List Int) : Nat -> List Bool
 | 0 => (List.replicate (2 ^ p.length) false).set 0 true
 | D + 1 => if (canC p D).getD D false = true then rowC p D (canC p D) p.length else canC p D
def shR (p : List Int) : Bool := puB p && (canC p (2 ^ p.length)).getD (2 ^ p.length - 1) false
end Go.Am.Sh

/- Shells: what the search finds is what the reference reaches. -/
namespace Go.Am.Sh
open Go Go.Am Go.Proofs
structure rOk (p : List Int) (r : Res) : Prop where
 s : (sgK p r.2.1 r.2.1.length).isSome = true
 l : r.2.1.length = p.length
end Go.Am.Sh

/- Shells: the law of the shellings. -/
namespace Go.Am.Sh
open Go Go.Am Go.Proofs
structure shF (p : List Int) : Prop where
 e : shB p = shR p
 s : shB p = true -> sgR p (shL p) = true
 z : shB p = false -> shL p = []
 l : (shL p).length <= 10
end Go.Am.Sh

/- Shells: the walk of the law of the shellings. -/
namespace Go.Am.Sh
open Go Go.Am Go.Proofs
end Go.Am.Sh

/- Shells: Made, as the law says it; IsShelling. -/
namespace Go.Am.Sh
open Go Go.Am Go.Proofs
structure ok73 (x : List Int × Cx3) : Prop where
 h : okC x.2
 l : x.1.length < 1000000000000000
end Go.Am.Sh

/- Shells: the law of the makers. -/
namespace Go.Am.Sh
open Go Go.Am Go.Proofs
instance (n d : Int) : Decidable (momOk n d) := by unfold momOk; infer_instance
def bdK (n : Int) (s : List Int) : Nat -> Bool
 | 0 => decide (n < 1 ∨ 6 < n ∨ 64 < s.length)
 | i + 1 => badB n (s.getD i 0)
def smK (s : List Int) : Nat -> Bool
 | 0 => false
 | i + 1 => smK s i || decide (0 < s.getD i 0)
def sb4 (n d : Int) (s : List Int) (k i : Nat) : St := ⟨.int .i64 n :: .dead :: .int .i64 d :: dd 4 ++ .sl I64 s :: .int .i64 k :: .sl I64 (madR n s) :: .int .i64 (madE n s) :: .bool (bdK n s i) :: .bool (smK s i) :: .int .i64 i :: dd 164, []⟩
def ib4 (n : Int) (s : List Int) (i : Nat) : Prop := i <= s.length /\ ∀ j, j < i -> bdK n s j = false
def eb4 (n d : Int) (s : List Int) (k : Nat) : List (List Nat × Ex) := [([0, 2, 7, 8, 9, 10, 11, 12], ⟨2, Nat, fun i => ib4 n s i /\ (i = s.length ∨ bdK n s i = true), fun i => ⟨.int .i64 n :: .dead :: .int .i64 d :: dd 4 ++ .sl I64 s :: .int .i64 k :: .sl I64 (madR n s) :: .int .i64 (madE n s) :: .bool (bdK n s i) :: .bool (smK s i) :: dd 165, []⟩⟩)]
def hb4 (n d : Int) (s : List Int) (k : Nat) : Hint := ⟨chk 0 [0, 2, 7, 8, 9, 10, 11, 12, 13] (ib4 n s) (sb4 n d s k), (eb4 n d s k).map (·.2)⟩
def n4 (n : Int) : Int := 3 + (modU .u64 n).tmod 4
def d4 (n d : Int) : Int := 2 + (modU .u64 d).tmod (n4 n - 2)
end Go.Am.Sh

/- Shells: the law of the makers, the outer loop. -/
namespace Go.Am.Sh
open Go Go.Am Go.Proofs
def nH : Nat -> Option Hint := fun _ => none
end Go.Am.Sh

/- Shells: News. -/
namespace Go.Am.Sh
open Go Go.Am Go.Proofs
def okO (p l : List Int) : Prop := ∀ j ∈ l, 0 <= j /\ j < p.length
structure pre59n (w : Int) (p l : List Int) : Prop where
 hp : okL p
 hw : 0 <= w /\ w < 64
 ho : okO p l
 hl : l.length <= 64
structure ok43 (n : Int) (p o : List Int) : Prop where
 hc : cxOk n p
 ho : okO p o
 hl : o.length <= 10
end Go.Am.Sh

/- Shells: News, as the reference finds them. -/
namespace Go.Am.Sh
open Go Go.Am Go.Proofs
end Go.Am.Sh

/- Shells: the law of the orders. -/
namespace Go.Am.Sh
open Go Go.Am Go.Proofs
end Go.Am.Sh

/- Shells: the rank of rows, as the reference finds it. -/
namespace Go.Am.Sh
open Go Go.Am Go.Proofs
end Go.Am.Sh

/- Shells: the borders, as the reference finds them. -/
namespace Go.Am.Sh
open Go Go.Am Go.Proofs
end Go.Am.Sh

/- Shells: the hollow numbers, as the reference finds them. -/
namespace Go.Am.Sh
open Go Go.Am Go.Proofs
theorem brdK_length {l : List Int} {m : Nat} : ∀ {k : Nat}, k <= l.length -> (brdK l m k).length = ((l.take k).filter fun s => pc s.toNat == m).length
 | 0, _ => by simp [brdK]
 | k + 1, h => by
   rw [take_getD (d := 0) (by omega), List.filter_append, List.length_append, <- brdK_length (by omega), brdK]
   by_cases e : pc (l.getD k 0).toNat = m
   · rw [if_pos (by omega), List.length_append, List.filter_cons_of_pos (by simp only [beq_iff_eq]; exact e)]; try rfl
   · rw [if_neg (by omega), List.filter_cons_of_neg (by simp only [beq_iff_eq]; exact e)]; try rfl
theorem brd_cnt {p : List Int} {m : Nat} (h : m <= (mxL p).toNat) : ((brd p m).length : Int) = (cnts p).getD m 0 := by
 unfold brd cnts
 rw [show fcs p = trueN (isF p) 64 from rfl, brdK_length (Nat.le_refl _)]
 unfold cntL
 rw [List.getD_eq_getElem?_getD, List.getElem?_map, List.getElem?_range (by omega)]
 rfl
theorem hoK_step {p : List Int} {k : Nat} (h : (k : Int) + 1 <= mxL p) : hoK p (k + 1) = hoK p k ++ [((brd p ((k : Int) + 1)).length : Int) - (rk (brd p ((k : Int) + 1)) : Int) - (rk (brd p ((k : Int) + 2)) : Int)] := by
 have e := brd_cnt (p := p) (m := k + 1) (by omega)
 rw [hoK, <- e, show (k : Int) + 1 + 1 = (k : Int) + 2 by omega]
 rfl
end Go.Am.Sh

/- Shells: Link. -/
namespace Go.Am.Sh
open Go Go.Am Go.Proofs
end Go.Am.Sh

/- Shells: the reference's Link. -/
namespace Go.Am.Sh
open Go Go.Am Go.Proofs
end Go.Am.Sh

/- Shells: the reference's Dual. -/
namespace Go.Am.Sh
open Go Go.Am Go.Proofs
def dG (n : Int) (p : List Int) (x : Nat) : Bool := !isF p (mns (2 ^ n.toNat - 1) x)
end Go.Am.Sh

/- Shells: links and duals, plain facts. -/
namespace Go.Am.Sh
open Go Go.Am Go.Proofs
theorem sub_iff {a b : Nat} : sub a b = true ↔ a &&& b = a := by
 unfold sub
 exact ⟨Nat.eq_of_beq_eq_true, fun h => by rw [h]; exact Nat.beq_refl a⟩
theorem sub_trans {a b c : Nat} (h1 : sub a b = true) (h2 : sub b c = true) : sub a c = true := by
 rw [sub_iff] at *
 rw [<- h1, Nat.and_assoc, h2]
theorem isF_sub {p : List Int} {a b : Nat} (h : sub a b = true) (hb : isF p b = true) : isF p a = true := by
 rw [isF_iff] at *
 obtain ⟨i, h1, h2⟩ := hb
 exact ⟨i, h1, sub_trans h h2⟩
theorem isF_trueN {g : Nat -> Bool} {k : Nat} (hg : ∀ x y, y < k -> sub x y = true -> g y = true -> g x = true) {x : Nat} : isF (trueN g k) x = (decide (x < k) && g x) := by
 rw [Bool.eq_iff_iff, Bool.and_eq_true, decide_eq_true_eq]
 constructor
 · intro h
   obtain ⟨y, hy, h2⟩ := List.any_eq_true.mp h
   obtain ⟨z, rfl, h3, h4⟩ := trueN_mem hy
   have h2 : sub x z = true := h2
   exact ⟨Nat.lt_of_le_of_lt (sub_le h2) h3, hg x z h3 h2 h4⟩
 · rintro ⟨h1, h2⟩
   exact List.any_eq_true.mpr ⟨_, trueN_has h1 h2, by rw [Int.toNat_natCast]; exact sub_self x⟩
theorem okL_trueN {g : Nat -> Bool} {k : Nat} (hk : k <= 64) : okL (trueN g k) := fun s hs => by
 obtain ⟨n, rfl, h, _⟩ := trueN_mem hs
 omega
theorem dual_sub : ∀ n : Fin 7, ∀ x y : Fin 64, sub x.val y.val = true -> sub (mns (2 ^ n.val - 1) y.val) (mns (2 ^ n.val - 1) x.val) = true := by decide +kernel
theorem dual_pie {n : Int} {p : List Int} (h : cxOk n p) : grL (duaG n p) = pieL (trueN (dG n p) (2 ^ n.toNat)) := by
 have h2 := pow_le6 h.1
 obtain ⟨e1, e2, e3⟩ := numOk_pow h.1
 rw [<- grL_pie (okL_trueN (by omega))]
 refine grL_ext fun x hx => ?_
 rw [isF_trueN]
 · rfl
 · intro x y hy h1 h2
   unfold dG at *
   have hd := dual_sub ⟨n.toNat, by have := h.1.1; have := h.1.2; omega⟩ ⟨x, by have := sub_le h1; omega⟩ ⟨y, by omega⟩ h1
   simp only at hd
   cases hx : isF p (mns (2 ^ n.toNat - 1) x) with
   | false => rfl
   | true => rw [isF_sub hd hx] at h2; cases h2
end Go.Am.Sh

/- Shells: the new parts of a shelling and the h-list, plain facts. -/
namespace Go.Am.Sh
open Go Go.Am Go.Proofs
end Go.Am.Sh

/- Shells: the new parts of a shelling count as the h-list does. -/
namespace Go.Am.Sh
open Go Go.Am Go.Proofs
def cN (g : Nat -> Bool) : Nat -> Nat
 | 0 => 0
 | k + 1 => cN g k + if g k = true then 1 else 0
theorem cN_ext {f g : Nat -> Bool} : ∀ {m : Nat}, (∀ x, x < m -> f x = g x) -> cN f m = cN g m
 | 0, _ => rfl
 | m + 1, h => by rw [cN, cN, cN_ext fun x hx => h x (by omega), h m (by omega)]
theorem cN_add {f g h : Nat -> Bool} : ∀ {m : Nat}, (∀ x, x < m -> f x = (g x || h x) /\ (g x && h x) = false) -> cN f m = cN g m + cN h m
 | 0, _ => rfl
 | m + 1, hh => by
   have ih := cN_add (f := f) (g := g) (h := h) (m := m) fun x hx => hh x (by omega)
   obtain ⟨h1, h2⟩ := hh m (by omega)
   rw [cN, cN, cN, ih, h1]
   cases hg : g m <;> cases hk : h m <;> simp_all <;> omega
theorem filter_trueN (g q : Nat -> Bool) : ∀ k, ((trueN g k).filter fun s => q s.toNat).length = cN (fun x => g x && q x) k
 | 0 => rfl
 | k + 1 => by
   rw [trueN, cN, <- filter_trueN g q k]
   cases hg : g k with
   | false => simp
   | true =>
     rw [if_pos rfl, List.filter_append, List.length_append]
     cases hq : q k with
     | false => rw [List.filter_cons_of_neg (by rw [Int.toNat_natCast, hq]; simp)]; simp
     | true => rw [List.filter_cons_of_pos (by rw [Int.toNat_natCast, hq])]; simp
theorem cnts_cN {p : List Int} {k : Nat} (h : k <= (mxL p).toNat) : (cnts p).getD k 0 = (cN (fun x => isF p x && (pc x == k)) 64 : Nat) := by
 unfold cnts
 rw [cntL_getD h, List.take_of_length_le (Nat.le_refl _), filter_trueN (isF p) (fun x => pc x == k) 64]
end Go.Am.Sh

/- Shells, plain: independent vectors of bits; the rank of rows. -/
namespace Go.Am.Sh
open Go Go.Am Go.Proofs
/-- u is the sum of some of the vectors. -/
def spn : List Nat -> Nat -> Prop
 | [], u => u = 0
 | v :: t, u => spn t u ∨ spn t (u ^^^ v)
/-- None is a sum of those behind it. -/
def Ind : List Nat -> Prop
 | [] => True
 | v :: t => ¬ spn t v /\ Ind t
/-- A space of vectors. -/
structure Lin (Q : Nat -> Prop) : Prop where
 z : Q 0
 x : ∀ u v, Q u -> Q v -> Q (u ^^^ v)
theorem xcc (a b : Nat) : a ^^^ b ^^^ b = a := by rw [Nat.xor_assoc, Nat.xor_self, Nat.xor_zero]
theorem xrc (a b c : Nat) : a ^^^ b ^^^ c = a ^^^ c ^^^ b := by rw [Nat.xor_assoc, Nat.xor_comm b c, <- Nat.xor_assoc]
theorem spn_zero : ∀ t : List Nat, spn t 0
 | [] => rfl
 | _ :: t => .inl (spn_zero t)
theorem spn_lin : ∀ t : List Nat, Lin (spn t)
 | [] => ⟨rfl, fun u v hu hv => by rw [show u = 0 from hu, show v = 0 from hv]; exact Nat.xor_zero 0⟩
 | w :: t => ⟨spn_zero _, fun u v hu hv => by
   have ih := (spn_lin t).x
   rcases hu with hu | hu <;> rcases hv with hv | hv
   · exact .inl (ih _ _ hu hv)
   · exact .inr (by have := ih _ _ hu hv; rwa [<- Nat.xor_assoc] at this)
   · exact .inr (by have := ih _ _ hu hv; rwa [xrc] at this)
   · exact .inl (by have := ih _ _ hu hv; rwa [<- Nat.xor_assoc, xrc u w v, xcc] at this)⟩
theorem spn_of {Q : Nat -> Prop} (hQ : Lin Q) : ∀ {t : List Nat}, (∀ v ∈ t, Q v) -> ∀ {u}, spn t u -> Q u
 | [], _, u, h => by rw [show u = 0 from h]; exact hQ.z
 | v :: t, ht, u, h => by
   have ih := fun {u} => spn_of hQ (t := t) (fun w hw => ht w (List.mem_cons_of_mem _ hw)) (u := u)
   rcases h with h | h
   · exact ih h
   · have := hQ.x _ _ (ih h) (ht v List.mem_cons_self)
     rwa [xcc] at this
theorem spn_mem {v : Nat} : ∀ {t : List Nat}, v ∈ t -> spn t v
 | w :: t, h => by
   rcases List.mem_cons.mp h with h | h
   · subst h; exact .inr (by rw [Nat.xor_self]; exact spn_zero t)
   · exact .inl (spn_mem h)
theorem bit_xor_self {a b j : Nat} (ha : a.testBit j = true) (hb : b.testBit j = true) : (a ^^^ b).testBit j = false := by rw [Nat.testBit_xor, ha, hb]; try rfl
/-- One vector less, and none has the bit. -/
theorem ind_bit (j : Nat) : ∀ {L : List Nat}, Ind L -> (∀ v ∈ L, v.testBit j = false) ∨ ∃ p L', (p.testBit j = true /\ spn L p) /\ L'.length + 1 = L.length /\ Ind L' /\ (∀ v ∈ L', v.testBit j = false) /\ ∀ u, spn L' u -> spn L u
 | [], _ => .inl fun v hv => by cases hv
 | v :: T, ⟨h1, h2⟩ => by
   rcases ind_bit j h2 with hn | ⟨p, T', ⟨hp, hs⟩, hl, hi, hz, hm⟩
   · cases hv : v.testBit j with
     | false =>
       exact .inl fun w hw => by
         rcases List.mem_cons.mp hw with h | h
         · rw [h]; exact hv
         · exact hn w h
     | true => exact .inr ⟨v, T, ⟨hv, spn_mem List.mem_cons_self⟩, rfl, h2, hn, fun u hu => .inl hu⟩
   · refine .inr ?_
     cases hv : v.testBit j with
     | false =>
       refine ⟨p, v :: T', ⟨hp, .inl hs⟩, by simp; omega, ⟨fun h => h1 (hm _ h), hi⟩, fun w hw => ?_, fun u hu => ?_⟩
       · rcases List.mem_cons.mp hw with h | h
         · rw [h]; exact hv
         · exact hz w h
       · rcases hu with hu | hu
         · exact .inl (hm _ hu)
         · exact .inr (hm _ hu)
     | true =>
       refine ⟨p, (v ^^^ p) :: T', ⟨hp, .inl hs⟩, by simp; omega, ⟨fun h => h1 ?_, hi⟩, fun w hw => ?_, fun u hu => ?_⟩
       · have := (spn_lin T).x _ _ (hm _ h) hs
         rwa [xcc] at this
       · rcases List.mem_cons.mp hw with h | h
         · rw [h]; exact bit_xor_self hv hp
         · exact hz w h
       · rcases hu with hu | hu
         · exact .inl (hm _ hu)
         · refine .inr ?_
           have := (spn_lin T).x _ _ (hm _ hu) hs
           rwa [<- Nat.xor_assoc, xcc] at this
theorem lt_bit {v m : Nat} (h : v < 2 ^ (m + 1)) (hb : v.testBit m = false) : v < 2 ^ m := by
 apply Nat.lt_pow_two_of_testBit
 intro i hi
 rcases Nat.eq_or_lt_of_le hi with e | e
 · rw [<- e]; exact hb
 · exact Nat.testBit_lt_two_pow (Nat.lt_of_lt_of_le h (Nat.pow_le_pow_right (by decide) e))
/-- No more independent vectors than places. -/
theorem ind_dim (F : Nat -> Bool) : ∀ {m : Nat} {L : List Nat}, Ind L -> (∀ v ∈ L, v < 2 ^ m /\ ∀ j, v.testBit j = true -> F j = true) -> L.length <= cN F m
 | 0, [], _, _ => Nat.zero_le _
 | 0, v :: t, h, hl => by
   have := (hl v List.mem_cons_self).1
   have e : v = 0 := by omega
   rw [e] at h
   exact absurd (spn_zero t) h.1
 | m + 1, L, h, hl => by
   rw [cN]
   have hQ : Lin fun u => u < 2 ^ (m + 1) /\ ∀ j, u.testBit j = true -> F j = true := ⟨⟨Nat.two_pow_pos _, fun j hj => by simp at hj⟩, fun u v hu hv => ⟨Nat.xor_lt_two_pow hu.1 hv.1, fun j hj => by
     rw [Nat.testBit_xor] at hj
     cases e : u.testBit j with
     | true => exact hu.2 j e
     | false => rw [e] at hj; exact hv.2 j (by simpa using hj)⟩⟩
   rcases ind_bit m h with hn | ⟨p, L', ⟨hp, hs⟩, hlen, hi, hz, hm⟩
   · have := ind_dim F (m := m) h fun v hv => ⟨lt_bit (hl v hv).1 (hn v hv), (hl v hv).2⟩
     split <;> omega
   · have hF : F m = true := (spn_of hQ hl hs).2 m hp
     have := ind_dim F (m := m) hi fun v hv => by
       have h2 := spn_of hQ hl (hm v (spn_mem hv))
       exact ⟨lt_bit h2.1 (hz v hv), h2.2⟩
     rw [hF]
     simp only [if_true]
     omega
theorem lo_bit {a : Nat} (h : a < 9223372036854775808) (h0 : a ≠ 0) : ∃ j, j < 63 /\ lo a = 2 ^ j /\ a.testBit j = true := by
 -- the lowest bit of a
 have key : ∀ n, ∀ a : Nat, a < 2 ^ n -> a ≠ 0 -> ∃ j c, j < n /\ a = 2 ^ j * (2 * c + 1) := by
   intro n
   induction n with
   | zero => intro a h1 h2; omega
   | succ n ih =>
     intro a h1 h2
     rcases Nat.mod_two_eq_zero_or_one a with e | e
     · obtain ⟨j, c, hj, hc⟩ := ih (a / 2) (by omega) (by omega)
       refine ⟨j + 1, c, by omega, ?_⟩
       rw [Nat.pow_succ, Nat.mul_comm (2 ^ j) 2, Nat.mul_assoc, <- hc]; omega
     · exact ⟨0, a / 2, by omega, by omega⟩
 obtain ⟨j, c, hj, hc⟩ := key 63 a (by omega) h0
 have hb : a.testBit j = true := by
   rw [Nat.testBit_eq_decide_div_mod_eq, hc, Nat.mul_div_cancel_left _ (Nat.two_pow_pos j)]
   simp
 refine ⟨j, hj, ?_, hb⟩
 have hlow : ∀ i, i < j -> a.testBit i = false := fun i hi => by
   rw [Nat.testBit_eq_decide_div_mod_eq]
   have e : a / 2 ^ i = 2 ^ (j - i) * (2 * c + 1) := by
     rw [hc, show j = i + (j - i) by omega, Nat.pow_add, Nat.mul_assoc, Nat.mul_div_cancel_left _ (Nat.two_pow_pos i)]
     rw [show i + (j - i) - i = j - i by omega]
   rw [e, show j - i = (j - i - 1) + 1 by omega, Nat.pow_succ, Nat.mul_right_comm]
   simp
 unfold lo
 rw [Nat.mod_eq_of_lt (show 18446744073709551616 - a < 18446744073709551616 by omega)]
 apply Nat.eq_of_testBit_eq
 intro i
 rw [Nat.testBit_and, Nat.testBit_two_pow]
 have h64 : (18446744073709551616 : Nat) - a = 2 ^ 64 - ((a - 1) + 1) := by omega
 have hap : a - 1 < 2 ^ 64 := by omega
 rw [h64, Nat.testBit_two_pow_sub_succ hap]
 rcases Nat.lt_trichotomy i j with e | e | e
 · rw [hlow i e]; simp; omega
 · subst e
   rw [hb]
   have : (a - 1).testBit i = false := by
     rw [Nat.testBit_eq_decide_div_mod_eq]
     have h2 : (a - 1) / 2 ^ i = 2 * c := by
       have hp := Nat.two_pow_pos i
       rw [show a - 1 = 2 ^ i * (2 * c) + (2 ^ i - 1) by rw [hc, Nat.mul_succ]; omega, Nat.mul_add_div hp, Nat.div_eq_of_lt (by omega)]; try rfl
     rw [h2]; simp
   rw [this]; simp; omega
 · have h2 : (a - 1).testBit i = a.testBit i := by
     rw [Nat.testBit_eq_decide_div_mod_eq, Nat.testBit_eq_decide_div_mod_eq]
     have hp := Nat.two_pow_pos j
     have e2 : (a - 1) / 2 ^ i = a / 2 ^ i := by
       rw [show i = (j + 1) + (i - j - 1) by omega, Nat.pow_add, <- Nat.div_div_eq_div_mul, <- Nat.div_div_eq_div_mul]
       congr 1
       rw [Nat.pow_succ, <- Nat.div_div_eq_div_mul, <- Nat.div_div_eq_div_mul]
       have h3 : (a - 1) / 2 ^ j = 2 * c := by
         rw [show a - 1 = 2 ^ j * (2 * c) + (2 ^ j - 1) by rw [hc, Nat.mul_succ]; omega, Nat.mul_add_div hp, Nat.div_eq_of_lt (by omega)]; try rfl
       have h4 : a / 2 ^ j = 2 * c + 1 := by rw [hc, Nat.mul_div_cancel_left _ hp]
       rw [h3, h4]; omega
     rw [e2]
   rw [h2]
   cases a.testBit i <;> simp <;> omega
theorem and_two (x b : Nat) : (!Nat.beq (x &&& 2 ^ b) 0) = x.testBit b := by
 cases e : x.testBit b with
 | true =>
   have h : (x &&& 2 ^ b).testBit b = true := by rw [Nat.testBit_and, e, Nat.testBit_two_pow_self]; try rfl
   cases h2 : Nat.beq (x &&& 2 ^ b) 0 with
   | false => rfl
   | true => rw [Nat.eq_of_beq_eq_true h2, Nat.zero_testBit] at h; cases h
 | false =>
   have h : x &&& 2 ^ b = 0 := by
     apply Nat.eq_of_testBit_eq
     intro i
     rw [Nat.testBit_and, Nat.testBit_two_pow, Nat.zero_testBit]
     by_cases hi : b = i
     · subst hi; rw [e]; try rfl
     · simp [hi]
   rw [h]; try rfl
theorem rk_ind {l : List Int} (ho : okR l) : ∀ k i, i + k = l.length -> ∀ Q : Nat -> Prop, Lin Q -> (∀ j, i <= j -> j < l.length -> Q ((rwI l i).getD j 0).toNat) -> ∃ L : List Nat, L.length + rkI l i = rk l /\ Ind L /\ (∀ v ∈ L, Q v) /\ ∀ j, i <= j -> j < l.length -> spn L ((rwI l i).getD j 0).toNat
 | 0, i, hi, Q, _, _ => ⟨[], by rw [rk, <- hi]; simp, trivial, (fun v hv => by cases hv), fun j h1 h2 => by omega⟩
 | k + 1, i, hi, Q, hQ, h => by
   have hlen := rwI_length l i
   have hok := rwI_ok ho i
   by_cases h0 : (rwI l i).getD i 0 = 0
   · obtain ⟨L, h1, h2, h3, h4⟩ := rk_ind ho k (i + 1) (by omega) Q hQ fun j hj hjl => by
       rw [rwI, if_pos h0]; exact h j (by omega) hjl
     rw [rkI, if_pos h0] at h1
     refine ⟨L, h1, h2, h3, fun j hj hjl => ?_⟩
     rw [rwI, if_pos h0] at h4
     by_cases e : j = i
     · rw [e, h0]; exact spn_zero L
     · exact h4 j (by omega) hjl
   · have hoi := hok i
     obtain ⟨b, _, hb, hbb⟩ := lo_bit (a := ((rwI l i).getD i 0).toNat) (by omega) (by omega)
     obtain ⟨L, h1, h2, h3, h4⟩ := rk_ind ho k (i + 1) (by omega) (fun u => Q u /\ u.testBit b = false) ⟨⟨hQ.z, by simp⟩, fun u v hu hv => ⟨hQ.x _ _ hu.1 hv.1, by rw [Nat.testBit_xor, hu.2, hv.2]; rfl⟩⟩ fun j hj hjl => by
       rw [rwI, if_neg h0, clr_getD (by omega)]
       have hbit : hitR (rwI l i) i j = ((rwI l i).getD j 0).toNat.testBit b := by
         unfold hitR
         rw [hb]
         exact and_two _ _
       split
       · rename_i hc
         rw [hbit] at hc
         rw [Int.toNat_natCast]
         exact ⟨hQ.x _ _ (h j (by omega) hjl) (h i (Nat.le_refl _) (by omega)), bit_xor_self hc.2.2 hbb⟩
       · rename_i hc
         rw [hbit] at hc
         refine ⟨h j (by omega) hjl, ?_⟩
         cases e : ((rwI l i).getD j 0).toNat.testBit b with
         | false => rfl
         | true => exact absurd ⟨by omega, hjl, e⟩ hc
     rw [rkI, if_neg h0] at h1
     refine ⟨((rwI l i).getD i 0).toNat :: L, by simp; omega, ⟨fun hs => ?_, h2⟩, fun v hv => ?_, fun j hj hjl => ?_⟩
     · have := (spn_of (Q := fun u => u.testBit b = false) ⟨by simp, fun u v hu hv => by rw [Nat.testBit_xor, hu, hv]; rfl⟩ (fun v hv => (h3 v hv).2) hs)
       rw [hbb] at this; cases this
     · rcases List.mem_cons.mp hv with e | e
       · rw [e]; exact h i (Nat.le_refl _) (by omega)
       · exact (h3 v e).1
     · by_cases e : j = i
       · rw [e]; exact spn_mem List.mem_cons_self
       · have h5 := h4 j (by omega) hjl
         rw [rwI, if_neg h0, clr_getD (by omega)] at h5
         split at h5
         · exact .inr (by rw [Int.toNat_natCast] at h5; exact h5)
         · exact .inl h5
theorem rk_vec {l : List Int} (ho : okR l) {Q : Nat -> Prop} (hQ : Lin Q) (h : ∀ v ∈ l, Q v.toNat) : ∃ L : List Nat, L.length = rk l /\ Ind L /\ (∀ v ∈ L, Q v) /\ ∀ v ∈ l, spn L v.toNat := by
 obtain ⟨L, h1, h2, h3, h4⟩ := rk_ind ho l.length 0 (by omega) Q hQ fun j _ hj => h _ (mem_getD (d := 0) hj)
 rw [rkI] at h1
 refine ⟨L, by omega, h2, h3, fun v hv => ?_⟩
 obtain ⟨i, hi, e⟩ := List.getElem_of_mem hv
 have := h4 i (Nat.zero_le _) hi
 rw [rwI, getD_lt hi, e] at this
 exact this
end Go.Am.Sh

/- Shells, plain: dimensions of spaces of bits. -/
namespace Go.Am.Sh
open Go Go.Am Go.Proofs
/-- As `ind_bit`: two outside of Q have their sum inside. -/
theorem ind_half {Q : Nat -> Prop} (hQ : Lin Q) : ∀ {L : List Nat}, Ind L -> (∀ u v, u ∈ L -> v ∈ L -> ¬ Q u -> ¬ Q v -> Q (u ^^^ v)) -> (∀ v ∈ L, Q v) ∨ ∃ L', L'.length + 1 = L.length /\ Ind L' /\ (∀ v ∈ L', Q v) /\ ∃ p, p ∈ L /\ ¬ Q p /\ ∀ u, spn L' u -> spn L u
 | [], _, _ => .inl fun v hv => by cases hv
 | v :: T, ⟨h1, h2⟩, hh => by
   rcases ind_half hQ h2 (fun a b ha hb => hh a b (List.mem_cons_of_mem _ ha) (List.mem_cons_of_mem _ hb)) with hn | ⟨T', hl, hi, hz, p, hp, hpq, hm⟩
   · by_cases hv : Q v
     · exact .inl fun w hw => by
         rcases List.mem_cons.mp hw with h | h
         · rw [h]; exact hv
         · exact hn w h
     · exact .inr ⟨T, rfl, h2, hn, v, List.mem_cons_self, hv, fun u hu => .inl hu⟩
   · refine .inr ?_
     by_cases hv : Q v
     · refine ⟨v :: T', by simp; omega, ⟨fun h => h1 (hm _ h), hi⟩, fun w hw => ?_, p, List.mem_cons_of_mem _ hp, hpq, fun u hu => ?_⟩
       · rcases List.mem_cons.mp hw with h | h
         · rw [h]; exact hv
         · exact hz w h
       · rcases hu with hu | hu
         · exact .inl (hm _ hu)
         · exact .inr (hm _ hu)
     · have hs : spn T p := spn_mem hp
       refine ⟨(v ^^^ p) :: T', by simp; omega, ⟨fun h => h1 ?_, hi⟩, fun w hw => ?_, p, List.mem_cons_of_mem _ hp, hpq, fun u hu => ?_⟩
       · have := (spn_lin T).x _ _ (hm _ h) hs
         rwa [xcc] at this
       · rcases List.mem_cons.mp hw with h | h
         · rw [h]; exact hh v p List.mem_cons_self (List.mem_cons_of_mem _ hp) hv hpq
         · exact hz w h
       · rcases hu with hu | hu
         · exact .inl (hm _ hu)
         · refine .inr ?_
           have := (spn_lin T).x _ _ (hm _ hu) hs
           rwa [<- Nat.xor_assoc, xcc] at this
/-- No more independent vectors than vectors that span them. -/
theorem ind_le : ∀ {M L : List Nat}, Ind L -> (∀ v ∈ L, spn M v) -> L.length <= M.length
 | [], [], _, _ => Nat.le_refl _
 | [], v :: t, h, hs => by
   have e : v = 0 := hs v List.mem_cons_self
   rw [e] at h
   exact absurd (spn_zero t) h.1
 | w :: M, L, h, hs => by
   rcases ind_half (spn_lin M) h (fun u v hu hv nu nv => by
     have h1 := (hs u hu).resolve_left nu
     have h2 := (hs v hv).resolve_left nv
     have := (spn_lin M).x _ _ h1 h2
     rwa [<- Nat.xor_assoc, xrc u w v, xcc] at this) with hn | ⟨L', hl, hi, hz, _⟩
   · have := ind_le (M := M) h hn
     rw [List.length_cons]; omega
   · have := ind_le (M := M) hi hz
     rw [List.length_cons]; omega
/-- The space Q has d dimensions. -/
def Dim (Q : Nat -> Prop) (d : Nat) : Prop := ∃ L : List Nat, L.length = d /\ Ind L /\ ∀ u, Q u ↔ spn L u
theorem Dim.uniq {Q : Nat -> Prop} {d e : Nat} (h1 : Dim Q d) (h2 : Dim Q e) : d = e := by
 obtain ⟨L, l1, l2, l3⟩ := h1
 obtain ⟨M, m1, m2, m3⟩ := h2
 have a := ind_le l2 fun v hv => (m3 v).mp ((l3 v).mpr (spn_mem hv))
 have b := ind_le m2 fun v hv => (l3 v).mp ((m3 v).mpr (spn_mem hv))
 omega
theorem Dim.congr {Q Q' : Nat -> Prop} {d : Nat} (h : Dim Q d) (e : ∀ u, Q u ↔ Q' u) : Dim Q' d := by
 obtain ⟨L, l1, l2, l3⟩ := h
 exact ⟨L, l1, l2, fun u => (e u).symm.trans (l3 u)⟩
theorem cN_true : ∀ m, cN (fun _ => true) m = m
 | 0 => rfl
 | m + 1 => by rw [cN, cN_true m]; simp
/-- Every space of numbers below 2 ^ 64 has a dimension. -/
theorem Dim.exists {Q : Nat -> Prop} (hQ : Lin Q) (hb : ∀ u, Q u -> u < 2 ^ 64) : ∃ d, Dim Q d := by
 have hbd : ∀ L : List Nat, Ind L -> (∀ v ∈ L, Q v) -> L.length <= 64 := fun L hi hl => by
   have := ind_dim (fun _ => true) (m := 64) hi fun v hv => ⟨hb v (hl v hv), fun _ _ => rfl⟩
   rwa [cN_true] at this
 have key : ∀ k, ∀ L : List Nat, Ind L -> (∀ v ∈ L, Q v) -> 64 <= L.length + k -> ∃ M : List Nat, Ind M /\ (∀ v ∈ M, Q v) /\ ∀ u, Q u -> spn M u := by
   intro k
   induction k with
   | zero =>
     intro L hi hl hk
     refine ⟨L, hi, hl, fun u hu => Classical.byContradiction fun hn => ?_⟩
     have := hbd (u :: L) ⟨hn, hi⟩ fun v hv => by
       rcases List.mem_cons.mp hv with h | h
       · rw [h]; exact hu
       · exact hl v h
     rw [List.length_cons] at this
     omega
   | succ k ih =>
     intro L hi hl hk
     by_cases h : ∀ u, Q u -> spn L u
     · exact ⟨L, hi, hl, h⟩
     · obtain ⟨u, hu⟩ := Classical.not_forall.mp h
       obtain ⟨hu, hn⟩ := Classical.not_imp.mp hu
       exact ih (u :: L) ⟨hn, hi⟩ (fun v hv => by
         rcases List.mem_cons.mp hv with h | h
         · rw [h]; exact hu
         · exact hl v h) (by rw [List.length_cons]; omega)
 obtain ⟨M, h1, h2, h3⟩ := key 64 [] trivial (fun v hv => by cases hv) (by simp)
 exact ⟨M.length, M, rfl, h1, fun u => ⟨h3 u, spn_of hQ h2⟩⟩
/-- A linear map. -/
def Hom (T : Nat -> Nat) : Prop := ∀ u v, T (u ^^^ v) = T u ^^^ T v
theorem Hom.zero {T : Nat -> Nat} (h : Hom T) : T 0 = 0 := by
 have := h 0 0
 rw [Nat.xor_self, Nat.xor_self] at this
 exact this
def imG (T : Nat -> Nat) (Q : Nat -> Prop) (v : Nat) : Prop := ∃ u, Q u /\ T u = v
def keG (T : Nat -> Nat) (Q : Nat -> Prop) (u : Nat) : Prop := Q u /\ T u = 0
theorem imG_lin {T : Nat -> Nat} (hT : Hom T) {Q : Nat -> Prop} (hQ : Lin Q) : Lin (imG T Q) := ⟨⟨0, hQ.z, hT.zero⟩, fun u v ⟨a, a1, a2⟩ ⟨b, b1, b2⟩ => ⟨a ^^^ b, hQ.x _ _ a1 b1, by rw [hT, a2, b2]⟩⟩
theorem keG_lin {T : Nat -> Nat} (hT : Hom T) {Q : Nat -> Prop} (hQ : Lin Q) : Lin (keG T Q) := ⟨⟨hQ.z, hT.zero⟩, fun u v hu hv => ⟨hQ.x _ _ hu.1 hv.1, by rw [hT, hu.2, hv.2]; rfl⟩⟩
theorem pre_listG {T : Nat -> Nat} {Q : Nat -> Prop} : ∀ {L : List Nat}, (∀ v ∈ L, imG T Q v) -> ∃ M : List Nat, M.length = L.length /\ M.map T = L /\ ∀ S ∈ M, Q S
 | [], _ => ⟨[], rfl, rfl, fun S hS => by cases hS⟩
 | v :: L, h => by
   obtain ⟨S, h1, h2⟩ := h v List.mem_cons_self
   obtain ⟨M, h3, h4, h5⟩ := pre_listG (L := L) fun w hw => h w (List.mem_cons_of_mem _ hw)
   refine ⟨S :: M, by simp [h3], by simp [h2, h4], fun T hT => ?_⟩
   rcases List.mem_cons.mp hT with e | e
   · rw [e]; exact h1
   · exact h5 T e
theorem spn_hom {T : Nat -> Nat} (hT : Hom T) {B : List Nat} (hB : ∀ v ∈ B, T v = 0) : ∀ {M : List Nat} {u}, spn (M ++ B) u -> spn (M.map T) (T u)
 | [], u, h => spn_of (Q := fun u => T u = 0) ⟨hT.zero, fun u v hu hv => by rw [hT, hu, hv]; rfl⟩ hB h
 | S :: M, u, h => by
   rcases h with h | h
   · exact .inl (spn_hom hT hB h)
   · refine .inr ?_
     have := spn_hom hT hB h
     rwa [hT] at this
theorem ind_hom {T : Nat -> Nat} (hT : Hom T) {B : List Nat} (hB : ∀ v ∈ B, T v = 0) (hi : Ind B) : ∀ {M : List Nat}, Ind (M.map T) -> Ind (M ++ B)
 | [], _ => hi
 | _ :: _, ⟨h1, h2⟩ => ⟨fun h => h1 (spn_hom hT hB h), ind_hom hT hB hi h2⟩
theorem spn_back {T : Nat -> Nat} (hT : Hom T) : ∀ {M : List Nat} {v}, spn (M.map T) v -> ∃ p, spn M p /\ T p = v
 | [], v, h => ⟨0, rfl, by rw [hT.zero]; exact h.symm⟩
 | S :: M, v, h => by
   rcases h with h | h
   · obtain ⟨p, h1, h2⟩ := spn_back hT h
     exact ⟨p, .inl h1, h2⟩
   · obtain ⟨p, h1, h2⟩ := spn_back hT h
     exact ⟨p ^^^ S, .inr (by rw [xcc]; exact h1), by rw [hT, h2, xcc]⟩
theorem spn_app : ∀ {M B : List Nat} {p q}, spn M p -> spn B q -> spn (M ++ B) (p ^^^ q)
 | [], B, p, q, h1, h2 => by rw [show p = 0 from h1, Nat.zero_xor]; exact h2
 | S :: M, B, p, q, h1, h2 => by
   rcases h1 with h1 | h1
   · exact .inl (spn_app h1 h2)
   · refine .inr ?_
     rw [xrc]
     exact spn_app h1 h2
/-- Kernel and image. -/
theorem Dim.rank {T : Nat -> Nat} (hT : Hom T) {Q : Nat -> Prop} (hQ : Lin Q) {r k : Nat} (hr : Dim (imG T Q) r) (hk : Dim (keG T Q) k) : Dim Q (r + k) := by
 obtain ⟨L, l1, l2, l3⟩ := hr
 obtain ⟨B, b1, b2, b3⟩ := hk
 obtain ⟨M, m1, m2, m3⟩ := pre_listG (T := T) (Q := Q) fun v hv => (l3 v).mpr (spn_mem (t := L) hv)
 have hB : ∀ v ∈ B, keG T Q v := fun v hv => (b3 v).mpr (spn_mem hv)
 refine ⟨M ++ B, by rw [List.length_append, m1]; omega, ind_hom hT (fun v hv => (hB v hv).2) b2 (by rw [m2]; exact l2), fun u => ⟨fun hu => ?_, fun hu => ?_⟩⟩
 · have h1 := (l3 (T u)).mp ⟨u, hu, rfl⟩
   rw [<- m2] at h1
   obtain ⟨p, p1, p2⟩ := spn_back hT h1
   have hp : Q p := spn_of hQ m3 p1
   have h2 := (b3 (p ^^^ u)).mp ⟨hQ.x _ _ hp hu, by rw [hT, p2, Nat.xor_self]⟩
   have := spn_app p1 h2
   rwa [<- Nat.xor_assoc, Nat.xor_self, Nat.zero_xor] at this
 · refine spn_of hQ (fun v hv => ?_) hu
   rcases List.mem_append.mp hv with h | h
   · exact m3 v h
   · exact (hB v h).1
theorem Dim.ker {T : Nat -> Nat} (hT : Hom T) {Q : Nat -> Prop} (hQ : Lin Q) (hb : ∀ u, Q u -> u < 2 ^ 64) {d r : Nat} (hd : Dim Q d) (hr : Dim (imG T Q) r) : r <= d /\ Dim (keG T Q) (d - r) := by
 obtain ⟨k, hk⟩ := Dim.exists (keG_lin hT hQ) fun u hu => hb u hu.1
 have := Dim.uniq hd (Dim.rank hT hQ hr hk)
 refine ⟨by omega, ?_⟩
 rw [show d - r = k by omega]; exact hk
def mask (f : Nat -> Bool) : Nat -> Nat
 | 0 => 0
 | k + 1 => if f k then mask f k ||| 2 ^ k else mask f k
theorem mask_bit (f : Nat -> Bool) (j : Nat) : ∀ k, (mask f k).testBit j = (decide (j < k) && f j)
 | 0 => by simp [mask]
 | k + 1 => by
   have ih := mask_bit f j k
   rw [mask]
   by_cases e : j = k
   · subst e
     cases hf : f j with
     | true => rw [if_pos rfl, Nat.testBit_or, ih, Nat.testBit_two_pow]; simp
     | false => rw [if_neg (by simp), ih]; simp [hf]
   · have h1 : (j < k + 1) = (j < k) := by rw [eq_iff_iff]; omega
     simp only [h1]
     split
     · rw [Nat.testBit_or, ih, Nat.testBit_two_pow, decide_eq_false (show ¬ k = j by omega), Bool.or_false]
     · exact ih
theorem mask_lt (f : Nat -> Bool) : ∀ k, mask f k < 2 ^ k
 | 0 => by rw [mask]; decide
 | k + 1 => by
   have := mask_lt f k
   rw [mask]; split
   · exact Nat.or_lt_two_pow (by rw [Nat.pow_succ]; omega) (Nat.pow_lt_pow_right (by decide) (by omega))
   · rw [Nat.pow_succ]; omega
/-- All numbers with bits where F holds: as many dimensions. -/
theorem Dim.supp (F : Nat -> Bool) : ∀ m, Dim (fun u => u < 2 ^ m /\ ∀ j, u.testBit j = true -> F j = true) (cN F m)
 | 0 => ⟨[], rfl, trivial, fun u => ⟨fun h => by have := h.1; show u = 0; omega, fun h => by rw [show u = 0 from h]; exact ⟨by decide, fun j hj => by simp at hj⟩⟩⟩
 | m + 1 => by
   obtain ⟨L, l1, l2, l3⟩ := Dim.supp F m
   have hlt : ∀ u, u < 2 ^ m -> u < 2 ^ (m + 1) := fun u h => by rw [Nat.pow_succ]; omega
   rw [cN]
   cases hF : F m with
   | false =>
     refine ⟨L, by rw [l1]; simp, l2, fun u => ⟨fun ⟨h1, h2⟩ => (l3 u).mp ⟨lt_bit h1 ?_, h2⟩, fun h => ?_⟩⟩
     · cases e : u.testBit m with
       | false => rfl
       | true => rw [h2 m e] at hF; cases hF
     · obtain ⟨h1, h2⟩ := (l3 u).mpr h
       exact ⟨hlt u h1, h2⟩
   | true =>
     have hbit : (2 ^ m).testBit m = true := by simp
     have hno : ∀ u, spn L u -> u.testBit m = false := fun u hu => Nat.testBit_lt_two_pow ((l3 u).mpr hu).1
     refine ⟨2 ^ m :: L, by rw [List.length_cons, l1]; simp, ⟨(fun h => by rw [hno _ h] at hbit; cases hbit), l2⟩, fun u => ⟨fun ⟨h1, h2⟩ => ?_, fun h => ?_⟩⟩
     · cases e : u.testBit m with
       | false => exact .inl ((l3 u).mp ⟨lt_bit h1 e, h2⟩)
       | true =>
         refine .inr ((l3 _).mp ⟨lt_bit (Nat.xor_lt_two_pow h1 (Nat.pow_lt_pow_right (by decide) (by omega))) (bit_xor_self e hbit), fun j hj => ?_⟩)
         rw [Nat.testBit_xor, Nat.testBit_two_pow] at hj
         by_cases ej : m = j
         · rw [<- ej]; exact hF
         · rw [decide_eq_false ej, Bool.xor_false] at hj; exact h2 j hj
     · rcases h with h | h
       · obtain ⟨h1, h2⟩ := (l3 u).mpr h
         exact ⟨hlt u h1, h2⟩
       · obtain ⟨h1, h2⟩ := (l3 _).mpr h
         have e : u = (u ^^^ 2 ^ m) ^^^ 2 ^ m := (xcc u _).symm
         rw [e]
         refine ⟨Nat.xor_lt_two_pow (hlt _ h1) (Nat.pow_lt_pow_right (by decide) (by omega)), fun j hj => ?_⟩
         rw [Nat.testBit_xor (u ^^^ 2 ^ m), Nat.testBit_two_pow] at hj
         by_cases ej : m = j
         · rw [<- ej]; exact hF
         · rw [decide_eq_false ej, Bool.xor_false] at hj; exact h2 j hj
/-- What the rows below 64 span. -/
def rowS (M : Nat -> Nat -> Bool) : List Nat := (List.range 64).map fun a => mask (M a) 64
theorem rowS_mem {M : Nat -> Nat -> Bool} {a : Nat} (h : a < 64) : mask (M a) 64 ∈ rowS M := List.mem_map.mpr ⟨a, List.mem_range.mpr h, rfl⟩
theorem mask_ext {f g : Nat -> Bool} : ∀ {k : Nat}, (∀ x, x < k -> f x = g x) -> mask f k = mask g k
 | 0, _ => rfl
 | k + 1, h => by rw [mask, mask, h k (by omega), mask_ext fun x hx => h x (by omega)]
theorem mask_xor (f g : Nat -> Bool) (k : Nat) : mask f k ^^^ mask g k = mask (fun x => f x != g x) k := by
 apply Nat.eq_of_testBit_eq
 intro i
 rw [Nat.testBit_xor, mask_bit, mask_bit, mask_bit]
 cases decide (i < k) <;> cases f i <;> cases g i <;> rfl
def spnDec : ∀ (t : List Nat) (u : Nat), Decidable (spn t u)
 | [], u => inferInstanceAs (Decidable (u = 0))
 | v :: t, u => match spnDec t u, spnDec t (u ^^^ v) with
   | .isTrue h, _ => .isTrue (.inl h)
   | .isFalse _, .isTrue h => .isTrue (.inr h)
   | .isFalse h, .isFalse h' => .isFalse fun hh => hh.elim h h'
instance (t : List Nat) (u : Nat) : Decidable (spn t u) := spnDec t u
/-- The columns are sums of as many vectors as the rows. -/
theorem col_span : ∀ (L : List Nat) (ρ : Nat -> Nat), (∀ a, a < 64 -> spn L (ρ a)) -> ∃ N : List Nat, N.length = L.length /\ ∀ b, spn N (mask (fun a => (ρ a).testBit b) 64)
 | [], ρ, h => ⟨[], rfl, fun b => by
   rw [mask_ext (g := fun _ => false) fun x hx => by rw [show ρ x = 0 from h x hx]; simp]
   show mask (fun _ => false) 64 = 0
   decide⟩
 | v :: t, ρ, h => by
   obtain ⟨N, h1, h2⟩ := col_span t (fun a => if spn t (ρ a) then ρ a else ρ a ^^^ v) fun a ha => by
     by_cases e : spn t (ρ a)
     · simp only [e, if_true]
     · simp only [e, if_false]; exact (h a ha).resolve_left e
   refine ⟨mask (fun a => decide (¬ spn t (ρ a))) 64 :: N, by rw [List.length_cons, List.length_cons, h1], fun b => ?_⟩
   have hb := h2 b
   cases hv : v.testBit b with
   | false =>
     refine .inl ?_
     rw [mask_ext (g := fun a => (if spn t (ρ a) then ρ a else ρ a ^^^ v).testBit b) fun x _ => by
       by_cases e : spn t (ρ x)
       · simp only [e, if_true]
       · simp only [e, if_false]; rw [Nat.testBit_xor, hv, Bool.xor_false]]
     exact hb
   | true =>
     refine .inr ?_
     rw [mask_xor, mask_ext (g := fun a => (if spn t (ρ a) then ρ a else ρ a ^^^ v).testBit b) fun x _ => by
       by_cases e : spn t (ρ x)
       · simp [e]
       · simp [e, hv]]
     exact hb
theorem rowcol {M : Nat -> Nat -> Bool} {d e : Nat} (h1 : Dim (spn (rowS M)) d) (h2 : Dim (spn (rowS fun a b => M b a)) e) : e <= d := by
 obtain ⟨L, l1, l2, l3⟩ := h1
 obtain ⟨K, k1, k2, k3⟩ := h2
 obtain ⟨N, n1, n2⟩ := col_span L (fun a => mask (M a) 64) fun a ha => (l3 _).mp (spn_mem (rowS_mem ha))
 have hsp : ∀ v ∈ rowS (fun a b => M b a), spn N v := fun v hv => by
   obtain ⟨b, hb, rfl⟩ := List.mem_map.mp hv
   have := n2 b
   rw [mask_ext (g := fun a => M a b) fun x hx => by rw [mask_bit, decide_eq_true (List.mem_range.mp hb), Bool.true_and]] at this
   exact this
 have := ind_le (L := K) (M := N) k2 fun v hv => spn_of (spn_lin N) hsp ((k3 v).mpr (spn_mem hv))
 omega
theorem rowcol_eq {M : Nat -> Nat -> Bool} {d e : Nat} (h1 : Dim (spn (rowS M)) d) (h2 : Dim (spn (rowS fun a b => M b a)) e) : e = d :=
 Nat.le_antisymm (rowcol h1 h2) (rowcol h2 h1)
theorem rowS_dim (M : Nat -> Nat -> Bool) : ∃ d, Dim (spn (rowS M)) d := by
 refine Dim.exists (spn_lin _) fun u hu => ?_
 refine spn_of (Q := fun u => u < 2 ^ 64) ⟨by decide, fun u v hu hv => Nat.xor_lt_two_pow hu hv⟩ (fun v hv => ?_) hu
 obtain ⟨a, _, rfl⟩ := List.mem_map.mp hv
 exact mask_lt _ 64
/-- The same rows span the same. -/
theorem spn_same {L N : List Nat} (h1 : ∀ v ∈ L, spn N v) (h2 : ∀ v ∈ N, spn L v) : ∀ u, spn L u ↔ spn N u :=
 fun _ => ⟨spn_of (spn_lin N) h1, spn_of (spn_lin L) h2⟩
/-- Other names for the rows. -/
theorem row_perm {M : Nat -> Nat -> Bool} {c : Nat -> Nat} (hc : ∀ a, a < 64 -> c a < 64) (hcc : ∀ a, a < 64 -> c (c a) = a) {d : Nat} (h : Dim (spn (rowS M)) d) : Dim (spn (rowS fun a b => M (c a) b)) d := by
 refine h.congr (spn_same (fun v hv => ?_) fun v hv => ?_)
 · obtain ⟨a, ha, rfl⟩ := List.mem_map.mp hv
   have ha := List.mem_range.mp ha
   have := rowS_mem (M := fun a b => M (c a) b) (hc a ha)
   simp only [hcc a ha] at this
   exact spn_mem this
 · obtain ⟨a, ha, rfl⟩ := List.mem_map.mp hv
   exact spn_mem (rowS_mem (M := M) (hc a (List.mem_range.mp ha)))
/-- A matrix turned over, with other names for rows and columns. -/
theorem turned {M : Nat -> Nat -> Bool} {c : Nat -> Nat} (hc : ∀ a, a < 64 -> c a < 64) (hcc : ∀ a, a < 64 -> c (c a) = a) {d : Nat} (h : Dim (spn (rowS M)) d) : Dim (spn (rowS fun a b => M (c b) (c a))) d := by
 obtain ⟨e, he⟩ := rowS_dim fun a b => M (c b) (c a)
 have h1 := row_perm hc hcc h
 obtain ⟨f, hf⟩ := rowS_dim fun a b => M (c b) a
 have e1 := rowcol_eq h1 hf
 have h2 := row_perm hc hcc hf
 rw [<- e1]
 exact h2
end Go.Am.Sh

/- Shells: McMullen's law. -/
namespace Go.Am.Sh
open Go Go.Am Go.Proofs
def s9 (p t : List Int) (i : Nat) : St := ⟨dd 10 ++ .sl I64 (hsL p) :: .dead :: .sl I64 t :: .dead :: .own 0 0 :: .int .i64 i :: dd 92, [.sc 0 3 I64 (cntL t (mxL p).toNat i)]⟩
def ex9 (p t : List Int) : List (List Nat × Ex) := [([10, 14], ⟨0, Unit, fun _ => True, fun _ => ⟨dd 10 ++ .sl I64 (hsL p) :: dd 3 ++ .own 0 0 :: dd 93, [.sc 0 3 I64 (cntL t (mxL p).toNat t.length)]⟩⟩)]
def h9 (p t : List Int) : Hint := ⟨chk 0 [10, 12, 14, 15] (fun i => i <= t.length) (s9 p t), (ex9 p t).map (·.2)⟩
structure ok9 (p t : List Int) : Prop where
 hl : t.length <= 10
 hh : (hsL p).length = (mxL p).toNat + 1
 ht : ∀ i, i < t.length -> (0 <= t.getD i 0 /\ t.getD i 0 < 64) /\ pc (t.getD i 0).toNat <= (mxL p).toNat
end Go.Am.Sh

/- Shells: the law of the hollows. -/
namespace Go.Am.Sh
open Go Go.Am Go.Proofs
def lnOk (p : List Int) (f : Int) : Prop := 0 <= f /\ f < 64 /\ isF p f.toNat = true
instance (p : List Int) (f : Int) : Decidable (lnOk p f) := by unfold lnOk; infer_instance
def s6 (n : Int) (p : List Int) (x : Int × Nat) : St := ⟨dd 2 ++ .int .i64 x.1 :: dd 4 ++ .int .i64 n :: .sl I64 p :: dd 2 ++ .int .i64 x.2 :: dd 140, []⟩
def in6 (x : Int × Nat) : Prop := x.2 <= 2
def ex6 (n : Int) (p : List Int) : List (List Nat × Ex) := [([7, 8], ⟨0, Unit, fun _ => True, fun _ => ⟨dd 7 ++ .int .i64 n :: .sl I64 p :: dd 143, []⟩⟩)]
def fm6 (n : Int) (p : List Int) : List Fam := [⟨Int × Nat, in6, s6 n p, fun x => 2 - x.2, fun _ _ => none⟩]
def h6 (n : Int) (p : List Int) : Hint := ⟨chks 0 [2, 7, 8, 11] (fm6 n p), (ex6 n p).map (·.2)⟩
end Go.Am.Sh

/- Shells: functions whose results are new memory. -/
namespace Go.Am.Sh
open Go Go.Am Go.Proofs
end Go.Am.Sh

/- Shells: own results are written over. -/
namespace Go.Am.Sh
open Go Go.Am Go.Proofs
end Go.Am.Sh

/- Shells: the law of the own results. -/
namespace Go.Am.Sh
open Go Go.Am Go.Proofs
end Go.Am.Sh

/- Shells: what can be taken away; Left. -/
namespace Go.Am.Sh
open Go Go.Am Go.Proofs
/-- Two faces can be taken away. -/
def canN (g : Nat -> Bool) (a b k : Nat) : Prop := ∀ x, x < k -> g x = true -> sub a x = true -> x = a ∨ x = b
instance (g a b k) : Decidable (canN g a b k) := by unfold canN; infer_instance
def canP (g : Nat -> Bool) (a b : Int) : Prop := (1 <= a /\ a < 64) /\ (1 <= b /\ b < 64) /\ g a.toNat = true /\ g b.toNat = true /\ sub a.toNat b.toNat = true /\ pc b.toNat = pc a.toNat + 1 /\ canN g a.toNat b.toNat 64
instance (g a b) : Decidable (canP g a b) := by unfold canP; infer_instance
def canR (g : Nat -> Bool) (a b : Int) : Bool := decide (canP g a b)
theorem pc_le6 : ∀ x : Fin 64, pc x.val <= 6 := by decide +kernel
noncomputable def L79_0 : Code := lp (bodyOf Try.f79) 0
def pr (a b : Int) : AV := .agg [.int .i64 a, .int .i64 b]
def st79 (xs : List Bool) (a b : Int) (k : Nat) : St := ⟨dd 3 ++ .ptr 0 0 [] :: dd 53 ++ .ar .bool 64 xs :: .int .i64 k :: dd 24, [.bx (pr a b)]⟩
def in79 (xs : List Bool) (a b : Int) (k : Nat) : Prop := k <= 64 /\ canN (gB xs) a.toNat b.toNat k
def ex79 (xs : List Bool) (a b : Int) : List (List Nat × Ex) := [([], ⟨0, Unit, fun _ => canN (gB xs) a.toNat b.toNat 64, fun _ => ⟨dd 83, []⟩⟩)]
def h79 (xs : List Bool) (a b : Int) : Hint := ⟨chk 0 [3, 57, 58] (in79 xs a b) (st79 xs a b), (ex79 xs a b).map (·.2)⟩
noncomputable abbrev X79 : Cy := X [e64]
noncomputable def R79 (xs : List Bool) (a b : Int) : Exit -> St -> Prop := RetR X79 true false [.tmp 4] [.bool (canR (gB xs) a b)] []
structure ok79 (xs : List Bool) (a b : Int) : Prop where
 hl : xs.length = 64
 ha : 1 <= a /\ a < 64
 hb : 1 <= b /\ b < 64
 hga : gB xs a.toNat = true
 hgb : gB xs b.toNat = true
 hs : sub a.toNat b.toNat = true
 hp : pc b.toNat = pc a.toNat + 1
theorem loop79 (xs : List Bool) (a b : Int) (h : ok79 xs a b) : LoopOK X79 L79_0 (h79 xs a b) (R79 xs a b) := by
 refine loop_ok (X_ok _) (H := fun _ _ => none) [3, 57, 58] (in79 xs a b) (st79 xs a b) (fun k => 64 - k) (ex79 xs a b) 150 fun (k : Nat) hk => ?_
 refine of_eq (q := (fun (e : Int) => (fun (d : Prop) => (fun (c : Prop) => d /\ (e < 64 -> d /\ idxPre e (64 : Nat) /\ d /\ d /\ d /\ d /\ (xs.getD k false = true -> d /\ d /\ d /\ d /\ d /\ d /\ (¬e = a -> d /\ d /\ d /\ d /\ d /\ d /\ (¬e = b -> d /\ d /\ d /\ d /\ d /\ d /\ (bNot .i64 a e = 0 -> d /\ d /\ (false = canR (gB xs) a b /\ d) /\ d) /\ (¬bNot .i64 a e = 0 -> c)) /\ (¬¬e = b -> d /\ c)) /\ (¬¬e = a -> d /\ d /\ d /\ c)) /\ (xs.getD k false = false -> d /\ d /\ d /\ d /\ d /\ c)) /\ (¬e < 64 -> ∃ (y : Unit), canN (gB xs) a.toNat b.toNat (64 : Nat) /\ d /\ d)) (inR .i64 (e + 1) /\ d /\ ∃ (y : Nat), (in79 xs a b y /\ (64 : Nat) - y < 64 - k) /\ (d /\ xs = xs /\ e + 1 = (y : Int) /\ d) /\ (a = a /\ b = b /\ d) /\ d)) (True)) ((k : Int))) (by kernel_rfl) ?_
 simp only [zz]
 obtain ⟨k1, k2⟩ := hk
 have hla := h.ha
 have hlb := h.hb
 have hF : ∀ x : Nat, x < 64 -> (bNot .i64 a x = 0 ↔ sub a.toNat x = true) := fun x hx => by
   have h1 := sub_mns ⟨a.toNat, by omega⟩ ⟨x, hx⟩
   simp only at h1
   have h2 := bNot_nat (a := a.toNat) (b := x) (by omega) (by omega)
   rw [Int.toNat_of_nonneg (by omega)] at h2
   rw [h2, <- h1]; omega
 have hn : k < 64 -> (gB xs k = true -> sub a.toNat k = true -> k = a.toNat ∨ k = b.toNat) -> inR .i64 ((k : Int) + 1) /\ ∃ y : Nat, (in79 xs a b y /\ 64 - y < 64 - k) /\ (k : Int) + 1 = (y : Int) := fun hk hh => ⟨by simp only [inR]; omega, k + 1, ⟨⟨by omega, fun x hx => by
   by_cases e : x = k
   · subst e; exact hh
   · exact k2 x (by omega)⟩, by omega⟩, by omega⟩
 refine ⟨fun hk => ⟨by unfold idxPre; omega, fun hg => ⟨fun h1 => ⟨fun h2 => ⟨fun h3 => ?_, fun h3 => hn (by omega) fun _ hs => absurd ((hF k (by omega)).mpr hs) h3⟩, fun h2 => hn (by omega) fun _ _ => .inr (by omega)⟩, fun h1 => hn (by omega) fun _ _ => .inl (by omega)⟩, fun hg => hn (by omega) fun hg2 => ?_⟩, fun hk => by rwa [show k = 64 by omega] at k2⟩
 · refine (decide_eq_false fun hc => ?_).symm
   obtain ⟨_, _, _, _, _, _, h6⟩ := hc
   rcases h6 k (by omega) hg ((hF k (by omega)).mp h3) with h7 | h7 <;> omega
 · unfold gB at hg2; rw [hg] at hg2; cases hg2
theorem call79 (xs : List Bool) (a b : Int) (hl : xs.length = 64) : GCall Try.prog gl 79 true [.ar .bool 64 xs, pr a b] [] [.bool (canR (gB xs) a b)] [] := by
 have hL := fun h => loop79 xs a b h
 refine gcall_of (X := X79) ((X_ok _)) (f := 79) (fn := Try.f79) (c := bodyOf Try.f79) (by kernel_rfl) (by kernel_rfl) (view := false) (rvs := [.tmp 4]) (by kernel_rfl) (H := (fun _ => some (h79 xs a b))) 250 (by kernel_rfl) ?_
 refine of_eq (q := (fun (k : Int) => (fun (h : Prop) => (fun (g : Int) => (fun (f : Int) => (fun (j : Prop) => (fun (d : Prop) => (fun (c : Prop) => (fun (i : Prop) => (fun (e : Prop) => d /\ d /\ d /\ d /\ d /\ d /\ d /\ (a < k -> d /\ d /\ d /\ d /\ d /\ d /\ e) /\ (¬a < k -> d /\ d /\ d /\ d /\ d /\ (g <= a -> d /\ d /\ d /\ d /\ e) /\ (¬g <= a -> d /\ d /\ d /\ d /\ d /\ (g <= b -> d /\ d /\ e) /\ (¬g <= b -> d /\ d /\ d /\ d /\ d /\ (b < k -> e) /\ (¬b < k -> d /\ d /\ idxPre a (64 : Nat) /\ d /\ d /\ d /\ d /\ ((!xs.getD a.toNat false) = true -> d /\ d /\ i) /\ ((!xs.getD a.toNat false) = false -> d /\ d /\ idxPre b (64 : Nat) /\ d /\ d /\ d /\ d /\ ((!xs.getD b.toNat false) = true -> i) /\ ((!xs.getD b.toNat false) = false -> d /\ d /\ d /\ d /\ d /\ d /\ d /\ d /\ (h -> d /\ c) /\ (¬h -> d /\ d /\ ((0 : Int) <= b /\ b < g) /\ d /\ d /\ ((0 : Int) <= a /\ a < g) /\ inR .i64 f /\ d /\ d /\ (j -> c) /\ (¬j -> d /\ d /\ LoopOK X79 L79_0 (h79 xs a b) (R79 xs a b) /\ (∃ (y : Nat), in79 xs a b y /\ (d /\ xs = xs /\ (0 : Int) = (y : Int) /\ d) /\ (a = a /\ b = b /\ d) /\ d) /\ (∀ (y : Unit), canN (gB xs) a.toNat b.toNat (64 : Nat) -> d /\ d /\ (true = canR (gB xs) a b /\ d) /\ d) /\ d))))))))) (d /\ d /\ d /\ d /\ i)) (d /\ d /\ d /\ c)) (d /\ d /\ (false = canR (gB xs) a b /\ d) /\ d)) (True)) (¬(↑(pc b.toNat) : Int) = f)) ((↑(pc a.toNat) : Int) + k)) ((64 : Int))) (¬bNot .i64 a b = 0)) ((1 : Int))) (by kernel_rfl) ?_
 simp only [zz]
 have hno : ¬ canP (gB xs) a b -> false = canR (gB xs) a b := fun h => (decide_eq_false h).symm
 have hF : 1 <= a /\ a < 64 -> 1 <= b /\ b < 64 -> (bNot .i64 a b = 0 ↔ sub a.toNat b.toNat = true) := fun ha hb => by
   have h1 := sub_mns ⟨a.toNat, by omega⟩ ⟨b.toNat, by omega⟩
   simp only at h1
   have h2 := bNot_nat (a := a.toNat) (b := b.toNat) (by omega) (by omega)
   rw [Int.toNat_of_nonneg (by omega), Int.toNat_of_nonneg (by omega)] at h2
   rw [h2, <- h1]; omega
 have hg : ∀ x : Nat, gB xs x = xs.getD x false := fun _ => rfl
 refine ⟨fun h => hno fun hc => by have := hc.1; omega, fun h1 => ⟨fun h => hno fun hc => by have := hc.1; omega, fun h2 => ⟨fun h => hno fun hc => by have := hc.2.1; omega, fun h3 => ⟨fun h => hno fun hc => by have := hc.2.1; omega, fun h4 => ?_⟩⟩⟩⟩
 have hF := hF ⟨by omega, by omega⟩ ⟨by omega, by omega⟩
 refine ⟨by unfold idxPre; omega, fun h => hno fun hc => ?_, fun h5 => ⟨by unfold idxPre; omega, fun h => hno fun hc => ?_, fun h6 => ⟨fun h => hno fun hc => h (hF.mpr hc.2.2.2.2.1), fun h7 => ⟨by omega, by omega, ?_, fun h => hno fun hc => h (by have := hc.2.2.2.2.2.1; omega), fun h8 => ?_⟩⟩⟩⟩
 · have := hc.2.2.1; rw [hg] at this; rw [this] at h; cases h
 · have := hc.2.2.2.1; rw [hg] at this; rw [this] at h; cases h
 · have := pc_le6 ⟨a.toNat, by omega⟩
   simp only at this
   simp only [inR]; omega
 · have hok : ok79 xs a b := ⟨hl, ⟨by omega, by omega⟩, ⟨by omega, by omega⟩, by rw [hg]; simpa using h5, by rw [hg]; simpa using h6, hF.mp (Classical.not_not.mp h7), by have := Classical.not_not.mp h8; omega⟩
   exact ⟨hL hok, ⟨0, ⟨by omega, fun x hx => absurd hx (Nat.not_lt_zero _)⟩, rfl⟩, fun _ hc => (decide_eq_true ⟨hok.ha, hok.hb, hok.hga, hok.hgb, hok.hs, hok.hp, hc⟩).symm⟩
def get79 (xs : List AV) (_ : List Ob) : Option (List Bool × Int × Int) :=
 match xs with
 | [.ar e _ ys, .agg [.int .i64 a, .int .i64 b]] => (castL e .bool ys).map fun ys => (ys, a, b)
 | _ => none
def e79 : Entry Try.prog gl := entryW 79 ⟨Try.f79, by kernel_rfl, by kernel_rfl, by kernel_rfl⟩ false get79 (fun x => x.1.length = 64) true (fun x => [.ar .bool 64 x.1, pr x.2.1 x.2.2]) (fun _ => []) (fun x => [.bool (canR (gB x.1) x.2.1 x.2.2)]) (fun _ => []) (fun x h => call79 _ _ _ h)
end Go.Am.Sh

/- Shells: the search for collapses, as it lies. -/
namespace Go.Am.Sh
open Go Go.Am Go.Proofs
abbrev Fs := List Bool
abbrev LP := List (Int × Int)
abbrev MF := List (List Bool × Bool)
abbrev RC := Bool × Fs × LP × MF
def mgF (m : MF) (xs : Fs) : Bool := (mGet FA m xs).getD false
def mpF (m : MF) (xs : Fs) : MF := mPut FA m xs true
def tk (xs : Fs) (a b : Nat) : Fs := (xs.set a false).set b false
def pA (i : Nat) : Nat := i / 6
def pB (i : Nat) : Nat := i / 6 ||| 2 ^ (i % 6)
/-- Candidate i is a pair that can be taken away. -/
def cnd (xs : Fs) (i : Nat) : Bool := gB xs (pA i) && !decide (pB i = pA i) && canR (gB xs) (pA i) (pB i)
def prI (a b : Nat) : Int × Int := ((a : Int), (b : Int))
/-- The first candidates, until one comes to an end. -/
def lpC (xs : Fs) (f : Fs -> LP -> MF -> RC) (l : LP) (m : MF) : Nat -> RC
 | 0 => (false, xs, l, m)
 | i + 1 => if (lpC xs f l m i).1 = true ∨ cnd xs i = false then lpC xs f l m i else
     if (f (tk xs (pA i) (pB i)) (l ++ [prI (pA i) (pB i)]) (lpC xs f l m i).2.2.2).1 = true then f (tk xs (pA i) (pB i)) (l ++ [prI (pA i) (pB i)]) (lpC xs f l m i).2.2.2
     else (false, xs, l, (f (tk xs (pA i) (pB i)) (l ++ [prI (pA i) (pB i)]) (lpC xs f l m i).2.2.2).2.2.2)
def nC : Nat := 384
/-- The search, with fewer than 2 n faces. -/
def flK (K : Nat) : Nat -> Fs -> LP -> MF -> RC
 | 0, xs, l, m => (false, xs, l, m)
 | n + 1, xs, l, m => if (trueN (gB xs) 64).length = 2 then (true, xs, l, m) else if mgF m xs = true then (false, xs, l, m) else
     if (lpC xs (flK K n) l m K).1 = true then lpC xs (flK K n) l m K else (false, xs, l, mpF (lpC xs (flK K n) l m K).2.2.2 xs)
def fl : Nat -> Fs -> LP -> MF -> RC := flK nC
theorem lpC_stop {xs : Fs} {f : Fs -> LP -> MF -> RC} {l : LP} {m : MF} {k : Nat} (h : (lpC xs f l m k).1 = true) : ∀ j, lpC xs f l m (k + j) = lpC xs f l m k
 | 0 => rfl
 | j + 1 => by rw [show k + (j + 1) = k + j + 1 by omega, lpC, lpC_stop h j, if_pos (.inl h)]
theorem flK_list {K n : Nat} {xs : Fs} {l : LP} {m : MF} (h : (flK K n xs l m).1 = false) : (flK K n xs l m).2.1 = xs /\ (flK K n xs l m).2.2.1 = l := by
 cases n with
 | zero => exact ⟨rfl, rfl⟩
 | succ n =>
   rw [flK] at h |-
   split
   · exact ⟨rfl, rfl⟩
   · rename_i h1; rw [if_neg h1] at h
     split
     · exact ⟨rfl, rfl⟩
     · rename_i h2; rw [if_neg h2] at h
       split
       · rename_i h3; rw [if_pos h3, h3] at h; cases h
       · exact ⟨rfl, rfl⟩
theorem fl_list {n : Nat} {xs : Fs} {l : LP} {m : MF} (h : (fl n xs l m).1 = false) : (fl n xs l m).2.1 = xs /\ (fl n xs l m).2.2.1 = l := flK_list h
def clo75 (a b c d : Nat) : AV := .clo 75 [] [.ptr a 0 [], .ptr b 0 [], .ptr c 0 [], .ptr d 0 []]
def mF (m : MF) : Ob := .mo FA .bool m
def gC (v : Nat) (xs : Fs) (l : LP) (m : MF) : List Ob := [.bx (.ar .bool 64 xs), .bx (.mp 2), mF m, .bx (.own 4 v), .sc v 62 P2 l, .bx (clo75 0 1 3 5)]
def aC : List AV := [.ptr 0 0 [], .ptr 1 0 [], .ptr 3 0 [], .ptr 5 0 []]
structure pre75 (n : Nat) (xs : Fs) (l : LP) : Prop where
 hl : xs.length = 64
 hc : cN (gB xs) 64 < 2 * n
 hn : l.length + n <= 40
def GC (n : Nat) : Prop := ∀ (xs : Fs) (l : LP) (m : MF), pre75 n xs l -> GCall Try.prog gl 75 false aC (gC 0 xs l m) [.bool (fl n xs l m).1] (gC 1 (fl n xs l m).2.1 (fl n xs l m).2.2.1 (fl n xs l m).2.2.2)
def unMF : Ob -> Option MF
 | .mo k v m => (if h : k = FA /\ v = .bool then some (by obtain ⟨rfl, rfl⟩ := h; exact m) else none)
 | _ => none
def unLP : Ob -> Option LP
 | .sc _ _ e xs => castL e P2 xs
 | _ => none
abbrev G3 := Fs × LP × MF
def get75 (_ : List AV) (obs : List Ob) : Option G3 :=
 match unFa (obs.getD 0 .gone), unLP (obs.getD 4 .gone), unMF (obs.getD 2 .gone) with
 | some xs, some l, some m => some (xs, l, m)
 | _, _, _ => none
def e75S (n : Nat) (h : GC n) : Entry Try.prog gl := entryW 75 ⟨Try.f75, by kernel_rfl, by kernel_rfl, by kernel_rfl⟩ true get75 (fun x => pre75 n x.1 x.2.1) false (fun _ => aC) (fun x => gC 0 x.1 x.2.1 x.2.2) (fun x => [.bool (fl n x.1 x.2.1 x.2.2).1])
 (fun x => gC 1 (fl n x.1 x.2.1 x.2.2).2.1 (fl n x.1 x.2.1 x.2.2).2.2.1 (fl n x.1 x.2.1 x.2.2).2.2.2) (fun x hx => h _ _ x.2.2 hx)
noncomputable def C75 : RcC := rcC [0, 2, 3, 4] Try.f75
def rc75 : AV := .clo 0 [.ptr 1 0 [], .ptr 2 0 [], .ptr 4 0 [], .ptr 7 0 []] []
noncomputable def yC (v : Nat) (s : LoopState) (j : Option Code) (xs : Fs) (l : LP) (m : MF) (b : Bool) : List Ob := [.lp C75 s j rc75, .bx (.ar .bool 64 xs), .bx (.own 3 v), .sc v 62 P2 l, .bx (clo75 1 5 2 4), .bx (.mp 6), mF m, .bx (.bool b)]
def sC (b : Bool) : LoopState := if b then .done else .ready
def jC (b : Bool) : Option Code := if b then some .ret else none
def pC (b : Bool) {α : Type} (x y : α) : α := if b then x else y
structure preY (n : Nat) (xs : Fs) (l : LP) (a b : Nat) : Prop where
 hl : xs.length = 64
 hc : cN (gB xs) 64 < 2 * (n + 1)
 hn : l.length + (n + 1) <= 40
 hk : canR (gB xs) a b = true
def rY (n : Nat) (xs : Fs) (l : LP) (m : MF) (a b : Nat) : RC := fl n (tk xs a b) (l ++ [prI a b]) m
def YC (n : Nat) : Prop := ∀ (xs : Fs) (l : LP) (m : MF) (a b : Nat), preY n xs l a b -> GYield Try.prog gl false [.yld 0, pr a b] (yC 0 .ready none xs l m false) [.bool (!(rY n xs l m a b).1)]
 (yC 1 (sC (rY n xs l m a b).1) (jC (rY n xs l m a b).1) (pC (rY n xs l m a b).1 (rY n xs l m a b).2.1 xs) (pC (rY n xs l m a b).1 (rY n xs l m a b).2.2.1 l) (rY n xs l m a b).2.2.2 (rY n xs l m a b).1)
noncomputable def Xyb (l : EL) (yl : List (YEntry Try.prog gl)) (ro : Option Nat) (m0 : Nat) (bs : List Nat) (dr : Nat -> Option Nat) : Cy := { mkY Try.prog tt gl l yl ro m0 dr with bs := bs }
theorem Xyb_ok (l : EL) (yl : List (YEntry Try.prog gl)) (ro : Option Nat) (m0 : Nat) (bs : List Nat) (dr : Nat -> Option Nat) : (Xyb l yl ro m0 bs dr).Ok := (mkY_ok tt_ok l yl ro m0 dr).bump bs
theorem cN_off {g g' : Nat -> Bool} {a : Nat} (h : ∀ x, g' x = if x = a then false else g x) (hg : g a = true) : ∀ {m : Nat}, a < m -> cN g' m + 1 = cN g m
 | 0, ha => absurd ha (Nat.not_lt_zero _)
 | m + 1, ha => by
   rw [cN, cN]
   by_cases e : a = m
   · subst e
     rw [cN_ext (f := g') (g := g) fun x hx => by rw [h, if_neg (by omega)], h, if_pos rfl, hg]
     simp
   · have ih := cN_off h hg (m := m) (by omega)
     have hm : g' m = g m := by rw [h, if_neg (fun e2 => e e2.symm)]
     rw [hm, <- ih]
     omega
theorem gB_set {xs : Fs} {a x : Nat} (ha : a < xs.length) : gB (xs.set a false) x = if x = a then false else gB xs x := by
 unfold gB
 rw [List.getD_eq_getElem?_getD, List.getElem?_set]
 by_cases e : a = x
 · subst e; simp [ha]
 · rw [if_neg e, if_neg (fun e2 => e e2.symm)]; try rfl
theorem tk_cN {xs : Fs} {a b : Nat} (hl : xs.length = 64) (h : canR (gB xs) a b = true) : cN (gB (tk xs a b)) 64 + 2 = cN (gB xs) 64 /\ (a < 64 /\ b < 64) /\ (tk xs a b).length = 64 := by
 have hP : canP (gB xs) a b := of_decide_eq_true h
 obtain ⟨h1, h2, h3, h4, h5, h6, _⟩ := hP
 rw [Int.toNat_natCast] at h3 h5 h6
 rw [Int.toNat_natCast] at h4 h5 h6
 have hab : b ≠ a := fun e => by rw [e] at h6; omega
 have e1 := cN_off (fun x => gB_set (xs := xs) (a := a) (x := x) (by omega)) h3 (m := 64) (by omega)
 have e2 := cN_off (fun x => gB_set (xs := xs.set a false) (a := b) (x := x) (by rw [List.length_set]; omega)) (by rw [gB_set (by omega), if_neg hab]; exact h4) (m := 64) (by omega)
 refine ⟨by unfold tk; omega, ⟨by omega, by omega⟩, by unfold tk; rw [List.length_set, List.length_set]; exact hl⟩
noncomputable abbrev XyC (n : Nat) (h : GC n) : Cy := Xyb [e75S n h] [] (some 0) 8 [3] (drOf [(8, 1000000)])
theorem yC_of (n : Nat) (h : GC n) : YC n := by
 intro xs l m a b hp
 refine gyield_of (X := XyC n h) (Xyb_ok _ _ _ _ _ _) (C := C75) (j := none) (vs := [.ptr 1 0 [], .ptr 2 0 [], .ptr 4 0 [], .ptr 7 0 []]) (xs := [pr a b]) (view := false) (by kernel_rfl) (by kernel_rfl) (by kernel_rfl) (H := fun _ => none) 120 120 ?_
 refine of_eq (q := (fun (p : Int) => (fun (o : Int) => (fun (h : List Bool) => (fun (g : Prop) => (fun (f : RC) => (fun (r : Bool) => (fun (e : Prop) => (fun (s : Prop) => (fun (i : Prop) => (fun (w : Prop) => (fun (d : RC) => (fun (v : Prop) => (fun (k : Int) => (fun (t : Int) => (fun (c : Prop) => (fun (u : Prop) => (fun (q : Prop) => (fun (j : Prop) => e /\ e /\ e /\ e /\ e /\ ((e /\ (e /\ j /\ (g /\ (e /\ (e /\ c) /\ u) /\ (e /\ u) /\ e) /\ e) /\ (e /\ j /\ q) /\ e) /\ (e /\ (e /\ j /\ q) /\ (e /\ q) /\ e) /\ e) /\ e /\ e /\ e /\ e /\ e /\ e /\ e /\ sumPre (List.length l) [(p, o)].length (nat_lit 16) /\ e /\ e /\ ((pre75 n h (l ++ [(p, o)]) /\ i /\ h = h /\ e /\ m = m /\ e /\ l ++ [(p, o)] = l ++ [(p, o)] /\ w /\ e) /\ e /\ w) /\ (d.fst = true -> e /\ (false = !r /\ e) /\ (C75 = C75 /\ sC r = LoopState.done /\ jC r = some Code.ret /\ i /\ e) /\ d.snd.fst = pC r f.snd.fst xs /\ e /\ d.snd.snd.fst = pC r f.snd.snd.fst l /\ w /\ e /\ v /\ true = r /\ e) /\ (d.fst = false -> e /\ e /\ e /\ e /\ e /\ inR .i64 t /\ ((0 : Int) <= t /\ t <= k) /\ e /\ (true = !r /\ e) /\ (C75 = C75 /\ sC r = LoopState.ready /\ jC r = none /\ i /\ e) /\ xs = pC r f.snd.fst xs /\ e /\ List.take t.toNat d.snd.snd.fst = pC r f.snd.snd.fst l /\ w /\ e /\ v /\ false = r /\ e)) (e /\ (e /\ (g /\ c) /\ e) /\ (g /\ (e /\ c) /\ u) /\ e)) ((e /\ (e /\ (g /\ c) /\ e) /\ e) /\ e)) ((e /\ c) /\ e)) ((e /\ (idxPre o (64 : Nat) /\ (e /\ (e /\ e /\ e /\ e /\ e /\ e /\ s /\ xs = xs /\ s) /\ (C75 = C75 /\ LoopState.busy = LoopState.busy /\ (none : Option Code) = none /\ i /\ e) /\ h = h /\ e /\ l = l /\ w /\ e /\ m = m /\ false = false /\ s /\ xs = xs /\ e) /\ e) /\ e) /\ e)) (k - 1)) ((↑(List.length d.snd.snd.fst) : Int))) (d.snd.snd.snd = f.snd.snd.snd)) (fl n h (l ++ [(p, o)]) m)) (e /\ i)) (e /\ e /\ e /\ e /\ e)) (p = p /\ o = o /\ e)) (True)) (f.fst)) (rY n xs l m a b)) (idxPre p (64 : Nat))) ((List.set xs a false).set b false)) ((b : Int))) ((a : Int))) (by kernel_rfl) ?_
 simp only [zz]
 obtain ⟨hc, hab, hln⟩ := tk_cN hp.hl hp.hk
 have hn := hp.hn
 have hc2 := hp.hc
 have ha : idxPre (a : Int) 64 := by unfold idxPre; omega
 have hb : idxPre (b : Int) 64 := by unfold idxPre; omega
 have hpre : pre75 n (tk xs a b) (l ++ [prI a b]) := ⟨hln, by omega, by rw [List.length_append]; simp; omega⟩
 have hlist := fun h0 => fl_list (n := n) (xs := tk xs a b) (l := l ++ [prI a b]) (m := m) h0
 simp only [ha, hb, and_self, true_and]
 have key : ∀ r : RC, (r.1 = false -> r.2.2.1 = l ++ [prI a b]) -> (r.1 = true -> false = !r.1 /\ (sC r.1 = .done /\ jC r.1 = some .ret) /\ r.2.1 = pC r.1 r.2.1 xs /\ r.2.2.1 = pC r.1 r.2.2.1 l /\ r.2.2.2 = r.2.2.2 /\ true = r.1) /\
     (r.1 = false -> inR .i64 ((r.2.2.1.length : Int) - 1) /\ (0 <= (r.2.2.1.length : Int) - 1 /\ (r.2.2.1.length : Int) - 1 <= (r.2.2.1.length : Int)) /\ true = !r.1 /\ (sC r.1 = .ready /\ jC r.1 = none) /\ xs = pC r.1 r.2.1 xs /\ r.2.2.1.take ((r.2.2.1.length : Int) - 1).toNat = pC r.1 r.2.2.1 l /\ r.2.2.2 = r.2.2.2 /\ false = r.1) := fun r hr => by
   constructor
   · intro h0
     rw [h0]; simp [sC, jC, pC]
   · intro h0
     rw [h0, hr h0]
     refine ⟨by simp only [inR]; simp; omega, by simp; omega, ?_⟩
     simp [sC, jC, pC]
 exact ⟨by unfold sumPre; simp; omega, hpre, key _ fun h0 => (hlist h0).2⟩
end Go.Am.Sh

/- Shells: the pairs, one after the other. -/
namespace Go.Am.Sh
open Go Go.Am Go.Proofs
def getY75 (xs : List AV) (obs : List Ob) : Option (Int × Int × G3) :=
 match xs with
 | [_, .agg [.int .i64 a, .int .i64 b]] => (match unFa (obs.getD 1 .gone), unLP (obs.getD 3 .gone), unMF (obs.getD 6 .gone) with
   | some ys, some l, some m => some (a, b, ys, l, m)
   | _, _, _ => none)
 | _ => none
structure okY (n : Nat) (x : Int × Int × G3) : Prop where
 h : preY n x.2.2.1 x.2.2.2.1 x.1.toNat x.2.1.toNat
 a : 0 <= x.1
 b : 0 <= x.2.1
noncomputable def EYC (n : Nat) (h : YC n) : YEntry Try.prog gl := yentryW getY75 (okY n) false (fun x => [.yld 0, pr x.1 x.2.1]) (fun x => yC 0 .ready none x.2.2.1 x.2.2.2.1 x.2.2.2.2 false)
 (fun x => [.bool (!(rY n x.2.2.1 x.2.2.2.1 x.2.2.2.2 x.1.toNat x.2.1.toNat).1)])
 (fun x => yC 1 (sC (rY n x.2.2.1 x.2.2.2.1 x.2.2.2.2 x.1.toNat x.2.1.toNat).1) (jC (rY n x.2.2.1 x.2.2.2.1 x.2.2.2.2 x.1.toNat x.2.1.toNat).1) (pC (rY n x.2.2.1 x.2.2.2.1 x.2.2.2.2 x.1.toNat x.2.1.toNat).1 (rY n x.2.2.1 x.2.2.2.1 x.2.2.2.2 x.1.toNat x.2.1.toNat).2.1 x.2.2.1)
   (pC (rY n x.2.2.1 x.2.2.2.1 x.2.2.2.2 x.1.toNat x.2.1.toNat).1 (rY n x.2.2.1 x.2.2.2.1 x.2.2.2.2 x.1.toNat x.2.1.toNat).2.2.1 x.2.2.2.1) (rY n x.2.2.1 x.2.2.2.1 x.2.2.2.2 x.1.toNat x.2.1.toNat).2.2.2 (rY n x.2.2.1 x.2.2.2.1 x.2.2.2.2 x.1.toNat x.2.1.toNat).1) (by
   rintro ⟨a, b, xs, l, m⟩ ⟨h1, h2, h3⟩
   have := h xs l m a.toNat b.toNat h1
   simp only at h2 h3
   rw [Int.toNat_of_nonneg h2, Int.toNat_of_nonneg h3] at this
   exact this)
noncomputable abbrev X88 (n : Nat) (h : YC n) : Cy := Xyb [e79] [EYC n h] none 9 [3] (fun _ => none)
noncomputable def L88_0 : Code := lp (bodyOf Try.f88) 0
noncomputable def L88_2 : Code := lp (bodyOf Try.f88) 2
noncomputable def ob88 (w : Nat) (xs : Fs) (l : LP) (m : MF) : List Ob := yC w .ready none xs l m false ++ [.bx (.ar .bool 64 xs)]
def mI (n : Nat) (xs : Fs) (l : LP) (m : MF) (i : Nat) : MF := (lpC xs (fl n) l m i).2.2.2
noncomputable def si88 (w n : Nat) (xs : Fs) (l : LP) (m : MF) (s v : Nat) : St := ⟨.yld 0 :: .ptr 8 0 [] :: .dead :: .int .i64 s :: .bool (gB xs s) :: dd 2 ++ .ar .bool 64 xs :: .int .i64 s :: dd 3 ++ .int .i64 v :: dd 30, ob88 w xs l (mI n xs l m (6 * s + v))⟩
noncomputable def so88 (w n : Nat) (xs : Fs) (l : LP) (m : MF) (s : Nat) : St := ⟨.yld 0 :: .ptr 8 0 [] :: dd 5 ++ .ar .bool 64 xs :: .int .i64 s :: dd 34, ob88 w xs l (mI n xs l m (6 * s))⟩
def ii88 (n : Nat) (xs : Fs) (l : LP) (m : MF) (s v : Nat) : Prop := v <= 6 /\ (lpC xs (fl n) l m (6 * s + v)).1 = false
def io88 (n : Nat) (xs : Fs) (l : LP) (m : MF) (s : Nat) : Prop := s <= 64 /\ (lpC xs (fl n) l m (6 * s)).1 = false
noncomputable def fi88 (n : Nat) (xs : Fs) (l : LP) (m : MF) (s : Nat) : List Fam := [⟨Nat, ii88 n xs l m s, si88 0 n xs l m s, fun v => 6 - v, fun _ => nH⟩, ⟨Nat, ii88 n xs l m s, si88 1 n xs l m s, fun v => 6 - v, fun _ => nH⟩]
noncomputable def xi88 (n : Nat) (xs : Fs) (l : LP) (m : MF) (s : Nat) : List (List Nat × Ex) := [([0, 1, 7, 8], ⟨2, Unit, fun _ => (lpC xs (fl n) l m (6 * (s + 1))).1 = false, fun _ => ⟨.yld 0 :: .ptr 8 0 [] :: dd 5 ++ .ar .bool 64 xs :: .int .i64 s :: dd 34, ob88 0 xs l (mI n xs l m (6 * (s + 1)))⟩⟩), ([0, 1, 7, 8], ⟨2, Unit, fun _ => (lpC xs (fl n) l m (6 * (s + 1))).1 = false, fun _ => ⟨.yld 0 :: .ptr 8 0 [] :: dd 5 ++ .ar .bool 64 xs :: .int .i64 s :: dd 34, ob88 1 xs l (mI n xs l m (6 * (s + 1)))⟩⟩)]
noncomputable def hi88 (n : Nat) (xs : Fs) (l : LP) (m : MF) (s : Nat) : Hint := ⟨chks 9 [0, 1, 3, 4, 7, 8, 12] (fi88 n xs l m s), (xi88 n xs l m s).map (·.2)⟩
noncomputable def fo88 (n : Nat) (xs : Fs) (l : LP) (m : MF) : List Fam := [⟨Nat, io88 n xs l m, so88 0 n xs l m, fun s => 64 - s, fun s _ => some (hi88 n xs l m s)⟩, ⟨Nat, io88 n xs l m, so88 1 n xs l m, fun s => 64 - s, fun s _ => some (hi88 n xs l m s)⟩]
noncomputable def xo88 (n : Nat) (xs : Fs) (l : LP) (m : MF) : List (List Nat × Ex) := [([], ⟨0, Unit, fun _ => (lpC xs (fl n) l m nC).1 = false, fun _ => ⟨dd 43, ob88 0 xs l (mI n xs l m nC)⟩⟩), ([], ⟨0, Unit, fun _ => (lpC xs (fl n) l m nC).1 = false, fun _ => ⟨dd 43, ob88 1 xs l (mI n xs l m nC)⟩⟩)]
noncomputable def ho88 (n : Nat) (xs : Fs) (l : LP) (m : MF) : Hint := ⟨chks 9 [0, 1, 7, 8] (fo88 n xs l m), (xo88 n xs l m).map (·.2)⟩
/-- What is left behind the last candidate. -/
noncomputable def obZ (xs : Fs) (l : LP) (r : RC) : List Ob := yC 1 (sC r.1) (jC r.1) (pC r.1 r.2.1 xs) (pC r.1 r.2.2.1 l) r.2.2.2 r.1 ++ [.bx (.ar .bool 64 xs)]
noncomputable def R88 (n : Nat) (h : YC n) (xs : Fs) (l : LP) (m : MF) : Exit -> St -> Prop := RetR (X88 n h) false false [] [] (obZ xs l (lpC xs (fl n) l m nC))
structure pre88 (n : Nat) (xs : Fs) (l : LP) : Prop where
 hl : xs.length = 64
 hc : cN (gB xs) 64 < 2 * (n + 1)
 hn : l.length + (n + 1) <= 40
theorem lp_step {n : Nat} {xs : Fs} {l : LP} {m : MF} {s v : Nat} (hv : v < 6) (h0 : (lpC xs (fl n) l m (6 * s + v)).1 = false) : lpC xs (fl n) l m (6 * s + (v + 1)) = if gB xs s = true /\ ¬ s ||| 2 ^ v = s /\ canR (gB xs) s (s ||| 2 ^ v : Nat) = true then
   if (rY n xs l (mI n xs l m (6 * s + v)) s (s ||| 2 ^ v)).1 = true then rY n xs l (mI n xs l m (6 * s + v)) s (s ||| 2 ^ v) else (false, xs, l, (rY n xs l (mI n xs l m (6 * s + v)) s (s ||| 2 ^ v)).2.2.2) else lpC xs (fl n) l m (6 * s + v) := by
 have e1 : pA (6 * s + v) = s := by unfold pA; omega
 have e2 : pB (6 * s + v) = s ||| 2 ^ v := by unfold pB; rw [show (6 * s + v) / 6 = s by omega, show (6 * s + v) % 6 = v by omega]
 have ec : cnd xs (6 * s + v) = true ↔ gB xs s = true /\ ¬ s ||| 2 ^ v = s /\ canR (gB xs) s (s ||| 2 ^ v : Nat) = true := by
   unfold cnd
   rw [e1, e2, Bool.and_eq_true, Bool.and_eq_true, Bool.not_eq_true', decide_eq_false_iff_not, and_assoc]
 rw [<- Nat.add_assoc, lpC, h0]
 by_cases hc : gB xs s = true /\ ¬ s ||| 2 ^ v = s /\ canR (gB xs) s (s ||| 2 ^ v : Nat) = true
 · rw [if_pos hc, if_neg (by rw [ec.mpr hc]; simp), e1, e2]; try rfl
 · rw [if_neg hc, if_pos (.inr (by cases hq : cnd xs (6 * s + v); rfl; exact absurd (ec.mp hq) hc))]
theorem lp_end {n : Nat} {xs : Fs} {l : LP} {m : MF} {s v : Nat} (hs : s < 64) (hv : v < 6) (h : (lpC xs (fl n) l m (6 * s + (v + 1))).1 = true) : lpC xs (fl n) l m nC = lpC xs (fl n) l m (6 * s + (v + 1)) := by
 have := lpC_stop h (384 - (6 * s + (v + 1)))
 rw [show 6 * s + (v + 1) + (384 - (6 * s + (v + 1))) = 384 by omega] at this
 exact this
theorem loop88i (n : Nat) (h : YC n) (xs : Fs) (l : LP) (m : MF) (s : Nat) (hp : pre88 n xs l) (hs : s < 64) : LoopOK (X88 n h) L88_2 (hi88 n xs l m s) (bodyR 9 (xo88 n xs l m) (R88 n h xs l m)) := by
 refine loop_fams (Xyb_ok _ _ _ _ _ _) [0, 1, 3, 4, 7, 8, 12] (fi88 n xs l m s) (xi88 n xs l m s) 150 ⟨fun (v : Nat) hv => ?_, fun (v : Nat) hv => ?_, trivial⟩
 · refine of_eq (q := (fun (A : Int) => (fun (x : Int) => (fun (q : Int) => (fun (p : Prop) => (fun (o : Bool) => (fun (j : Nat) => (fun (t : Prop) => (fun (i : MF) => (fun (g : RC) => (fun (f : Int) => (fun (z : Prop) => (fun (e : Prop) => (fun (u : Prop) => (fun (h : Prop) => (fun (B : Prop) => (fun (r : Prop) => (fun (d : Int) => (fun (c : Prop) => (fun (b : Prop) => (fun (a : RC) => (fun (w : Bool) => (fun (C : Fs) => (fun (k : Prop) => e /\ (x < 6 -> e /\ e /\ e /\ e /\ e /\ inR .u64 x /\ (((0 : Int) <= x /\ x < bitsOf .i64) /\ (-9223372036854775808 : Int) <= A /\ A <= 9223372036854775807) /\ e /\ e /\ e /\ e /\ e /\ e /\ (o = true -> e /\ e /\ e /\ e /\ e /\ e /\ e /\ (¬(f, d) = (f, f) -> e /\ e /\ ((List.length xs = 64 /\ (p /\ (z /\ d = d /\ e) /\ e) /\ e) /\ e) /\ e /\ e /\ (canR (gB xs) f d = true -> e /\ e /\ ((okY n (f, d, xs, l, i) /\ (e /\ (z /\ d = d /\ e) /\ e) /\ c /\ p /\ e /\ l = l /\ B /\ e /\ i = i /\ false = false /\ e) /\ e /\ e /\ e /\ B) /\ e /\ e /\ ((!!w) = true -> e /\ e /\ (C75 = C75 /\ sC g.fst = sC w /\ jC g.fst = jC w /\ h /\ e) /\ C = pC g.fst g.snd.fst xs /\ e /\ pC w a.snd.snd.fst l = pC g.fst g.snd.snd.fst l /\ B /\ e /\ a.snd.snd.snd = g.snd.snd.snd /\ w = g.fst /\ p /\ e) /\ ((!!w) = false -> inR .i64 q /\ e /\ ((∃ (y : Nat), (ii88 n xs l m s y /\ j - y < j - v) /\ (e /\ e /\ z /\ o = o /\ p /\ z /\ q = (y : Int) /\ e) /\ k /\ C = xs /\ False /\ False /\ B /\ e /\ a.snd.snd.snd = mI n xs l m (j * s + y) /\ w = false /\ p /\ e) ∨ ∃ (y : Nat), (ii88 n xs l m s y /\ j - y < j - v) /\ (e /\ e /\ z /\ o = o /\ p /\ z /\ q = (y : Int) /\ e) /\ k /\ C = xs /\ e /\ pC w a.snd.snd.fst l = l /\ B /\ e /\ a.snd.snd.snd = mI n xs l m (j * s + y) /\ w = false /\ p /\ e))) /\ (canR (gB xs) f d = false -> b)) /\ (¬¬(f, d) = (f, f) -> e /\ e /\ b)) /\ (o = false -> e /\ e /\ e /\ e /\ b)) /\ (¬x < 6 -> (∃ (y : Unit), t /\ (e /\ e /\ p /\ z /\ e) /\ c /\ p /\ e /\ l = l /\ r) ∨ ∃ (y : Unit), t /\ (e /\ e /\ p /\ z /\ e) /\ c /\ p /\ False /\ False /\ r)) (C75 = C75 /\ LoopState.ready = sC w /\ (none : Option Code) = jC w /\ h /\ e)) (pC w a.snd.fst xs)) (a.fst)) (rY n xs l i s d.toNat)) (e /\ inR .i64 q /\ e /\ ((∃ (y : Nat), (ii88 n xs l m s y /\ j - y < j - v) /\ (e /\ e /\ z /\ o = o /\ p /\ z /\ q = (y : Int) /\ e) /\ c /\ p /\ e /\ l = l /\ B /\ e /\ i = mI n xs l m (j * s + y) /\ u) ∨ ∃ (y : Nat), (ii88 n xs l m s y /\ j - y < j - v) /\ (e /\ e /\ z /\ o = o /\ p /\ z /\ q = (y : Int) /\ e) /\ c /\ p /\ False /\ False /\ B /\ e /\ i = mI n xs l m (j * s + y) /\ u))) (C75 = C75 /\ LoopState.ready = LoopState.ready /\ (none : Option Code) = none /\ h /\ e)) (bOr .i64 f A)) (B /\ e /\ i = mI n xs l m (j * (s + 1)) /\ u)) (e /\ h)) (e /\ e /\ e /\ e /\ e)) (false = false /\ p /\ e)) (True)) (f = f)) ((s : Int))) (lpC xs (fl n) l m nC)) (mI n xs l m (j * s + v))) ((lpC xs (fl n) l m (j * (s + 1))).fst = false)) ((6 : Nat))) (gB xs s)) (xs = xs)) (x + 1)) ((v : Int))) ((1 : Int) * 2 ^ v)) (by kernel_rfl) ?_
   simp only [zz]
   obtain ⟨v1, v2⟩ := hv
   refine ⟨fun hv6 => ?_, fun hv6 => by rw [show v = 6 by omega] at v2 |-; exact ⟨v2, rfl⟩⟩
   have hv6 : v < 6 := by omega
   have hb := or_pow hs hv6
   have hst := lp_step hv6 v2
   have hend := lp_end (n := n) (xs := xs) (l := l) (m := m) hs hv6
   have h2 : 2 ^ v < 64 := Nat.pow_lt_pow_right (a := 2) (by decide) hv6
   have e : (2 ^ v : Int) = ((2 ^ v : Nat) : Int) := by rw [Int.natCast_pow]; try rfl
   have eb : ∀ P : Nat, P < 64 -> -9223372036854775808 <= 1 * (P : Int) /\ 1 * (P : Int) <= 9223372036854775807 := fun P h => by omega
   have hsh : (0 <= (v : Int) /\ (v : Int) < bitsOf .i64) /\ -9223372036854775808 <= 1 * (2 ^ v : Int) /\ 1 * (2 ^ v : Int) <= 9223372036854775807 := ⟨⟨by omega, by simp only [bitsOf]; omega⟩, by rw [e]; exact eb _ h2⟩
   simp only [hb.1, Int.toNat_natCast]
   have hskip : ¬ (gB xs s = true /\ ¬ s ||| 2 ^ v = s /\ canR (gB xs) s (s ||| 2 ^ v : Nat) = true) -> inR .i64 ((v : Int) + 1) /\ ∃ y : Nat, (ii88 n xs l m s y /\ 6 - y < 6 - v) /\ (v : Int) + 1 = (y : Int) /\ mI n xs l m (6 * s + v) = mI n xs l m (6 * s + y) := fun hc => by
     rw [if_neg hc] at hst
     exact ⟨by simp only [inR]; omega, v + 1, ⟨⟨by omega, by rw [hst]; exact v2⟩, by omega⟩, by omega, by unfold mI; rw [hst]⟩
   refine ⟨by simp only [inR]; omega, hsh, fun hg => ⟨fun hne => ⟨hp.hl, fun hcan => ?_, fun hcan => hskip fun hc => by rw [hc.2.2] at hcan; cases hcan⟩, fun he => hskip fun hc => he fun h3 => hc.2.1 (by injection h3 with _ h3; omega)⟩, fun hg => hskip fun hc => by rw [hc.1] at hg; cases hg⟩
   have hc : gB xs s = true /\ ¬ s ||| 2 ^ v = s /\ canR (gB xs) s (s ||| 2 ^ v : Nat) = true := ⟨hg, fun h3 => hne (by rw [h3]), hcan⟩
   rw [if_pos hc] at hst
   refine ⟨⟨⟨hp.hl, hp.hc, hp.hn, hcan⟩, Int.natCast_nonneg _, Int.natCast_nonneg _⟩, fun hr => ?_, fun hr => ?_⟩
   · have hr : (rY n xs l (mI n xs l m (6 * s + v)) s (s ||| 2 ^ v)).1 = true := by simpa using hr
     rw [if_pos hr] at hst
     have hz := hend (by rw [hst]; exact hr)
     rw [hst] at hz
     rw [hz]
     exact ⟨⟨rfl, rfl⟩, rfl, rfl, rfl, rfl⟩
   · have hr : (rY n xs l (mI n xs l m (6 * s + v)) s (s ||| 2 ^ v)).1 = false := by simpa using hr
     rw [if_neg (by rw [hr]; simp)] at hst
     refine ⟨by simp only [inR]; omega, v + 1, ⟨⟨by omega, by rw [hst]⟩, by omega⟩, by omega, ?_⟩
     rw [hr]
     exact ⟨⟨rfl, rfl⟩, rfl, rfl, by show _ = (lpC xs (fl n) l m (6 * s + (v + 1))).2.2.2; rw [hst], rfl⟩
 · refine of_eq (q := (fun (A : Int) => (fun (x : Int) => (fun (q : Int) => (fun (p : Prop) => (fun (o : Bool) => (fun (j : Nat) => (fun (t : Prop) => (fun (i : MF) => (fun (g : RC) => (fun (f : Int) => (fun (z : Prop) => (fun (e : Prop) => (fun (u : Prop) => (fun (h : Prop) => (fun (B : Prop) => (fun (r : Prop) => (fun (d : Int) => (fun (c : Prop) => (fun (b : Prop) => (fun (a : RC) => (fun (w : Bool) => (fun (C : Fs) => (fun (k : Prop) => e /\ (x < 6 -> e /\ e /\ e /\ e /\ e /\ inR .u64 x /\ (((0 : Int) <= x /\ x < bitsOf .i64) /\ (-9223372036854775808 : Int) <= A /\ A <= 9223372036854775807) /\ e /\ e /\ e /\ e /\ e /\ e /\ (o = true -> e /\ e /\ e /\ e /\ e /\ e /\ e /\ (¬(f, d) = (f, f) -> e /\ e /\ ((List.length xs = 64 /\ (p /\ (z /\ d = d /\ e) /\ e) /\ e) /\ e) /\ e /\ e /\ (canR (gB xs) f d = true -> e /\ e /\ ((okY n (f, d, xs, l, i) /\ (e /\ (z /\ d = d /\ e) /\ e) /\ c /\ p /\ e /\ l = l /\ B /\ e /\ i = i /\ false = false /\ e) /\ e /\ e /\ e /\ B) /\ e /\ e /\ ((!!w) = true -> e /\ e /\ (C75 = C75 /\ sC g.fst = sC w /\ jC g.fst = jC w /\ h /\ e) /\ C = pC g.fst g.snd.fst xs /\ e /\ pC w a.snd.snd.fst l = pC g.fst g.snd.snd.fst l /\ B /\ e /\ a.snd.snd.snd = g.snd.snd.snd /\ w = g.fst /\ p /\ e) /\ ((!!w) = false -> inR .i64 q /\ e /\ ((∃ (y : Nat), (ii88 n xs l m s y /\ j - y < j - v) /\ (e /\ e /\ z /\ o = o /\ p /\ z /\ q = (y : Int) /\ e) /\ k /\ C = xs /\ False /\ False /\ B /\ e /\ a.snd.snd.snd = mI n xs l m (j * s + y) /\ w = false /\ p /\ e) ∨ ∃ (y : Nat), (ii88 n xs l m s y /\ j - y < j - v) /\ (e /\ e /\ z /\ o = o /\ p /\ z /\ q = (y : Int) /\ e) /\ k /\ C = xs /\ e /\ pC w a.snd.snd.fst l = l /\ B /\ e /\ a.snd.snd.snd = mI n xs l m (j * s + y) /\ w = false /\ p /\ e))) /\ (canR (gB xs) f d = false -> b)) /\ (¬¬(f, d) = (f, f) -> e /\ e /\ b)) /\ (o = false -> e /\ e /\ e /\ e /\ b)) /\ (¬x < 6 -> (∃ (y : Unit), t /\ (e /\ e /\ p /\ z /\ e) /\ c /\ p /\ False /\ False /\ r) ∨ ∃ (y : Unit), t /\ (e /\ e /\ p /\ z /\ e) /\ c /\ p /\ e /\ l = l /\ r)) (C75 = C75 /\ LoopState.ready = sC w /\ (none : Option Code) = jC w /\ h /\ e)) (pC w a.snd.fst xs)) (a.fst)) (rY n xs l i s d.toNat)) (e /\ inR .i64 q /\ e /\ ((∃ (y : Nat), (ii88 n xs l m s y /\ j - y < j - v) /\ (e /\ e /\ z /\ o = o /\ p /\ z /\ q = (y : Int) /\ e) /\ c /\ p /\ False /\ False /\ B /\ e /\ i = mI n xs l m (j * s + y) /\ u) ∨ ∃ (y : Nat), (ii88 n xs l m s y /\ j - y < j - v) /\ (e /\ e /\ z /\ o = o /\ p /\ z /\ q = (y : Int) /\ e) /\ c /\ p /\ e /\ l = l /\ B /\ e /\ i = mI n xs l m (j * s + y) /\ u))) (C75 = C75 /\ LoopState.ready = LoopState.ready /\ (none : Option Code) = none /\ h /\ e)) (bOr .i64 f A)) (B /\ e /\ i = mI n xs l m (j * (s + 1)) /\ u)) (e /\ h)) (e /\ e /\ e /\ e /\ e)) (false = false /\ p /\ e)) (True)) (f = f)) ((s : Int))) (lpC xs (fl n) l m nC)) (mI n xs l m (j * s + v))) ((lpC xs (fl n) l m (j * (s + 1))).fst = false)) ((6 : Nat))) (gB xs s)) (xs = xs)) (x + 1)) ((v : Int))) ((1 : Int) * 2 ^ v)) (by kernel_rfl) ?_
   simp only [zz]
   obtain ⟨v1, v2⟩ := hv
   refine ⟨fun hv6 => ?_, fun hv6 => by rw [show v = 6 by omega] at v2 |-; exact ⟨v2, rfl⟩⟩
   have hv6 : v < 6 := by omega
   have hb := or_pow hs hv6
   have hst := lp_step hv6 v2
   have hend := lp_end (n := n) (xs := xs) (l := l) (m := m) hs hv6
   have h2 : 2 ^ v < 64 := Nat.pow_lt_pow_right (a := 2) (by decide) hv6
   have e : (2 ^ v : Int) = ((2 ^ v : Nat) : Int) := by rw [Int.natCast_pow]; try rfl
   have eb : ∀ P : Nat, P < 64 -> -9223372036854775808 <= 1 * (P : Int) /\ 1 * (P : Int) <= 9223372036854775807 := fun P h => by omega
   have hsh : (0 <= (v : Int) /\ (v : Int) < bitsOf .i64) /\ -9223372036854775808 <= 1 * (2 ^ v : Int) /\ 1 * (2 ^ v : Int) <= 9223372036854775807 := ⟨⟨by omega, by simp only [bitsOf]; omega⟩, by rw [e]; exact eb _ h2⟩
   simp only [hb.1, Int.toNat_natCast]
   have hskip : ¬ (gB xs s = true /\ ¬ s ||| 2 ^ v = s /\ canR (gB xs) s (s ||| 2 ^ v : Nat) = true) -> inR .i64 ((v : Int) + 1) /\ ∃ y : Nat, (ii88 n xs l m s y /\ 6 - y < 6 - v) /\ (v : Int) + 1 = (y : Int) /\ mI n xs l m (6 * s + v) = mI n xs l m (6 * s + y) := fun hc => by
     rw [if_neg hc] at hst
     exact ⟨by simp only [inR]; omega, v + 1, ⟨⟨by omega, by rw [hst]; exact v2⟩, by omega⟩, by omega, by unfold mI; rw [hst]⟩
   refine ⟨by simp only [inR]; omega, hsh, fun hg => ⟨fun hne => ⟨hp.hl, fun hcan => ?_, fun hcan => hskip fun hc => by rw [hc.2.2] at hcan; cases hcan⟩, fun he => hskip fun hc => he fun h3 => hc.2.1 (by injection h3 with _ h3; omega)⟩, fun hg => hskip fun hc => by rw [hc.1] at hg; cases hg⟩
   have hc : gB xs s = true /\ ¬ s ||| 2 ^ v = s /\ canR (gB xs) s (s ||| 2 ^ v : Nat) = true := ⟨hg, fun h3 => hne (by rw [h3]), hcan⟩
   rw [if_pos hc] at hst
   refine ⟨⟨⟨hp.hl, hp.hc, hp.hn, hcan⟩, Int.natCast_nonneg _, Int.natCast_nonneg _⟩, fun hr => ?_, fun hr => ?_⟩
   · have hr : (rY n xs l (mI n xs l m (6 * s + v)) s (s ||| 2 ^ v)).1 = true := by simpa using hr
     rw [if_pos hr] at hst
     have hz := hend (by rw [hst]; exact hr)
     rw [hst] at hz
     rw [hz]
     exact ⟨⟨rfl, rfl⟩, rfl, rfl, rfl, rfl⟩
   · have hr : (rY n xs l (mI n xs l m (6 * s + v)) s (s ||| 2 ^ v)).1 = false := by simpa using hr
     rw [if_neg (by rw [hr]; simp)] at hst
     refine ⟨by simp only [inR]; omega, v + 1, ⟨⟨by omega, by rw [hst]⟩, by omega⟩, by omega, ?_⟩
     rw [hr]
     exact ⟨⟨rfl, rfl⟩, rfl, rfl, by show _ = (lpC xs (fl n) l m (6 * s + (v + 1))).2.2.2; rw [hst], rfl⟩
theorem loop88o (n : Nat) (h : YC n) (xs : Fs) (l : LP) (m : MF) (hp : pre88 n xs l) : LoopOK (X88 n h) L88_0 (ho88 n xs l m) (R88 n h xs l m) := by
 refine loop_fams (Xyb_ok _ _ _ _ _ _) [0, 1, 7, 8] (fo88 n xs l m) (xo88 n xs l m) 150 ⟨fun (s : Nat) hs => ?_, fun (s : Nat) hs => ?_, trivial⟩
 · have hL := fun hh => loop88i n h xs l m s hp hh
   refine of_eq (q := (fun (u : Nat) => (fun (p : Nat) => (fun (t : Nat) => (fun (o : Prop) => (fun (k : Prop) => (fun (j : Prop) => (fun (i : MF) => (fun (g : Prop) => (fun (f : Int) => (fun (r : Int) => (fun (e : Prop) => (fun (d : Prop) => (fun (q : Prop) => (fun (a : Prop) => (fun (c : Prop) => (fun (b : Prop) => g /\ (f < 64 -> g /\ idxPre f u /\ g /\ g /\ g /\ LoopOK (X88 n h) L88_2 (hi88 n xs l m s) (bodyR (9 : Nat) (xo88 n xs l m) (R88 n h xs l m)) /\ ((∃ (y : Nat), ii88 n xs l m s y /\ (g /\ g /\ f = f /\ List.getD xs s false = gB xs s /\ k /\ f = f /\ (0 : Int) = (y : Int) /\ g) /\ a /\ k /\ g /\ l = l /\ d /\ g /\ i = mI n xs l m (p * s + y) /\ e) ∨ ∃ (y : Nat), ii88 n xs l m s y /\ (g /\ g /\ f = f /\ List.getD xs s false = gB xs s /\ k /\ f = f /\ (0 : Int) = (y : Int) /\ g) /\ a /\ k /\ False /\ False /\ d /\ g /\ i = mI n xs l m (p * s + y) /\ e) /\ (∀ (y : Unit), j -> inR .i64 r /\ g /\ (c ∨ b)) /\ (∀ (y : Unit), j -> inR .i64 r /\ g /\ (b ∨ c)) /\ g) /\ (¬f < 64 -> (∃ (y : Unit), o /\ g /\ a /\ k /\ g /\ l = l /\ q) ∨ ∃ (y : Unit), o /\ g /\ a /\ k /\ False /\ False /\ q)) (∃ (y : Nat), (io88 n xs l m y /\ u - y < u - s) /\ (g /\ g /\ k /\ r = (y : Int) /\ g) /\ a /\ k /\ False /\ False /\ d /\ g /\ mI n xs l m t = mI n xs l m (p * y) /\ e)) (∃ (y : Nat), (io88 n xs l m y /\ u - y < u - s) /\ (g /\ g /\ k /\ r = (y : Int) /\ g) /\ a /\ k /\ g /\ l = l /\ d /\ g /\ mI n xs l m t = mI n xs l m (p * y) /\ e)) (C75 = C75 /\ LoopState.ready = LoopState.ready /\ (none : Option Code) = none /\ (g /\ g /\ g /\ g /\ g) /\ g)) (d /\ g /\ i = mI n xs l m nC /\ e)) (g /\ g /\ g /\ g /\ g /\ g)) (false = false /\ k /\ g)) (f + 1)) ((s : Int))) (True)) (mI n xs l m (p * s))) ((lpC xs (fl n) l m t).fst = false)) (xs = xs)) ((lpC xs (fl n) l m nC).fst = false)) (p * (s + 1))) ((6 : Nat))) ((64 : Nat))) (by kernel_rfl) ?_
   simp only [zz]
   obtain ⟨s1, s2⟩ := hs
   have hn : ∀ _ : PUnit, (lpC xs (fl n) l m (6 * (s + 1))).1 = false -> s < 64 -> inR .i64 ((s : Int) + 1) /\ ∃ y : Nat, (io88 n xs l m y /\ 64 - y < 64 - s) /\ (s : Int) + 1 = (y : Int) /\ mI n xs l m (6 * (s + 1)) = mI n xs l m (6 * y) := fun _ h1 h2 => ⟨by simp only [inR]; omega, s + 1, ⟨⟨by omega, h1⟩, by omega⟩, by omega, rfl⟩
   refine ⟨fun h => ⟨by unfold idxPre; omega, hL (by omega), ⟨0, ⟨by omega, s2⟩, ⟨rfl, rfl⟩, rfl⟩, fun u h1 => hn u h1 (by omega), fun u h1 => hn u h1 (by omega)⟩, fun h => ?_⟩
   have e : s = 64 := by omega
   subst e
   exact ⟨s2, rfl⟩
 · have hL := fun hh => loop88i n h xs l m s hp hh
   refine of_eq (q := (fun (u : Nat) => (fun (p : Nat) => (fun (t : Nat) => (fun (o : Prop) => (fun (k : Prop) => (fun (j : Prop) => (fun (i : MF) => (fun (g : Prop) => (fun (f : Int) => (fun (r : Int) => (fun (e : Prop) => (fun (d : Prop) => (fun (q : Prop) => (fun (a : Prop) => (fun (c : Prop) => (fun (b : Prop) => g /\ (f < 64 -> g /\ idxPre f u /\ g /\ g /\ g /\ LoopOK (X88 n h) L88_2 (hi88 n xs l m s) (bodyR (9 : Nat) (xo88 n xs l m) (R88 n h xs l m)) /\ ((∃ (y : Nat), ii88 n xs l m s y /\ (g /\ g /\ f = f /\ List.getD xs s false = gB xs s /\ k /\ f = f /\ (0 : Int) = (y : Int) /\ g) /\ a /\ k /\ False /\ False /\ d /\ g /\ i = mI n xs l m (p * s + y) /\ e) ∨ ∃ (y : Nat), ii88 n xs l m s y /\ (g /\ g /\ f = f /\ List.getD xs s false = gB xs s /\ k /\ f = f /\ (0 : Int) = (y : Int) /\ g) /\ a /\ k /\ g /\ l = l /\ d /\ g /\ i = mI n xs l m (p * s + y) /\ e) /\ (∀ (y : Unit), j -> inR .i64 r /\ g /\ (c ∨ b)) /\ (∀ (y : Unit), j -> inR .i64 r /\ g /\ (b ∨ c)) /\ g) /\ (¬f < 64 -> (∃ (y : Unit), o /\ g /\ a /\ k /\ False /\ False /\ q) ∨ ∃ (y : Unit), o /\ g /\ a /\ k /\ g /\ l = l /\ q)) (∃ (y : Nat), (io88 n xs l m y /\ u - y < u - s) /\ (g /\ g /\ k /\ r = (y : Int) /\ g) /\ a /\ k /\ False /\ False /\ d /\ g /\ mI n xs l m t = mI n xs l m (p * y) /\ e)) (∃ (y : Nat), (io88 n xs l m y /\ u - y < u - s) /\ (g /\ g /\ k /\ r = (y : Int) /\ g) /\ a /\ k /\ g /\ l = l /\ d /\ g /\ mI n xs l m t = mI n xs l m (p * y) /\ e)) (C75 = C75 /\ LoopState.ready = LoopState.ready /\ (none : Option Code) = none /\ (g /\ g /\ g /\ g /\ g) /\ g)) (d /\ g /\ i = mI n xs l m nC /\ e)) (g /\ g /\ g /\ g /\ g /\ g)) (false = false /\ k /\ g)) (f + 1)) ((s : Int))) (True)) (mI n xs l m (p * s))) ((lpC xs (fl n) l m t).fst = false)) (xs = xs)) ((lpC xs (fl n) l m nC).fst = false)) (p * (s + 1))) ((6 : Nat))) ((64 : Nat))) (by kernel_rfl) ?_
   simp only [zz]
   obtain ⟨s1, s2⟩ := hs
   have hn : ∀ _ : PUnit, (lpC xs (fl n) l m (6 * (s + 1))).1 = false -> s < 64 -> inR .i64 ((s : Int) + 1) /\ ∃ y : Nat, (io88 n xs l m y /\ 64 - y < 64 - s) /\ (s : Int) + 1 = (y : Int) /\ mI n xs l m (6 * (s + 1)) = mI n xs l m (6 * y) := fun _ h1 h2 => ⟨by simp only [inR]; omega, s + 1, ⟨⟨by omega, h1⟩, by omega⟩, by omega, rfl⟩
   refine ⟨fun h => ⟨by unfold idxPre; omega, hL (by omega), ⟨0, ⟨by omega, s2⟩, ⟨rfl, rfl⟩, rfl⟩, fun u h1 => hn u h1 (by omega), fun u h1 => hn u h1 (by omega)⟩, fun h => ?_⟩
   have e : s = 64 := by omega
   subst e
   exact ⟨s2, rfl⟩
theorem call88 (n : Nat) (h : YC n) (xs : Fs) (l : LP) (m : MF) (hp : pre88 n xs l) : GCall Try.prog gl 88 false [.yld 0, .ptr 8 0 []] (ob88 0 xs l m) [] (obZ xs l (lpC xs (fl n) l m nC)) := by
 have hL := loop88o n h xs l m hp
 refine gcall_of (X := (X88 n h)) ((Xyb_ok _ _ _ _ _ _)) (f := 88) (fn := Try.f88) (c := bodyOf Try.f88) (by kernel_rfl) (by kernel_rfl) (view := false) (rvs := []) (by kernel_rfl) (H := (fun _ => some (ho88 n xs l m))) 150 (by kernel_rfl) ?_
 refine of_eq (q := (fun (f : Prop) => (fun (e : Prop) => (fun (g : Prop) => (fun (c : Prop) => (fun (d : Prop) => (fun (b : RC) => (fun (a : Prop) => e /\ e /\ LoopOK (X88 n h) L88_0 (ho88 n xs l m) (R88 n h xs l m) /\ ((∃ (y : Nat), io88 n xs l m y /\ (e /\ e /\ f /\ (0 : Int) = (y : Int) /\ e) /\ d /\ f /\ e /\ l = l /\ (e /\ c) /\ e /\ m = mI n xs l m ((6 : Nat) * y) /\ g) ∨ ∃ (y : Nat), io88 n xs l m y /\ (e /\ e /\ f /\ (0 : Int) = (y : Int) /\ e) /\ d /\ f /\ False /\ False /\ (e /\ c) /\ e /\ m = mI n xs l m ((6 : Nat) * y) /\ g) /\ a /\ a /\ e) (∀ (y : Unit), b.fst = false -> e /\ e /\ (C75 = C75 /\ sC b.fst = LoopState.ready /\ jC b.fst = none /\ c /\ e) /\ xs = pC b.fst b.snd.fst xs /\ e /\ l = pC b.fst b.snd.snd.fst l /\ (e /\ c) /\ e /\ mI n xs l m nC = b.snd.snd.snd /\ false = b.fst /\ f /\ e)) (lpC xs (fl n) l m nC)) (C75 = C75 /\ LoopState.ready = LoopState.ready /\ (none : Option Code) = none /\ c /\ e)) (e /\ e /\ e /\ e /\ e)) (false = false /\ f /\ e)) (True)) (xs = xs)) (by kernel_rfl) ?_
 simp only [zz]
 have hz : (lpC xs (fl n) l m nC).1 = false -> (sC (lpC xs (fl n) l m nC).1 = .ready /\ jC (lpC xs (fl n) l m nC).1 = none) /\ xs = pC (lpC xs (fl n) l m nC).1 (lpC xs (fl n) l m nC).2.1 xs /\ l = pC (lpC xs (fl n) l m nC).1 (lpC xs (fl n) l m nC).2.2.1 l /\ mI n xs l m nC = (lpC xs (fl n) l m nC).2.2.2 /\ false = (lpC xs (fl n) l m nC).1 := fun h0 => by
   rw [h0]; exact ⟨⟨rfl, rfl⟩, rfl, rfl, rfl, rfl⟩
 exact ⟨hL, ⟨0, ⟨Nat.zero_le _, rfl⟩, rfl, rfl⟩, fun _ h0 => hz h0, fun _ h0 => hz h0⟩
def get88 (_ : List AV) (obs : List Ob) : Option G3 :=
 match unFa (obs.getD 1 .gone), unLP (obs.getD 3 .gone), unMF (obs.getD 6 .gone) with
 | some ys, some l, some m => some (ys, l, m)
 | _, _, _ => none
noncomputable def e88S (n : Nat) (h : YC n) : Entry Try.prog gl := entryW 88 ⟨Try.f88, by kernel_rfl, by kernel_rfl, by kernel_rfl⟩ true get88 (fun x => pre88 n x.1 x.2.1) false (fun _ => [.yld 0, .ptr 8 0 []]) (fun x => ob88 0 x.1 x.2.1 x.2.2) (fun _ => []) (fun x => obZ x.1 x.2.1 (lpC x.1 (fl n) x.2.1 x.2.2 nC)) (fun x hx => call88 n h _ _ x.2.2 hx)
theorem call76 (xs : List Bool) (_ : True) : GCall Try.prog gl 76 true [.ar .bool 64 xs] [] [.clo 88 [] [.ptr 0 0 []]] [.bx (.ar .bool 64 xs)] := by
 refine gcall_of (X := X []) (X_ok []) (f := 76) (fn := Try.f76) (c := bodyOf Try.f76) (by kernel_rfl) (by kernel_rfl) (view := false) (rvs := [.tmp 2]) (by kernel_rfl) (H := fun _ => none) 80 (by kernel_rfl) ?_
 refine of_eq (q := True /\ True /\ True /\ True /\ True /\ ((True /\ True /\ True) /\ True) /\ xs = xs /\ True) (by kernel_rfl) ?_
 simp only [zz]
def e76 : Entry Try.prog gl := entry1 76 ⟨Try.f76, by kernel_rfl, by kernel_rfl, by kernel_rfl⟩ FA (fun _ => True) true (fun _ => [.clo 88 [] [.ptr 0 0 []]]) (fun xs => [.bx (.ar .bool 64 xs)]) call76
end Go.Am.Sh

/- Shells: the search for collapses. -/
namespace Go.Am.Sh
open Go Go.Am Go.Proofs
theorem fl_unf (n : Nat) (xs : Fs) (l : LP) (m : MF) : ∃ K, K = nC /\ fl (n + 1) xs l m = if (trueN (gB xs) 64).length = 2 then (true, xs, l, m) else if mgF m xs = true then (false, xs, l, m) else
   if (lpC xs (fl n) l m K).1 = true then lpC xs (fl n) l m K else (false, xs, l, mpF (lpC xs (fl n) l m K).2.2.2 xs) := by
 unfold fl
 generalize nC = K
 exact ⟨K, rfl, by rw [flK]⟩
noncomputable abbrev X75 (n : Nat) (h : YC n) : Cy := Xyb [e66, e76, e88S n h] [] none 6 [4] (fun _ => none)
theorem gC_zero : GC 0 := fun _ _ _ hp => absurd hp.hc (by omega)
theorem gC_step (n : Nat) (h : GC n) : GC (n + 1) := by
 intro xs l m hp
 refine gcall_of (X := (X75 n (yC_of n h))) ((Xyb_ok _ _ _ _ _ _)) (f := 75) (fn := Try.f75) (c := bodyOf Try.f75) (by kernel_rfl) (by kernel_rfl) (view := false) (rvs := [.cell 4 4]) (by kernel_rfl) (H := fun _ => none) 200 (by kernel_rfl) ?_
 have hK : fl (n + 1) xs l m = if (trueN (gB xs) 64).length = 2 then (true, xs, l, m) else if mgF m xs = true then (false, xs, l, m) else
   if (lpC xs (fl n) l m nC).1 = true then lpC xs (fl n) l m nC else (false, xs, l, mpF (lpC xs (fl n) l m nC).2.2.2 xs) := by
   obtain ⟨K, rfl, h⟩ := fl_unf n xs l m
   exact h
 refine of_eq (q := True /\ True /\ (List.length xs = 64 /\ True) /\ True /\ True /\ ((↑(trueN (gB xs) (64 : Nat)).length : Int) = 2 -> True /\ (True /\ True) /\ (true = (fl (n + 1) xs l m).fst /\ True) /\ xs = (fl (n + 1) xs l m).snd.fst /\ True /\ m = (fl (n + 1) xs l m).snd.snd.snd /\ True /\ l = (fl (n + 1) xs l m).snd.snd.fst /\ (True /\ True /\ True /\ True /\ True /\ True) /\ True) /\ (¬(↑(trueN (gB xs) (64 : Nat)).length : Int) = 2 -> True /\ True /\ True /\ ((mGet FA m xs).getD false = true -> True /\ (True /\ True) /\ (false = (fl (n + 1) xs l m).fst /\ True) /\ xs = (fl (n + 1) xs l m).snd.fst /\ True /\ m = (fl (n + 1) xs l m).snd.snd.snd /\ True /\ l = (fl (n + 1) xs l m).snd.snd.fst /\ (True /\ True /\ True /\ True /\ True /\ True) /\ True) /\ ((mGet FA m xs).getD false = false -> True /\ (True /\ True) /\ (((pre88 n xs l /\ (True /\ True /\ True) /\ (C75 = C75 /\ LoopState.ready = LoopState.ready /\ (none : Option Code) = none /\ (True /\ True /\ True /\ True /\ True) /\ True) /\ xs = xs /\ True /\ l = l /\ (True /\ True /\ True /\ True /\ True /\ True) /\ True /\ m = m /\ false = false /\ xs = xs /\ True) /\ True /\ True /\ True /\ True /\ True /\ True /\ True /\ True /\ True /\ True) /\ ¬sC (lpC xs (fl n) l m nC).fst = LoopState.busy) /\ (jC (lpC xs (fl n) l m nC).fst = none -> True /\ True /\ True /\ True /\ (True /\ True) /\ (false = (fl (n + 1) xs l m).fst /\ True) /\ pC (lpC xs (fl n) l m nC).fst (lpC xs (fl n) l m nC).snd.fst xs = (fl (n + 1) xs l m).snd.fst /\ True /\ mPut FA (lpC xs (fl n) l m nC).snd.snd.snd (pC (lpC xs (fl n) l m nC).fst (lpC xs (fl n) l m nC).snd.fst xs) true = (fl (n + 1) xs l m).snd.snd.snd /\ True /\ pC (lpC xs (fl n) l m nC).fst (lpC xs (fl n) l m nC).snd.snd.fst l = (fl (n + 1) xs l m).snd.snd.fst /\ (True /\ True /\ True /\ True /\ True /\ True) /\ True) /\ (jC (lpC xs (fl n) l m nC).fst = some Code.ret ∨ jC (lpC xs (fl n) l m nC).fst = none) /\ (jC (lpC xs (fl n) l m nC).fst = some Code.ret -> (True /\ True) /\ ((lpC xs (fl n) l m nC).fst = (fl (n + 1) xs l m).fst /\ True) /\ pC (lpC xs (fl n) l m nC).fst (lpC xs (fl n) l m nC).snd.fst xs = (fl (n + 1) xs l m).snd.fst /\ True /\ (lpC xs (fl n) l m nC).snd.snd.snd = (fl (n + 1) xs l m).snd.snd.snd /\ True /\ pC (lpC xs (fl n) l m nC).fst (lpC xs (fl n) l m nC).snd.snd.fst l = (fl (n + 1) xs l m).snd.snd.fst /\ (True /\ True /\ True /\ True /\ True /\ True) /\ True) /\ True))) (by kernel_rfl) ?_
 generalize lpC xs (fl n) l m nC = r at hK |-
 generalize fl (n + 1) xs l m = q at hK |-
 simp only [zz]
 refine ⟨hp.hl, fun h2 => ?_, fun h2 => ⟨fun hm => ?_, fun hm => ?_⟩⟩
 · rw [if_pos (by omega)] at hK
   rw [hK]
   exact ⟨rfl, rfl, rfl, rfl⟩
 · rw [if_neg (by omega), if_pos (show mgF m xs = true from hm)] at hK
   rw [hK]
   exact ⟨rfl, rfl, rfl, rfl⟩
 · have hm' : ¬ mgF m xs = true := by unfold mgF; rw [hm]; simp
   rw [if_neg (by omega), if_neg hm'] at hK
   have hpre : pre88 n xs l := ⟨hp.hl, by have := hp.hc; omega, hp.hn⟩
   have hb : ∀ b : Bool, ¬ sC b = .busy := fun b => by cases b <;> (intro h; cases h)
   refine ⟨⟨hpre, hb _⟩, ?_⟩
   cases hr : r.1
   · rw [if_neg (by rw [hr]; simp)] at hK
     rw [hK]
     exact ⟨fun _ => ⟨rfl, rfl, rfl, rfl⟩, .inr rfl, (fun h => by cases h)⟩
   · rw [if_pos hr] at hK
     rw [hK]
     exact ⟨(fun h => by cases h), .inl rfl, fun _ => ⟨hr.symm, rfl, rfl, rfl⟩⟩
theorem gC_all : ∀ n : Nat, GC n
 | 0 => gC_zero
 | n + 1 => gC_step n (gC_all n)
end Go.Am.Sh

/- Shells: the search for collapses, from no list. -/
namespace Go.Am.Sh
open Go Go.Am Go.Proofs
noncomputable def yN (s : LoopState) (j : Option Code) (xs : Fs) (m : MF) (b : Bool) : List Ob := [.lp C75 s j (.clo 0 [.ptr 1 0 [], .ptr 2 0 [], .ptr 3 0 [], .ptr 6 0 []] []), .bx (.ar .bool 64 xs), .bx nl, .bx (clo75 1 4 2 3), .bx (.mp 5), mF m, .bx (.bool b)]
noncomputable def yO (o : Nat) (s : LoopState) (j : Option Code) (xs : Fs) (m : MF) (b : Bool) : List Ob := [.lp C75 s j (.clo 0 [.ptr 1 0 [], .ptr 2 0 [], .ptr 3 0 [], .ptr 6 0 []] []), .bx (.ar .bool 64 xs), .bx (.own o 0), .bx (clo75 1 4 2 3), .bx (.mp 5), mF m, .bx (.bool b)]
noncomputable def yOs (s : LoopState) (j : Option Code) (xs : Fs) (l : LP) (m : MF) (b : Bool) : List Ob := yO 7 s j xs m b ++ [.sc 0 62 P2 l]
def YNo (n : Nat) : Prop := ∀ (xs : Fs) (m : MF) (a b : Nat), preY n xs [] a b -> GYield Try.prog gl false [.yld 0, pr a b] (yN .ready none xs m false) [.bool (!(rY n xs [] m a b).1)]
 (yOs (sC (rY n xs [] m a b).1) (jC (rY n xs [] m a b).1) (pC (rY n xs [] m a b).1 (rY n xs [] m a b).2.1 xs) (pC (rY n xs [] m a b).1 (rY n xs [] m a b).2.2.1 []) (rY n xs [] m a b).2.2.2 (rY n xs [] m a b).1)
noncomputable abbrev XyN (n : Nat) (h : GC n) : Cy := Xyb [e75S n h] [] (some 0) 7 [] (drOf [(8, 1000000)])
theorem yN_of (n : Nat) (h : GC n) : YNo n := by
 intro xs m a b hp
 refine gyield_of (X := XyN n h) (Xyb_ok _ _ _ _ _ _) (C := C75) (j := none) (vs := [.ptr 1 0 [], .ptr 2 0 [], .ptr 3 0 [], .ptr 6 0 []]) (xs := [pr a b]) (view := false) (by kernel_rfl) (by kernel_rfl) (by kernel_rfl) (H := fun _ => none) 120 120 ?_
 refine of_eq (q := (fun (o : Int) => (fun (l : Int) => (fun (h : List Bool) => (fun (g : Prop) => (fun (f : RC) => (fun (q : Bool) => (fun (e : Prop) => (fun (r : Prop) => (fun (i : Prop) => (fun (v : Prop) => (fun (d : RC) => (fun (u : Prop) => (fun (k : Int) => (fun (s : Int) => (fun (c : Prop) => (fun (t : Prop) => (fun (p : Prop) => (fun (j : Prop) => e /\ e /\ e /\ e /\ e /\ ((e /\ (e /\ j /\ (g /\ (e /\ (e /\ c) /\ t) /\ (e /\ t) /\ e) /\ e) /\ (e /\ j /\ p) /\ e) /\ (e /\ (e /\ j /\ p) /\ (e /\ p) /\ e) /\ e) /\ e /\ e /\ e /\ e /\ e /\ e /\ e /\ sumPre (0 : Nat) [(o, l)].length (nat_lit 16) /\ e /\ e /\ ((pre75 n h [(o, l)] /\ i /\ h = h /\ e /\ m = m /\ e /\ [(o, l)] = [(o, l)] /\ v /\ e) /\ e /\ v) /\ (d.fst = true -> e /\ (false = !q /\ e) /\ (C75 = C75 /\ sC q = LoopState.done /\ jC q = some Code.ret /\ i /\ e) /\ d.snd.fst = pC q f.snd.fst xs /\ e /\ v /\ e /\ u /\ true = q /\ d.snd.snd.fst = pC q f.snd.snd.fst [] /\ e) /\ (d.fst = false -> e /\ e /\ e /\ e /\ e /\ inR .i64 s /\ ((0 : Int) <= s /\ s <= k) /\ e /\ (true = !q /\ e) /\ (C75 = C75 /\ sC q = LoopState.ready /\ jC q = none /\ i /\ e) /\ xs = pC q f.snd.fst xs /\ e /\ v /\ e /\ u /\ false = q /\ List.take s.toNat d.snd.snd.fst = pC q f.snd.snd.fst [] /\ e)) (e /\ (e /\ (g /\ c) /\ e) /\ (g /\ (e /\ c) /\ t) /\ e)) ((e /\ (e /\ (g /\ c) /\ e) /\ e) /\ e)) ((e /\ c) /\ e)) ((e /\ (idxPre l (64 : Nat) /\ (e /\ (e /\ e /\ e /\ e /\ e /\ e /\ r /\ xs = xs /\ r) /\ (C75 = C75 /\ LoopState.busy = LoopState.busy /\ (none : Option Code) = none /\ i /\ e) /\ h = h /\ e /\ v /\ e /\ m = m /\ false = false /\ r /\ xs = xs /\ e) /\ e) /\ e) /\ e)) (k - 1)) ((↑(List.length d.snd.snd.fst) : Int))) (d.snd.snd.snd = f.snd.snd.snd)) (fl n h [(o, l)] m)) (e /\ i)) (e /\ e /\ e /\ e /\ e)) (o = o /\ l = l /\ e)) (True)) (f.fst)) (rY n xs [] m a b)) (idxPre o (64 : Nat))) ((List.set xs a false).set b false)) ((b : Int))) ((a : Int))) (by kernel_rfl) ?_
 simp only [zz]
 obtain ⟨hc, hab, hln⟩ := tk_cN hp.hl hp.hk
 have hn := hp.hn
 have hc2 := hp.hc
 have ha : idxPre (a : Int) 64 := by unfold idxPre; omega
 have hb : idxPre (b : Int) 64 := by unfold idxPre; omega
 have hpre : pre75 n (tk xs a b) ([] ++ [prI a b]) := ⟨hln, by omega, by simp at hn |-; omega⟩
 have hlist := fun h0 => fl_list (n := n) (xs := tk xs a b) (l := [] ++ [prI a b]) (m := m) h0
 simp only [ha, hb, and_self, true_and]
 have key : ∀ r : RC, (r.1 = false -> r.2.2.1 = [] ++ [prI a b]) -> (r.1 = true -> false = !r.1 /\ (sC r.1 = .done /\ jC r.1 = some .ret) /\ r.2.1 = pC r.1 r.2.1 xs /\ r.2.2.2 = r.2.2.2 /\ true = r.1 /\ r.2.2.1 = pC r.1 r.2.2.1 []) /\
     (r.1 = false -> inR .i64 ((r.2.2.1.length : Int) - 1) /\ (0 <= (r.2.2.1.length : Int) - 1 /\ (r.2.2.1.length : Int) - 1 <= (r.2.2.1.length : Int)) /\ true = !r.1 /\ (sC r.1 = .ready /\ jC r.1 = none) /\ xs = pC r.1 r.2.1 xs /\ r.2.2.2 = r.2.2.2 /\ false = r.1 /\ r.2.2.1.take ((r.2.2.1.length : Int) - 1).toNat = pC r.1 r.2.2.1 []) := fun r hr => by
   constructor
   · intro h0
     rw [h0]; simp [sC, jC, pC]
   · intro h0
     rw [h0, hr h0]
     refine ⟨by simp only [inR]; simp, by simp, ?_⟩
     simp [sC, jC, pC]
 exact ⟨by unfold sumPre; simp, hpre, key _ fun h0 => (hlist h0).2⟩
def getYN (xs : List AV) (obs : List Ob) : Option (Int × Int × Fs × MF) :=
 match xs with
 | [_, .agg [.int .i64 a, .int .i64 b]] => (match unFa (obs.getD 1 .gone), isNl (obs.getD 2 .gone), unMF (obs.getD 5 .gone) with
   | some ys, true, some m => some (a, b, ys, m)
   | _, _, _ => none)
 | _ => none
structure okYN (n : Nat) (x : Int × Int × Fs × MF) : Prop where
 h : preY n x.2.2.1 [] x.1.toNat x.2.1.toNat
 a : 0 <= x.1
 b : 0 <= x.2.1
noncomputable def EYN (n : Nat) (h : YNo n) : YEntry Try.prog gl := yentryW getYN (okYN n) false (fun x => [.yld 0, pr x.1 x.2.1]) (fun x => yN .ready none x.2.2.1 x.2.2.2 false)
 (fun x => [.bool (!(rY n x.2.2.1 [] x.2.2.2 x.1.toNat x.2.1.toNat).1)])
 (fun x => yOs (sC (rY n x.2.2.1 [] x.2.2.2 x.1.toNat x.2.1.toNat).1) (jC (rY n x.2.2.1 [] x.2.2.2 x.1.toNat x.2.1.toNat).1) (pC (rY n x.2.2.1 [] x.2.2.2 x.1.toNat x.2.1.toNat).1 (rY n x.2.2.1 [] x.2.2.2 x.1.toNat x.2.1.toNat).2.1 x.2.2.1)
   (pC (rY n x.2.2.1 [] x.2.2.2 x.1.toNat x.2.1.toNat).1 (rY n x.2.2.1 [] x.2.2.2 x.1.toNat x.2.1.toNat).2.2.1 []) (rY n x.2.2.1 [] x.2.2.2 x.1.toNat x.2.1.toNat).2.2.2 (rY n x.2.2.1 [] x.2.2.2 x.1.toNat x.2.1.toNat).1) (by
   rintro ⟨a, b, xs, m⟩ ⟨h1, h2, h3⟩
   have := h xs m a.toNat b.toNat h1
   simp only at h2 h3
   rw [Int.toNat_of_nonneg h2, Int.toNat_of_nonneg h3] at this
   exact this)
noncomputable abbrev X88N (n : Nat) (h : YC n) (h' : YNo n) : Cy := Xyb [e79] [EYN n h', EYC n h] none 8 [] (fun _ => none)
noncomputable def kbN (xs : Fs) (m : MF) : List Ob := yN .ready none xs m false ++ [.bx (.ar .bool 64 xs)]
noncomputable def kbO (s : LoopState) (j : Option Code) (xs0 xs : Fs) (l : LP) (m : MF) (b : Bool) : List Ob := yO 8 s j xs m b ++ [.bx (.ar .bool 64 xs0), .sc 0 62 P2 l]
def noC (xs : Fs) (k : Nat) : Prop := ∀ i, i < k -> cnd xs i = false
def soC (xs : Fs) (k : Nat) : Prop := ∃ i, i < k /\ cnd xs i = true
theorem lpC_no {xs : Fs} {f : Fs -> LP -> MF -> RC} {l : LP} {m : MF} : ∀ {k : Nat}, noC xs k -> lpC xs f l m k = (false, xs, l, m)
 | 0, _ => rfl
 | k + 1, h => by rw [lpC, if_pos (.inr (h k (Nat.lt_succ_self k))), lpC_no fun i hi => h i (by omega)]
noncomputable def siN (xs : Fs) (m : MF) (s v : Nat) : St := ⟨.yld 0 :: .ptr 7 0 [] :: .dead :: .int .i64 s :: .bool (gB xs s) :: dd 2 ++ .ar .bool 64 xs :: .int .i64 s :: dd 3 ++ .int .i64 v :: dd 30, kbN xs m⟩
noncomputable def siO (n : Nat) (xs : Fs) (m : MF) (s v : Nat) : St := ⟨.yld 0 :: .ptr 7 0 [] :: .dead :: .int .i64 s :: .bool (gB xs s) :: dd 2 ++ .ar .bool 64 xs :: .int .i64 s :: dd 3 ++ .int .i64 v :: dd 30, kbO .ready none xs xs [] (mI n xs [] m (6 * s + v)) false⟩
noncomputable def soN (xs : Fs) (m : MF) (s : Nat) : St := ⟨.yld 0 :: .ptr 7 0 [] :: dd 5 ++ .ar .bool 64 xs :: .int .i64 s :: dd 34, kbN xs m⟩
noncomputable def soO (n : Nat) (xs : Fs) (m : MF) (s : Nat) : St := ⟨.yld 0 :: .ptr 7 0 [] :: dd 5 ++ .ar .bool 64 xs :: .int .i64 s :: dd 34, kbO .ready none xs xs [] (mI n xs [] m (6 * s)) false⟩
def iiN (xs : Fs) (s v : Nat) : Prop := v <= 6 /\ noC xs (6 * s + v)
def iiO (n : Nat) (xs : Fs) (m : MF) (s v : Nat) : Prop := v <= 6 /\ (lpC xs (fl n) [] m (6 * s + v)).1 = false /\ soC xs (6 * s + v)
def ioN (xs : Fs) (s : Nat) : Prop := s <= 64 /\ noC xs (6 * s)
def ioO (n : Nat) (xs : Fs) (m : MF) (s : Nat) : Prop := s <= 64 /\ (lpC xs (fl n) [] m (6 * s)).1 = false /\ soC xs (6 * s)
noncomputable def fiN (n : Nat) (xs : Fs) (m : MF) (s : Nat) : List Fam := [⟨Nat, iiN xs s, siN xs m s, fun v => 6 - v, fun _ => nH⟩, ⟨Nat, iiO n xs m s, siO n xs m s, fun v => 6 - v, fun _ => nH⟩]
noncomputable def xiN (n : Nat) (xs : Fs) (m : MF) (s : Nat) : List (List Nat × Ex) := [([0, 1, 7, 8], ⟨2, Unit, fun _ => noC xs (6 * (s + 1)), fun _ => soN xs m s⟩), ([0, 1, 7, 8], ⟨2, Unit, fun _ => (lpC xs (fl n) [] m (6 * (s + 1))).1 = false /\ soC xs (6 * (s + 1)), fun _ => ⟨.yld 0 :: .ptr 7 0 [] :: dd 5 ++ .ar .bool 64 xs :: .int .i64 s :: dd 34, kbO .ready none xs xs [] (mI n xs [] m (6 * (s + 1))) false⟩⟩)]
noncomputable def hiN (n : Nat) (xs : Fs) (m : MF) (s : Nat) : Hint := ⟨chks 8 [0, 1, 3, 4, 7, 8, 12] (fiN n xs m s), (xiN n xs m s).map (·.2)⟩
noncomputable def foN (n : Nat) (xs : Fs) (m : MF) : List Fam := [⟨Nat, ioN xs, soN xs m, fun s => 64 - s, fun s _ => some (hiN n xs m s)⟩, ⟨Nat, ioO n xs m, soO n xs m, fun s => 64 - s, fun s _ => some (hiN n xs m s)⟩]
noncomputable def xoN (n : Nat) (xs : Fs) (m : MF) : List (List Nat × Ex) := [([], ⟨0, Unit, fun _ => noC xs nC, fun _ => ⟨dd 43, kbN xs m⟩⟩), ([], ⟨0, Unit, fun _ => (lpC xs (fl n) [] m nC).1 = false /\ soC xs nC, fun _ => ⟨dd 43, kbO .ready none xs xs [] (mI n xs [] m nC) false⟩⟩)]
noncomputable def hoN (n : Nat) (xs : Fs) (m : MF) : Hint := ⟨chks 8 [0, 1, 7, 8] (foN n xs m), (xoN n xs m).map (·.2)⟩
noncomputable def kbW (xs : Fs) (r : RC) : List Ob := kbO (sC r.1) (jC r.1) xs (pC r.1 r.2.1 xs) (pC r.1 r.2.2.1 []) r.2.2.2 r.1
noncomputable def R88N (n : Nat) (h : YC n) (h' : YNo n) (xs : Fs) (m : MF) : Exit -> St -> Prop := fun e st => soC xs nC /\ RetR (X88N n h h') false false [] [] (kbW xs (lpC xs (fl n) [] m nC)) e st
theorem cnd_iff {xs : Fs} {s v : Nat} (hv : v < 6) : cnd xs (6 * s + v) = true ↔ gB xs s = true /\ ¬ s ||| 2 ^ v = s /\ canR (gB xs) s (s ||| 2 ^ v : Nat) = true := by
 have e1 : pA (6 * s + v) = s := by unfold pA; omega
 have e2 : pB (6 * s + v) = s ||| 2 ^ v := by unfold pB; rw [show (6 * s + v) / 6 = s by omega, show (6 * s + v) % 6 = v by omega]
 unfold cnd
 rw [e1, e2, Bool.and_eq_true, Bool.and_eq_true, Bool.not_eq_true', decide_eq_false_iff_not, and_assoc]
theorem noC_next {xs : Fs} {k : Nat} (h : noC xs k) (hc : ¬ cnd xs k = true) : noC xs (k + 1) := fun i hi => by
 by_cases e : i = k
 · rw [e]; cases hq : cnd xs k; rfl; exact absurd hq hc
 · exact h i (by omega)
theorem loop88iN (n : Nat) (h : YC n) (h' : YNo n) (xs : Fs) (m : MF) (s : Nat) (hp : pre88 n xs []) (hs : s < 64) : LoopOK (X88N n h h') L88_2 (hiN n xs m s) (bodyR 8 (xoN n xs m) (R88N n h h' xs m)) := by
 have hfin : ∀ v, v < 6 -> cnd xs (6 * s + v) = true -> soC xs nC := fun v h1 h2 => ⟨_, show 6 * s + v < 384 by omega, h2⟩
 refine loop_fams (Xyb_ok _ _ _ _ _ _) [0, 1, 3, 4, 7, 8, 12] (fiN n xs m s) (xiN n xs m s) 150 ⟨fun (v : Nat) hv => ?_, fun (v : Nat) hv => ?_, trivial⟩
 · refine of_eq (q := (fun (x : Int) => (fun (t : Int) => (fun (p : Prop) => (fun (o : Nat) => (fun (u : Nat) => (fun (l : Int) => (fun (k : Bool) => (fun (j : Prop) => (fun (g : RC) => (fun (f : Int) => (fun (w : Prop) => (fun (e : Prop) => (fun (h : Prop) => (fun (z : Prop) => (fun (d : Int) => (fun (c : Prop) => (fun (r : Prop) => (fun (b : RC) => (fun (q : Bool) => (fun (A : Fs) => (fun (i : Prop) => (fun (a : Prop) => e /\ (t < 6 -> e /\ e /\ e /\ e /\ e /\ inR .u64 t /\ (((0 : Int) <= t /\ t < bitsOf .i64) /\ (-9223372036854775808 : Int) <= x /\ x <= 9223372036854775807) /\ e /\ e /\ e /\ e /\ e /\ e /\ (k = true -> e /\ e /\ e /\ e /\ e /\ e /\ e /\ (¬(f, d) = (f, f) -> e /\ e /\ ((List.length xs = 64 /\ (j /\ (w /\ d = d /\ e) /\ e) /\ e) /\ e) /\ e /\ e /\ (canR (gB xs) f d = true -> e /\ e /\ ((okYN n (f, d, xs, m) /\ (e /\ (w /\ d = d /\ e) /\ e) /\ c /\ j /\ e /\ z /\ e /\ m = m /\ p /\ e) /\ e /\ e /\ z) /\ e /\ e /\ ((!!q) = true -> soC xs nC /\ e /\ e /\ (C75 = C75 /\ sC g.fst = sC q /\ jC g.fst = jC q /\ h /\ e) /\ A = pC g.fst g.snd.fst xs /\ e /\ z /\ e /\ b.snd.snd.snd = g.snd.snd.snd /\ q = g.fst /\ j /\ pC q b.snd.snd.fst [] = pC g.fst g.snd.snd.fst [] /\ e) /\ ((!!q) = false -> inR .i64 l /\ e /\ ((∃ (y : Nat), (iiN xs s y /\ o - y < o - v) /\ (e /\ e /\ w /\ k = k /\ j /\ w /\ l = (y : Int) /\ e) /\ i /\ A = xs /\ False /\ z /\ e /\ b.snd.snd.snd = m /\ q = false /\ j /\ e) ∨ ∃ (y : Nat), (iiO n xs m s y /\ o - y < o - v) /\ (e /\ e /\ w /\ k = k /\ j /\ w /\ l = (y : Int) /\ e) /\ i /\ A = xs /\ e /\ z /\ e /\ b.snd.snd.snd = mI n xs [] m (o * s + y) /\ q = false /\ j /\ pC q b.snd.snd.fst [] = [] /\ e))) /\ (canR (gB xs) f d = false -> a)) /\ (¬¬(f, d) = (f, f) -> e /\ e /\ a)) /\ (k = false -> e /\ e /\ e /\ e /\ a)) /\ (¬t < 6 -> (∃ (y : Unit), noC xs u /\ (e /\ e /\ j /\ w /\ e) /\ r) ∨ ∃ (y : Unit), ((lpC xs (fl n) [] m u).fst = false /\ soC xs u) /\ (e /\ e /\ j /\ w /\ e) /\ c /\ j /\ False /\ z /\ e /\ m = mI n xs [] m u /\ p /\ j /\ False)) (e /\ inR .i64 l /\ e /\ ((∃ (y : Nat), (iiN xs s y /\ o - y < o - v) /\ (e /\ e /\ w /\ k = k /\ j /\ w /\ l = (y : Int) /\ e) /\ r) ∨ ∃ (y : Nat), (iiO n xs m s y /\ o - y < o - v) /\ (e /\ e /\ w /\ k = k /\ j /\ w /\ l = (y : Int) /\ e) /\ c /\ j /\ False /\ z /\ e /\ m = mI n xs [] m (o * s + y) /\ p /\ j /\ False))) (C75 = C75 /\ LoopState.ready = sC q /\ (none : Option Code) = jC q /\ h /\ e)) (pC q b.snd.fst xs)) (b.fst)) (rY n xs [] m s d.toNat)) (c /\ j /\ e /\ z /\ e /\ m = m /\ p /\ j /\ e)) (C75 = C75 /\ LoopState.ready = LoopState.ready /\ (none : Option Code) = none /\ h /\ e)) (bOr .i64 f x)) (e /\ h)) (e /\ e /\ e /\ e /\ e)) (True)) (f = f)) ((s : Int))) (lpC xs (fl n) [] m nC)) (xs = xs)) (gB xs s)) (t + 1)) (o * (s + 1))) ((6 : Nat))) (false = false)) ((v : Int))) ((1 : Int) * 2 ^ v)) (by kernel_rfl) ?_
   simp only [zz]
   obtain ⟨v1, v2⟩ := hv
   refine ⟨fun hv6 => ?_, fun hv6 => by rw [show v = 6 by omega] at v2; exact v2⟩
   have hv6 : v < 6 := by omega
   have hb := or_pow hs hv6
   have hcn := cnd_iff (xs := xs) (s := s) hv6
   have h2 : 2 ^ v < 64 := Nat.pow_lt_pow_right (a := 2) (by decide) hv6
   have e : (2 ^ v : Int) = ((2 ^ v : Nat) : Int) := by rw [Int.natCast_pow]; try rfl
   have eb : ∀ P : Nat, P < 64 -> -9223372036854775808 <= 1 * (P : Int) /\ 1 * (P : Int) <= 9223372036854775807 := fun P h => by omega
   have hsh : (0 <= (v : Int) /\ (v : Int) < bitsOf .i64) /\ -9223372036854775808 <= 1 * (2 ^ v : Int) /\ 1 * (2 ^ v : Int) <= 9223372036854775807 := ⟨⟨by omega, by simp only [bitsOf]; omega⟩, by rw [e]; exact eb _ h2⟩
   simp only [hb.1, Int.toNat_natCast]
   have hno : lpC xs (fl n) [] m (6 * s + v) = (false, xs, [], m) := lpC_no v2
   have hst := lp_step (n := n) (l := []) (m := m) hv6 (by rw [hno])
   have hmi : mI n xs [] m (6 * s + v) = m := by unfold mI; rw [hno]
   rw [hmi] at hst
   have hend := lp_end (n := n) (xs := xs) (l := []) (m := m) hs hv6
   have hskip : ¬ (gB xs s = true /\ ¬ s ||| 2 ^ v = s /\ canR (gB xs) s (s ||| 2 ^ v : Nat) = true) -> inR .i64 ((v : Int) + 1) /\ ∃ y : Nat, (iiN xs s y /\ 6 - y < 6 - v) /\ (v : Int) + 1 = (y : Int) := fun hc =>
     ⟨by simp only [inR]; omega, v + 1, ⟨⟨by omega, noC_next v2 fun h3 => hc (hcn.mp h3)⟩, by omega⟩, by omega⟩
   refine ⟨by simp only [inR]; omega, hsh, fun hg => ⟨fun hne => ⟨hp.hl, fun hcan => ?_, fun hcan => hskip fun hc => by rw [hc.2.2] at hcan; cases hcan⟩, fun he => hskip fun hc => he fun h3 => hc.2.1 (by injection h3 with _ h3; omega)⟩, fun hg => hskip fun hc => by rw [hc.1] at hg; cases hg⟩
   have hc : gB xs s = true /\ ¬ s ||| 2 ^ v = s /\ canR (gB xs) s (s ||| 2 ^ v : Nat) = true := ⟨hg, fun h3 => hne (by rw [h3]), hcan⟩
   rw [if_pos hc] at hst
   refine ⟨⟨⟨hp.hl, hp.hc, hp.hn, hcan⟩, Int.natCast_nonneg _, Int.natCast_nonneg _⟩, fun hr => ?_, fun hr => ?_⟩
   · have hr : (rY n xs [] m s (s ||| 2 ^ v)).1 = true := by simpa using hr
     rw [if_pos hr] at hst
     have hz := hend (by rw [hst]; exact hr)
     rw [hst] at hz
     rw [hz]
     exact ⟨hfin v hv6 (hcn.mpr hc), ⟨rfl, rfl⟩, rfl, rfl, rfl, rfl⟩
   · have hr : (rY n xs [] m s (s ||| 2 ^ v)).1 = false := by simpa using hr
     rw [if_neg (by rw [hr]; simp)] at hst
     refine ⟨by simp only [inR]; omega, v + 1, ⟨⟨by omega, by rw [hst], _, Nat.lt_succ_self _, hcn.mpr hc⟩, by omega⟩, by omega, ?_⟩
     rw [hr]
     exact ⟨⟨rfl, rfl⟩, rfl, by show _ = (lpC xs (fl n) [] m (6 * s + (v + 1))).2.2.2; rw [hst], rfl, rfl⟩
 · refine of_eq (q := (fun (B : Prop) => (fun (z : Int) => (fun (u : Int) => (fun (p : Nat) => (fun (w : Nat) => (fun (o : Int) => (fun (l : Bool) => (fun (k : Prop) => (fun (i : MF) => (fun (g : RC) => (fun (f : Int) => (fun (x : Prop) => (fun (e : Prop) => (fun (r : Prop) => (fun (h : Prop) => (fun (A : Prop) => (fun (d : Int) => (fun (c : Prop) => (fun (q : Prop) => (fun (b : Prop) => (fun (a : RC) => (fun (t : Bool) => (fun (C : Fs) => (fun (j : Prop) => e /\ (u < 6 -> e /\ e /\ e /\ e /\ e /\ inR .u64 u /\ (((0 : Int) <= u /\ u < bitsOf .i64) /\ (-9223372036854775808 : Int) <= z /\ z <= 9223372036854775807) /\ e /\ e /\ e /\ e /\ e /\ e /\ (l = true -> e /\ e /\ e /\ e /\ e /\ e /\ e /\ (¬(f, d) = (f, f) -> e /\ e /\ ((List.length xs = 64 /\ (k /\ (x /\ d = d /\ e) /\ e) /\ e) /\ e) /\ e /\ e /\ (canR (gB xs) f d = true -> e /\ e /\ ((okY n (f, d, xs, [], i) /\ (e /\ (x /\ d = d /\ e) /\ e) /\ c /\ k /\ e /\ ([] : List (Int × Int)) = [] /\ A /\ e /\ i = i /\ B /\ e) /\ e /\ e /\ e /\ A) /\ e /\ e /\ ((!!t) = true -> soC xs nC /\ e /\ e /\ (C75 = C75 /\ sC g.fst = sC t /\ jC g.fst = jC t /\ h /\ e) /\ C = pC g.fst g.snd.fst xs /\ e /\ A /\ e /\ a.snd.snd.snd = g.snd.snd.snd /\ t = g.fst /\ k /\ pC t a.snd.snd.fst [] = pC g.fst g.snd.snd.fst [] /\ e) /\ ((!!t) = false -> inR .i64 o /\ e /\ ((∃ (y : Nat), (iiN xs s y /\ p - y < p - v) /\ (e /\ e /\ x /\ l = l /\ k /\ x /\ o = (y : Int) /\ e) /\ j /\ C = xs /\ False /\ A /\ e /\ a.snd.snd.snd = m /\ t = false /\ k /\ e) ∨ ∃ (y : Nat), (iiO n xs m s y /\ p - y < p - v) /\ (e /\ e /\ x /\ l = l /\ k /\ x /\ o = (y : Int) /\ e) /\ j /\ C = xs /\ e /\ A /\ e /\ a.snd.snd.snd = mI n xs [] m (p * s + y) /\ t = false /\ k /\ pC t a.snd.snd.fst [] = [] /\ e))) /\ (canR (gB xs) f d = false -> b)) /\ (¬¬(f, d) = (f, f) -> e /\ e /\ b)) /\ (l = false -> e /\ e /\ e /\ e /\ b)) /\ (¬u < 6 -> (∃ (y : Unit), noC xs w /\ (e /\ e /\ k /\ x /\ e) /\ q) ∨ ∃ (y : Unit), ((lpC xs (fl n) [] m w).fst = false /\ soC xs w) /\ (e /\ e /\ k /\ x /\ e) /\ c /\ k /\ e /\ A /\ e /\ i = mI n xs [] m w /\ r)) (C75 = C75 /\ LoopState.ready = sC t /\ (none : Option Code) = jC t /\ h /\ e)) (pC t a.snd.fst xs)) (a.fst)) (rY n xs [] i s d.toNat)) (e /\ inR .i64 o /\ e /\ ((∃ (y : Nat), (iiN xs s y /\ p - y < p - v) /\ (e /\ e /\ x /\ l = l /\ k /\ x /\ o = (y : Int) /\ e) /\ q) ∨ ∃ (y : Nat), (iiO n xs m s y /\ p - y < p - v) /\ (e /\ e /\ x /\ l = l /\ k /\ x /\ o = (y : Int) /\ e) /\ c /\ k /\ e /\ A /\ e /\ i = mI n xs [] m (p * s + y) /\ r))) (c /\ k /\ False /\ A /\ e /\ i = m /\ B /\ k /\ e)) (C75 = C75 /\ LoopState.ready = LoopState.ready /\ (none : Option Code) = none /\ h /\ e)) (bOr .i64 f z)) (e /\ h)) (e /\ e /\ e /\ e /\ e)) (B /\ k /\ ([] : List (Int × Int)) = [] /\ e)) (True)) (f = f)) ((s : Int))) (lpC xs (fl n) [] m nC)) (mI n xs [] m (p * s + v))) (xs = xs)) (gB xs s)) (u + 1)) (p * (s + 1))) ((6 : Nat))) ((v : Int))) ((1 : Int) * 2 ^ v)) (false = false)) (by kernel_rfl) ?_
   simp only [zz]
   obtain ⟨v1, v2, i0, hi0, hi1⟩ := hv
   refine ⟨fun hv6 => ?_, fun hv6 => by rw [show v = 6 by omega] at v2 hi0 |-; exact ⟨⟨v2, i0, hi0, hi1⟩, rfl⟩⟩
   have hv6 : v < 6 := by omega
   have hb := or_pow hs hv6
   have hcn := cnd_iff (xs := xs) (s := s) hv6
   have h2 : 2 ^ v < 64 := Nat.pow_lt_pow_right (a := 2) (by decide) hv6
   have e : (2 ^ v : Int) = ((2 ^ v : Nat) : Int) := by rw [Int.natCast_pow]; try rfl
   have eb : ∀ P : Nat, P < 64 -> -9223372036854775808 <= 1 * (P : Int) /\ 1 * (P : Int) <= 9223372036854775807 := fun P h => by omega
   have hsh : (0 <= (v : Int) /\ (v : Int) < bitsOf .i64) /\ -9223372036854775808 <= 1 * (2 ^ v : Int) /\ 1 * (2 ^ v : Int) <= 9223372036854775807 := ⟨⟨by omega, by simp only [bitsOf]; omega⟩, by rw [e]; exact eb _ h2⟩
   simp only [hb.1, Int.toNat_natCast]
   have hst := lp_step (n := n) (l := []) (m := m) hv6 v2
   have hend := lp_end (n := n) (xs := xs) (l := []) (m := m) hs hv6
   have hskip : ¬ (gB xs s = true /\ ¬ s ||| 2 ^ v = s /\ canR (gB xs) s (s ||| 2 ^ v : Nat) = true) -> inR .i64 ((v : Int) + 1) /\ ∃ y : Nat, (iiO n xs m s y /\ 6 - y < 6 - v) /\ (v : Int) + 1 = (y : Int) /\ mI n xs [] m (6 * s + v) = mI n xs [] m (6 * s + y) := fun hc => by
     rw [if_neg hc] at hst
     exact ⟨by simp only [inR]; omega, v + 1, ⟨⟨by omega, by rw [hst]; exact v2, i0, by omega, hi1⟩, by omega⟩, by omega, by unfold mI; rw [hst]⟩
   refine ⟨by simp only [inR]; omega, hsh, fun hg => ⟨fun hne => ⟨hp.hl, fun hcan => ?_, fun hcan => hskip fun hc => by rw [hc.2.2] at hcan; cases hcan⟩, fun he => hskip fun hc => he fun h3 => hc.2.1 (by injection h3 with _ h3; omega)⟩, fun hg => hskip fun hc => by rw [hc.1] at hg; cases hg⟩
   have hc : gB xs s = true /\ ¬ s ||| 2 ^ v = s /\ canR (gB xs) s (s ||| 2 ^ v : Nat) = true := ⟨hg, fun h3 => hne (by rw [h3]), hcan⟩
   rw [if_pos hc] at hst
   refine ⟨⟨⟨hp.hl, hp.hc, hp.hn, hcan⟩, Int.natCast_nonneg _, Int.natCast_nonneg _⟩, fun hr => ?_, fun hr => ?_⟩
   · have hr : (rY n xs [] (mI n xs [] m (6 * s + v)) s (s ||| 2 ^ v)).1 = true := by simpa using hr
     rw [if_pos hr] at hst
     have hz := hend (by rw [hst]; exact hr)
     rw [hst] at hz
     rw [hz]
     exact ⟨hfin v hv6 (hcn.mpr hc), ⟨rfl, rfl⟩, rfl, rfl, rfl, rfl⟩
   · have hr : (rY n xs [] (mI n xs [] m (6 * s + v)) s (s ||| 2 ^ v)).1 = false := by simpa using hr
     rw [if_neg (by rw [hr]; simp)] at hst
     refine ⟨by simp only [inR]; omega, v + 1, ⟨⟨by omega, by rw [hst], i0, by omega, hi1⟩, by omega⟩, by omega, ?_⟩
     rw [hr]
     exact ⟨⟨rfl, rfl⟩, rfl, by show _ = (lpC xs (fl n) [] m (6 * s + (v + 1))).2.2.2; rw [hst], rfl, rfl⟩
theorem loop88oN (n : Nat) (h : YC n) (h' : YNo n) (xs : Fs) (m : MF) (hp : pre88 n xs []) : LoopOK (X88N n h h') L88_0 (hoN n xs m) (R88N n h h' xs m) := by
 refine loop_fams (Xyb_ok _ _ _ _ _ _) [0, 1, 7, 8] (foN n xs m) (xoN n xs m) 150 ⟨fun (s : Nat) hs => ?_, fun (s : Nat) hs => ?_, trivial⟩
 · have hL := fun hh => loop88iN n h h' xs m s hp hh
   refine of_eq (q := (fun (j : Nat) => (fun (i : Nat) => (fun (g : Prop) => (fun (f : Prop) => (fun (l : Prop) => (fun (e : Prop) => (fun (c : Int) => (fun (k : Int) => (fun (b : Prop) => (fun (a : Prop) => (fun (d : Prop) => e /\ (c < 64 -> e /\ idxPre c j /\ e /\ e /\ e /\ LoopOK (X88N n h h') L88_2 (hiN n xs m s) (bodyR (8 : Nat) (xoN n xs m) (R88N n h h' xs m)) /\ ((∃ (y : Nat), iiN xs s y /\ (e /\ e /\ c = c /\ List.getD xs s false = gB xs s /\ f /\ c = c /\ (0 : Int) = (y : Int) /\ e) /\ d) ∨ ∃ (y : Nat), iiO n xs m s y /\ (e /\ e /\ c = c /\ List.getD xs s false = gB xs s /\ f /\ c = c /\ (0 : Int) = (y : Int) /\ e) /\ a /\ f /\ False /\ b /\ e /\ m = mI n xs [] m ((6 : Nat) * s + y) /\ l) /\ (∀ (y : Unit), noC xs i -> inR .i64 k /\ e /\ ((∃ (y : Nat), (ioN xs y /\ j - y < j - s) /\ (e /\ e /\ f /\ k = (y : Int) /\ e) /\ d) ∨ ∃ (y : Nat), (ioO n xs m y /\ j - y < j - s) /\ (e /\ e /\ f /\ k = (y : Int) /\ e) /\ a /\ f /\ False /\ b /\ e /\ m = mI n xs [] m ((6 : Nat) * y) /\ l)) /\ (∀ (y : Unit), (lpC xs (fl n) [] m i).fst = false /\ soC xs i -> inR .i64 k /\ e /\ ((∃ (y : Nat), (ioN xs y /\ j - y < j - s) /\ (e /\ e /\ f /\ k = (y : Int) /\ e) /\ a /\ f /\ False /\ b /\ e /\ mI n xs [] m i = m /\ g /\ f /\ e) ∨ ∃ (y : Nat), (ioO n xs m y /\ j - y < j - s) /\ (e /\ e /\ f /\ k = (y : Int) /\ e) /\ a /\ f /\ e /\ b /\ e /\ mI n xs [] m i = mI n xs [] m ((6 : Nat) * y) /\ g /\ f /\ ([] : List (Int × Int)) = [] /\ e)) /\ e) /\ (¬c < 64 -> (∃ (y : Unit), noC xs nC /\ e /\ d) ∨ ∃ (y : Unit), ((lpC xs (fl n) [] m nC).fst = false /\ soC xs nC) /\ e /\ a /\ f /\ False /\ b /\ e /\ m = mI n xs [] m nC /\ l)) (a /\ f /\ e /\ b /\ e /\ m = m /\ g /\ f /\ e)) (C75 = C75 /\ LoopState.ready = LoopState.ready /\ (none : Option Code) = none /\ (e /\ e /\ e /\ e /\ e) /\ e)) (e /\ e /\ e /\ e /\ e /\ e)) (c + 1)) ((s : Int))) (True)) (g /\ f /\ False)) (xs = xs)) (false = false)) ((6 : Nat) * (s + 1))) ((64 : Nat))) (by kernel_rfl) ?_
   simp only [zz]
   obtain ⟨s1, s2⟩ := hs
   have hn1 : ∀ _ : PUnit, noC xs (6 * (s + 1)) -> s < 64 -> inR .i64 ((s : Int) + 1) /\ ∃ y : Nat, (ioN xs y /\ 64 - y < 64 - s) /\ (s : Int) + 1 = (y : Int) := fun _ h1 h2 => ⟨by simp only [inR]; omega, s + 1, ⟨⟨by omega, h1⟩, by omega⟩, by omega⟩
   have hn2 : ∀ _ : PUnit, (lpC xs (fl n) [] m (6 * (s + 1))).1 = false /\ soC xs (6 * (s + 1)) -> s < 64 -> inR .i64 ((s : Int) + 1) /\ ∃ y : Nat, (ioO n xs m y /\ 64 - y < 64 - s) /\ (s : Int) + 1 = (y : Int) /\ mI n xs [] m (6 * (s + 1)) = mI n xs [] m (6 * y) := fun _ h1 h2 => ⟨by simp only [inR]; omega, s + 1, ⟨⟨by omega, h1⟩, by omega⟩, by omega, rfl⟩
   refine ⟨fun h => ⟨by unfold idxPre; omega, hL (by omega), ⟨0, ⟨by omega, s2⟩, rfl, rfl⟩, fun u h1 => hn1 u h1 (by omega), fun u h1 => hn2 u h1 (by omega)⟩, fun h => ?_⟩
   have e : s = 64 := by omega
   subst e
   exact s2
 · have hL := fun hh => loop88iN n h h' xs m s hp hh
   refine of_eq (q := (fun (p : Nat) => (fun (k : Nat) => (fun (i : MF) => (fun (g : Nat) => (fun (f : Prop) => (fun (e : Prop) => (fun (d : Prop) => (fun (j : Prop) => (fun (c : Int) => (fun (l : Int) => (fun (b : Prop) => (fun (a : Prop) => (fun (o : Prop) => d /\ (c < 64 -> d /\ idxPre c k /\ d /\ d /\ d /\ LoopOK (X88N n h h') L88_2 (hiN n xs m s) (bodyR (8 : Nat) (xoN n xs m) (R88N n h h' xs m)) /\ ((∃ (y : Nat), iiN xs s y /\ (d /\ d /\ c = c /\ List.getD xs s false = gB xs s /\ f /\ c = c /\ (0 : Int) = (y : Int) /\ d) /\ o) ∨ ∃ (y : Nat), iiO n xs m s y /\ (d /\ d /\ c = c /\ List.getD xs s false = gB xs s /\ f /\ c = c /\ (0 : Int) = (y : Int) /\ d) /\ a /\ f /\ d /\ b /\ d /\ i = mI n xs [] m (p * s + y) /\ j) /\ (∀ (y : Unit), noC xs g -> inR .i64 l /\ d /\ ((∃ (y : Nat), (ioN xs y /\ k - y < k - s) /\ (d /\ d /\ f /\ l = (y : Int) /\ d) /\ a /\ f /\ d /\ b /\ d /\ m = m /\ e /\ f /\ d) ∨ ∃ (y : Nat), (ioO n xs m y /\ k - y < k - s) /\ (d /\ d /\ f /\ l = (y : Int) /\ d) /\ a /\ f /\ False /\ b /\ d /\ m = mI n xs [] m (p * y) /\ e /\ f /\ False)) /\ (∀ (y : Unit), (lpC xs (fl n) [] m g).fst = false /\ soC xs g -> inR .i64 l /\ d /\ ((∃ (y : Nat), (ioN xs y /\ k - y < k - s) /\ (d /\ d /\ f /\ l = (y : Int) /\ d) /\ a /\ f /\ False /\ b /\ d /\ mI n xs [] m g = m /\ e /\ f /\ d) ∨ ∃ (y : Nat), (ioO n xs m y /\ k - y < k - s) /\ (d /\ d /\ f /\ l = (y : Int) /\ d) /\ a /\ f /\ d /\ b /\ d /\ mI n xs [] m g = mI n xs [] m (p * y) /\ j)) /\ d) /\ (¬c < 64 -> (∃ (y : Unit), noC xs nC /\ d /\ o) ∨ ∃ (y : Unit), ((lpC xs (fl n) [] m nC).fst = false /\ soC xs nC) /\ d /\ a /\ f /\ d /\ b /\ d /\ i = mI n xs [] m nC /\ j)) (a /\ f /\ False /\ b /\ d /\ i = m /\ e /\ f /\ d)) (C75 = C75 /\ LoopState.ready = LoopState.ready /\ (none : Option Code) = none /\ (d /\ d /\ d /\ d /\ d) /\ d)) (d /\ d /\ d /\ d /\ d /\ d)) (c + 1)) ((s : Int))) (e /\ f /\ ([] : List (Int × Int)) = [] /\ d)) (True)) (false = false)) (xs = xs)) (p * (s + 1))) (mI n xs [] m (p * s))) ((64 : Nat))) ((6 : Nat))) (by kernel_rfl) ?_
   simp only [zz]
   obtain ⟨s1, s2⟩ := hs
   have hn1 : ∀ _ : PUnit, noC xs (6 * (s + 1)) -> s < 64 -> inR .i64 ((s : Int) + 1) /\ ∃ y : Nat, (ioN xs y /\ 64 - y < 64 - s) /\ (s : Int) + 1 = (y : Int) := fun _ h1 h2 => ⟨by simp only [inR]; omega, s + 1, ⟨⟨by omega, h1⟩, by omega⟩, by omega⟩
   have hn2 : ∀ _ : PUnit, (lpC xs (fl n) [] m (6 * (s + 1))).1 = false /\ soC xs (6 * (s + 1)) -> s < 64 -> inR .i64 ((s : Int) + 1) /\ ∃ y : Nat, (ioO n xs m y /\ 64 - y < 64 - s) /\ (s : Int) + 1 = (y : Int) /\ mI n xs [] m (6 * (s + 1)) = mI n xs [] m (6 * y) := fun _ h1 h2 => ⟨by simp only [inR]; omega, s + 1, ⟨⟨by omega, h1⟩, by omega⟩, by omega, rfl⟩
   refine ⟨fun h => ⟨by unfold idxPre; omega, hL (by omega), ⟨0, ⟨by omega, s2⟩, ⟨rfl, rfl⟩, rfl⟩, fun u h1 => hn1 u h1 (by omega), fun u h1 => hn2 u h1 (by omega)⟩, fun h => ?_⟩
   have e : s = 64 := by omega
   subst e
   exact ⟨s2, rfl⟩
theorem not_so {xs : Fs} {k : Nat} (h : noC xs k) : ¬ soC xs k := fun ⟨i, h1, h2⟩ => by rw [h i h1] at h2; cases h2
theorem call88N (n : Nat) (h : YC n) (h' : YNo n) (xs : Fs) (m : MF) (hp : pre88 n xs []) (hc : noC xs nC) : GCall Try.prog gl 88 false [.yld 0, .ptr 7 0 []] (kbN xs m) [] (kbN xs m) := by
 have hL := LoopOK.mono (R' := RetR (X88N n h h') false false [] [] (kbN xs m)) (loop88oN n h h' xs m hp) fun st hr => absurd hr.1 (not_so hc)
 refine gcall_of (X := (X88N n h h')) ((Xyb_ok _ _ _ _ _ _)) (f := 88) (fn := Try.f88) (c := bodyOf Try.f88) (by kernel_rfl) (by kernel_rfl) (view := false) (rvs := []) (by kernel_rfl) (H := (fun _ => some (hoN n xs m))) 150 (by kernel_rfl) ?_
 refine of_eq (q := (fun (f : Prop) => (fun (e : Prop) => (fun (d : Prop) => (fun (b : Prop) => (fun (a : Prop) => (fun (c : Prop) => d /\ d /\ LoopOK (X88N n h h') L88_0 (hoN n xs m) (RetR (X88N n h h') false false [] [] (kbN xs m)) /\ ((∃ (y : Nat), ioN xs y /\ (d /\ d /\ e /\ (0 : Int) = (y : Int) /\ d) /\ c) ∨ ∃ (y : Nat), ioO n xs m y /\ (d /\ d /\ e /\ (0 : Int) = (y : Int) /\ d) /\ a /\ e /\ False /\ (d /\ b) /\ d /\ m = mI n xs [] m ((6 : Nat) * y) /\ f /\ e /\ False) /\ (∀ (y : Unit), noC xs nC -> d /\ d /\ c) /\ (∀ (y : Unit), (lpC xs (fl n) [] m nC).fst = false /\ soC xs nC -> d /\ d /\ a /\ e /\ False /\ (d /\ b) /\ d /\ mI n xs [] m nC = m /\ f /\ e /\ d) /\ d) (a /\ e /\ d /\ (d /\ b) /\ d /\ m = m /\ f /\ e /\ d)) (C75 = C75 /\ LoopState.ready = LoopState.ready /\ (none : Option Code) = none /\ b /\ d)) (d /\ d /\ d /\ d /\ d)) (True)) (xs = xs)) (false = false)) (by kernel_rfl) ?_
 simp only [zz]
 exact ⟨hL, ⟨0, ⟨Nat.zero_le _, fun i hi => absurd hi (Nat.not_lt_zero _)⟩, rfl⟩, fun _ _ => trivial, fun _ h1 => not_so hc h1.2⟩
theorem call88O (n : Nat) (h : YC n) (h' : YNo n) (xs : Fs) (m : MF) (hp : pre88 n xs []) (hc : soC xs nC) : GCall Try.prog gl 88 false [.yld 0, .ptr 7 0 []] (kbN xs m) [] (kbW xs (lpC xs (fl n) [] m nC)) := by
 have hL := LoopOK.mono (R' := RetR (X88N n h h') false false [] [] (kbW xs (lpC xs (fl n) [] m nC))) (loop88oN n h h' xs m hp) fun st hr => hr.2
 refine gcall_of (X := (X88N n h h')) ((Xyb_ok _ _ _ _ _ _)) (f := 88) (fn := Try.f88) (c := bodyOf Try.f88) (by kernel_rfl) (by kernel_rfl) (view := false) (rvs := []) (by kernel_rfl) (H := (fun _ => some (hoN n xs m))) 150 (by kernel_rfl) ?_
 refine of_eq (q := (fun (f : Prop) => (fun (e : Prop) => (fun (b : Prop) => (fun (c : Prop) => (fun (a : RC) => (fun (g : Bool) => (fun (d : Prop) => e /\ e /\ LoopOK (X88N n h h') L88_0 (hoN n xs m) (RetR (X88N n h h') false false [] [] (kbW xs a)) /\ ((∃ (y : Nat), ioN xs y /\ (e /\ e /\ f /\ (0 : Int) = (y : Int) /\ e) /\ c /\ f /\ e /\ (e /\ b) /\ e /\ m = m /\ false = false /\ f /\ e) ∨ ∃ (y : Nat), ioO n xs m y /\ (e /\ e /\ f /\ (0 : Int) = (y : Int) /\ e) /\ c /\ f /\ False /\ (e /\ b) /\ e /\ m = mI n xs [] m ((6 : Nat) * y) /\ false = false /\ f /\ False) /\ (∀ (y : Unit), noC xs nC -> e /\ e /\ d /\ xs = pC g a.snd.fst xs /\ False /\ (e /\ b) /\ e /\ m = a.snd.snd.snd /\ false = g /\ f /\ False) /\ (∀ (y : Unit), g = false /\ soC xs nC -> e /\ e /\ d /\ xs = pC g a.snd.fst xs /\ e /\ (e /\ b) /\ e /\ mI n xs [] m nC = a.snd.snd.snd /\ false = g /\ f /\ ([] : List (Int × Int)) = pC g a.snd.snd.fst [] /\ e) /\ e) (C75 = C75 /\ sC g = LoopState.ready /\ jC g = none /\ b /\ e)) (a.fst)) (lpC xs (fl n) [] m nC)) (C75 = C75 /\ LoopState.ready = LoopState.ready /\ (none : Option Code) = none /\ b /\ e)) (e /\ e /\ e /\ e /\ e)) (True)) (xs = xs)) (by kernel_rfl) ?_
 simp only [zz]
 generalize hq : lpC xs (fl n) [] m nC = q at hL |-
 have hmi : mI n xs [] m nC = q.2.2.2 := by rw [<- hq]; try rfl
 refine ⟨hL, ⟨0, ⟨Nat.zero_le _, fun i hi => absurd hi (Nat.not_lt_zero _)⟩, rfl⟩, fun _ h1 => not_so h1 hc, fun _ h1 => ?_⟩
 rw [h1.1, hmi]
 exact ⟨⟨rfl, rfl⟩, rfl, rfl, rfl, rfl⟩
end Go.Am.Sh

/- Shells: the search for collapses, from its start. -/
namespace Go.Am.Sh
open Go Go.Am Go.Proofs
def get88N (_ : List AV) (obs : List Ob) : Option (Fs × MF) :=
 match unFa (obs.getD 1 .gone), isNl (obs.getD 2 .gone), unMF (obs.getD 5 .gone) with
 | some ys, true, some m => some (ys, m)
 | _, _, _ => none
theorem en88 : Enters Try.prog 88 := ⟨Try.f88, by kernel_rfl, by kernel_rfl, by kernel_rfl⟩
noncomputable def e88N (n : Nat) (h : YC n) (h' : YNo n) : Entry Try.prog gl := entryW 88 en88 true get88N (fun x => pre88 n x.1 [] /\ noC x.1 nC) false (fun _ => [.yld 0, .ptr 7 0 []]) (fun x => kbN x.1 x.2) (fun _ => []) (fun x => kbN x.1 x.2) (fun x hx => call88N n h h' _ x.2 hx.1 hx.2)
noncomputable def e88O (n : Nat) (h : YC n) (h' : YNo n) : Entry Try.prog gl := entryW 88 en88 true get88N (fun x => pre88 n x.1 [] /\ soC x.1 nC) false (fun _ => [.yld 0, .ptr 7 0 []]) (fun x => kbN x.1 x.2) (fun _ => []) (fun x => kbW x.1 (lpC x.1 (fl n) [] x.2 nC)) (fun x hx => call88O n h h' _ x.2 hx.1 hx.2)
def k5N (xs : Fs) (m : MF) : List Ob := [.bx (.ar .bool 64 xs), .bx (.mp 2), mF m, .bx nl, .bx (clo75 0 1 3 4)]
def k5O (xs : Fs) (l : LP) (m : MF) : List Ob := [.bx (.ar .bool 64 xs), .bx (.mp 2), mF m, .bx (.own 5 0), .bx (clo75 0 1 3 4), .sc 0 62 P2 l]
def a5 : List AV := [.ptr 0 0 [], .ptr 1 0 [], .ptr 3 0 [], .ptr 4 0 []]
/-- Nothing is taken. -/
def quiet (xs : Fs) : Prop := (trueN (gB xs) 64).length = 2 ∨ noC xs nC
theorem call75N (n : Nat) (xs : Fs) (hp : pre75 (n + 1) xs []) (hc : quiet xs) : GCall Try.prog gl 75 false a5 (k5N xs []) [.bool (fl (n + 1) xs [] []).1] (k5N xs (fl (n + 1) xs [] []).2.2.2) := by
 have hG := gC_all n
 have hK : fl (n + 1) xs [] [] = if (trueN (gB xs) 64).length = 2 then (true, xs, [], []) else if mgF [] xs = true then (false, xs, [], []) else
   if (lpC xs (fl n) [] [] nC).1 = true then lpC xs (fl n) [] [] nC else (false, xs, [], mpF (lpC xs (fl n) [] [] nC).2.2.2 xs) := by
   obtain ⟨K, rfl, h⟩ := fl_unf n xs [] []
   exact h
 refine gcall_of (X := (Xyb [e66, e76, e88N n (yC_of n hG) (yN_of n hG)] [] none 5 [] (fun _ => none))) ((Xyb_ok _ _ _ _ _ _)) (f := 75) (fn := Try.f75) (c := bodyOf Try.f75) (by kernel_rfl) (by kernel_rfl) (view := false) (rvs := [.cell 4 4]) (by kernel_rfl) (H := fun _ => none) 200 (by kernel_rfl) ?_
 refine of_eq (q := True /\ True /\ (List.length xs = 64 /\ True) /\ True /\ True /\ ((↑(trueN (gB xs) (64 : Nat)).length : Int) = 2 -> True /\ (True /\ True) /\ (true = (fl (n + 1) xs [] []).fst /\ True) /\ xs = xs /\ True /\ ([] : List (List Bool × Bool)) = (fl (n + 1) xs [] []).snd.snd.snd /\ True /\ (True /\ True /\ True /\ True /\ True /\ True) /\ True) /\ (¬(↑(trueN (gB xs) (64 : Nat)).length : Int) = 2 -> True /\ True /\ True /\ (false = true -> True /\ (True /\ True) /\ (false = (fl (n + 1) xs [] []).fst /\ True) /\ xs = xs /\ True /\ ([] : List (List Bool × Bool)) = (fl (n + 1) xs [] []).snd.snd.snd /\ True /\ (True /\ True /\ True /\ True /\ True /\ True) /\ True) /\ (false = false -> True /\ (True /\ True) /\ ((((pre88 n xs [] /\ noC xs nC) /\ (True /\ True /\ True) /\ (C75 = C75 /\ LoopState.ready = LoopState.ready /\ (none : Option Code) = none /\ (True /\ True /\ True /\ True /\ True) /\ True) /\ xs = xs /\ True /\ (True /\ True /\ True /\ True /\ True /\ True) /\ True /\ ([] : List (List Bool × Bool)) = [] /\ false = false /\ xs = xs /\ True) /\ True /\ True /\ True /\ True /\ True /\ True /\ True /\ True /\ True) /\ ¬LoopState.ready = LoopState.busy) /\ ((none : Option Code) = none -> True /\ True /\ True /\ True /\ (True /\ True) /\ (false = (fl (n + 1) xs [] []).fst /\ True) /\ xs = xs /\ True /\ mPut FA [] xs true = (fl (n + 1) xs [] []).snd.snd.snd /\ True /\ (True /\ True /\ True /\ True /\ True /\ True) /\ True) /\ ((none : Option Code) = some Code.ret ∨ (none : Option Code) = none) /\ ((none : Option Code) = some Code.ret -> (True /\ True) /\ (false = (fl (n + 1) xs [] []).fst /\ True) /\ xs = xs /\ True /\ ([] : List (List Bool × Bool)) = (fl (n + 1) xs [] []).snd.snd.snd /\ True /\ (True /\ True /\ True /\ True /\ True /\ True) /\ True) /\ True))) (by kernel_rfl) ?_
 generalize fl (n + 1) xs [] [] = q at hK |-
 simp only [zz]
 refine ⟨hp.hl, fun h2 => ?_, fun h2 => ⟨(fun h3 => by cases h3), fun _ => ?_⟩⟩
 · rw [if_pos (by omega)] at hK
   rw [hK]
   exact ⟨rfl, rfl⟩
 · have hno : noC xs nC := hc.resolve_left (by omega)
   rw [if_neg (by omega), if_neg (by simp [mgF, mGet]), lpC_no hno, if_neg (by simp)] at hK
   rw [hK]
   have hpre : pre88 n xs [] := ⟨hp.hl, by have := hp.hc; omega, hp.hn⟩
   exact ⟨⟨⟨hpre, hno⟩, by intro h; cases h⟩, fun _ => ⟨rfl, rfl⟩, .inr trivial, (fun h => by cases h)⟩
theorem call75O (n : Nat) (xs : Fs) (hp : pre75 (n + 1) xs []) (hc : ¬ quiet xs) : GCall Try.prog gl 75 false a5 (k5N xs []) [.bool (fl (n + 1) xs [] []).1] (k5O (fl (n + 1) xs [] []).2.1 (fl (n + 1) xs [] []).2.2.1 (fl (n + 1) xs [] []).2.2.2) := by
 have hG := gC_all n
 have hK : fl (n + 1) xs [] [] = if (trueN (gB xs) 64).length = 2 then (true, xs, [], []) else if mgF [] xs = true then (false, xs, [], []) else
   if (lpC xs (fl n) [] [] nC).1 = true then lpC xs (fl n) [] [] nC else (false, xs, [], mpF (lpC xs (fl n) [] [] nC).2.2.2 xs) := by
   obtain ⟨K, rfl, h⟩ := fl_unf n xs [] []
   exact h
 refine gcall_of (X := (Xyb [e66, e76, e88O n (yC_of n hG) (yN_of n hG)] [] none 5 [] (fun _ => none))) ((Xyb_ok _ _ _ _ _ _)) (f := 75) (fn := Try.f75) (c := bodyOf Try.f75) (by kernel_rfl) (by kernel_rfl) (view := false) (rvs := [.cell 4 4]) (by kernel_rfl) (H := fun _ => none) 200 (by kernel_rfl) ?_
 refine of_eq (q := True /\ True /\ (List.length xs = 64 /\ True) /\ True /\ True /\ ((↑(trueN (gB xs) (64 : Nat)).length : Int) = 2 -> True /\ (True /\ True) /\ (true = (fl (n + 1) xs [] []).fst /\ True) /\ xs = (fl (n + 1) xs [] []).snd.fst /\ True /\ ([] : List (List Bool × Bool)) = (fl (n + 1) xs [] []).snd.snd.snd /\ False /\ (True /\ True /\ True /\ True /\ True /\ True) /\ False) /\ (¬(↑(trueN (gB xs) (64 : Nat)).length : Int) = 2 -> True /\ True /\ True /\ (false = true -> True /\ (True /\ True) /\ (false = (fl (n + 1) xs [] []).fst /\ True) /\ xs = (fl (n + 1) xs [] []).snd.fst /\ True /\ ([] : List (List Bool × Bool)) = (fl (n + 1) xs [] []).snd.snd.snd /\ False /\ (True /\ True /\ True /\ True /\ True /\ True) /\ False) /\ (false = false -> True /\ (True /\ True) /\ ((((pre88 n xs [] /\ soC xs nC) /\ (True /\ True /\ True) /\ (C75 = C75 /\ LoopState.ready = LoopState.ready /\ (none : Option Code) = none /\ (True /\ True /\ True /\ True /\ True) /\ True) /\ xs = xs /\ True /\ (True /\ True /\ True /\ True /\ True /\ True) /\ True /\ ([] : List (List Bool × Bool)) = [] /\ false = false /\ xs = xs /\ True) /\ True /\ True /\ True /\ True /\ True /\ True /\ True /\ True /\ True) /\ ¬sC (lpC xs (fl n) [] [] nC).fst = LoopState.busy) /\ (jC (lpC xs (fl n) [] [] nC).fst = none -> True /\ True /\ True /\ True /\ (True /\ True) /\ (false = (fl (n + 1) xs [] []).fst /\ True) /\ pC (lpC xs (fl n) [] [] nC).fst (lpC xs (fl n) [] [] nC).snd.fst xs = (fl (n + 1) xs [] []).snd.fst /\ True /\ mPut FA (lpC xs (fl n) [] [] nC).snd.snd.snd (pC (lpC xs (fl n) [] [] nC).fst (lpC xs (fl n) [] [] nC).snd.fst xs) true = (fl (n + 1) xs [] []).snd.snd.snd /\ True /\ (True /\ True /\ True /\ True /\ True /\ True) /\ pC (lpC xs (fl n) [] [] nC).fst (lpC xs (fl n) [] [] nC).snd.snd.fst [] = (fl (n + 1) xs [] []).snd.snd.fst /\ True) /\ (jC (lpC xs (fl n) [] [] nC).fst = some Code.ret ∨ jC (lpC xs (fl n) [] [] nC).fst = none) /\ (jC (lpC xs (fl n) [] [] nC).fst = some Code.ret -> (True /\ True) /\ ((lpC xs (fl n) [] [] nC).fst = (fl (n + 1) xs [] []).fst /\ True) /\ pC (lpC xs (fl n) [] [] nC).fst (lpC xs (fl n) [] [] nC).snd.fst xs = (fl (n + 1) xs [] []).snd.fst /\ True /\ (lpC xs (fl n) [] [] nC).snd.snd.snd = (fl (n + 1) xs [] []).snd.snd.snd /\ True /\ (True /\ True /\ True /\ True /\ True /\ True) /\ pC (lpC xs (fl n) [] [] nC).fst (lpC xs (fl n) [] [] nC).snd.snd.fst [] = (fl (n + 1) xs [] []).snd.snd.fst /\ True) /\ True))) (by kernel_rfl) ?_
 generalize lpC xs (fl n) [] [] nC = r at hK |-
 generalize fl (n + 1) xs [] [] = q at hK |-
 simp only [zz]
 have hc1 : ¬ (trueN (gB xs) 64).length = 2 := fun h => hc (.inl h)
 have hc2 : soC xs nC := Classical.byContradiction fun h => hc (.inr fun i hi => by
   cases hq : cnd xs i with
   | false => rfl
   | true => exact absurd ⟨i, hi, hq⟩ h)
 have hpre : pre88 n xs [] := ⟨hp.hl, by have := hp.hc; omega, hp.hn⟩
 have hb : ∀ b : Bool, ¬ sC b = .busy := fun b => by cases b <;> (intro h; cases h)
 rw [if_neg hc1, if_neg (by simp [mgF, mGet])] at hK
 refine ⟨hp.hl, fun h2 => absurd h2 (by omega), fun h2 => ⟨(fun h3 => by cases h3), fun _ => ⟨⟨⟨hpre, hc2⟩, hb _⟩, ?_⟩⟩⟩
 cases hr : r.1
 · rw [if_neg (by rw [hr]; simp)] at hK
   rw [hK]
   exact ⟨fun _ => ⟨rfl, rfl, rfl, rfl⟩, .inr rfl, (fun h => by cases h)⟩
 · rw [if_pos hr] at hK
   rw [hK]
   exact ⟨(fun h => by cases h), .inl rfl, fun _ => ⟨hr.symm, rfl, rfl, rfl⟩⟩
end Go.Am.Sh

/- Shells: Collapse. -/
namespace Go.Am.Sh
open Go Go.Am Go.Proofs
def posQ (x : Int) : Bool := decide (0 < x)
theorem call77 (x : Int) (_ : True) : GCall Try.prog gl 77 true [.int .i64 x] [] [.bool (posQ x)] [] := by
 refine gcall_of (X := X []) (X_ok []) (f := 77) (fn := Try.f77) (c := bodyOf Try.f77) (by kernel_rfl) (by kernel_rfl) (view := false) (rvs := [.tmp 2]) (by kernel_rfl) (H := fun _ => none) 80 (by kernel_rfl) ?_
 refine of_eq (q := True /\ True /\ True /\ True /\ True /\ (decide ((0 : Int) < x) = posQ x /\ True) /\ True) (by kernel_rfl) ?_
 simp only [zz]
 rfl
def e77 : Entry Try.prog gl := entry1 77 ⟨Try.f77, by kernel_rfl, by kernel_rfl, by kernel_rfl⟩ I64 (fun (_ : Int) => True) true (fun x => [.bool (posQ x)]) (fun _ => []) (call77)
def psX (p : List Int) : Int := if ∃ s ∈ p, posQ s = true then ((p.findIdx posQ : Nat) : Int) else -1
def ic83 (p : List Int) (k : Nat) : Prop := k <= p.length /\ ∀ q ∈ p.take k, posQ q = false
def sc83 (p : List Int) (k : Nat) : St := ⟨.sl I64 p :: .clo 77 [] [] :: dd 5 ++ .int .i64 p.length :: .int .i64 k :: dd 10, []⟩
def ec83 (p : List Int) : List (List Nat × Ex) := [([], ⟨0, Unit, fun _ => ∀ q ∈ p, posQ q = false, fun _ => ⟨dd 19, []⟩⟩)]
noncomputable def Hc83 (p : List Int) : Nat -> Option Hint := fun _ => some ⟨chk 0 [0, 1, 7, 8] (ic83 p) (sc83 p), (ec83 p).map (·.2)⟩
theorem loop83c (p : List Int) (hl : p.length <= 64) : LoopOK (X [e77]) L83_0 ⟨chk 0 [0, 1, 7, 8] (ic83 p) (sc83 p), (ec83 p).map (·.2)⟩ (RetR (X [e77]) true false [.tmp 4] [.int .i64 (psX p)] []) := by
 refine loop_ok (X_ok _) (H := fun _ _ => none) [0, 1, 7, 8] (ic83 p) (sc83 p) (fun k => p.length - k) (ec83 p) 90 fun (k : Nat) hk => ?_
 refine of_eq (q := (fun (c : Int) => (fun (b : Prop) => (fun (a : Int) => b /\ (a < c -> b /\ b /\ b /\ b /\ b /\ idxPre a p.length /\ b /\ (b /\ b) /\ (posQ (p.getD k (0 : Int)) = true -> b /\ b /\ b /\ (a = psX p /\ b) /\ b) /\ (posQ (p.getD k (0 : Int)) = false -> inR .i64 (a + 1) /\ b /\ ∃ (y : Nat), (ic83 p y /\ p.length - y < p.length - k) /\ (p = p /\ (b /\ b) /\ c = c /\ a + 1 = (y : Int) /\ b) /\ b)) /\ (¬a < c -> ∃ (y : Unit), (∀ (q : Int), q ∈ p -> posQ q = false) /\ b /\ b)) ((k : Int))) (True)) ((p.length : Int))) (by kernel_rfl) ?_
 simp only [zz]
 obtain ⟨h1, h2⟩ := hk
 refine ⟨fun hk => ?_, fun hk => ?_⟩
 · have hk : k < p.length := by omega
   refine ⟨idx_nat hk, fun hx => ?_, fun hx => ⟨by simp only [inR]; omega, k + 1, ⟨⟨by omega, (all_take (d := 0) hk).mpr ⟨h2, hx⟩⟩, by omega⟩, by omega⟩⟩
   unfold psX
   rw [if_pos ⟨_, mem_getD hk, hx⟩, find_at hk h2 hx]
 · rwa [List.take_of_length_le (by omega)] at h2
theorem call83c (p : List Int) (hl : p.length <= 64) : GCall Try.prog gl 83 true [.sl I64 p, .clo 77 [] []] [] [.int .i64 (psX p)] [] := by
 refine gcall_of (X := X [e77]) (X_ok [e77]) (f := 83) (fn := Try.f83) (c := bodyOf Try.f83) (by kernel_rfl) (by kernel_rfl) (view := false) (rvs := [.tmp 4]) (by kernel_rfl) (H := (Hc83 p)) 80 (by kernel_rfl) ?_
 have hL := loop83c p hl
 refine of_eq (q := (fun (a : Prop) => a /\ a /\ a /\ a /\ LoopOK (X [e77]) L83_0 { J := chk (0 : Nat) [(0 : Nat), (1 : Nat), (7 : Nat), (8 : Nat)] (ic83 p) (sc83 p), exits := List.map (fun (x : List Nat × Ex) => x.snd) (ec83 p) } (RetR (X [e77]) true false [ResultVar.tmp (4 : Tmp)] [AV.int .i64 (psX p)] []) /\ (∃ (y : Nat), ic83 p y /\ (p = p /\ (a /\ a) /\ (p.length : Int) = (p.length : Int) /\ (0 : Int) = (y : Int) /\ a) /\ a) /\ (∀ (y : Unit), (∀ (q : Int), q ∈ p -> posQ q = false) -> a /\ a /\ ((-1 : Int) = psX p /\ a) /\ a) /\ a) (True)) (by kernel_rfl) ?_
 simp only [zz]
 refine ⟨hL, ⟨0, ⟨by omega, by simp⟩, rfl⟩, fun _ h => ?_⟩
 unfold psX; rw [if_neg]
 rintro ⟨q, h1, h2⟩
 rw [h q h1] at h2; cases h2
def get83c (xs : List AV) (_ : List Ob) : Option (List Int) :=
 match xs with
 | [.sl e l, _] => castL e I64 l
 | _ => none
def e83c : Entry Try.prog gl := entryW 83 ⟨Try.f83, by kernel_rfl, by kernel_rfl, by kernel_rfl⟩ false get83c (fun p => p.length <= 64) true (fun x => [.sl I64 x, .clo 77 [] []]) (fun _ => []) (fun x => [.int .i64 (psX x)]) (fun _ => []) (fun x h => call83c _ h)
def posL (p : List Int) : Bool := p.any posQ
theorem psX_iff {p : List Int} : 0 <= psX p ↔ posL p = true := by
 unfold psX posL
 rw [List.any_eq_true]
 constructor
 · intro h
   refine Classical.byContradiction fun h2 => ?_
   rw [if_neg h2] at h
   omega
 · intro h
   rw [if_pos h]; omega
theorem call59c (p : List Int) (hl : p.length <= 64) : GCall Try.prog gl 59 true [.sl I64 p, .clo 77 [] []] [] [.bool (posL p)] [] := by
 refine gcall_of (X := X [e83c]) (X_ok [e83c]) (f := 59) (fn := Try.f59) (c := bodyOf Try.f59) (by kernel_rfl) (by kernel_rfl) (view := false) (rvs := [.tmp 4]) (by kernel_rfl) (H := fun _ => none) 80 (by kernel_rfl) ?_
 refine of_eq (q := (fun (a : Prop) => a /\ a /\ a /\ ((p.length <= 64 /\ (p = p /\ (a /\ a) /\ a) /\ a) /\ a) /\ a /\ a /\ a /\ (decide ((0 : Int) <= psX p) = posL p /\ a) /\ a) (True)) (by kernel_rfl) ?_
 simp only [zz]
 refine ⟨hl, ?_⟩
 have := psX_iff (p := p)
 cases h : posL p <;> simp [h] at this |- <;> omega
def e59c : Entry Try.prog gl := entryW 59 ⟨Try.f59, by kernel_rfl, by kernel_rfl, by kernel_rfl⟩ false get83c (fun p => p.length <= 64) true (fun x => [.sl I64 x, .clo 77 [] []]) (fun _ => []) (fun x => [.bool (posL x)]) (fun _ => []) (fun x h => call59c _ h)
def get75N (_ : List AV) (obs : List Ob) : Option (Fs × MF) :=
 match unFa (obs.getD 0 .gone), unMF (obs.getD 2 .gone), isNl (obs.getD 3 .gone) with
 | some xs, some m, true => some (xs, m)
 | _, _, _ => none
structure okN75 (N : Nat) (q : Prop) (x : Fs × MF) : Prop where
 h : pre75 N x.1 []
 m : x.2 = []
 q : q
theorem en75 : Enters Try.prog 75 := ⟨Try.f75, by kernel_rfl, by kernel_rfl, by kernel_rfl⟩
noncomputable def e75N (N : Nat) : Entry Try.prog gl := entryW 75 en75 true get75N (fun x => okN75 N (quiet x.1) x) false (fun _ => a5) (fun x => k5N x.1 x.2) (fun x => [.bool (fl N x.1 [] []).1]) (fun x => k5N x.1 (fl N x.1 [] []).2.2.2) (by
 rintro ⟨xs, m⟩ ⟨h1, h2, h3⟩
 simp only at h1 h2 h3
 subst h2
 cases N with
 | zero => exact absurd h1.hc (by omega)
 | succ n => exact call75N n xs h1 h3)
noncomputable def e75O (N : Nat) : Entry Try.prog gl := entryW 75 en75 true get75N (fun x => okN75 N (¬ quiet x.1) x) false (fun _ => a5) (fun x => k5N x.1 x.2) (fun x => [.bool (fl N x.1 [] []).1]) (fun x => k5O (fl N x.1 [] []).2.1 (fl N x.1 [] []).2.2.1 (fl N x.1 [] []).2.2.2) (by
 rintro ⟨xs, m⟩ ⟨h1, h2, h3⟩
 simp only at h1 h2 h3
 subst h2
 cases N with
 | zero => exact absurd h1.hc (by omega)
 | succ n => exact call75O n xs h1 h3)
def colB (N : Nat) (p : List Int) : Bool := !posL (hoL p) && (fl N (mk (isF p)) [] []).1
def colL (N : Nat) (p : List Int) : LP := if colB N p = true then (fl N (mk (isF p)) [] []).2.2.1 else []
theorem fl_quiet {N : Nat} {xs : Fs} (hq : quiet xs) : (fl N xs [] []).2.2.1 = [] := by
 cases N with
 | zero => rfl
 | succ n =>
   obtain ⟨K, rfl, h⟩ := fl_unf n xs [] []
   rw [h]
   by_cases h1 : (trueN (gB xs) 64).length = 2
   · rw [if_pos h1]
   · rw [if_neg h1, if_neg (by simp [mgF, mGet]), lpC_no (hq.resolve_left h1), if_neg (by simp)]
theorem cN_top (f : Nat -> Bool) : ∀ m : Nat, cN f m <= m
 | 0 => by rw [cN]; omega
 | m + 1 => by
   have := cN_top f m
   rw [cN]; split <;> omega
theorem pre33 {N : Nat} (hN : N = 33) (p : List Int) : pre75 N (mk (isF p)) [] := by
 subst hN
 have := cN_top (gB (mk (isF p))) 64
 exact ⟨mk_length _, by omega, by simp⟩
theorem hoL_le {n : Int} {p : List Int} (_ : cxOk n p) : (hoL p).length <= 64 := by
 unfold hoL
 rw [hoK_length]
 have := mxL_le p
 omega
theorem call46N (N : Nat) (n : Int) (p : List Int) (hN : N = 33) (h : cxOk n p) (hq : quiet (mk (isF p))) : GCall Try.prog gl 46 true [.int .i64 n, .sl I64 p] [] [.sl P2 (colL N p), .bool (colB N p), .int .i64 0] [] := by
 refine gcall_of (X := X [e53, e67, e59c, e75N N]) (X_ok [e53, e67, e59c, e75N N]) (f := 46) (fn := Try.f46) (c := bodyOf Try.f46) (by kernel_rfl) (by kernel_rfl) (view := true) (rvs := [.tmp 4, .tmp 5, .tmp 6]) (by kernel_rfl) (H := fun _ => none) 150 (by kernel_rfl) ?_
 refine of_eq (q := (fun (f : Prop) => (fun (d : Prop) => (fun (c : List Bool) => (fun (g : Bool) => (fun (b : Prop) => (fun (e : Prop) => (fun (a : Prop) => b /\ b /\ b /\ b /\ b /\ (CxP n p /\ b) /\ b /\ b /\ b /\ b /\ b /\ b /\ b /\ (¬d -> b /\ a) /\ (¬¬d -> b /\ b /\ b /\ b /\ b /\ b /\ b /\ b /\ b /\ b /\ b /\ b /\ b /\ b /\ ((okC (n, p, c) /\ (b /\ b) /\ (n = n /\ p = p /\ c = c /\ b) /\ b) /\ b /\ b) /\ (((hoL p).length <= 64 /\ (hoL p = hoL p /\ (b /\ b) /\ b) /\ b) /\ b) /\ b /\ (posL (hoL p) = true -> b /\ a) /\ (posL (hoL p) = false -> b /\ ((okN75 N (quiet c) (c, []) /\ e /\ c = c /\ b /\ ([] : List (List Bool × Bool)) = [] /\ b /\ (b /\ e) /\ b) /\ b /\ e) /\ b /\ b /\ (g = true -> a) /\ (g = false -> b /\ b /\ b /\ b /\ b /\ (f /\ true = colB N p /\ d /\ b) /\ b)))) (b /\ b /\ b /\ b /\ (f /\ false = colB N p /\ d /\ b) /\ b)) (b /\ b /\ b /\ b /\ b)) (True)) (!(fl N c [] []).fst)) (mk (isF p))) ((0 : Int) = 0)) (([] : List (Int × Int)) = colL N p)) (by kernel_rfl) ?_
 simp only [zz]
 have hho : (hoL p).length <= 64 := hoL_le h
 refine ⟨⟨h⟩, fun hx => absurd trivial hx, fun _ => ⟨⟨h, rfl⟩, hho, fun h1 => ?_, fun h1 => ⟨⟨pre33 hN p, rfl, hq⟩, fun h2 => ?_, fun h2 => ?_⟩⟩⟩
 · simp [colL, colB, h1]
 · have h2 : (fl N (mk (isF p)) [] []).1 = false := by simpa using h2
   simp [colL, colB, h1, h2]
 · have h2 : (fl N (mk (isF p)) [] []).1 = true := by simpa using h2
   simp [colL, colB, h1, h2, fl_quiet hq]
theorem call46O (N : Nat) (n : Int) (p : List Int) (hN : N = 33) (h : cxOk n p) (hq : ¬ quiet (mk (isF p))) : GCall Try.prog gl 46 true [.int .i64 n, .sl I64 p] [] [.sl P2 (colL N p), .bool (colB N p), .int .i64 0] [] := by
 refine gcall_of (X := X [e53, e67, e59c, e75O N]) (X_ok [e53, e67, e59c, e75O N]) (f := 46) (fn := Try.f46) (c := bodyOf Try.f46) (by kernel_rfl) (by kernel_rfl) (view := true) (rvs := [.tmp 4, .tmp 5, .tmp 6]) (by kernel_rfl) (H := fun _ => none) 150 (by kernel_rfl) ?_
 refine of_eq (q := (fun (d : Prop) => (fun (c : Prop) => (fun (e : Prop) => (fun (b : List Bool) => (fun (f : RC) => (fun (a : Prop) => c /\ c /\ c /\ c /\ c /\ (CxP n p /\ c) /\ c /\ c /\ c /\ c /\ c /\ c /\ c /\ (¬d -> c /\ a) /\ (¬¬d -> c /\ c /\ c /\ c /\ c /\ c /\ c /\ c /\ c /\ c /\ c /\ c /\ c /\ c /\ ((okC (n, p, b) /\ (c /\ c) /\ (n = n /\ p = p /\ b = b /\ c) /\ c) /\ c /\ c) /\ (((hoL p).length <= 64 /\ (hoL p = hoL p /\ (c /\ c) /\ c) /\ c) /\ c) /\ c /\ (posL (hoL p) = true -> c /\ a) /\ (posL (hoL p) = false -> c /\ ((okN75 N (¬quiet b) (b, []) /\ e /\ b = b /\ c /\ ([] : List (List Bool × Bool)) = [] /\ c /\ (c /\ e) /\ c) /\ c /\ e) /\ c /\ c /\ ((!f.fst) = true -> a) /\ ((!f.fst) = false -> c /\ c /\ c /\ c /\ c /\ (f.snd.snd.fst = colL N p /\ true = colB N p /\ d /\ c) /\ c)))) (c /\ c /\ c /\ c /\ (([] : List (Int × Int)) = colL N p /\ false = colB N p /\ d /\ c) /\ c)) (fl N b [] [])) (mk (isF p))) (c /\ c /\ c /\ c /\ c)) (True)) ((0 : Int) = 0)) (by kernel_rfl) ?_
 simp only [zz]
 have hho : (hoL p).length <= 64 := hoL_le h
 refine ⟨⟨h⟩, fun hx => absurd trivial hx, fun _ => ⟨⟨h, rfl⟩, hho, fun h1 => ?_, fun h1 => ⟨⟨pre33 hN p, rfl, hq⟩, fun h2 => ?_, fun h2 => ?_⟩⟩⟩
 · simp [colL, colB, h1]
 · have h2 : (fl N (mk (isF p)) [] []).1 = false := by simpa using h2
   simp [colL, colB, h1, h2]
 · have h2 : (fl N (mk (isF p)) [] []).1 = true := by simpa using h2
   simp [colL, colB, h1, h2]
def colR (p : List Int) : Bool := colB 33 p
def colP (p : List Int) : LP := colL 33 p
theorem call46 (n : Int) (p : List Int) (h : cxOk n p) : GCall Try.prog gl 46 true [.int .i64 n, .sl I64 p] [] [.sl P2 (colP p), .bool (colR p), .int .i64 0] [] := by
 by_cases hq : quiet (mk (isF p))
 · exact call46N 33 n p rfl h hq
 · exact call46O 33 n p rfl h hq
end Go.Am.Sh

/- Shells: what is left; News of no complex. -/
namespace Go.Am.Sh
open Go Go.Am Go.Proofs
end Go.Am.Sh

/- Shells: the law of the checks. -/
namespace Go.Am.Sh
open Go Go.Am Go.Proofs
def g46 : Entry Try.prog gl := entry2 46 ⟨Try.f46, by kernel_rfl, by kernel_rfl, by kernel_rfl⟩ I64 SI (fun (n : Int) p => cxOk n p) true (fun _ p => [.sl P2 (colP p), .bool (colR p), .int .i64 0]) (fun _ _ => []) (fun n p h => call46 n p h)
end Go.Am.Sh

/- Shells: the boundary of a boundary. -/
namespace Go.Am.Sh
open Go Go.Am Go.Proofs
/-- The sum of the rows of the faces that are bits of v. -/
def bd (v : Nat) : Nat -> Nat
 | 0 => 0
 | k + 1 => if v.testBit k then bd v k ^^^ row k else bd v k
theorem bd_bd : ∀ x : Fin 64, bd (row x.val) 64 = 0 := by decide +kernel
theorem xlc (a b c : Nat) : a ^^^ (b ^^^ c) = b ^^^ (a ^^^ c) := by rw [<- Nat.xor_assoc, <- Nat.xor_assoc, Nat.xor_comm a b]
theorem bd_xor (u v : Nat) : ∀ k, bd (u ^^^ v) k = bd u k ^^^ bd v k
 | 0 => by simp [bd]
 | k + 1 => by
   rw [bd, bd, bd, bd_xor u v k, Nat.testBit_xor]
   cases hu : u.testBit k <;> cases hv : v.testBit k
   · simp
   · simp [Nat.xor_assoc]
   · simp only [Bool.xor_false, if_true, Bool.false_eq_true, if_false]; rw [Nat.xor_assoc, Nat.xor_assoc, Nat.xor_comm (row k)]
   · simp only [Bool.xor_self, if_true, Bool.false_eq_true, if_false]; rw [Nat.xor_assoc, xlc (row k), Nat.xor_self, Nat.xor_zero]
end Go.Am.Sh

/- Shells: the reference's collapses: sizes of any numbers. -/
namespace Go.Am.Sh
open Go Go.Am Go.Proofs
def szI (x : Int) : Nat := pcK x.toNat 63
def ptI (x y : Int) : Bool := decide (bNot .i64 x y = 0)
def oneB (l : List Int) : Bool := decide (l.length = 2 /\ l.getD 0 0 = 0 /\ pc (l.getD 1 0).toNat = 1)
def cpre (f e : Int) : Prop := 0 < f /\ ptI f e = true /\ szI e = szI f + 1
instance (f e : Int) : Decidable (cpre f e) := by unfold cpre; infer_instance
def ndC (f e x : Int) : Bool := decide (x = f ∨ x = e)
def gdK (l : List Int) (f e : Int) (k : Nat) : Prop := ∀ x ∈ l.take k, ndC f e x = false -> ptI f x = false
instance (l f e k) : Decidable (gdK l f e k) := by unfold gdK; infer_instance
def kpK (l : List Int) (f e : Int) (k : Nat) : List Int := (l.take k).filter fun x => !ndC f e x
def mtK (l : List Int) (f e : Int) (k : Nat) : Nat := ((l.take k).filter (ndC f e)).length
def clOk (l : List Int) (f e : Int) : Prop := cpre f e /\ gdK l f e l.length
instance (l f e) : Decidable (clOk l f e) := by unfold clOk; infer_instance
def clR (l : List Int) (f e : Int) : List Int := if clOk l f e then kpK l f e l.length else []
def clB (l : List Int) (f e : Int) : Bool := decide (clOk l f e /\ mtK l f e l.length = 2)
/-- The faces behind the first collapses, and whether all were. -/
def rlA (l : List Int) (c : LP) : Nat -> List Int
 | 0 => l
 | k + 1 => clR (rlA l c k) (c.getD k (0, 0)).1 (c.getD k (0, 0)).2
def rlC (l : List Int) (c : LP) (k : Nat) : Bool := clB (rlA l c k) (c.getD k (0, 0)).1 (c.getD k (0, 0)).2
def rlB (l : List Int) (c : LP) : Bool := decide (∀ i, i < c.length -> rlC l c i = true)
def st48 (l : List Int) (c : LP) (k : Nat) : St := ⟨.sl I64 (rlA l c k) :: .sl P2 c :: dd 4 ++ .int .i64 k :: dd 21, []⟩
def in48 (l : List Int) (c : LP) (k : Nat) : Prop := k <= c.length /\ ∀ i, i < k -> rlC l c i = true
def ex48 (l : List Int) (c : LP) : List (List Nat × Ex) := [([0], ⟨0, Unit, fun _ => rlB l c = true, fun _ => ⟨.sl I64 (rlA l c c.length) :: dd 27, []⟩⟩)]
def h48 (l : List Int) (c : LP) : Hint := ⟨chk 0 [0, 1, 6] (in48 l c) (st48 l c), (ex48 l c).map (·.2)⟩
end Go.Am.Sh

/- Shells: the reference's search for collapses. -/
namespace Go.Am.Sh
open Go Go.Am Go.Proofs
abbrev MJ := List (Int × Bool)
def giI (m : MJ) (k : Int) : Bool := (mGet I64 m k).getD false
def kyK (l : List Int) : Nat -> Int
 | 0 => 0
 | k + 1 => bOr .i64 (kyK l k) (modU .i64 (1 * 2 ^ (l.getD k 0).toNat))
def kyI (l : List Int) : Int := kyK l l.length
structure ok78 (n : Nat) (l : List Int) (m : MJ) : Prop where
 o : okL l
 lt : l.length < 2 * (n + 1)
 b : l.length < 1000000
 one : oneB l = false
 g : giI m (kyI l) = false
def zeL (p : List Int) : Bool := decide (∀ x ∈ hoL p, x = 0)
end Go.Am.Sh

/- Shells, plain: hollow numbers are not negative. -/
namespace Go.Am.Sh
open Go Go.Am Go.Proofs
theorem row_sub : ∀ x j : Fin 64, (row x.val).testBit j.val = true -> sub j.val x.val = true /\ pc j.val + 1 = pc x.val := by decide +kernel
theorem bd_one {x : Nat} (hx : x < 64) : ∀ k, bd (2 ^ x) k = if x < k then row x else 0
 | 0 => by rw [bd, if_neg (by omega)]
 | k + 1 => by
   rw [bd, bd_one hx k, Nat.testBit_two_pow]
   rcases Nat.lt_trichotomy x k with h | h | h
   · rw [if_neg (by simp; omega), if_pos h, if_pos (by omega)]
   · subst h
     rw [if_pos (by simp), if_neg (by omega), if_pos (by omega), Nat.zero_xor]
   · rw [if_neg (by simp; omega), if_neg (by omega), if_neg (by omega)]
/-- Sets of faces with k + 1 corners. -/
def fK (p : List Int) (k : Nat) (x : Nat) : Bool := isF p x && decide (pc x = k)
def supp (F : Nat -> Bool) (u : Nat) : Prop := u < 2 ^ 64 /\ ∀ j, u.testBit j = true -> F j = true
theorem supp_lin (F : Nat -> Bool) : Lin (supp F) := ⟨⟨Nat.two_pow_pos _, fun j hj => by simp at hj⟩, fun u v hu hv => ⟨Nat.xor_lt_two_pow hu.1 hv.1, fun j hj => by
 rw [Nat.testBit_xor] at hj
 cases e : u.testBit j with
 | true => exact hu.2 j e
 | false => rw [e] at hj; exact hv.2 j (by simpa using hj)⟩⟩
theorem bd_zero : ∀ k, bd 0 k = 0
 | 0 => rfl
 | k + 1 => by rw [bd, bd_zero k]; simp
def bdA (u : Nat) : Nat := bd u 64
theorem bdA_xor (u v : Nat) : bdA (u ^^^ v) = bdA u ^^^ bdA v := bd_xor u v 64
theorem ker_lin : Lin fun u => bdA u = 0 := ⟨bd_zero 64, fun u v hu hv => by rw [bdA_xor, hu, hv]; rfl⟩
/-- What some faces have as a boundary. -/
def img (F : Nat -> Bool) (v : Nat) : Prop := ∃ S, supp F S /\ bdA S = v
theorem img_lin (F : Nat -> Bool) : Lin (img F) := ⟨⟨0, (supp_lin F).z, bd_zero 64⟩, fun u v ⟨S, h1, h2⟩ ⟨T, h3, h4⟩ => ⟨S ^^^ T, (supp_lin F).x _ _ h1 h3, by rw [bdA_xor, h2, h4]⟩⟩
theorem pre_list {F : Nat -> Bool} : ∀ {L : List Nat}, (∀ v ∈ L, img F v) -> ∃ M : List Nat, M.length = L.length /\ M.map bdA = L /\ ∀ S ∈ M, supp F S
 | [], _ => ⟨[], rfl, rfl, fun S hS => by cases hS⟩
 | v :: L, h => by
   obtain ⟨S, h1, h2⟩ := h v List.mem_cons_self
   obtain ⟨M, h3, h4, h5⟩ := pre_list (L := L) fun w hw => h w (List.mem_cons_of_mem _ hw)
   refine ⟨S :: M, by simp [h3], by simp [h2, h4], fun T hT => ?_⟩
   rcases List.mem_cons.mp hT with e | e
   · rw [e]; exact h1
   · exact h5 T e
theorem spn_bd {B : List Nat} (hB : ∀ v ∈ B, bdA v = 0) : ∀ {M : List Nat} {u}, spn (M ++ B) u -> spn (M.map bdA) (bdA u)
 | [], u, h => spn_of ker_lin hB h
 | S :: M, u, h => by
   rcases h with h | h
   · exact .inl (spn_bd hB h)
   · refine .inr ?_
     have := spn_bd hB h
     rwa [bdA_xor] at this
theorem ind_app {B : List Nat} (hB : ∀ v ∈ B, bdA v = 0) (hi : Ind B) : ∀ {M : List Nat}, Ind (M.map bdA) -> Ind (M ++ B)
 | [], _ => hi
 | _ :: _, ⟨h1, h2⟩ => ⟨fun h => h1 (spn_bd hB h), ind_app hB hi h2⟩
theorem brdK_mem {l : List Int} {m : Int} {v : Int} : ∀ {k : Nat}, k <= l.length -> v ∈ brdK l m k -> ∃ x ∈ l, (pc x.toNat : Int) = m /\ v = (row x.toNat : Int)
 | 0, _, h => by cases h
 | k + 1, hk, h => by
   rw [brdK] at h
   split at h
   · rename_i hp
     rcases List.mem_append.mp h with h | h
     · exact brdK_mem (by omega) h
     · exact ⟨l.getD k 0, mem_getD (by omega), hp, List.mem_singleton.mp h⟩
   · exact brdK_mem (by omega) h
theorem brd_mem {p : List Int} {m : Int} {v : Int} (h : v ∈ brd p m) : ∃ x : Nat, x < 64 /\ isF p x = true /\ (pc x : Int) = m /\ v = (row x : Int) := by
 obtain ⟨x, h1, h2, h3⟩ := brdK_mem (Nat.le_refl _) h
 obtain ⟨n, rfl, h4, h5⟩ := trueN_mem h1
 exact ⟨n, h4, h5, h2, h3⟩
theorem brd_cN (p : List Int) (m : Nat) : (brd p m).length = cN (fK p m) 64 := by
 unfold brd
 rw [show fcs p = trueN (isF p) 64 from rfl, brdK_length (Nat.le_refl _), List.take_length, filter_trueN (isF p) (fun x => pc x == m) 64]
 refine cN_ext fun x _ => ?_
 unfold fK
 congr 1
theorem rk_sum (p : List Int) (k : Nat) : rk (brd p ((k : Int) + 1)) + rk (brd p ((k : Int) + 2)) <= (brd p ((k : Int) + 1)).length := by
 obtain ⟨L, a1, a2, a3, _⟩ := rk_vec (brd_ok p ((k : Int) + 1)) (img_lin (fK p (k + 1))) fun v hv => by
   obtain ⟨x, h1, h2, h3, rfl⟩ := brd_mem hv
   refine ⟨2 ^ x, ⟨Nat.pow_lt_pow_right (by decide) h1, fun j hj => ?_⟩, ?_⟩
   · rw [Nat.testBit_two_pow] at hj
     have e : x = j := by simpa using hj
     subst e
     unfold fK; rw [h2]; simp; omega
   · unfold bdA; rw [bd_one h1, if_pos h1]; try rfl
 obtain ⟨B, b1, b2, b3, _⟩ := rk_vec (brd_ok p ((k : Int) + 2)) (Q := fun u => supp (fK p (k + 1)) u /\ bdA u = 0) ⟨⟨(supp_lin _).z, ker_lin.z⟩, fun u v hu hv => ⟨(supp_lin _).x _ _ hu.1 hv.1, ker_lin.x _ _ hu.2 hv.2⟩⟩ fun v hv => by
   obtain ⟨x, h1, h2, h3, rfl⟩ := brd_mem hv
   have hr : row x < 2 ^ 63 := rowK_lt h1 6 (by omega)
   rw [Int.toNat_natCast]
   refine ⟨⟨by omega, fun j hj => ?_⟩, bd_bd ⟨x, h1⟩⟩
   have hj64 : j < 64 := by
     rcases Nat.lt_or_ge j 64 with h | h
     · exact h
     · rw [Nat.testBit_lt_two_pow (Nat.lt_of_lt_of_le hr (Nat.pow_le_pow_right (by decide) (by omega)))] at hj; cases hj
   obtain ⟨h4, h5⟩ := row_sub ⟨x, h1⟩ ⟨j, hj64⟩ hj
   simp only at h4 h5
   unfold fK; rw [isF_sub h4 h2]; simp; omega
 obtain ⟨M, c1, c2, c3⟩ := pre_list a3
 have hI := ind_app (fun v hv => (b3 v hv).2) b2 (M := M) (by rw [c2]; exact a2)
 have hd := ind_dim (fK p (k + 1)) (m := 64) hI fun v hv => by
   rcases List.mem_append.mp hv with h | h
   · exact c3 v h
   · exact (b3 v h).1
 rw [List.length_append] at hd
 have hc := brd_cN p (k + 1)
 rw [show ((k + 1 : Nat) : Int) = (k : Int) + 1 by omega] at hc
 omega
theorem hoK_nn {p : List Int} : ∀ {k : Nat}, (k : Int) <= mxL p -> ∀ x ∈ hoK p k, 0 <= x
 | 0, _, x, hx => by simp [hoK] at hx
 | k + 1, hk, x, hx => by
   rw [hoK_step (by omega)] at hx
   rcases List.mem_append.mp hx with h | h
   · exact hoK_nn (by omega) x h
   · have := rk_sum p k
     rw [List.mem_singleton.mp h]; omega
theorem hoL_nn (p : List Int) : ∀ x ∈ hoL p, 0 <= x := hoK_nn (by have := mxL_le p; omega)
theorem pos_ze (p : List Int) : (!posL (hoL p)) = zeL p := by
 cases h : posL (hoL p) with
 | true =>
   obtain ⟨x, h1, h2⟩ := List.any_eq_true.mp h
   have h2 : 0 < x := of_decide_eq_true h2
   exact (decide_eq_false fun h3 => by have := h3 x h1; omega).symm
 | false =>
   refine (decide_eq_true fun x hx => ?_).symm
   have h1 := hoL_nn p x hx
   have h2 : posQ x = false := by
     cases e : posQ x with
     | false => rfl
     | true => rw [show posL (hoL p) = true from List.any_eq_true.mpr ⟨x, hx, e⟩] at h; cases h
   have h2 : ¬ 0 < x := of_decide_eq_false h2
   omega
end Go.Am.Sh

/- Shells, plain: the hollow numbers of a dual. -/
namespace Go.Am.Sh
open Go Go.Am Go.Proofs
theorem bdA_hom : Hom bdA := bdA_xor
theorem row_iff : ∀ x y : Fin 64, (row x.val).testBit y.val = (sub y.val x.val && decide (pc y.val + 1 = pc x.val)) := by decide +kernel
theorem row_lt {x : Nat} (h : x < 64) : row x < 2 ^ 63 := rowK_lt h 6 (by omega)
theorem row_bit64 {x j : Nat} (h : x < 64) (hj : (row x).testBit j = true) : j < 64 := by
 rcases Nat.lt_or_ge j 64 with h2 | h2
 · exact h2
 · rw [Nat.testBit_lt_two_pow (Nat.lt_of_lt_of_le (row_lt h) (Nat.pow_le_pow_right (by decide) (by omega)))] at hj; cases hj
theorem row_at {x y : Nat} (hx : x < 64) (hy : y < 64) : (row x).testBit y = true ↔ sub y x = true /\ pc y + 1 = pc x := by
 have := row_iff ⟨x, hx⟩ ⟨y, hy⟩
 simp only at this
 rw [this, Bool.and_eq_true, decide_eq_true_eq]
/-- A linear map is known by what it does to the bits. -/
theorem hom_bits {T : Nat -> Nat} (hT : Hom T) {Q : Nat -> Prop} (hQ : Lin Q) (F : Nat -> Bool) (h : ∀ x, x < 64 -> F x = true -> Q (T (2 ^ x))) : ∀ (k u : Nat), k <= 64 -> u < 2 ^ k -> (∀ j, u.testBit j = true -> F j = true) -> Q (T u)
 | 0, u, _, hu, _ => by rw [show u = 0 by omega, hT.zero]; exact hQ.z
 | k + 1, u, hk, hu, hF => by
   cases e : u.testBit k with
   | false => exact hom_bits hT hQ F h k u (by omega) (lt_bit hu e) hF
   | true =>
     have hb : (2 ^ k).testBit k = true := by simp
     have e2 : T u = T (u ^^^ 2 ^ k) ^^^ T (2 ^ k) := by rw [hT, xcc]
     rw [e2]
     refine hQ.x _ _ (hom_bits hT hQ F h k _ (by omega) (lt_bit (Nat.xor_lt_two_pow hu (Nat.pow_lt_pow_right (by decide) (by omega))) (bit_xor_self e hb)) fun j hj => ?_) (h k (by omega) (hF k e))
     rw [Nat.testBit_xor, Nat.testBit_two_pow] at hj
     by_cases ej : k = j
     · rw [<- ej]; exact hF k e
     · rw [decide_eq_false ej, Bool.xor_false] at hj; exact hF j hj
theorem hom_eq {T S : Nat -> Nat} (hT : Hom T) (hS : Hom S) (h : ∀ x, x < 64 -> T (2 ^ x) = S (2 ^ x)) {u : Nat} (hu : u < 2 ^ 64) : T u = S u := by
 have hD : Hom fun u => T u ^^^ S u := fun u v => by
   show T (u ^^^ v) ^^^ S (u ^^^ v) = T u ^^^ S u ^^^ (T v ^^^ S v)
   rw [hT, hS, Nat.xor_assoc, xlc (T v), <- Nat.xor_assoc]
 have := hom_bits hD (Q := fun v => v = 0) ⟨rfl, fun u v hu hv => by rw [hu, hv]; rfl⟩ (fun _ => true) (fun x hx _ => by
   show T (2 ^ x) ^^^ S (2 ^ x) = 0
   rw [h x hx, Nat.xor_self]) 64 u (Nat.le_refl _) hu fun _ _ => rfl
 have h2 : T u ^^^ S u = 0 := this
 have h3 := xcc (T u) (S u)
 rw [h2, Nat.zero_xor] at h3
 exact h3.symm
def hb (v : Nat) : Nat -> Nat
 | 0 => 0
 | k + 1 => if v.testBit k = true /\ k % 2 = 0 then hb v k ^^^ 2 ^ (k ||| 1) else hb v k
def hbA (u : Nat) : Nat := hb u 64
theorem hb_xor (u v : Nat) : ∀ k, hb (u ^^^ v) k = hb u k ^^^ hb v k
 | 0 => by simp [hb]
 | k + 1 => by
   rw [hb, hb, hb, hb_xor u v k, Nat.testBit_xor]
   by_cases h0 : k % 2 = 0
   · cases hu : u.testBit k <;> cases hv : v.testBit k
     · simp
     · simp [h0, Nat.xor_assoc]
     · simp only [Bool.xor_false, h0, and_self, if_true, Bool.false_eq_true, false_and, if_false]
       rw [xrc]
     · simp only [Bool.xor_self, h0, and_self, if_true, Bool.false_eq_true, false_and, if_false]
       rw [Nat.xor_assoc, xlc (2 ^ (k ||| 1)), Nat.xor_self, Nat.xor_zero]
   · simp [h0]
theorem hbA_hom : Hom hbA := fun u v => hb_xor u v 64
theorem cone_at : ∀ x : Fin 64, bdA (hbA (2 ^ x.val)) ^^^ hbA (row x.val) = 2 ^ x.val := by decide +kernel
theorem cone {u : Nat} (hu : u < 2 ^ 64) : bdA (hbA u) ^^^ hbA (bdA u) = u := by
 refine hom_eq (T := fun u => bdA (hbA u) ^^^ hbA (bdA u)) (S := fun u => u) (fun u v => ?_) (fun _ _ => rfl) (fun x hx => ?_) hu
 · show bdA (hbA (u ^^^ v)) ^^^ hbA (bdA (u ^^^ v)) = _
   rw [hbA_hom, bdA_hom, bdA_hom, hbA_hom, Nat.xor_assoc, xlc (bdA (hbA v)), <- Nat.xor_assoc]
 · have e : bdA (2 ^ x) = row x := by unfold bdA; rw [bd_one hx, if_pos hx]
   show bdA (hbA (2 ^ x)) ^^^ hbA (bdA (2 ^ x)) = 2 ^ x
   rw [e]; exact cone_at ⟨x, hx⟩
theorem bdA_one {x : Nat} (hx : x < 64) : bdA (2 ^ x) = row x := by unfold bdA; rw [bd_one hx, if_pos hx]
structure Kx (m : Nat) (K : Nat -> Bool) : Prop where
 m1 : 1 <= m
 m6 : m <= 6
 lt : ∀ x, K x = true -> x < 2 ^ m
 d : ∀ a b, sub a b = true -> K b = true -> K a = true
theorem Kx.le64 {m : Nat} {K : Nat -> Bool} (h : Kx m K) : 2 ^ m <= 64 := Nat.pow_le_pow_right (n := 2) (by decide) h.m6
def dl (m : Nat) (x : Nat) : Bool := decide (x < 2 ^ m)
def lv (G : Nat -> Bool) (s : Nat) (x : Nat) : Bool := G x && decide (pc x = s)
def nf (m : Nat) (K : Nat -> Bool) (x : Nat) : Bool := dl m x && !K x
theorem lv_iff {G : Nat -> Bool} {s x : Nat} : lv G s x = true ↔ G x = true /\ pc x = s := by unfold lv; rw [Bool.and_eq_true, decide_eq_true_eq]
theorem dl_Kx {m : Nat} (h1 : 1 <= m) (h6 : m <= 6) : Kx m (dl m) := ⟨h1, h6, fun x h => of_decide_eq_true h, fun a b h1 h2 => decide_eq_true (Nat.lt_of_le_of_lt (sub_le h1) (of_decide_eq_true h2))⟩
/-- The chains of size s. -/
def Ch (G : Nat -> Bool) (s : Nat) : Nat -> Prop := supp (lv G s)
theorem Ch_lin (G : Nat -> Bool) (s : Nat) : Lin (Ch G s) := supp_lin _
theorem Ch_dim (G : Nat -> Bool) (s : Nat) : Dim (Ch G s) (cN (lv G s) 64) := Dim.supp _ 64
/-- What the boundaries of the faces of size s span. -/
theorem im_bd {F : Nat -> Bool} {R : List Nat} (h1 : ∀ x, x < 64 -> F x = true -> spn R (row x)) (h2 : ∀ v ∈ R, v = 0 ∨ ∃ x, x < 64 /\ F x = true /\ v = row x) (u : Nat) : imG bdA (supp F) u ↔ spn R u := by
 constructor
 · rintro ⟨S, ⟨s1, s2⟩, rfl⟩
   exact hom_bits bdA_hom (spn_lin R) F (fun x hx hf => by rw [bdA_one hx]; exact h1 x hx hf) 64 S (Nat.le_refl _) s1 s2
 · intro h
   refine spn_of (imG_lin bdA_hom (supp_lin F)) (fun v hv => ?_) h
   rcases h2 v hv with h3 | ⟨x, x1, x2, h3⟩
   · rw [h3]; exact (imG_lin bdA_hom (supp_lin F)).z
   · refine ⟨2 ^ x, ⟨Nat.pow_lt_pow_right (by decide) x1, fun j hj => ?_⟩, by rw [h3]; exact bdA_one x1⟩
     rw [Nat.testBit_two_pow, decide_eq_true_eq] at hj
     rw [<- hj]; exact x2
theorem bd_Ch {m : Nat} {K : Nat -> Bool} (h : Kx m K) {s u : Nat} (hu : Ch K (s + 1) u) : Ch K s (bdA u) := by
 have hm := h.le64
 refine hom_bits bdA_hom (Ch_lin K s) (lv K (s + 1)) (fun x hx hf => ?_) 64 u (Nat.le_refl _) hu.1 hu.2
 obtain ⟨f1, f2⟩ := lv_iff.mp hf
 rw [bdA_one hx]
 have hr := row_lt hx
 refine ⟨by omega, fun j hj => ?_⟩
 have hj64 := row_bit64 hx hj
 obtain ⟨g1, g2⟩ := (row_at hx hj64).mp hj
 exact lv_iff.mpr ⟨h.d _ _ g1 f1, by omega⟩
theorem bd_bd0 {u : Nat} (hu : u < 2 ^ 64) : bdA (bdA u) = 0 := by
 refine hom_eq (T := fun u => bdA (bdA u)) (S := fun _ => 0) (fun u v => ?_) (fun _ _ => by simp) (fun x hx => ?_) hu
 · show bdA (bdA (u ^^^ v)) = _
   rw [bdA_hom, bdA_hom]
 · show bdA (bdA (2 ^ x)) = 0
   rw [bdA_one hx]; exact bd_bd ⟨x, hx⟩
theorem or_one : ∀ m : Fin 7, ∀ x : Fin 64, 1 <= m.val -> x.val < 2 ^ m.val -> x.val % 2 = 0 -> x.val ||| 1 < 2 ^ m.val /\ pc (x.val ||| 1) = pc x.val + 1 := by decide +kernel
theorem hb_Ch {m : Nat} (h : Kx m (dl m)) {s u : Nat} (hu : Ch (dl m) s u) : Ch (dl m) (s + 1) (hbA u) := by
 have hm := h.le64
 refine hom_bits hbA_hom (Ch_lin _ _) (lv (dl m) s) (fun x hx hf => ?_) 64 u (Nat.le_refl _) hu.1 hu.2
 obtain ⟨f1, f2⟩ := lv_iff.mp hf
 have f1 : x < 2 ^ m := of_decide_eq_true f1
 have e : ∀ k, hb (2 ^ x) k = if x < k /\ x % 2 = 0 then 2 ^ (x ||| 1) else 0 := by
   intro k
   induction k with
   | zero => rw [hb, if_neg (by omega)]
   | succ k ih =>
     rw [hb, ih, Nat.testBit_two_pow]
     by_cases e : x = k
     · subst e
       by_cases h0 : x % 2 = 0
       · rw [if_pos ⟨by simp, h0⟩, if_neg (by omega), if_pos ⟨by omega, h0⟩, Nat.zero_xor]
       · rw [if_neg fun hh => h0 hh.2, if_neg (by omega), if_neg (by omega)]
     · rw [if_neg (by simp [e])]
       by_cases hc : x < k /\ x % 2 = 0
       · rw [if_pos hc, if_pos (by omega)]
       · rw [if_neg hc, if_neg (by omega)]
 unfold hbA
 rw [e]
 split
 · rename_i hc
   obtain ⟨g1, g2⟩ := or_one ⟨m, by have := h.m6; omega⟩ ⟨x, hx⟩ h.m1 f1 hc.2
   simp only at g1 g2
   refine ⟨Nat.pow_lt_pow_right (by decide) (by omega), fun j hj => ?_⟩
   rw [Nat.testBit_two_pow, decide_eq_true_eq] at hj
   rw [<- hj]
   exact lv_iff.mpr ⟨decide_eq_true g1, by omega⟩
 · exact (Ch_lin _ _).z
/-- In the whole simplex, what has no boundary is a boundary. -/
theorem exact_dl {m : Nat} (h : Kx m (dl m)) (s u : Nat) : keG bdA (Ch (dl m) s) u ↔ imG bdA (Ch (dl m) (s + 1)) u := by
 constructor
 · rintro ⟨h1, h2⟩
   refine ⟨hbA u, hb_Ch h h1, ?_⟩
   have := cone h1.1
   rwa [h2, hbA_hom.zero, Nat.xor_zero] at this
 · rintro ⟨S, h1, rfl⟩
   exact ⟨bd_Ch h h1, bd_bd0 h1.1⟩
def wN (m : Nat) (K : Nat -> Bool) : Nat := mask (nf m K) 64
def piN (m : Nat) (K : Nat -> Bool) (u : Nat) : Nat := u &&& wN m K
theorem piN_hom (m : Nat) (K : Nat -> Bool) : Hom (piN m K) := fun u v => by
 unfold piN
 apply Nat.eq_of_testBit_eq
 intro i
 rw [Nat.testBit_and, Nat.testBit_xor, Nat.testBit_xor, Nat.testBit_and, Nat.testBit_and]
 cases u.testBit i <;> cases v.testBit i <;> cases (wN m K).testBit i <;> rfl
theorem piN_bit (m : Nat) (K : Nat -> Bool) (u j : Nat) : (piN m K u).testBit j = (u.testBit j && (decide (j < 64) && nf m K j)) := by
 unfold piN wN
 rw [Nat.testBit_and, mask_bit]
def Mq (m : Nat) (K : Nat -> Bool) (s x y : Nat) : Bool := lv (nf m K) s x && (nf m K y && (row x).testBit y)
theorem ker_pi {m : Nat} {K : Nat -> Bool} (h : Kx m K) (s u : Nat) : keG (piN m K) (keG bdA (Ch (dl m) s)) u ↔ keG bdA (Ch K s) u := by
 have hm := h.le64
 constructor
 · rintro ⟨⟨⟨h1, h2⟩, h3⟩, h4⟩
   refine ⟨⟨h1, fun j hj => ?_⟩, h3⟩
   obtain ⟨g1, g2⟩ := lv_iff.mp (h2 j hj)
   have h5 := piN_bit m K u j
   have hj2 : j < 2 ^ m := of_decide_eq_true g1
   rw [h4, hj, Nat.zero_testBit, decide_eq_true (show j < 64 by omega)] at h5
   unfold nf at h5
   rw [g1] at h5
   refine lv_iff.mpr ⟨?_, g2⟩
   cases hK : K j with
   | true => rfl
   | false => rw [hK] at h5; cases h5
 · rintro ⟨⟨h1, h2⟩, h3⟩
   refine ⟨⟨⟨h1, fun j hj => ?_⟩, h3⟩, ?_⟩
   · obtain ⟨g1, g2⟩ := lv_iff.mp (h2 j hj)
     exact lv_iff.mpr ⟨decide_eq_true (h.lt j g1), g2⟩
   · apply Nat.eq_of_testBit_eq
     intro j
     rw [piN_bit, Nat.zero_testBit]
     cases hj : u.testBit j with
     | false => rfl
     | true =>
       obtain ⟨g1, g2⟩ := lv_iff.mp (h2 j hj)
       unfold nf
       rw [g1]; simp
theorem pi_row {m : Nat} {K : Nat -> Bool} (h : Kx m K) {s x : Nat} (hx : x < 64) (hl : lv (dl m) s x = true) : piN m K (row x) = mask (Mq m K s x) 64 := by
 apply Nat.eq_of_testBit_eq
 intro j
 rw [piN_bit, mask_bit]
 unfold Mq
 obtain ⟨g1, g2⟩ := lv_iff.mp hl
 cases hr : (row x).testBit j with
 | false => simp
 | true =>
   have hj64 := row_bit64 hx hr
   obtain ⟨r1, r2⟩ := (row_at hx hj64).mp hr
   cases hK : K x with
   | true =>
     have e1 : nf m K j = false := by unfold nf; rw [h.d _ _ r1 hK]; simp
     rw [e1]; simp
   | false =>
     have e1 : lv (nf m K) s x = true := lv_iff.mpr ⟨by unfold nf; rw [g1, hK]; rfl, g2⟩
     rw [e1]; simp
theorem im_pi {m : Nat} {K : Nat -> Bool} (h : Kx m K) (s u : Nat) : imG (piN m K) (keG bdA (Ch (dl m) s)) u ↔ spn (rowS (Mq m K (s + 1))) u := by
 have hD := dl_Kx h.m1 h.m6
 have hm := h.le64
 constructor
 · rintro ⟨z, hz, rfl⟩
   obtain ⟨S, h1, rfl⟩ := (exact_dl hD s z).mp hz
   refine hom_bits (T := fun S => piN m K (bdA S)) (fun u v => by show piN m K (bdA (u ^^^ v)) = _; rw [bdA_hom, piN_hom]) (spn_lin _) (lv (dl m) (s + 1)) (fun x hx hf => ?_) 64 S (Nat.le_refl _) h1.1 h1.2
   show spn _ (piN m K (bdA (2 ^ x)))
   rw [bdA_one hx, pi_row h hx hf]
   exact spn_mem (rowS_mem hx)
 · intro hs
   have hL := imG_lin (piN_hom m K) (keG_lin bdA_hom (Ch_lin (dl m) s))
   refine spn_of hL (fun v hv => ?_) hs
   obtain ⟨x, hx, rfl⟩ := List.mem_map.mp hv
   have hx := List.mem_range.mp hx
   cases hl : lv (nf m K) (s + 1) x with
   | false =>
     rw [mask_ext (g := fun _ => false) fun y _ => by unfold Mq; rw [hl]; rfl]
     rw [show mask (fun _ => false) 64 = 0 by decide]
     exact hL.z
   | true =>
     obtain ⟨g1, g2⟩ := lv_iff.mp hl
     have hd : lv (dl m) (s + 1) x = true := lv_iff.mpr ⟨by unfold nf at g1; rw [Bool.and_eq_true] at g1; exact g1.1, g2⟩
     refine ⟨row x, (exact_dl hD s _).mpr ⟨2 ^ x, ⟨Nat.pow_lt_pow_right (by decide) hx, fun j hj => ?_⟩, bdA_one hx⟩, pi_row h hx hd⟩
     rw [Nat.testBit_two_pow, decide_eq_true_eq] at hj
     rw [<- hj]; exact hd
theorem star {m : Nat} {K : Nat -> Bool} (h : Kx m K) {s r q R : Nat} (hr : Dim (imG bdA (Ch K s)) r) (hq : Dim (spn (rowS (Mq m K (s + 1)))) q) (hR : Dim (imG bdA (Ch (dl m) (s + 1))) R) : r <= cN (lv K s) 64 /\ R = q + (cN (lv K s) 64 - r) := by
 obtain ⟨h1, h2⟩ := Dim.ker bdA_hom (Ch_lin K s) (fun u hu => hu.1) (Ch_dim K s) hr
 have hk := h2.congr fun u => (ker_pi h s u).symm
 have hi := hq.congr fun u => (im_pi h s u).symm
 have hZ := Dim.rank (piN_hom m K) (keG_lin bdA_hom (Ch_lin (dl m) s)) hi hk
 have hZ2 := hR.congr fun u => (exact_dl (dl_Kx h.m1 h.m6) s u).symm
 exact ⟨h1, Dim.uniq hZ2 hZ⟩
theorem star2 {m : Nat} (h : Kx m (dl m)) {s R R' : Nat} (hR : Dim (imG bdA (Ch (dl m) s)) R) (hR' : Dim (imG bdA (Ch (dl m) (s + 1))) R') : cN (lv (dl m) s) 64 = R + R' := by
 have hk := hR'.congr fun u => (exact_dl h s u).symm
 exact Dim.uniq (Ch_dim _ _) (Dim.rank bdA_hom (Ch_lin _ _) hR hk)
theorem im_dim (G : Nat -> Bool) (s : Nat) : ∃ d, Dim (imG bdA (Ch G s)) d := by
 refine Dim.exists (imG_lin bdA_hom (Ch_lin G s)) fun u hu => ?_
 obtain ⟨S, h1, rfl⟩ := hu
 refine hom_bits bdA_hom (Q := fun u => u < 2 ^ 64) ⟨by decide, fun u v hu hv => Nat.xor_lt_two_pow hu hv⟩ (fun _ => true) (fun x hx _ => ?_) 64 S (Nat.le_refl _) h1.1 fun _ _ => rfl
 rw [bdA_one hx]
 have := row_lt hx
 omega
theorem cN_split {m : Nat} {K : Nat -> Bool} (h : Kx m K) (s : Nat) : cN (lv (dl m) s) 64 = cN (lv K s) 64 + cN (lv (nf m K) s) 64 := by
 refine cN_add fun x _ => ?_
 unfold lv nf
 cases hK : K x with
 | true => rw [show dl m x = true from decide_eq_true (h.lt x hK)]; simp
 | false => simp
theorem alexK {m : Nat} {K : Nat -> Bool} (h : Kx m K) {s r r' q q' : Nat} (hr : Dim (imG bdA (Ch K s)) r) (hr' : Dim (imG bdA (Ch K (s + 1))) r') (hq : Dim (spn (rowS (Mq m K (s + 1)))) q) (hq' : Dim (spn (rowS (Mq m K (s + 2)))) q') :
   (cN (lv K s) 64 : Int) - r - r' = (cN (lv (nf m K) (s + 1)) 64 : Int) - q - q' := by
 obtain ⟨R, hR⟩ := im_dim (dl m) (s + 1)
 obtain ⟨R', hR'⟩ := im_dim (dl m) (s + 2)
 obtain ⟨a1, a2⟩ := star h hr hq hR
 obtain ⟨b1, b2⟩ := star h hr' hq' hR'
 have c := star2 (dl_Kx h.m1 h.m6) hR hR'
 have d := cN_split h (s + 1)
 omega
def cF (m x : Nat) : Nat := if x < 2 ^ m then 2 ^ m - 1 - x else x
theorem cF_at : ∀ m : Fin 7, ∀ a : Fin 64, cF m.val a.val < 64 /\ cF m.val (cF m.val a.val) = a.val /\ (a.val < 2 ^ m.val -> cF m.val a.val < 2 ^ m.val /\ pc (cF m.val a.val) + pc a.val = m.val) := by decide +kernel
theorem cF_sub : ∀ m : Fin 7, ∀ a b : Fin 64, a.val < 2 ^ m.val -> b.val < 2 ^ m.val -> sub (cF m.val a.val) (cF m.val b.val) = sub b.val a.val := by decide +kernel
def dK (m : Nat) (K : Nat -> Bool) (x : Nat) : Bool := dl m x && nf m K (cF m x)
theorem nf_iff {m : Nat} {K : Nat -> Bool} {x : Nat} : nf m K x = true ↔ x < 2 ^ m /\ K x = false := by
 unfold nf dl
 rw [Bool.and_eq_true, decide_eq_true_eq, Bool.not_eq_true']
theorem dK_iff {m : Nat} {K : Nat -> Bool} {x : Nat} : dK m K x = true ↔ x < 2 ^ m /\ nf m K (cF m x) = true := by
 unfold dK dl
 rw [Bool.and_eq_true, decide_eq_true_eq]
theorem cF_lt {m : Nat} {K : Nat -> Bool} (h : Kx m K) {a : Nat} (ha : a < 64) : cF m a < 64 := (cF_at ⟨m, by have := h.m6; omega⟩ ⟨a, ha⟩).1
theorem cF_cF {m : Nat} {K : Nat -> Bool} (h : Kx m K) {a : Nat} (ha : a < 64) : cF m (cF m a) = a := (cF_at ⟨m, by have := h.m6; omega⟩ ⟨a, ha⟩).2.1
theorem cF_in {m : Nat} {K : Nat -> Bool} (h : Kx m K) {a : Nat} (ha : a < 2 ^ m) : cF m a < 2 ^ m /\ pc (cF m a) + pc a = m := (cF_at ⟨m, by have := h.m6; omega⟩ ⟨a, by have := h.le64; omega⟩).2.2 ha
theorem cF_s {m : Nat} {K : Nat -> Bool} (h : Kx m K) {a b : Nat} (ha : a < 2 ^ m) (hb : b < 2 ^ m) : sub (cF m a) (cF m b) = sub b a := by
 have := h.le64
 exact cF_sub ⟨m, by have := h.m6; omega⟩ ⟨a, by omega⟩ ⟨b, by omega⟩ ha hb
theorem cF_out {m : Nat} {K : Nat -> Bool} (h : Kx m K) {a : Nat} (ha : ¬ a < 2 ^ m) : cF m a = a := if_neg ha
theorem dK_Kx {m : Nat} {K : Nat -> Bool} (h : Kx m K) : Kx m (dK m K) := ⟨h.m1, h.m6, fun x hx => (dK_iff.mp hx).1, fun a b hs hb => by
 obtain ⟨b1, b2⟩ := dK_iff.mp hb
 obtain ⟨b3, b4⟩ := nf_iff.mp b2
 have ha : a < 2 ^ m := Nat.lt_of_le_of_lt (sub_le hs) b1
 refine dK_iff.mpr ⟨ha, nf_iff.mpr ⟨(cF_in h ha).1, ?_⟩⟩
 cases hK : K (cF m a) with
 | false => rfl
 | true =>
   have := h.d (cF m b) (cF m a) (by rw [cF_s h b1 ha]; exact hs) hK
   rw [b4] at this; cases this⟩
theorem lv_dual {m : Nat} {K : Nat -> Bool} (h : Kx m K) {t x : Nat} (ht : t <= m) (hx : x < 64) : lv (nf m K) (m - t) (cF m x) = lv (dK m K) t x := by
 rw [Bool.eq_iff_iff, lv_iff, lv_iff, dK_iff]
 by_cases h1 : x < 2 ^ m
 · obtain ⟨c1, c2⟩ := cF_in h h1
   exact ⟨fun ⟨a, b⟩ => ⟨⟨h1, a⟩, by omega⟩, fun ⟨⟨_, a⟩, b⟩ => ⟨a, by omega⟩⟩
 · rw [cF_out h h1]
   exact ⟨fun ⟨a, _⟩ => absurd (nf_iff.mp a).1 h1, fun ⟨⟨a, _⟩, _⟩ => absurd a h1⟩
theorem Mq_dual {m : Nat} {K : Nat -> Bool} (h : Kx m K) {t a b : Nat} (ht : t <= m) (ha : a < 64) (hb : b < 64) : Mq m K (m - t + 1) (cF m b) (cF m a) = (lv (dK m K) t a && (row a).testBit b) := by
 unfold Mq
 rw [Bool.eq_iff_iff, Bool.and_eq_true, Bool.and_eq_true, Bool.and_eq_true, lv_iff, lv_iff, dK_iff, row_at ha hb, row_at (cF_lt h hb) (cF_lt h ha)]
 constructor
 · rintro ⟨⟨a1, a2⟩, a3, a4, a5⟩
   have ha2 : a < 2 ^ m := by
     by_cases hh : a < 2 ^ m
     · exact hh
     · rw [cF_out h hh] at a3; exact (nf_iff.mp a3).1
   have hb2 : b < 2 ^ m := by
     by_cases hh : b < 2 ^ m
     · exact hh
     · rw [cF_out h hh] at a1; exact (nf_iff.mp a1).1
   obtain ⟨c1, c2⟩ := cF_in h ha2
   obtain ⟨d1, d2⟩ := cF_in h hb2
   rw [cF_s h ha2 hb2] at a4
   exact ⟨⟨⟨ha2, a3⟩, by omega⟩, a4, by omega⟩
 · rintro ⟨⟨⟨ha2, a3⟩, a2⟩, a4, a5⟩
   have hb2 : b < 2 ^ m := Nat.lt_of_le_of_lt (sub_le a4) ha2
   obtain ⟨c1, c2⟩ := cF_in h ha2
   obtain ⟨d1, d2⟩ := cF_in h hb2
   have hs : sub (cF m a) (cF m b) = true := by rw [cF_s h ha2 hb2]; exact a4
   refine ⟨⟨nf_iff.mpr ⟨d1, ?_⟩, by omega⟩, a3, hs, by omega⟩
   cases hK : K (cF m b) with
   | false => rfl
   | true =>
     have := h.d _ _ hs hK
     rw [(nf_iff.mp a3).2] at this; cases this
theorem dual_rank {m : Nat} {K : Nat -> Bool} (h : Kx m K) {t q : Nat} (ht : t <= m) (hq : Dim (spn (rowS (Mq m K (m - t + 1)))) q) : Dim (imG bdA (Ch (dK m K) t)) q := by
 have h1 := turned (c := cF m) (fun a ha => cF_lt h ha) (fun a ha => cF_cF h ha) hq
 refine h1.congr fun u => (im_bd (fun x hx hf => ?_) (fun v hv => ?_) u).symm
 · have e : mask ((fun a b => Mq m K (m - t + 1) (cF m b) (cF m a)) x) 64 = row x := by
     apply Nat.eq_of_testBit_eq
     intro j
     rw [mask_bit]
     rcases Nat.lt_or_ge j 64 with hj | hj
     · rw [decide_eq_true hj, Bool.true_and]
       exact (Mq_dual h ht hx hj).trans (by rw [hf, Bool.true_and])
     · rw [decide_eq_false (by omega), Bool.false_and]
       cases e : (row x).testBit j with
       | false => rfl
       | true => have := row_bit64 hx e; omega
   have := rowS_mem (M := fun a b => Mq m K (m - t + 1) (cF m b) (cF m a)) hx
   rw [e] at this
   exact spn_mem this
 · obtain ⟨x, hx, rfl⟩ := List.mem_map.mp hv
   have hx := List.mem_range.mp hx
   cases hl : lv (dK m K) t x with
   | false =>
     refine .inl ?_
     rw [mask_ext (g := fun _ => false) fun y hy => (Mq_dual h ht hx hy).trans (by rw [hl]; rfl)]
     decide
   | true =>
     refine .inr ⟨x, hx, hl, ?_⟩
     apply Nat.eq_of_testBit_eq
     intro j
     rw [mask_bit]
     rcases Nat.lt_or_ge j 64 with hj | hj
     · rw [decide_eq_true hj, Bool.true_and]
       exact (Mq_dual h ht hx hj).trans (by rw [hl, Bool.true_and])
     · rw [decide_eq_false (by omega), Bool.false_and]
       cases e : (row x).testBit j with
       | false => rfl
       | true => have := row_bit64 hx e; omega
/-- As many, whatever they are called. -/
def Dg (F : Nat -> Bool) (a b : Nat) : Bool := decide (a = b) && F a
theorem Dg_dim (F : Nat -> Bool) : Dim (spn (rowS (Dg F))) (cN F 64) := by
 have e : ∀ x, x < 64 -> mask (Dg F x) 64 = if F x then 2 ^ x else 0 := fun x hx => by
   apply Nat.eq_of_testBit_eq
   intro j
   rw [mask_bit]
   unfold Dg
   cases hF : F x with
   | false => simp
   | true =>
     simp only [if_true, Nat.testBit_two_pow, Bool.and_true]
     by_cases ej : x = j
     · subst ej; simp [hx]
     · simp [ej]
 refine (Dim.supp F 64).congr fun u => ⟨fun ⟨h1, h2⟩ => ?_, fun hs => ?_⟩
 · refine hom_bits (T := fun u => u) (fun _ _ => rfl) (spn_lin _) F (fun x hx hf => ?_) 64 u (Nat.le_refl _) h1 h2
   have := rowS_mem (M := Dg F) hx
   rw [e x hx, hf] at this
   exact spn_mem this
 · refine spn_of (supp_lin F) (fun v hv => ?_) hs
   obtain ⟨x, hx, rfl⟩ := List.mem_map.mp hv
   have hx := List.mem_range.mp hx
   rw [e x hx]
   split
   · rename_i hf
     refine ⟨Nat.pow_lt_pow_right (by decide) hx, fun j hj => ?_⟩
     rw [Nat.testBit_two_pow, decide_eq_true_eq] at hj
     rw [<- hj]; exact hf
   · exact (supp_lin F).z
theorem rowS_ext {M M' : Nat -> Nat -> Bool} (h : ∀ a b, a < 64 -> b < 64 -> M a b = M' a b) : rowS M = rowS M' :=
 List.map_congr_left fun a ha => mask_ext fun b hb => h a b (List.mem_range.mp ha) hb
theorem dual_count {m : Nat} {K : Nat -> Bool} (h : Kx m K) {t : Nat} (ht : t <= m) : cN (lv (dK m K) t) 64 = cN (lv (nf m K) (m - t)) 64 := by
 have h1 := turned (c := cF m) (fun a ha => cF_lt h ha) (fun a ha => cF_cF h ha) (Dg_dim (lv (nf m K) (m - t)))
 rw [rowS_ext (M' := Dg (lv (dK m K) t)) fun a b ha hb => ?_] at h1
 · exact Dim.uniq (Dg_dim _) h1
 · unfold Dg
   by_cases e : a = b
   · subst e; rw [lv_dual h ht ha]; simp
   · have e2 : ¬ cF m b = cF m a := fun hh => e (by rw [<- cF_cF h ha, <- hh, cF_cF h hb])
     rw [decide_eq_false e, decide_eq_false e2]; try rfl
/-- The hollow numbers of the dual. -/
theorem alex {m : Nat} {K : Nat -> Bool} (h : Kx m K) {s t r r' p p' : Nat} (hst : s + 1 + t = m) (hr : Dim (imG bdA (Ch K s)) r) (hr' : Dim (imG bdA (Ch K (s + 1))) r') (hp : Dim (imG bdA (Ch (dK m K) t)) p) (hp' : Dim (imG bdA (Ch (dK m K) (t + 1))) p') :
   (cN (lv K s) 64 : Int) - r - r' = (cN (lv (dK m K) t) 64 : Int) - p - p' := by
 obtain ⟨q, hq⟩ := rowS_dim (Mq m K (s + 1))
 obtain ⟨q', hq'⟩ := rowS_dim (Mq m K (s + 2))
 have h1 := alexK h hr hr' hq hq'
 have h2 := dual_rank h (t := t) (q := q') (by omega) (by rw [show m - t + 1 = s + 2 by omega]; exact hq')
 have h3 := dual_rank h (t := t + 1) (q := q) (by omega) (by rw [show m - (t + 1) + 1 = s + 1 by omega]; exact hq)
 have h4 := dual_count h (t := t) (by omega)
 rw [show m - t = s + 1 by omega] at h4
 have e1 := Dim.uniq hp h2
 have e2 := Dim.uniq hp' h3
 rw [h1, h4, e1, e2]
 omega
end Go.Am.Sh

/- Shells, plain: hollow numbers of a complex and of its dual. -/
namespace Go.Am.Sh
open Go Go.Am Go.Proofs
theorem kx_of {n : Int} {p : List Int} (h : cxOk n p) : Kx n.toNat (isF p) := ⟨by have := h.1.1; omega, by have := h.1.2; omega, fun x hx => isF_lt h hx, fun a b => isF_sub⟩
theorem brdK_has {l : List Int} {m : Int} {x : Int} (hm : (pc x.toNat : Int) = m) : ∀ {k : Nat}, (∃ i, i < k /\ l.getD i 0 = x) -> (row x.toNat : Int) ∈ brdK l m k
 | 0, ⟨i, hi, _⟩ => absurd hi (Nat.not_lt_zero _)
 | k + 1, ⟨i, hi, e⟩ => by
   rw [brdK]
   by_cases ek : i = k
   · subst ek
     rw [e, if_pos hm]
     exact List.mem_append_right _ (List.mem_singleton.mpr rfl)
   · have := brdK_has hm (l := l) (k := k) ⟨i, by omega, e⟩
     split
     · exact List.mem_append_left _ this
     · exact this
theorem brd_has {p : List Int} {m x : Nat} (hx : x < 64) (h : fK p m x = true) : (row x : Int) ∈ brd p m := by
 unfold fK at h
 rw [Bool.and_eq_true, decide_eq_true_eq] at h
 obtain ⟨i, hi, e⟩ := List.getElem_of_mem (trueN_has (g := isF p) hx h.1)
 have := brdK_has (l := fcs p) (m := m) (x := (x : Int)) (by rw [Int.toNat_natCast, h.2]) (k := (fcs p).length) ⟨i, hi, (getD_lt (d := (0 : Int)) hi).trans e⟩
 rwa [Int.toNat_natCast] at this
theorem rk_im (p : List Int) (s : Nat) : Dim (imG bdA (Ch (isF p) s)) (rk (brd p s)) := by
 obtain ⟨L, h1, h2, h3, h4⟩ := rk_vec (brd_ok p s) (imG_lin bdA_hom (Ch_lin (isF p) s)) fun v hv => by
   obtain ⟨x, x1, x2, x3, rfl⟩ := brd_mem hv
   rw [Int.toNat_natCast]
   refine ⟨2 ^ x, ⟨Nat.pow_lt_pow_right (by decide) x1, fun j hj => ?_⟩, bdA_one x1⟩
   rw [Nat.testBit_two_pow, decide_eq_true_eq] at hj
   rw [<- hj]
   exact lv_iff.mpr ⟨x2, by omega⟩
 refine ⟨L, h1, h2, fun u => ⟨fun ⟨S, ⟨s1, s2⟩, e⟩ => ?_, spn_of (imG_lin bdA_hom (Ch_lin _ _)) h3⟩⟩
 rw [<- e]
 refine hom_bits bdA_hom (spn_lin L) (lv (isF p) s) (fun x hx hf => ?_) 64 S (Nat.le_refl _) s1 s2
 rw [bdA_one hx]
 have := h4 _ (brd_has hx hf)
 rwa [Int.toNat_natCast] at this
/-- The hollow number of size s. -/
def hnZ (p : List Int) (s : Nat) : Int := (cN (lv (isF p) s) 64 : Int) - rk (brd p s) - rk (brd p ((s : Int) + 1))
theorem hoK_get {p : List Int} : ∀ {K k : Nat}, (K : Int) <= mxL p -> k < K -> (hoK p K).getD k 0 = hnZ p (k + 1)
 | 0, k, _, hk => absurd hk (Nat.not_lt_zero _)
 | K + 1, k, hK, hk => by
   rw [hoK_step (by omega)]
   have hl := hoK_length p K
   by_cases e : k = K
   · subst e
     rw [List.getD_eq_getElem?_getD, List.getElem?_append_right (by omega), hl, Nat.sub_self]
     show _ - _ - _ = _
     unfold hnZ
     have := brd_cN p (k + 1)
     rw [show ((k + 1 : Nat) : Int) = (k : Int) + 1 by omega] at this |-
     rw [this, show (k : Int) + 1 + 1 = (k : Int) + 2 by omega]
     rfl
   · rw [getD_append_left (by omega)]
     exact hoK_get (by omega) (by omega)
theorem brd_over {n : Int} {p : List Int} (h : cxOk n p) {m : Nat} (hm : mxL p < m) : brd p m = [] := brd_none h.ok hm
theorem hnZ_over {n : Int} {p : List Int} (h : cxOk n p) {s : Nat} (hs : mxL p < s) : hnZ p s = 0 := by
 have h1 := brd_cN p s
 have h2 := brd_over h hs
 have h3 : brd p ((s : Int) + 1) = [] := by
   have := brd_over h (m := s + 1) (by omega)
   rwa [show ((s + 1 : Nat) : Int) = (s : Int) + 1 by omega] at this
 unfold hnZ
 rw [h2] at h1
 have h1 : 0 = cN (lv (isF p) s) 64 := h1
 rw [h2, h3, <- h1, rk_nil]; try rfl
theorem hoL_get {n : Int} {p : List Int} (h : cxOk n p) (k : Nat) : (hoL p).getD k 0 = hnZ p (k + 1) := by
 have hm := mxL_le p
 have hl := hoK_length p (mxL p).toNat
 unfold hoL
 rcases Nat.lt_or_ge k (mxL p).toNat with hk | hk
 · exact hoK_get (by omega) hk
 · rw [List.getD_eq_getElem?_getD, List.getElem?_eq_none (by omega), hnZ_over h (by omega)]; try rfl
theorem grL_up {m : Nat} {g : Nat -> Bool} (h6 : m <= 6) (hlt : ∀ x, g x = true -> x < 2 ^ m) : ∀ (k x : Nat), 64 <= x + k -> g x = true -> ∃ y, y < 64 /\ grtB g y = true /\ sub x y = true
 | 0, x, hk, hg => by
   have := hlt x hg
   have := Nat.pow_le_pow_right (n := 2) (by decide) h6
   omega
 | k + 1, x, hk, hg => by
   have hx := hlt x hg
   have h64 := Nat.pow_le_pow_right (n := 2) (by decide) h6
   cases hgr : grtB g x with
   | true => exact ⟨x, by omega, hgr, sub_self x⟩
   | false =>
     obtain ⟨v, hv, h1, h2⟩ : ∃ v, v < 6 /\ ¬ x ||| 2 ^ v = x /\ g (x ||| 2 ^ v) = true := by
       refine Classical.byContradiction fun hn => ?_
       have : grtB g x = true := by
         unfold grtB
         rw [hg, Bool.true_and, List.all_eq_true]
         intro v hv
         have hv := List.mem_range.mp hv
         cases hd : decide (x ||| 2 ^ v = x) with
         | true => rfl
         | false =>
           cases hgv : g (x ||| 2 ^ v) with
           | false => rfl
           | true => exact absurd ⟨v, hv, of_decide_eq_false hd, hgv⟩ hn
       rw [hgr] at this; cases this
     have hle : x <= x ||| 2 ^ v := Nat.left_le_or
     obtain ⟨y, y1, y2, y3⟩ := grL_up h6 hlt k (x ||| 2 ^ v) (by omega) h2
     refine ⟨y, y1, y2, sub_trans (sub_iff.mpr ?_) y3⟩
     rw [Nat.and_comm]
     apply Nat.eq_of_testBit_eq
     intro i
     rw [Nat.testBit_and, Nat.testBit_or]
     cases x.testBit i <;> simp
theorem grL_isF {m : Nat} {g : Nat -> Bool} (h : Kx m g) (x : Nat) : isF (grL g) x = g x := by
 rw [Bool.eq_iff_iff]
 constructor
 · intro hx
   obtain ⟨y, hy, h2⟩ := List.any_eq_true.mp hx
   obtain ⟨z, rfl, _, h4⟩ := trueN_mem hy
   have h2 : sub x z = true := h2
   unfold grtB at h4
   rw [Bool.and_eq_true] at h4
   exact h.d _ _ h2 h4.1
 · intro hg
   obtain ⟨y, y1, y2, y3⟩ := grL_up h.m6 h.lt 64 x (by omega) hg
   exact List.any_eq_true.mpr ⟨_, trueN_has y1 y2, by rw [Int.toNat_natCast]; exact y3⟩
theorem mns_cF : ∀ m : Fin 7, ∀ x : Fin 64, x.val < 2 ^ m.val -> mns (2 ^ m.val - 1) x.val = cF m.val x.val := by decide +kernel
theorem dua_dK {n : Int} {p : List Int} (h : cxOk n p) {x : Nat} (hx : x < 64) : duaG n p x = dK n.toNat (isF p) x := by
 have hK := kx_of h
 unfold duaG dK dl
 by_cases hx2 : x < 2 ^ n.toNat
 · have e := mns_cF ⟨n.toNat, by have := hK.m6; omega⟩ ⟨x, hx⟩ hx2
   simp only at e
   obtain ⟨c1, _⟩ := cF_in hK hx2
   rw [e]
   unfold nf dl
   rw [decide_eq_true c1, Bool.true_and]
 · rw [decide_eq_false hx2]; try rfl
theorem dua_isF {n : Int} {p : List Int} (h : cxOk n p) (x : Nat) : isF (grL (duaG n p)) x = dK n.toNat (isF p) x := by
 rw [grL_ext (g := dK n.toNat (isF p)) fun x hx => dua_dK h hx]
 exact grL_isF (dK_Kx (kx_of h)) x
/-- Lists that rise, of the same numbers. -/
theorem asc_eq : ∀ {l m : List Int}, l.Pairwise (· < ·) -> m.Pairwise (· < ·) -> (∀ x, x ∈ l ↔ x ∈ m) -> l = m
 | [], [], _, _, _ => rfl
 | [], b :: m, _, _, h => by have := (h b).mpr List.mem_cons_self; cases this
 | a :: l, [], _, _, h => by have := (h a).mp List.mem_cons_self; cases this
 | a :: l, b :: m, hl, hm, h => by
   obtain ⟨l1, l2⟩ := List.pairwise_cons.mp hl
   obtain ⟨m1, m2⟩ := List.pairwise_cons.mp hm
   have hab : a = b := by
     rcases List.mem_cons.mp ((h a).mp List.mem_cons_self) with e | e
     · exact e
     · rcases List.mem_cons.mp ((h b).mpr List.mem_cons_self) with e2 | e2
       · exact e2.symm
       · have := m1 a e; have := l1 b e2; omega
   subst hab
   congr 1
   refine asc_eq l2 m2 fun x => ⟨fun hx => ?_, fun hx => ?_⟩
   · rcases List.mem_cons.mp ((h x).mp (List.mem_cons_of_mem _ hx)) with e | e
     · have := l1 x hx; omega
     · exact e
   · rcases List.mem_cons.mp ((h x).mpr (List.mem_cons_of_mem _ hx)) with e | e
     · have := m1 x hx; omega
     · exact e
theorem trueN_pw (g : Nat -> Bool) (k : Nat) : (trueN g k).Pairwise (· < ·) := pair_get fun i h0 hi => trueN_asc (by omega) hi
theorem pie_self {n : Int} {p : List Int} (h : cxOk n p) : pieL p = p := by
 have hs := cxS_of h
 refine asc_eq (trueN_pw _ _) hs.asc fun y => ⟨fun hy => ?_, fun hy => ?_⟩
 · obtain ⟨x, rfl, _, ⟨i, hi, e⟩, _⟩ := pie_mem hy
   rw [<- e]; exact mem_getD hi
 · have hr := h.ok y hy
   obtain ⟨x, rfl⟩ : ∃ x : Nat, y = x := ⟨y.toNat, by omega⟩
   refine trueN_has (by omega) ?_
   unfold pieB
   rw [Bool.and_eq_true, inK_iff, mxS_iff]
   obtain ⟨i, hi, e⟩ := List.getElem_of_mem hy
   refine ⟨⟨i, hi, by rw [getD_lt hi]; exact e⟩, fun j hj => ?_⟩
   by_cases ej : p.getD j 0 = (x : Int)
   · exact .inl ej
   · refine .inr ?_
     have hrj := okL_get h.ok j
     have := hs.anti x hy (p.getD j 0) (mem_getD hj) fun e => ej e.symm
     obtain ⟨b, hb⟩ : ∃ b : Nat, p.getD j 0 = b := ⟨(p.getD j 0).toNat, by omega⟩
     rw [hb] at this |-
     rw [bAnd_nat (by omega) (by omega)] at this
     rw [Int.toNat_natCast]
     cases hsb : sub x b with
     | false => rfl
     | true => exact absurd (by rw [sub_iff.mp hsb]) this
theorem grL_self {n : Int} {p : List Int} (h : cxOk n p) : grL (isF p) = p := by rw [grL_pie h.ok, pie_self h]
theorem few_self {n : Int} {p : List Int} (h : cxOk n p) : fewE p = 0 /\ fewR p = p := by
 have h1 := h.2.1
 have h2 := (h.2.2 0 (by omega)).1
 have e : fewE p = 0 := by
   unfold fewE
   rw [if_neg, if_neg (by omega)]
   rintro (h3 | h3)
   · rw [h3] at h1; simp at h1
   · omega
 exact ⟨e, by unfold fewR; rw [if_pos e]⟩
theorem dK_dK {m : Nat} {K : Nat -> Bool} (h : Kx m K) {x : Nat} (hx : x < 64) : dK m (dK m K) x = K x := by
 rw [Bool.eq_iff_iff, dK_iff, nf_iff]
 constructor
 · rintro ⟨h1, h2, h3⟩
   cases hK : K x with
   | true => rfl
   | false =>
     have : dK m K (cF m x) = true := dK_iff.mpr ⟨h2, by rw [cF_cF h hx]; exact nf_iff.mpr ⟨h1, hK⟩⟩
     rw [h3] at this; cases this
 · intro hK
   have h1 := h.lt x hK
   obtain ⟨c1, _⟩ := cF_in h h1
   refine ⟨h1, c1, ?_⟩
   cases hd : dK m K (cF m x) with
   | false => rfl
   | true =>
     have := (dK_iff.mp hd).2
     rw [cF_cF h hx] at this
     rw [(nf_iff.mp this).2] at hK; cases hK
structure okD (n : Int) (p d : List Int) : Prop where
 cx : cxOk n d
 F : ∀ x, isF d x = dK n.toNat (isF p) x
 back : grL (duaG n d) = p
theorem dua_ok {n : Int} {p : List Int} (h : cxOk n p) (he : fewE (grL (duaG n p)) = 0) : okD n p (grL (duaG n p)) /\ fewR (grL (duaG n p)) = grL (duaG n p) := by
 have hF := dua_isF h
 have hR : fewR (grL (duaG n p)) = grL (duaG n p) := by unfold fewR; rw [if_pos he]
 have hx : cxOk n (grL (duaG n p)) := by
   have hp := pow_le6 h.1
   obtain ⟨e1, e2, e3⟩ := numOk_pow h.1
   have hd := dual_pie h
   have hlt : ∀ x ∈ trueN (dG n p) (2 ^ n.toNat), x < 2 ^ n.toNat := fun x hx => by
     obtain ⟨y, rfl, y1, _⟩ := trueN_mem hx
     omega
   have hok : ok22 (trueN (dG n p) (2 ^ n.toNat)) := ⟨okL_trueN (by omega), by have := trueN_len (dG n p) (2 ^ n.toNat); omega⟩
   rw [hd] at he |-
   generalize trueN (dG n p) (2 ^ n.toNat) = s at *
   unfold fewE at he
   have h1 : ¬ (pieL s = [] ∨ (pieL s).getD 0 0 = 0) := fun hh => by rw [if_pos hh] at he; omega
   rw [if_neg h1] at he
   have h2 : ¬ 10 < (pieL s).length := fun hh => by rw [if_pos hh] at he; omega
   have h3 : 0 < (pieL s).length := List.length_pos_iff.mpr fun hh => h1 (.inl hh)
   have := pie_cx h.1 hok hlt (by
     obtain ⟨x, e, _, ⟨i, hi, h4⟩, _⟩ := pie_mem (mem_getD (d := 0) h3)
     have : (pieL s).getD 0 0 ≠ 0 := fun hh => h1 (.inr hh)
     exact ⟨i, hi, by omega⟩)
   rwa [List.take_of_length_le (by omega)] at this
 refine ⟨⟨hx, hF, ?_⟩, hR⟩
 have hK := kx_of h
 rw [grL_ext (g := isF p) fun x hx2 => ?_]
 · exact grL_self h
 · rw [dua_dK hx hx2]
   unfold dK nf
   simp only [hF]
   exact dK_dK hK hx2
end Go.Am.Sh

/- Shells, plain: the reference's collapses are the program's. -/
namespace Go.Am.Sh
open Go Go.Am Go.Proofs
theorem cN_at (g : Nat -> Bool) (a : Int) : ∀ m : Nat, cN (fun x => g x && decide (a = (x : Int))) m = if 0 <= a /\ a < m /\ g a.toNat = true then 1 else 0
 | 0 => by rw [cN, if_neg (by omega)]
 | m + 1 => by
   rw [cN, cN_at g a m]
   by_cases e : a = (m : Int)
   · subst e
     rw [if_neg (by omega), Int.toNat_natCast]
     cases h : g m with
     | true => rw [if_pos (by simp), if_pos ⟨by omega, by omega, rfl⟩]
     | false => rw [if_neg (by simp), if_neg (fun hh => by cases hh.2.2)]
   · rw [if_neg (show ¬ (g m && decide (a = (m : Int))) = true by simp [e]), Nat.add_zero]
     by_cases h : 0 <= a /\ a < m /\ g a.toNat = true
     · rw [if_pos h, if_pos ⟨h.1, by omega, h.2.2⟩]
     · rw [if_neg h, if_neg fun hh => h ⟨hh.1, by omega, hh.2.2⟩]
end Go.Am.Sh

/- Shells, plain: the program's search and the reference's find the same. -/
namespace Go.Am.Sh
open Go Go.Am Go.Proofs
/-- What collapses to two faces. -/
inductive Co : Fs -> Prop
 | stop {xs : Fs} : (trueN (gB xs) 64).length = 2 -> Co xs
 | step {xs : Fs} (a b : Nat) : canR (gB xs) a b = true -> Co (tk xs a b) -> Co xs
structure Cl (xs : Fs) : Prop where
 hl : xs.length = 64
 z : gB xs 0 = true
 d : ∀ a b, b < 64 -> sub a b = true -> gB xs b = true -> gB xs a = true
end Go.Am.Sh

/- Shells, plain: the reference's search. -/
namespace Go.Am.Sh
open Go Go.Am Go.Proofs
theorem isF_zero {n : Int} {p : List Int} (h : cxOk n p) : isF p 0 = true := isF_iff.mpr ⟨0, by have := h.2.1.1; omega, sub_zero _⟩
end Go.Am.Sh

/- Shells: the law of the duals. -/
namespace Go.Am.Sh
open Go Go.Am Go.Proofs
theorem pc_zero : ∀ x : Fin 64, pc x.val = 0 -> x.val = 0 := by decide +kernel
theorem row_one : ∀ x : Fin 64, pc x.val = 1 -> row x.val = 1 := by decide +kernel
theorem has_one : ∀ x : Fin 64, x.val ≠ 0 -> ∃ v : Fin 64, pc v.val = 1 /\ sub v.val x.val = true := by decide +kernel
theorem top_at : ∀ m : Fin 7, ∀ x : Fin 64, x.val < 2 ^ m.val -> pc x.val <= m.val /\ (pc x.val = m.val -> x.val = cF m.val 0) := by decide +kernel
theorem cN_none {f : Nat -> Bool} (h : ∀ x, x < 64 -> f x = false) : cN f 64 = 0 := by
 rw [cN_ext (g := fun _ => false) h]; decide
theorem rk_zero (d : List Int) : rk (brd d ((0 : Nat) : Int)) = 0 := by
 refine Dim.uniq (rk_im d 0) ⟨[], rfl, trivial, im_bd (F := lv (isF d) 0) (R := []) (fun x hx hf => ?_) fun v hv => by cases hv⟩
 have := pc_zero ⟨x, hx⟩ (lv_iff.mp hf).2
 simp only at this
 rw [this]
 show row 0 = 0
 decide
theorem rk_first {n : Int} {d : List Int} (h : cxOk n d) : rk (brd d ((1 : Nat) : Int)) = 1 := by
 obtain ⟨v, v1, v2⟩ : ∃ v : Fin 64, pc v.val = 1 /\ isF d v.val = true := by
   have h0 := h.2.1.1
   have h1 := (h.2.2 0 (by omega)).1
   have h2 := okL_get h.ok 0
   obtain ⟨v, a, b⟩ := has_one ⟨(d.getD 0 0).toNat, by omega⟩ (by simp only; omega)
   exact ⟨v, a, isF_iff.mpr ⟨0, by omega, b⟩⟩
 refine Dim.uniq (rk_im d 1) ⟨[1], rfl, ⟨(fun h => by cases h), trivial⟩, im_bd (F := lv (isF d) 1) (R := [1]) (fun x hx hf => ?_) fun w hw => ?_⟩
 · have := row_one ⟨x, hx⟩ (lv_iff.mp hf).2
   simp only at this
   rw [this]; exact spn_mem List.mem_cons_self
 · refine .inr ⟨v.val, v.isLt, lv_iff.mpr ⟨v2, v1⟩, ?_⟩
   rw [row_one v v1]; exact List.mem_singleton.mp hw
theorem hn_first {n : Int} {d : List Int} (h : cxOk n d) : hnZ d 0 = 0 := by
 unfold hnZ
 have e : cN (lv (isF d) 0) 64 = 1 := by
   rw [cN_ext (g := fun x => isF d x && decide ((0 : Int) = (x : Int))) fun x hx => ?_, cN_at, if_pos ⟨by omega, by decide, isF_zero h⟩]
   unfold lv
   congr 1
   refine decide_eq_decide.mpr ⟨fun h2 => ?_, fun h2 => ?_⟩
   · have := pc_zero ⟨x, hx⟩ h2; simp only at this; omega
   · have : x = 0 := by omega
     rw [this]; decide
 have h0 := rk_zero d
 have h1 := rk_first h
 rw [show (((0 : Nat) : Int) + 1) = ((1 : Nat) : Int) by rfl, e, h0, h1]; try rfl
theorem hn_alex {n : Int} {p d : List Int} (h : cxOk n p) (hd : okD n p d) {s t : Nat} (hst : s + 1 + t = n.toNat) : hnZ p s = hnZ d t := by
 have hK := kx_of h
 have e : isF d = dK n.toNat (isF p) := funext hd.F
 have a1 := rk_im d t
 have a2 := rk_im d (t + 1)
 have a3 := rk_im p (s + 1)
 rw [e] at a1 a2
 have := alex hK hst (rk_im p s) a3 a1 a2
 unfold hnZ
 rw [e]
 rw [show (((s + 1 : Nat)) : Int) = (s : Int) + 1 by omega, show (((t + 1 : Nat)) : Int) = (t : Int) + 1 by omega] at this
 exact this
theorem hn_top {n : Int} {p d : List Int} (h : cxOk n p) (hd : okD n p d) : hnZ p n.toNat = 0 := by
 have hK := kx_of h
 have hm := hK.m6
 have h64 := hK.le64
 have hfull : isF p (cF n.toNat 0) = false := by
   have := hd.F 0
   rw [isF_zero hd.cx] at this
   exact (nf_iff.mp (dK_iff.mp this.symm).2).2
 have key : ∀ s, n.toNat <= s -> ∀ x, x < 64 -> lv (isF p) s x = false := fun s hs x hx => by
   cases hl : lv (isF p) s x with
   | false => rfl
   | true =>
     obtain ⟨g1, g2⟩ := lv_iff.mp hl
     obtain ⟨t1, t2⟩ := top_at ⟨n.toNat, by omega⟩ ⟨x, hx⟩ (isF_lt h g1)
     simp only at t1 t2
     rw [t2 (by omega), hfull] at g1; cases g1
 have e0 : ∀ s : Nat, n.toNat <= s -> brd p s = [] := fun s hs => by
   have := brd_cN p s
   rw [show cN (fK p s) 64 = 0 from cN_none (key s hs)] at this
   exact List.length_eq_zero_iff.mp this
 have e1 := e0 n.toNat (Nat.le_refl _)
 have e2 := e0 (n.toNat + 1) (by omega)
 rw [show ((n.toNat + 1 : Nat) : Int) = (n.toNat : Int) + 1 by omega] at e2
 unfold hnZ
 rw [e1, e2, cN_none (key _ (Nat.le_refl _)), rk_nil]; try rfl
/-- What the law compares. -/
theorem ho_dual {n : Int} {p d : List Int} (h : cxOk n p) (hd : okD n p d) {i : Nat} (hi : (i : Int) < n) : (0 <= n - i - 3 -> (hoL p).getD i 0 = (hoL d).getD (n - i - 3).toNat 0) /\ (¬ 0 <= n - i - 3 -> (hoL p).getD i 0 = 0) := by
 rw [hoL_get h]
 refine ⟨fun h1 => ?_, fun h1 => ?_⟩
 · rw [hoL_get hd.cx]
   exact hn_alex h hd (by omega)
 · by_cases e : (i : Int) + 1 = n
   · rw [show i + 1 = n.toNat by omega]; exact hn_top h hd
   · rw [hn_alex h hd (s := i + 1) (t := 0) (by omega)]; exact hn_first hd.cx
def bS (p : List Int) : Nat -> Int
 | 0 => 0
 | k + 1 => bS p k + (hoL p).getD k 0 * (1 - 2 * ((k : Int).tmod 2))
def bA (p : List Int) : Nat -> Int
 | 0 => 0
 | k + 1 => bA p k + (hoL p).getD k 0
def sgZ (k : Nat) : Int := 1 - 2 * ((k : Int).tmod 2)
theorem sg_two (k : Nat) : (sgZ k = 1 /\ sgZ (k + 1) = -1 /\ (2 * (((k + 1) % 2 : Nat) : Int) - 1) = 1) ∨ (sgZ k = -1 /\ sgZ (k + 1) = 1 /\ (2 * (((k + 1) % 2 : Nat) : Int) - 1) = -1) := by
 unfold sgZ
 rw [Int.tmod_eq_emod_of_nonneg (by omega), Int.tmod_eq_emod_of_nonneg (by omega)]
 omega
theorem ho_bd {n : Int} {p : List Int} (h : cxOk n p) (k : Nat) : 0 <= (hoL p).getD k 0 /\ (hoL p).getD k 0 <= 64 := by
 rcases Nat.lt_or_ge k (hoL p).length with hk | hk
 · refine ⟨hoL_nn p _ (mem_getD hk), ?_⟩
   rw [hoL_get h]
   unfold hnZ
   have := cN_top (lv (isF p) (k + 1)) 64
   omega
 · rw [List.getD_eq_getElem?_getD, List.getElem?_eq_none hk]; decide
theorem aS_bd {n : Int} {p : List Int} (h : cxOk n p) : ∀ k : Nat, (-(64 * (k : Int)) <= bS p k /\ bS p k <= 64 * k) /\ 0 <= bA p k /\ bA p k <= 64 * k
 | 0 => by simp [bS, bA]
 | k + 1 => by
   have ih := aS_bd h k
   have hb := ho_bd h k
   have hs := sg_two k
   have e : 1 - 2 * ((k : Int).tmod 2) = sgZ k := rfl
   rw [bS, bA, e]
   rcases hs with ⟨h1, _⟩ | ⟨h1, _⟩ <;> rw [h1] <;> omega
theorem aS_tel {n : Int} {p : List Int} (h : cxOk n p) : ∀ k : Nat, (k : Int) <= mxL p -> bS p k = euK (cnts p) k - 1 + sgZ k * rk (brd p ((k : Int) + 1))
 | 0, _ => by
   have := rk_first h
   rw [bS, euK]
   show (0 : Int) = 0 - 1 + sgZ 0 * (rk (brd p ((0 : Int) + 1)) : Int)
   rw [show ((0 : Int) + 1) = ((1 : Nat) : Int) by rfl, this]; decide
 | k + 1, hk => by
   have ih := aS_tel h k (by omega)
   have hc := cnts_cN (p := p) (k := k + 1) (by omega)
   have e : (fun x => isF p x && (pc x == k + 1)) = lv (isF p) (k + 1) := by
     funext x; unfold lv; congr 1
   rw [e] at hc
   have hg := hoL_get h k
   unfold hnZ at hg
   rw [bS, ih, euK, hg, hc, show (((k + 1 : Nat)) : Int) = (k : Int) + 1 by omega]
   have e3 : 1 - 2 * ((k : Int).tmod 2) = sgZ k := rfl
   rw [e3]
   rcases sg_two k with ⟨h1, h2, h3⟩ | ⟨h1, h2, h3⟩ <;> rw [h1, h2, h3] <;> omega
theorem eul_hol {n : Int} {p : List Int} (h : cxOk n p) : eulN (isF p) 64 - 1 = bS p (hoL p).length := by
 have hm := mxL_le p
 have hl : (hoL p).length = (mxL p).toNat := hoK_length p _
 have h1 := aS_tel h (mxL p).toNat (by omega)
 have h2 := eul_eq h
 have h3 := cnts_length p
 have h4 : brd p (((mxL p).toNat : Int) + 1) = [] := brd_none h.ok (by omega)
 rw [h4, rk_nil] at h1
 rw [h2, h3, hl, h1, Nat.add_sub_cancel]
 simp
theorem col_all {p : List Int} (hc : colR p = true) : ∀ k, bA p k = 0
 | 0 => rfl
 | k + 1 => by
   have hz : zeL p = true := by
     have h1 : colB 33 p = true := hc
     unfold colB at h1
     rw [pos_ze, Bool.and_eq_true] at h1
     exact h1.1
   have hz : ∀ x ∈ hoL p, x = 0 := of_decide_eq_true hz
   rw [bA, col_all hc k]
   rcases Nat.lt_or_ge k (hoL p).length with hk | hk
   · rw [hz _ (mem_getD hk)]; try rfl
   · rw [List.getD_eq_getElem?_getD, List.getElem?_eq_none hk]; try rfl
noncomputable def L12_0 : Code := lp (bodyOf Try.f12) 0
noncomputable def L12_2 : Code := lp (bodyOf Try.f12) 2
noncomputable abbrev X12 : Cy := X [e14, e30, e39, g46, e36, e23, e19]
def st12 (n : Int) (p : List Int) (k : Nat) : St := ⟨dd 5 ++ .int .i64 n :: .sl I64 p :: .sl I64 (hoL p) :: .dead :: .int .i64 (eulN (isF p) 64) :: dd 2 ++ .bool (colR p) :: .dead :: .int .i64 (bS p k) :: .int .i64 (bA p k) :: .int .i64 k :: dd 158, []⟩
def in12 (p : List Int) (k : Nat) : Prop := k <= (hoL p).length
def ex12 (n : Int) (p : List Int) : List (List Nat × Ex) := [([5, 6, 7, 9, 12, 14, 15], ⟨0, Unit, fun _ => True, fun _ => ⟨dd 5 ++ .int .i64 n :: .sl I64 p :: .sl I64 (hoL p) :: .dead :: .int .i64 (eulN (isF p) 64) :: dd 2 ++ .bool (colR p) :: .dead :: .int .i64 (bS p (hoL p).length) :: .int .i64 (bA p (hoL p).length) :: dd 159, []⟩⟩)]
def h12 (n : Int) (p : List Int) : Hint := ⟨chk 0 [5, 6, 7, 9, 12, 14, 15, 16] (in12 p) (st12 n p), (ex12 n p).map (·.2)⟩
theorem loop12a (n : Int) (p : List Int) (h : cxOk n p) (R : Exit -> St -> Prop) : LoopOK X12 L12_0 (h12 n p) R := by
 have hlen := hoL_le h
 refine loop_ok (X_ok _) (H := fun _ _ => none) [5, 6, 7, 9, 12, 14, 15, 16] (in12 p) (st12 n p) (fun k => (hoL p).length - k) (ex12 n p) 150 fun (k : Nat) hk => ?_
 refine of_eq (q := (fun (f : Prop) => (fun (e : Int) => (fun (c : Int) => (fun (b : Int) => (fun (a : List Int) => (fun (g : Int) => (fun (d : Int) => f /\ f /\ f /\ f /\ (e < (a.length : Int) -> f /\ f /\ f /\ idxPre e a.length /\ f /\ f /\ ¬(2 : Int) = 0 /\ inR .i64 b /\ inR .i64 ((1 : Int) - b) /\ inR .i64 d /\ inR .i64 (bS p k + d) /\ f /\ f /\ f /\ f /\ idxPre e a.length /\ f /\ inR .i64 (bA p k + g) /\ f /\ f /\ inR .i64 (e + 1) /\ f /\ ∃ (y : Nat), (in12 p y /\ a.length - y < a.length - k) /\ (n = n /\ p = p /\ a = a /\ c = c /\ colR p = colR p /\ bS p k + d = bS p y /\ bA p k + g = bA p y /\ e + 1 = (y : Int) /\ f) /\ f) /\ (¬e < (a.length : Int) -> ∃ (y : Unit), f /\ (n = n /\ p = p /\ a = a /\ c = c /\ colR p = colR p /\ bS p k = bS p a.length /\ bA p k = bA p a.length /\ f) /\ f)) (g * ((1 : Int) - b))) (a.getD k (0 : Int))) (hoL p)) ((2 : Int) * e.tmod (2 : Int))) (eulN (isF p) (64 : Nat))) ((k : Int))) (True)) (by kernel_rfl) ?_
 simp only [zz]
 have hk : k <= (hoL p).length := hk
 have h1 := aS_bd h k
 have h2 := ho_bd h k
 have h3 := aS_bd h (k + 1)
 have hs := sg_two k
 have e : 1 - 2 * ((k : Int).tmod 2) = sgZ k := rfl
 have e2 : 2 * ((k : Int).tmod 2) = 1 - sgZ k := by omega
 have e3 : bS p k + (hoL p).getD k 0 * (1 - 2 * ((k : Int).tmod 2)) = bS p (k + 1) := rfl
 have e4 : bA p k + (hoL p).getD k 0 = bA p (k + 1) := rfl
 rw [e3, e4, e, e2]
 have hm : (hoL p).getD k 0 * sgZ k = (hoL p).getD k 0 ∨ (hoL p).getD k 0 * sgZ k = -(hoL p).getD k 0 := by
   rcases hs with ⟨h4, _⟩ | ⟨h4, _⟩ <;> rw [h4] <;> omega
 have hs2 : sgZ k = 1 ∨ sgZ k = -1 := hs.imp (·.1) (·.1)
 exact ⟨fun hlt => ⟨idx_nat (by omega), by decide, by simp only [inR]; omega, by simp only [inR]; omega, by simp only [inR]; omega, by simp only [inR]; omega, idx_nat (by omega), by simp only [inR]; omega, by simp only [inR]; omega, k + 1, ⟨by unfold in12; omega, by omega⟩, rfl, rfl, by omega⟩, fun hge => by rw [show k = (hoL p).length by omega]; exact ⟨rfl, rfl⟩⟩
def sd12 (n : Int) (p d : List Int) (i : Nat) : St := ⟨dd 5 ++ .int .i64 n :: .dead :: .sl I64 (hoL p) :: dd 13 ++ .sl I64 (hoL d) :: .dead :: .int .i64 i :: dd 151, []⟩
def id12 (n : Int) (i : Nat) : Prop := (i : Int) <= n
def xd12 : List (List Nat × Ex) := [([], ⟨2, Unit, fun _ => True, fun _ => ⟨dd 175, []⟩⟩)]
def hd12 (n : Int) (p d : List Int) : Hint := ⟨chk 0 [5, 7, 21, 23] (id12 n) (sd12 n p d), xd12.map (·.2)⟩
noncomputable def R12 : Exit -> St -> Prop := RetR X12 true false [.tmp 4] [.tt] []
theorem loop12d (n : Int) (p d : List Int) (h : cxOk n p) (hd : okD n p d) : LoopOK X12 L12_2 (hd12 n p d) R12 := by
 have hlen := hoL_le h
 have hlen2 := hoL_le hd.cx
 refine loop_ok (X_ok _) (H := fun _ _ => none) [5, 7, 21, 23] (id12 n) (sd12 n p d) (fun i => n.toNat - i) xd12 150 fun (i : Nat) hi => ?_
 refine of_eq (q := (fun (j : Int) => (fun (h : List Int) => (fun (g : List Int) => (fun (f : Int) => (fun (q : Int) => (fun (e : Prop) => (fun (c : Prop) => (fun (b : Int) => (fun (o : Int) => (fun (l : Prop) => (fun (a : Prop) => (fun (m : Prop) => (fun (k : Prop) => e /\ e /\ e /\ (j < n -> e /\ e /\ e /\ e /\ e /\ e /\ (j < (h.length : Int) -> e /\ e /\ idxPre j h.length /\ e /\ e /\ e /\ e /\ inR .i64 (n - j) /\ inR .i64 b /\ e /\ e /\ e /\ e /\ (f <= b -> e /\ e /\ e /\ e /\ e /\ (l -> e /\ e /\ idxPre b g.length /\ e /\ e /\ e /\ e /\ e /\ (¬q = o -> c) /\ (¬¬q = o -> a)) /\ (¬l -> k)) /\ (¬f <= b -> e /\ k)) /\ (¬j < (h.length : Int) -> e /\ e /\ inR .i64 (n - j) /\ inR .i64 b /\ e /\ e /\ e /\ e /\ (f <= b -> e /\ e /\ e /\ e /\ e /\ (l -> e /\ e /\ idxPre b g.length /\ e /\ e /\ e /\ e /\ e /\ (¬f = o -> c) /\ (¬¬f = o -> a)) /\ (¬l -> m)) /\ (¬f <= b -> e /\ m))) /\ (¬j < n -> ∃ (y : Unit), e /\ e /\ e)) (e /\ e /\ e /\ (¬q = f -> c) /\ (¬¬q = f -> a))) (e /\ e /\ e /\ (¬f = f -> c) /\ (¬¬f = f -> a))) (e /\ inR .i64 (j + 1) /\ e /\ ∃ (y : Nat), (id12 n y /\ n.toNat - y < n.toNat - i) /\ (n = n /\ h = h /\ g = g /\ j + 1 = (y : Int) /\ e) /\ e)) (b < (g.length : Int))) (g.getD b.toNat f)) (n - j - 3)) (e /\ e /\ (false = true /\ e) /\ e)) (True)) (h.getD i f)) ((0 : Int))) (hoL d)) (hoL p)) ((i : Int))) (by kernel_rfl) ?_
 simp only [zz]
 have hi : (i : Int) <= n := hi
 obtain ⟨n1, n2⟩ := h.1
 by_cases hlt : (i : Int) < n
 · obtain ⟨a1, a2⟩ := ho_dual h hd hlt
   have hnext : inR .i64 ((i : Int) + 1) /\ ∃ y : Nat, (id12 n y /\ n.toNat - y < n.toNat - i) /\ (i : Int) + 1 = y := ⟨by simp only [inR]; omega, i + 1, ⟨by unfold id12; omega, by omega⟩, by omega⟩
   have z1 : ¬ (i : Int) < (hoL p).length -> (hoL p).getD i 0 = 0 := fun hh => by rw [List.getD_eq_getElem?_getD, List.getElem?_eq_none (by omega)]; try rfl
   have z2 : ∀ c : Int, 0 <= c -> ¬ c < (hoL d).length -> (hoL d).getD c.toNat 0 = 0 := fun c h0 hh => by rw [List.getD_eq_getElem?_getD, List.getElem?_eq_none (by omega)]; try rfl
   have r1 : inR .i64 (n - (i : Int)) := by simp only [inR]; omega
   have r2 : inR .i64 (n - (i : Int) - 3) := by simp only [inR]; omega
   refine ⟨fun _ => ⟨fun g1 => ⟨idx_nat (by omega), r1, r2, fun g2 => ⟨fun g3 => ⟨by unfold idxPre; omega, fun g4 => absurd (a1 g2) g4, fun _ => hnext⟩, fun g3 => ⟨fun g4 => absurd ((a1 g2).trans (z2 _ g2 g3)) g4, fun _ => hnext⟩⟩, fun g2 => ⟨fun g4 => absurd (a2 g2) g4, fun _ => hnext⟩⟩, fun g1 => ⟨r1, r2, fun g2 => ⟨fun g3 => ⟨by unfold idxPre; omega, fun g4 => absurd ((z1 g1).symm.trans (a1 g2)) g4, fun _ => hnext⟩, fun g3 => ⟨fun g4 => absurd trivial g4, fun _ => hnext⟩⟩, fun g2 => ⟨fun g4 => absurd trivial g4, fun _ => hnext⟩⟩⟩, fun _ => trivial⟩
 · exact ⟨fun hh => absurd hh hlt, fun _ => trivial⟩
theorem call12 (n : Int) (l : List Int) (hl : l.length < 1000000000000000) : GCall Try.prog gl 12 true [.int .i64 n, .sl I64 l] [] [.tt] [] := by
 have hx := tm_cx n l
 have hA := fun R => loop12a (tmN n) (tmP n l) hx R
 have hD := fun hd => loop12d (tmN n) (tmP n l) (grL (duaG (tmN n) (tmP n l))) hx hd
 refine gcall_of (X := X12) ((X_ok _)) (f := 12) (fn := Try.f12) (c := bodyOf Try.f12) (by kernel_rfl) (by kernel_rfl) (view := false) (rvs := [.tmp 4]) (by kernel_rfl) (H := (fun id => some (match id with | 0 => h12 (tmN n) (tmP n l) | _ => hd12 (tmN n) (tmP n l) (grL (duaG (tmN n) (tmP n l)))))) 300 (by kernel_rfl) ?_
 refine of_eq (q := (fun (i : Int) => (fun (s : Prop) => (fun (g : Int) => (fun (d : Prop) => (fun (p : Prop) => (fun (f : Prop) => (fun (t : Prop) => (fun (c : List Int) => (fun (o : List Int) => (fun (m : Int) => (fun (u : Prop) => (fun (e : Prop) => (fun (b : List Int) => (fun (r : List Int) => (fun (q : Int) => (fun (j : List Int) => (fun (h : Prop) => (fun (a : Prop) => d /\ d /\ d /\ (l.length + 1 <= 1000000000000000 /\ d) /\ d /\ d /\ d /\ d /\ d /\ d /\ d /\ e /\ d /\ d /\ d /\ d /\ d /\ d /\ d /\ e /\ d /\ d /\ d /\ d /\ d /\ d /\ d /\ e /\ d /\ d /\ d /\ d /\ d /\ d /\ d /\ d /\ d /\ d /\ (s -> d /\ d /\ d /\ d /\ t) /\ (¬s -> d /\ d /\ d /\ d /\ (s -> d /\ d /\ t) /\ (¬s -> d /\ d /\ d /\ d /\ (s -> t) /\ (¬s -> d /\ d /\ d /\ d /\ ((6 : Int) < (o.length : Int) -> f) /\ (¬(6 : Int) < (o.length : Int) -> d /\ d /\ d /\ LoopOK X12 L12_0 (h12 g c) (RetR X12 true false [ResultVar.tmp (4 : Tmp)] [AV.tt] []) /\ (∃ (y : Nat), in12 c y /\ (g = g /\ c = c /\ o = o /\ m = m /\ colR c = colR c /\ i = bS c y /\ i = bA c y /\ i = (y : Int) /\ d) /\ d) /\ (∀ (y : Unit), d -> d /\ inR .i64 (m - 1) /\ d /\ d /\ d /\ (u -> t) /\ (¬u -> d /\ d /\ (colR c = true -> d /\ d /\ d /\ d /\ (¬bA c o.length = i -> f) /\ (¬¬bA c o.length = i -> a)) /\ (colR c = false -> d /\ d /\ a))) /\ d))))) (d /\ d /\ e /\ d /\ d /\ d /\ d /\ d /\ d /\ d /\ (¬q = i -> d /\ d /\ d /\ (q = 4 -> d /\ d /\ (d /\ d) /\ d /\ p) /\ (¬q = 4 -> d /\ d /\ d /\ d /\ (q = 8 -> (d /\ d) /\ d /\ p) /\ (¬q = 8 -> t))) /\ (¬¬q = i -> d /\ d /\ h /\ d /\ d /\ d /\ d /\ d /\ d /\ d /\ h /\ d /\ d /\ d /\ d /\ d /\ d /\ d /\ d /\ (¬fewE j = i -> d /\ d /\ t) /\ (¬¬fewE j = i -> d /\ d /\ d /\ d /\ (s -> t) /\ (¬s -> d /\ d /\ ((fewR j).length + 1 <= 1000000000000000 /\ d) /\ d /\ d /\ ((!decide (fewR j = c)) = true -> f) /\ ((!decide (fewR j = c)) = false -> d /\ LoopOK X12 L12_2 (hd12 g c b) R12 /\ (∃ (y : Nat), id12 g y /\ (g = g /\ o = o /\ hoL r = hoL b /\ i = (y : Int) /\ d) /\ d) /\ (∀ (y : Unit), d -> (d /\ d) /\ p) /\ d)))))) ((numOk g /\ ((1 : Nat) <= r.length /\ r.length <= 10) /\ ∀ (k : Nat), k < r.length -> goodAt g r k) /\ d)) (grL (duaG g r))) (fewE b)) (fewR b)) (grL (duaG g c))) ((numOk g /\ ((1 : Nat) <= c.length /\ c.length <= 10) /\ ∀ (k : Nat), k < c.length -> goodAt g c k) /\ d)) (¬m - 1 = bS c o.length)) (eulN (isF c) (64 : Nat))) (hoL c)) (tmP n l)) (d /\ f)) (d /\ d /\ (false = true /\ d) /\ d)) (d /\ d /\ (true = true /\ d) /\ d)) (True)) (tmN n)) (¬i = i)) ((0 : Int))) (by kernel_rfl) ?_
 simp only [zz]
 have hm := mxL_le (tmP n l)
 have hl6 : (hoL (tmP n l)).length = (mxL (tmP n l)).toNat := hoK_length _ _
 have hE := eul_hol hx
 have hB := aS_bd hx (hoL (tmP n l)).length
 have hC := fun hc => col_all (p := tmP n l) hc (hoL (tmP n l)).length
 have hW : ∀ P : Prop, ¬ True -> P := fun P h => absurd trivial h
 have h48 : fewE (grL (duaG (tmN n) (tmP n l))) = 0 ∨ fewE (grL (duaG (tmN n) (tmP n l))) = 4 ∨ fewE (grL (duaG (tmN n) (tmP n l))) = 8 := by
   unfold fewE
   split
   · exact .inr (.inl rfl)
   · split
     · exact .inr (.inr rfl)
     · exact .inl rfl
 have hok := fun he => dua_ok hx he
 have hfew := few_self hx
 generalize fewE (grL (duaG (tmN n) (tmP n l))) = Z at h48 hok |-
 have main : Z = 0 -> cxOk (tmN n) (fewR (grL (duaG (tmN n) (tmP n l)))) /\ fewE (grL (duaG (tmN n) (fewR (grL (duaG (tmN n) (tmP n l)))))) = 0 /\ fewR (grL (duaG (tmN n) (fewR (grL (duaG (tmN n) (tmP n l)))))) = tmP n l /\ okD (tmN n) (tmP n l) (grL (duaG (tmN n) (tmP n l))) /\ fewR (grL (duaG (tmN n) (tmP n l))) = grL (duaG (tmN n) (tmP n l)) := fun hz => by
   obtain ⟨g1, g2⟩ := hok hz
   rw [g2, g1.back]
   exact ⟨g1.cx, hfew.1, hfew.2, g1, rfl⟩
 have hp10 := hx.2.1
 have fin : Z = 0 -> cxOk (tmN n) (fewR (grL (duaG (tmN n) (tmP n l)))) /\ cxOk (tmN n) (fewR (grL (duaG (tmN n) (tmP n l)))) /\ (¬ fewE (grL (duaG (tmN n) (fewR (grL (duaG (tmN n) (tmP n l)))))) = 0 -> false = true) /\ (¬ ¬ fewE (grL (duaG (tmN n) (fewR (grL (duaG (tmN n) (tmP n l)))))) = 0 -> (¬ True -> false = true) /\ (¬ ¬ True -> (fewR (grL (duaG (tmN n) (fewR (grL (duaG (tmN n) (tmP n l))))))).length + 1 <= 1000000000000000 /\
     ((!decide (fewR (grL (duaG (tmN n) (fewR (grL (duaG (tmN n) (tmP n l)))))) = tmP n l)) = true -> false = true) /\ ((!decide (fewR (grL (duaG (tmN n) (fewR (grL (duaG (tmN n) (tmP n l)))))) = tmP n l)) = false -> LoopOK X12 L12_2 (hd12 (tmN n) (tmP n l) (grL (duaG (tmN n) (tmP n l)))) R12 /\ (∃ y, id12 (tmN n) y /\ hoL (fewR (grL (duaG (tmN n) (tmP n l)))) = hoL (grL (duaG (tmN n) (tmP n l))) /\ 0 = (y : Int)) /\ ∀ (y : PUnit), True -> True))) := fun hz => by
   obtain ⟨g1, g2, g3, g4, g5⟩ := main hz
   refine ⟨g1, g1, fun g6 => absurd g2 g6, fun _ => ⟨hW _, fun _ => ⟨by rw [g3]; omega, fun g6 => ?_, fun _ => ⟨hD g4, ⟨0, ?_, by rw [g5], rfl⟩, fun _ _ => trivial⟩⟩⟩⟩
   · rw [g3] at g6; simp at g6
   · unfold id12; have := hx.1.1; omega
 have tail : cxOk (tmN n) (tmP n l) /\ (¬ Z = 0 -> (Z = 4 -> True) /\ (¬ Z = 4 -> (Z = 8 -> True) /\ (¬ Z = 8 -> false = true))) /\ (¬ ¬ Z = 0 -> _) := ⟨hx, fun g1 => ⟨fun _ => trivial, fun g2 => ⟨fun _ => trivial, fun g3 => by omega⟩⟩, fun g1 => fin (Classical.not_not.mp g1)⟩
 exact ⟨by omega, hx, hx, hx, hW _, fun _ => ⟨hW _, fun _ => ⟨hW _, fun _ => ⟨fun h6 => by omega, fun _ => ⟨hA _, ⟨0, Nat.zero_le _, rfl, rfl, rfl⟩, fun _ _ => ⟨by rw [hE]; simp only [inR]; omega, fun h7 => absurd hE h7, fun _ => ⟨fun hc => ⟨fun h8 => absurd (hC hc) h8, fun _ => tail⟩, fun _ => tail⟩⟩⟩⟩⟩⟩⟩
end Go.Am.Sh

/- Shells: from the laws' contracts to the given statements: what all laws share. -/
namespace Go.Proofs.Ytfpoonbcnabihaa
open Go Go.ChangeShapes Go.WideShapes Go.ChangeAt Go.RowKit Go.Am Go.Am.Sh
theorem own : ownKnob Try.prog.godebug = none := by kernel_rfl
theorem laidOut : laidOutB Try.prog = true := by kernel_rfl
theorem u3 : Try.prog.underlying 3 = some (.int .i64) := by kernel_rfl
theorem u4 : Try.prog.underlying 4 = some .bool := by kernel_rfl
theorem u22 : Try.prog.underlying 22 = some (.slice 3) := by kernel_rfl
theorem tyOk3 : TyOk Try.prog 3 I64 := u3
theorem tyOk22 : TyOk Try.prog 22 (.sl I64) := ⟨3, u22, u3, by kernel_rfl, by decide, of_decide_eq_true (by kernel_rfl)⟩
theorem reach_le {l : List Nat} (h : l.all (fun x => decide (x <= reachBytes)) = true) : ∀ n ∈ l, n <= 140737488355328 := fun n hn => by
 have := of_decide_eq_true (List.all_eq_true.mp h n hn)
 have e : reachBytes = 140737488351232 := rfl
 omega
theorem glob_of {W : World} : GlobOk gl (fun b => b < W.heap.size) W := fun g p hp => by cases hp
end Go.Proofs.Ytfpoonbcnabihaa
