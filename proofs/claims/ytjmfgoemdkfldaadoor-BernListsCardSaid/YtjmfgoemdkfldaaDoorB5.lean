/- Part B5 of the proof that the law named in the last file returns true at every input and leaves its arguments as they were; no condition of its own. -/
import Derived.Test.YtjmfgoemdkfldaaDoorB4
import Derived.Test.YtjmfgoemdkfldaaDoorA2
import Derived.Test.YtjmfgoemdkfldaaDoorB3
import Derived.Test.YtjmfgoemdkfldaaDoorRows
import Derived.WalkKit
import Derived.ProofKit
import Derived.OpenShut
import Derived.LaidMore
import Derived.ChangeOld
import Derived.Below
import Derived.SevenTiedAt
import Derived.Stop.Joined
set_option linter.unusedSimpArgs false
set_option linter.unusedVariables false
/- Bern: pieces that cover a piece; the property is function 64. -/
namespace Go.Am.Bern.P64
open Go Go.Am Go.Proofs Go.Am.Bern
def gd : List PQ → Bool := fun l => decide (chg l ≤ 1)
def gdB : Ob := .bx (.clo 64 [] [])
def gN (p : List Int) (m : Memo) : List Ob := [gdB, .bx (.ptr 2 0 []), cvB p 3, mmO m, .bx nl, .bx (clo91 0 1 4 5)]
def gO (p : List Int) (m : Memo) (l : List PQ) : List Ob := [gdB, .bx (.ptr 2 0 []), cvB p 3, mmO m, .bx (.own 6 0), .bx (clo91 0 1 4 5), pieO 0 l]
def gS (v : Nat) (p : List Int) (m : Memo) (l : List PQ) : List Ob := [gdB, .bx (.ptr 2 0 []), cvB p 3, mmO m, .bx (.own 5 v), pieO v l, .bx (clo91 0 1 4 6)]
def aN (q : PQ) : List AV := [ofD FR q, .ptr 0 0 [], .ptr 1 0 [], .ptr 4 0 [], .ptr 5 0 []]
def aS (q : PQ) : List AV := [ofD FR q, .ptr 0 0 [], .ptr 1 0 [], .ptr 4 0 [], .ptr 6 0 []]
def GN (n : Nat) : Prop := ∀ (d k : Nat) (p : List Int) (m : Memo), pre91 n d k p m → grL gd p n d k = [] → GCall Tryd.prog gl 91 false (aN ((d : Int), (k : Int))) (gN p m) [.ff] (gN p (grM gd p n d k m))
def GO (n : Nat) : Prop := ∀ (d k : Nat) (p : List Int) (m : Memo), pre91 n d k p m → grL gd p n d k ≠ [] → GCall Tryd.prog gl 91 false (aN ((d : Int), (k : Int))) (gN p m) [.bool (grB gd p n d k)] (gO p (grM gd p n d k m) (grL gd p n d k))
def GS (n : Nat) : Prop := ∀ (d k : Nat) (p : List Int) (m : Memo) (l : List PQ), pre91 n d k p m → l.length + (grL gd p n d k).length < 1000000 →
 GCall Tryd.prog gl 91 false (aS ((d : Int), (k : Int))) (gS 0 p m l) [.bool (grB gd p n d k)] (gS 1 p (grM gd p n d k m) (l ++ grL gd p n d k))
def get91N (xs : List AV) (obs : List Ob) : Option (PQ × List Int × Memo) :=
 match xs with
 | x :: _ => (match toD FR x, unCvB (obs.getD 2 .gone), unMm (obs.getD 3 .gone), isNl (obs.getD 4 .gone) with
   | some q, some p, some m, true => some (q, p, m)
   | _, _, _, _ => none)
 | _ => none
def get91S (xs : List AV) (obs : List Ob) : Option (PQ × List Int × Memo × List PQ) :=
 match xs with
 | x :: _ => (match toD FR x, unCvB (obs.getD 2 .gone), unMm (obs.getD 3 .gone), unPie (obs.getD 5 .gone) with
   | some q, some p, some m, some l => some (q, p, m, l)
   | _, _, _, _ => none)
 | _ => none
theorem en91 : Enters Tryd.prog 91 := ⟨Tryd.f91, by kernel_rfl, by kernel_rfl, by kernel_rfl⟩
def e91N (n : Nat) (h : GN n) : Entry Tryd.prog gl := entryW 91 en91 true get91N (fun x => ∃ d k : Nat, x.1 = ((d : Int), (k : Int)) ∧ pre91 n d k x.2.1 x.2.2 ∧ grL gd x.2.1 n d k = []) false (fun x => aN x.1) (fun x => gN x.2.1 x.2.2) (fun _ => [.ff])
 (fun x => gN x.2.1 (grM gd x.2.1 n x.1.1.toNat x.1.2.toNat x.2.2)) (by
   rintro ⟨q, p, m⟩ ⟨d, k, hq, h1, h2⟩
   simp only at hq; subst hq
   exact h d k p m h1 h2)
def e91O (n : Nat) (h : GO n) : Entry Tryd.prog gl := entryW 91 en91 true get91N (fun x => ∃ d k : Nat, x.1 = ((d : Int), (k : Int)) ∧ pre91 n d k x.2.1 x.2.2 ∧ grL gd x.2.1 n d k ≠ []) false (fun x => aN x.1) (fun x => gN x.2.1 x.2.2) (fun x => [.bool (grB gd x.2.1 n x.1.1.toNat x.1.2.toNat)])
 (fun x => gO x.2.1 (grM gd x.2.1 n x.1.1.toNat x.1.2.toNat x.2.2) (grL gd x.2.1 n x.1.1.toNat x.1.2.toNat)) (by
   rintro ⟨q, p, m⟩ ⟨d, k, hq, h1, h2⟩
   simp only at hq; subst hq
   exact h d k p m h1 h2)
def e91S (n : Nat) (h : GS n) : Entry Tryd.prog gl := entryW 91 en91 true get91S (fun x => ∃ d k : Nat, x.1 = ((d : Int), (k : Int)) ∧ pre91 n d k x.2.1 x.2.2.1 ∧ x.2.2.2.length + (grL gd x.2.1 n d k).length < 1000000) false (fun x => aS x.1) (fun x => gS 0 x.2.1 x.2.2.1 x.2.2.2) (fun x => [.bool (grB gd x.2.1 n x.1.1.toNat x.1.2.toNat)])
 (fun x => gS 1 x.2.1 (grM gd x.2.1 n x.1.1.toNat x.1.2.toNat x.2.2.1) (x.2.2.2 ++ grL gd x.2.1 n x.1.1.toNat x.1.2.toNat)) (by
   rintro ⟨q, p, m, l⟩ ⟨d, k, hq, h1, h2⟩
   simp only at hq; subst hq
   exact h d k p m l h1 h2)
noncomputable def yN (s : LoopState) (j : Option Code) (p : List Int) (m : Memo) (b : AV) : List Ob := [.lp C91 s j (rc91 1 7), .bx (clo91 2 3 6 1), gdB, .bx (.ptr 4 0 []), cvB p 5, mmO m, .bx nl, .bx b]
noncomputable def yO (s : LoopState) (j : Option Code) (p : List Int) (m : Memo) (l : List PQ) (b : AV) : List Ob := [.lp C91 s j (rc91 1 7), .bx (clo91 2 3 6 1), gdB, .bx (.ptr 4 0 []), cvB p 5, mmO m, .bx (.own 8 0), .bx b, pieO 0 l]
noncomputable def yS (v : Nat) (s : LoopState) (j : Option Code) (p : List Int) (m : Memo) (l : List PQ) (b : AV) : List Ob := [.lp C91 s j (rc91 1 8), .bx (clo91 2 3 6 1), gdB, .bx (.ptr 4 0 []), cvB p 5, mmO m, .bx (.own 7 v), pieO v l, .bx b]
def aY (i : Int) (q : PQ) : List AV := [.yld 0, .int .i64 i, ofD FR q]
def YN (n : Nat) : Prop := ∀ (i : Int) (d k : Nat) (p : List Int) (m : Memo), pre91 n d k p m → grL gd p n d k = [] → GYield Tryd.prog gl false (aY i ((d : Int), (k : Int))) (yN .ready none p m .ff) [.ff] (yN .done (some (.exit 0)) p (grM gd p n d k m) .ff)
def YO (n : Nat) : Prop := ∀ (i : Int) (d k : Nat) (p : List Int) (m : Memo), pre91 n d k p m → grL gd p n d k ≠ [] →
 GYield Tryd.prog gl false (aY i ((d : Int), (k : Int))) (yN .ready none p m .ff) [.bool (grB gd p n d k && !odd k)] (yO (yst (grB gd p n d k) (odd k)) (yjp (grB gd p n d k) (odd k)) p (grM gd p n d k m) (grL gd p n d k) (.bool (grB gd p n d k && odd k)))
def YS (n : Nat) : Prop := ∀ (i : Int) (d k : Nat) (p : List Int) (m : Memo) (l : List PQ), pre91 n d k p m → l.length + (grL gd p n d k).length < 1000000 →
 GYield Tryd.prog gl false (aY i ((d : Int), (k : Int))) (yS 0 .ready none p m l .ff) [.bool (grB gd p n d k && !odd k)] (yS 1 (yst (grB gd p n d k) (odd k)) (yjp (grB gd p n d k) (odd k)) p (grM gd p n d k m) (l ++ grL gd p n d k) (.bool (grB gd p n d k && odd k)))
theorem yN_of (n : Nat) (h : GN n) : YN n := by
 intro i d k p m hp hl
 refine gyield_of (X := Xy [e91N n h] [] (some 0) 8 (fun _ => none)) (Xy_ok _ _ _ _ _) (C := C91) (j := none) (vs := [.ptr 1 0 [], .ptr 7 0 []]) (xs := [.int .i64 i, ofD FR ((d : Int), (k : Int))]) (view := false) (by kernel_rfl) (by kernel_rfl) (by kernel_rfl) (H := fun _ => none) 90 90 ?_
 refine of_eq (q := True ∧ True ∧ True ∧ True ∧ (((∃ (d_1 : Nat), ∃ (k_1 : Nat), ((d : Int), (k : Int)) = ((d_1 : Int), (k_1 : Int)) ∧ pre91 n d_1 k_1 p m ∧ grL P64.gd p n d_1 k_1 = []) ∧ (((d : Int) = (d : Int) ∧ (k : Int) = (k : Int) ∧ True) ∧ True ∧ True ∧ True ∧ True ∧ True) ∧ (True ∧ True) ∧ True ∧ (p = p ∧ True ∧ True) ∧ m = m ∧ True ∧ (True ∧ True ∧ True ∧ True ∧ True ∧ True) ∧ True) ∧ True ∧ True ∧ True ∧ True ∧ True ∧ True ∧ True) ∧ True ∧ (false = false ∧ True) ∧ (C91 = C91 ∧ LoopState.done = LoopState.done ∧ some (Code.exit (0 : Nat)) = some (Code.exit (0 : Nat)) ∧ (True ∧ True ∧ True) ∧ True) ∧ (True ∧ True ∧ True ∧ True ∧ True ∧ True) ∧ (True ∧ True) ∧ True ∧ (p = p ∧ True ∧ True) ∧ grM P64.gd p n d k m = grM P64.gd p n d k m ∧ True ∧ false = false ∧ True) (by kernel_rfl) ?_
 simp only [true_and, and_true, false_and, and_false, or_false, false_or, exists_const, exists_false, rat_num_den, rat_int, Int.toNat_natCast]
 exact ⟨d, k, rfl, hp, hl⟩
theorem yO_of (n : Nat) (h : GO n) : YO n := by
 intro i d k p m hp hl
 refine gyield_of (X := Xy [e91O n h] [] (some 0) 8 (fun _ => none)) (Xy_ok _ _ _ _ _) (C := C91) (j := none) (vs := [.ptr 1 0 [], .ptr 7 0 []]) (xs := [.int .i64 i, ofD FR ((d : Int), (k : Int))]) (view := false) (by kernel_rfl) (by kernel_rfl) (by kernel_rfl) (H := fun _ => none) 90 90 ?_
 refine of_eq (q := True ∧ True ∧ True ∧ True ∧ (((∃ (d_1 : Nat), ∃ (k_1 : Nat), ((d : Int), (k : Int)) = ((d_1 : Int), (k_1 : Int)) ∧ pre91 n d_1 k_1 p m ∧ ¬grL P64.gd p n d_1 k_1 = []) ∧ (((d : Int) = (d : Int) ∧ (k : Int) = (k : Int) ∧ True) ∧ True ∧ True ∧ True ∧ True ∧ True) ∧ (True ∧ True) ∧ True ∧ (p = p ∧ True ∧ True) ∧ m = m ∧ True ∧ (True ∧ True ∧ True ∧ True ∧ True ∧ True) ∧ True) ∧ True ∧ True ∧ True ∧ True ∧ True ∧ True ∧ True) ∧ True ∧ ((!grB P64.gd p n d k) = true → (false = (grB P64.gd p n d k && !odd k) ∧ True) ∧ (C91 = C91 ∧ yst (grB P64.gd p n d k) (odd k) = LoopState.done ∧ yjp (grB P64.gd p n d k) (odd k) = some (Code.exit (0 : Nat)) ∧ (True ∧ True ∧ True) ∧ True) ∧ (True ∧ True ∧ True ∧ True ∧ True ∧ True) ∧ (True ∧ True) ∧ True ∧ (p = p ∧ True ∧ True) ∧ grM P64.gd p n d k m = grM P64.gd p n d k m ∧ True ∧ false = (grB P64.gd p n d k && odd k) ∧ grL P64.gd p n d k = grL P64.gd p n d k ∧ True) ∧ ((!grB P64.gd p n d k) = false → True ∧ True ∧ ¬(2 : Int) = 0 ∧ True ∧ ((k : Int).tmod (2 : Int) = 1 → True ∧ (false = (grB P64.gd p n d k && !odd k) ∧ True) ∧ (C91 = C91 ∧ yst (grB P64.gd p n d k) (odd k) = LoopState.done ∧ yjp (grB P64.gd p n d k) (odd k) = some Code.ret ∧ (True ∧ True ∧ True) ∧ True) ∧ (True ∧ True ∧ True ∧ True ∧ True ∧ True) ∧ (True ∧ True) ∧ True ∧ (p = p ∧ True ∧ True) ∧ grM P64.gd p n d k m = grM P64.gd p n d k m ∧ True ∧ true = (grB P64.gd p n d k && odd k) ∧ grL P64.gd p n d k = grL P64.gd p n d k ∧ True) ∧ (¬(k : Int).tmod (2 : Int) = 1 → (true = (grB P64.gd p n d k && !odd k) ∧ True) ∧ (C91 = C91 ∧ yst (grB P64.gd p n d k) (odd k) = LoopState.ready ∧ yjp (grB P64.gd p n d k) (odd k) = none ∧ (True ∧ True ∧ True) ∧ True) ∧ (True ∧ True ∧ True ∧ True ∧ True ∧ True) ∧ (True ∧ True) ∧ True ∧ (p = p ∧ True ∧ True) ∧ grM P64.gd p n d k m = grM P64.gd p n d k m ∧ True ∧ false = (grB P64.gd p n d k && odd k) ∧ grL P64.gd p n d k = grL P64.gd p n d k ∧ True))) (by kernel_rfl) ?_
 simp only [true_and, and_true, false_and, and_false, or_false, false_or, exists_const, exists_false, rat_num_den, rat_int, Int.toNat_natCast]
 refine ⟨⟨d, k, rfl, hp, hl⟩, fun hb => ?_, fun hb => ⟨by omega, fun ho => ?_, fun ho => ?_⟩⟩
 · have hb' : grB gd p n d k = false := by simpa using hb
   rw [hb']; simp [yst, yjp]
 · have hb' : grB gd p n d k = true := by simpa using hb
   rw [hb', (odd_spec k).mp ho]; simp [yst, yjp]
 · have hb' : grB gd p n d k = true := by simpa using hb
   have ho' : odd k = false := by simpa [odd_spec] using ho
   rw [hb', ho']; simp [yst, yjp]
theorem yS_of (n : Nat) (h : GS n) : YS n := by
 intro i d k p m l hp hl
 refine gyield_of (X := Xb [e91S n h] [] (some 0) 9 [7] (fun _ => none)) (Xb_ok _ _ _ _ _ _) (C := C91) (j := none) (vs := [.ptr 1 0 [], .ptr 8 0 []]) (xs := [.int .i64 i, ofD FR ((d : Int), (k : Int))]) (view := false) (by kernel_rfl) (by kernel_rfl) (by kernel_rfl) (H := fun _ => none) 90 90 ?_
 refine of_eq (q := True ∧ True ∧ True ∧ True ∧ (((∃ (d_1 : Nat), ∃ (k_1 : Nat), ((d : Int), (k : Int)) = ((d_1 : Int), (k_1 : Int)) ∧ pre91 n d_1 k_1 p m ∧ l.length + (grL P64.gd p n d_1 k_1).length < 1000000) ∧ (((d : Int) = (d : Int) ∧ (k : Int) = (k : Int) ∧ True) ∧ True ∧ True ∧ True ∧ True ∧ True) ∧ (True ∧ True) ∧ True ∧ (p = p ∧ True ∧ True) ∧ m = m ∧ True ∧ l = l ∧ (True ∧ True ∧ True ∧ True ∧ True ∧ True) ∧ True) ∧ True ∧ True ∧ True ∧ True ∧ True ∧ True ∧ True ∧ True) ∧ True ∧ ((!grB P64.gd p n d k) = true → (false = (grB P64.gd p n d k && !odd k) ∧ True) ∧ (C91 = C91 ∧ yst (grB P64.gd p n d k) (odd k) = LoopState.done ∧ yjp (grB P64.gd p n d k) (odd k) = some (Code.exit (0 : Nat)) ∧ (True ∧ True ∧ True) ∧ True) ∧ (True ∧ True ∧ True ∧ True ∧ True ∧ True) ∧ (True ∧ True) ∧ True ∧ (p = p ∧ True ∧ True) ∧ grM P64.gd p n d k m = grM P64.gd p n d k m ∧ True ∧ l ++ grL P64.gd p n d k = l ++ grL P64.gd p n d k ∧ false = (grB P64.gd p n d k && odd k) ∧ True) ∧ ((!grB P64.gd p n d k) = false → True ∧ True ∧ ¬(2 : Int) = 0 ∧ True ∧ ((k : Int).tmod (2 : Int) = 1 → True ∧ (false = (grB P64.gd p n d k && !odd k) ∧ True) ∧ (C91 = C91 ∧ yst (grB P64.gd p n d k) (odd k) = LoopState.done ∧ yjp (grB P64.gd p n d k) (odd k) = some Code.ret ∧ (True ∧ True ∧ True) ∧ True) ∧ (True ∧ True ∧ True ∧ True ∧ True ∧ True) ∧ (True ∧ True) ∧ True ∧ (p = p ∧ True ∧ True) ∧ grM P64.gd p n d k m = grM P64.gd p n d k m ∧ True ∧ l ++ grL P64.gd p n d k = l ++ grL P64.gd p n d k ∧ true = (grB P64.gd p n d k && odd k) ∧ True) ∧ (¬(k : Int).tmod (2 : Int) = 1 → (true = (grB P64.gd p n d k && !odd k) ∧ True) ∧ (C91 = C91 ∧ yst (grB P64.gd p n d k) (odd k) = LoopState.ready ∧ yjp (grB P64.gd p n d k) (odd k) = none ∧ (True ∧ True ∧ True) ∧ True) ∧ (True ∧ True ∧ True ∧ True ∧ True ∧ True) ∧ (True ∧ True) ∧ True ∧ (p = p ∧ True ∧ True) ∧ grM P64.gd p n d k m = grM P64.gd p n d k m ∧ True ∧ l ++ grL P64.gd p n d k = l ++ grL P64.gd p n d k ∧ false = (grB P64.gd p n d k && odd k) ∧ True))) (by kernel_rfl) ?_
 simp only [true_and, and_true, false_and, and_false, or_false, false_or, exists_const, exists_false, rat_num_den, rat_int, Int.toNat_natCast]
 refine ⟨⟨d, k, rfl, hp, hl⟩, fun hb => ?_, fun hb => ⟨by omega, fun ho => ?_, fun ho => ?_⟩⟩
 · have hb' : grB gd p n d k = false := by simpa using hb
   rw [hb']; simp [yst, yjp]
 · have hb' : grB gd p n d k = true := by simpa using hb
   rw [hb', (odd_spec k).mp ho]; simp [yst, yjp]
 · have hb' : grB gd p n d k = true := by simpa using hb
   have ho' : odd k = false := by simpa [odd_spec] using ho
   rw [hb', ho']; simp [yst, yjp]
def getYN (xs : List AV) (obs : List Ob) : Option (Int × PQ × List Int × Memo) :=
 match xs with
 | [_, i, x] => (match toInt .i64 i, toD FR x, unCvB (obs.getD 4 .gone), unMm (obs.getD 5 .gone), isNl (obs.getD 6 .gone) with
   | some i, some q, some p, some m, true => some (i, q, p, m)
   | _, _, _, _, _ => none)
 | _ => none
def getYS (xs : List AV) (obs : List Ob) : Option (Int × PQ × List Int × Memo × List PQ) :=
 match xs with
 | [_, i, x] => (match toInt .i64 i, toD FR x, unCvB (obs.getD 4 .gone), unMm (obs.getD 5 .gone), unPie (obs.getD 7 .gone) with
   | some i, some q, some p, some m, some l => some (i, q, p, m, l)
   | _, _, _, _, _ => none)
 | _ => none
noncomputable def EYN (n : Nat) (h : YN n) : YEntry Tryd.prog gl := yentryW getYN (fun x => ∃ d k : Nat, x.2.1 = ((d : Int), (k : Int)) ∧ pre91 n d k x.2.2.1 x.2.2.2 ∧ grL gd x.2.2.1 n d k = []) false (fun x => aY x.1 x.2.1) (fun x => yN .ready none x.2.2.1 x.2.2.2 .ff) (fun _ => [.ff])
 (fun x => yN .done (some (.exit 0)) x.2.2.1 (grM gd x.2.2.1 n x.2.1.1.toNat x.2.1.2.toNat x.2.2.2) .ff) (by
   rintro ⟨i, q, p, m⟩ ⟨d, k, hq, h1, h2⟩
   simp only at hq; subst hq
   exact h i d k p m h1 h2)
noncomputable def EYO (n : Nat) (h : YO n) : YEntry Tryd.prog gl := yentryW getYN (fun x => ∃ d k : Nat, x.2.1 = ((d : Int), (k : Int)) ∧ pre91 n d k x.2.2.1 x.2.2.2 ∧ grL gd x.2.2.1 n d k ≠ []) false (fun x => aY x.1 x.2.1) (fun x => yN .ready none x.2.2.1 x.2.2.2 .ff)
 (fun x => [.bool (grB gd x.2.2.1 n x.2.1.1.toNat x.2.1.2.toNat && !odd x.2.1.2.toNat)])
 (fun x => yO (yst (grB gd x.2.2.1 n x.2.1.1.toNat x.2.1.2.toNat) (odd x.2.1.2.toNat)) (yjp (grB gd x.2.2.1 n x.2.1.1.toNat x.2.1.2.toNat) (odd x.2.1.2.toNat)) x.2.2.1 (grM gd x.2.2.1 n x.2.1.1.toNat x.2.1.2.toNat x.2.2.2) (grL gd x.2.2.1 n x.2.1.1.toNat x.2.1.2.toNat) (.bool (grB gd x.2.2.1 n x.2.1.1.toNat x.2.1.2.toNat && odd x.2.1.2.toNat))) (by
   rintro ⟨i, q, p, m⟩ ⟨d, k, hq, h1, h2⟩
   simp only at hq; subst hq
   exact h i d k p m h1 h2)
noncomputable def EYS (n : Nat) (h : YS n) : YEntry Tryd.prog gl := yentryW getYS (fun x => ∃ d k : Nat, x.2.1 = ((d : Int), (k : Int)) ∧ pre91 n d k x.2.2.1 x.2.2.2.1 ∧ x.2.2.2.2.length + (grL gd x.2.2.1 n d k).length < 1000000) false (fun x => aY x.1 x.2.1) (fun x => yS 0 .ready none x.2.2.1 x.2.2.2.1 x.2.2.2.2 .ff)
 (fun x => [.bool (grB gd x.2.2.1 n x.2.1.1.toNat x.2.1.2.toNat && !odd x.2.1.2.toNat)])
 (fun x => yS 1 (yst (grB gd x.2.2.1 n x.2.1.1.toNat x.2.1.2.toNat) (odd x.2.1.2.toNat)) (yjp (grB gd x.2.2.1 n x.2.1.1.toNat x.2.1.2.toNat) (odd x.2.1.2.toNat)) x.2.2.1 (grM gd x.2.2.1 n x.2.1.1.toNat x.2.1.2.toNat x.2.2.2.1) (x.2.2.2.2 ++ grL gd x.2.2.1 n x.2.1.1.toNat x.2.1.2.toNat) (.bool (grB gd x.2.2.1 n x.2.1.1.toNat x.2.1.2.toNat && odd x.2.1.2.toNat))) (by
   rintro ⟨i, q, p, m, l⟩ ⟨d, k, hq, h1, h2⟩
   simp only at hq; subst hq
   exact h i d k p m l h1 h2)
noncomputable def hN (s : LoopState) (j : Option Code) (p : List Int) (m : Memo) (b : AV) (q : PQ) : List Ob := [.lp C91 s j (rc91 1 7), .bx (clo91 2 3 6 1), gdB, .bx (.ptr 4 0 []), cvB p 5, mmO m, .bx nl, .bx b, bq q]
noncomputable def hO (s : LoopState) (j : Option Code) (p : List Int) (m : Memo) (l : List PQ) (b : AV) (q : PQ) : List Ob := [.lp C91 s j (rc91 1 7), .bx (clo91 2 3 6 1), gdB, .bx (.ptr 4 0 []), cvB p 5, mmO m, .bx (.own 9 0), .bx b, bq q, pieO 0 l]
noncomputable def hS (v : Nat) (s : LoopState) (j : Option Code) (p : List Int) (m : Memo) (l : List PQ) (b : AV) (q : PQ) : List Ob := [.lp C91 s j (rc91 1 8), .bx (clo91 2 3 6 1), gdB, .bx (.ptr 4 0 []), cvB p 5, mmO m, .bx (.own 7 v), pieO v l, .bx b, bq q]
def HN (n : Nat) : Prop := ∀ (d k : Nat) (p : List Int) (m : Memo), pre91 (n + 1) d k p m → hvL gd p n d k = [] →
 GCall Tryd.prog gl 97 false [.yld 0, .ptr 8 0 []] (hN .ready none p m .ff ((d : Int), (k : Int))) [] (hN .done (some (.exit 0)) p (hvM gd p n d k m) .ff ((d : Int), (k : Int)))
def HO (n : Nat) : Prop := ∀ (d k : Nat) (p : List Int) (m : Memo), pre91 (n + 1) d k p m → hvL gd p n d k ≠ [] → (hvL gd p n d k).length < 1000000 →
 GCall Tryd.prog gl 97 false [.yld 0, .ptr 8 0 []] (hN .ready none p m .ff ((d : Int), (k : Int))) [] (hO .done (jR (hvB gd p n d k)) p (hvM gd p n d k m) (hvL gd p n d k) (.bool (hvB gd p n d k)) ((d : Int), (k : Int)))
def HS (n : Nat) : Prop := ∀ (d k : Nat) (p : List Int) (m : Memo) (l : List PQ), pre91 (n + 1) d k p m → l.length + (hvL gd p n d k).length < 1000000 →
 GCall Tryd.prog gl 97 false [.yld 0, .ptr 9 0 []] (hS 0 .ready none p m l .ff ((d : Int), (k : Int))) [] (hS 1 .done (jR (hvB gd p n d k)) p (hvM gd p n d k m) (l ++ hvL gd p n d k) (.bool (hvB gd p n d k)) ((d : Int), (k : Int)))
def s97 (x i : Nat) (obs : List Ob) : St := ⟨.yld 0 :: .ptr x 0 [] :: .dead :: .dead :: .int .i64 i :: dd 16, obs⟩
noncomputable def L97_0 : Code := lp (bodyOf Tryd.f97) 0
def ex97 : List (List Nat × Ex) := []
noncomputable def fm97N (p : List Int) (m : Memo) (d k : Nat) : List Fam := [⟨Unit, fun _ => True, fun _ => s97 8 0 (hN .ready none p m .ff ((d : Int), (k : Int))), fun _ => 2, fun _ _ => none⟩]
noncomputable def H97N (p : List Int) (m : Memo) (d k : Nat) : Nat → Option Hint := fun _ => some ⟨chks 9 [0, 1, 4] (fm97N p m d k), ex97.map (·.2)⟩
theorem loop97N (n : Nat) (h : YN n) (p : List Int) (m : Memo) (d k : Nat) (hp : pre91 (n + 1) d k p m) (hl : grL gd p n (d + 1) (2 * k) = []) : LoopOK (Xy [] [EYN n h] none 9 (fun _ => none)) L97_0 ⟨chks 9 [0, 1, 4] (fm97N p m d k), ex97.map (·.2)⟩
   (RetR (Xy [] [EYN n h] none 9 (fun _ => none)) false false [] [] (hN .done (some (.exit 0)) p (grM gd p n (d + 1) (2 * k) m) .ff ((d : Int), (k : Int)))) := by
 refine loop_fams (Xy_ok _ _ _ _ _) [0, 1, 4] (fm97N p m d k) ex97 90 ⟨fun _ _ => ?_, trivial⟩
 refine of_eq (q := True ∧ ((0 : Int) < 2 → True ∧ True ∧ True ∧ True ∧ True ∧ True ∧ inR .i64 ((d : Int) + 1) ∧ True ∧ True ∧ inR .i64 ((2 : Int) * (k : Int)) ∧ True ∧ inR .i64 ((2 : Int) * (k : Int) + 0) ∧ True ∧ (((∃ (d_1 : Nat), ∃ (k_1 : Nat), ((d : Int) + 1, (2 : Int) * (k : Int) + 0) = ((d_1 : Int), (k_1 : Int)) ∧ pre91 n d_1 k_1 p m ∧ grL P64.gd p n d_1 k_1 = []) ∧ (True ∧ (0 : Int) = 0 ∧ ((d : Int) + 1 = (d : Int) + 1 ∧ (2 : Int) * (k : Int) + 0 = 2 * (k : Int) + 0 ∧ True) ∧ True) ∧ (C91 = C91 ∧ LoopState.ready = LoopState.ready ∧ (none : Option Code) = none ∧ (True ∧ True ∧ True) ∧ True) ∧ (True ∧ True ∧ True ∧ True ∧ True ∧ True) ∧ (True ∧ True) ∧ True ∧ (p = p ∧ True ∧ True) ∧ m = m ∧ True ∧ false = false ∧ True) ∧ True ∧ True ∧ True ∧ True ∧ True ∧ True ∧ True ∧ True ∧ True) ∧ True ∧ True ∧ True ∧ (C91 = C91 ∧ LoopState.done = LoopState.done ∧ some (Code.exit (0 : Nat)) = some (Code.exit (0 : Nat)) ∧ (True ∧ True ∧ True) ∧ True) ∧ (True ∧ True ∧ True ∧ True ∧ True ∧ True) ∧ (True ∧ True) ∧ True ∧ (p = p ∧ True ∧ True) ∧ grM P64.gd p n (d + 1) ((2 : Int) * (k : Int) + 0).toNat m = grM P64.gd p n (d + 1) ((2 : Nat) * k) m ∧ True ∧ false = false ∧ ((d : Int) = (d : Int) ∧ (k : Int) = (k : Int) ∧ True) ∧ True) ∧ (¬(0 : Int) < 2 → False)) (by kernel_rfl) ?_
 simp only [true_and, and_true, false_and, and_false, or_false, false_or, exists_const, exists_false, rat_num_den, rat_int, Int.toNat_natCast]
 have hb := pre_lt hp
 refine ⟨fun _ => ⟨by simp only [inR]; omega, by simp only [inR]; omega, by simp only [inR]; omega, ⟨d + 1, 2 * k, by simp, pre_left hp, hl⟩, ?_⟩, by omega⟩
 rw [tn0]
theorem hvN {n d k : Nat} {p : List Int} (h : hvL gd p n d k = []) : grL gd p n (d + 1) (2 * k) = [] ∧ ∀ m, hvM gd p n d k m = grM gd p n (d + 1) (2 * k) m := by
 unfold hvL at h
 split at h
 · rename_i hb
   exact absurd (List.append_eq_nil_iff.mp h).1 (grL_ne gd p hb)
 · rename_i hb
   exact ⟨h, fun m => by unfold hvM; rw [if_neg hb]⟩
theorem hvO {n d k : Nat} {p : List Int} (h : hvL gd p n d k ≠ []) : grL gd p n (d + 1) (2 * k) ≠ [] := by
 unfold hvL at h
 split at h
 · rename_i hb; exact grL_ne gd p hb
 · exact h
theorem hN_of (n : Nat) (h : YN n) : HN n := by
 intro d k p m hp hl
 obtain ⟨h1, h2⟩ := hvN hl
 rw [h2]
 refine gcall_of (X := (Xy [] [EYN n h] none 9 (fun _ => none))) ((Xy_ok _ _ _ _ _)) (f := 97) (fn := Tryd.f97) (c := bodyOf Tryd.f97) (by kernel_rfl) (by kernel_rfl) (view := false) (rvs := []) (by kernel_rfl) (H := (H97N p m d k)) 80 (by kernel_rfl) ?_
 have hL := loop97N n h p m d k hp h1
 refine of_eq (q := True ∧ LoopOK (Xy [] [P64.EYN n h] none (9 : Nat) fun (x : Nat) => none) P64.L97_0 { J := chks (9 : Nat) [(0 : Nat), (1 : Nat), (4 : Nat)] (P64.fm97N p m d k), exits := List.map (fun (x : List Nat × Ex) => x.snd) P64.ex97 } (RetR (Xy [] [P64.EYN n h] none (9 : Nat) fun (x : Nat) => none) false false [] [] (P64.hN LoopState.done (some (Code.exit (0 : Nat))) p (grM P64.gd p n (d + 1) ((2 : Nat) * k) m) AV.ff ((d : Int), (k : Int)))) ∧ (∃ (y : Unit), True ∧ (True ∧ True ∧ (0 : Int) = 0 ∧ True) ∧ (C91 = C91 ∧ LoopState.ready = LoopState.ready ∧ (none : Option Code) = none ∧ (True ∧ True ∧ True) ∧ True) ∧ (True ∧ True ∧ True ∧ True ∧ True ∧ True) ∧ (True ∧ True) ∧ True ∧ (p = p ∧ True ∧ True) ∧ m = m ∧ True ∧ false = false ∧ ((d : Int) = (d : Int) ∧ (k : Int) = (k : Int) ∧ True) ∧ True) ∧ True) (by kernel_rfl) ?_
 simp only [true_and, and_true, false_and, and_false, or_false, false_or, exists_const, exists_false, rat_num_den, rat_int, Int.toNat_natCast]
 exact hL
noncomputable def fm97O (p : List Int) (m : Memo) (n d k : Nat) : List Fam := [⟨Unit, fun _ => True, fun _ => s97 8 0 (hN .ready none p m .ff ((d : Int), (k : Int))), fun _ => 2, fun _ _ => none⟩,
 ⟨Unit, fun _ => grB gd p n (d + 1) (2 * k) = true, fun _ => s97 8 1 (hO .ready none p (grM gd p n (d + 1) (2 * k) m) (grL gd p n (d + 1) (2 * k)) .ff ((d : Int), (k : Int))), fun _ => 1, fun _ _ => none⟩]
noncomputable def H97O (p : List Int) (m : Memo) (n d k : Nat) : Nat → Option Hint := fun _ => some ⟨chks 9 [0, 1, 4] (fm97O p m n d k), ex97.map (·.2)⟩
theorem loop97O (n : Nat) (h : YO n) (h' : YS n) (p : List Int) (m : Memo) (d k : Nat) (hp : pre91 (n + 1) d k p m) (hl : hvL gd p n d k ≠ []) (hz : (hvL gd p n d k).length < 1000000) : LoopOK (Xy [] [EYO n h, EYS n h'] none 9 (fun _ => none)) L97_0 ⟨chks 9 [0, 1, 4] (fm97O p m n d k), ex97.map (·.2)⟩
   (RetR (Xy [] [EYO n h, EYS n h'] none 9 (fun _ => none)) false false [] [] (hO .done (jR (hvB gd p n d k)) p (hvM gd p n d k m) (hvL gd p n d k) (.bool (hvB gd p n d k)) ((d : Int), (k : Int)))) := by
 refine loop_fams (Xy_ok _ _ _ _ _) [0, 1, 4] (fm97O p m n d k) ex97 90 ⟨fun _ _ => ?_, fun _ hb1 => ?_, trivial⟩
 · refine of_eq (q := True ∧ ((0 : Int) < 2 → True ∧ True ∧ True ∧ True ∧ True ∧ True ∧ inR .i64 ((d : Int) + 1) ∧ True ∧ True ∧ inR .i64 ((2 : Int) * (k : Int)) ∧ True ∧ inR .i64 ((2 : Int) * (k : Int) + 0) ∧ True ∧ (((∃ (d_1 : Nat), ∃ (k_1 : Nat), ((d : Int) + 1, (2 : Int) * (k : Int) + 0) = ((d_1 : Int), (k_1 : Int)) ∧ pre91 n d_1 k_1 p m ∧ ¬grL P64.gd p n d_1 k_1 = []) ∧ (True ∧ (0 : Int) = 0 ∧ ((d : Int) + 1 = (d : Int) + 1 ∧ (2 : Int) * (k : Int) + 0 = 2 * (k : Int) + 0 ∧ True) ∧ True) ∧ (C91 = C91 ∧ LoopState.ready = LoopState.ready ∧ (none : Option Code) = none ∧ (True ∧ True ∧ True) ∧ True) ∧ (True ∧ True ∧ True ∧ True ∧ True ∧ True) ∧ (True ∧ True) ∧ True ∧ (p = p ∧ True ∧ True) ∧ m = m ∧ True ∧ false = false ∧ True) ∧ True ∧ True ∧ True ∧ True ∧ True ∧ True ∧ True ∧ True ∧ True) ∧ True ∧ ((!(grB P64.gd p n (d + 1) ((2 : Int) * (k : Int) + 0).toNat && !odd ((2 : Int) * (k : Int) + 0).toNat)) = true → True ∧ True ∧ (C91 = C91 ∧ LoopState.done = yst (grB P64.gd p n (d + 1) ((2 : Int) * (k : Int) + 0).toNat) (odd ((2 : Int) * (k : Int) + 0).toNat) ∧ jR (hvB P64.gd p n d k) = yjp (grB P64.gd p n (d + 1) ((2 : Int) * (k : Int) + 0).toNat) (odd ((2 : Int) * (k : Int) + 0).toNat) ∧ (True ∧ True ∧ True) ∧ True) ∧ (True ∧ True ∧ True ∧ True ∧ True ∧ True) ∧ (True ∧ True) ∧ True ∧ (p = p ∧ True ∧ True) ∧ grM P64.gd p n (d + 1) ((2 : Int) * (k : Int) + 0).toNat m = hvM P64.gd p n d k m ∧ True ∧ (grB P64.gd p n (d + 1) ((2 : Int) * (k : Int) + 0).toNat && odd ((2 : Int) * (k : Int) + 0).toNat) = hvB P64.gd p n d k ∧ ((d : Int) = (d : Int) ∧ (k : Int) = (k : Int) ∧ True) ∧ grL P64.gd p n (d + 1) ((2 : Int) * (k : Int) + 0).toNat = hvL P64.gd p n d k ∧ True) ∧ ((!(grB P64.gd p n (d + 1) ((2 : Int) * (k : Int) + 0).toNat && !odd ((2 : Int) * (k : Int) + 0).toNat)) = false → inR .i64 (1 : Int) ∧ True ∧ ((∃ (y : Unit), (True ∧ (2 : Nat) < 2) ∧ (True ∧ True ∧ (1 : Int) = 0 ∧ True) ∧ (C91 = C91 ∧ LoopState.ready = yst (grB P64.gd p n (d + 1) ((2 : Int) * (k : Int) + 0).toNat) (odd ((2 : Int) * (k : Int) + 0).toNat) ∧ (none : Option Code) = yjp (grB P64.gd p n (d + 1) ((2 : Int) * (k : Int) + 0).toNat) (odd ((2 : Int) * (k : Int) + 0).toNat) ∧ (True ∧ True ∧ True) ∧ True) ∧ (True ∧ True ∧ True ∧ True ∧ True ∧ True) ∧ (True ∧ True) ∧ True ∧ (p = p ∧ True ∧ True) ∧ grM P64.gd p n (d + 1) ((2 : Int) * (k : Int) + 0).toNat m = m ∧ False ∧ (grB P64.gd p n (d + 1) ((2 : Int) * (k : Int) + 0).toNat && odd ((2 : Int) * (k : Int) + 0).toNat) = false ∧ ((d : Int) = (d : Int) ∧ (k : Int) = (k : Int) ∧ True) ∧ True) ∨ ∃ (y : Unit), (grB P64.gd p n (d + 1) ((2 : Nat) * k) = true ∧ (1 : Nat) < 2) ∧ (True ∧ True ∧ (1 : Int) = 1 ∧ True) ∧ (C91 = C91 ∧ LoopState.ready = yst (grB P64.gd p n (d + 1) ((2 : Int) * (k : Int) + 0).toNat) (odd ((2 : Int) * (k : Int) + 0).toNat) ∧ (none : Option Code) = yjp (grB P64.gd p n (d + 1) ((2 : Int) * (k : Int) + 0).toNat) (odd ((2 : Int) * (k : Int) + 0).toNat) ∧ (True ∧ True ∧ True) ∧ True) ∧ (True ∧ True ∧ True ∧ True ∧ True ∧ True) ∧ (True ∧ True) ∧ True ∧ (p = p ∧ True ∧ True) ∧ grM P64.gd p n (d + 1) ((2 : Int) * (k : Int) + 0).toNat m = grM P64.gd p n (d + 1) ((2 : Nat) * k) m ∧ True ∧ (grB P64.gd p n (d + 1) ((2 : Int) * (k : Int) + 0).toNat && odd ((2 : Int) * (k : Int) + 0).toNat) = false ∧ ((d : Int) = (d : Int) ∧ (k : Int) = (k : Int) ∧ True) ∧ grL P64.gd p n (d + 1) ((2 : Int) * (k : Int) + 0).toNat = grL P64.gd p n (d + 1) ((2 : Nat) * k) ∧ True))) ∧ (¬(0 : Int) < 2 → False)) (by kernel_rfl) ?_
   simp only [true_and, and_true, false_and, and_false, or_false, false_or, exists_const, exists_false, rat_num_den, rat_int, Int.toNat_natCast]
   have hb := pre_lt hp
   rw [tn0, odd0]
   refine ⟨fun _ => ⟨by simp only [inR]; omega, by simp only [inR]; omega, by simp only [inR]; omega, ⟨d + 1, 2 * k, by simp, pre_left hp, hvO hl⟩, fun hg => ?_, fun hg => ?_⟩, by omega⟩
   · have hg : grB gd p n (d + 1) (2 * k) = false := by simpa using hg
     simp [hvB, hvM, hvL, hg, yst, yjp, jR]
   · have hg : grB gd p n (d + 1) (2 * k) = true := by simpa using hg
     simp only [hg]
     exact ⟨by simp only [inR]; omega, ⟨trivial, by omega⟩, by simp [yst, yjp]⟩
 · have hb1 : grB gd p n (d + 1) (2 * k) = true := hb1
   refine of_eq (q := True ∧ ((1 : Int) < 2 → True ∧ True ∧ True ∧ True ∧ True ∧ True ∧ inR .i64 ((d : Int) + 1) ∧ True ∧ True ∧ inR .i64 ((2 : Int) * (k : Int)) ∧ True ∧ inR .i64 ((2 : Int) * (k : Int) + 1) ∧ True ∧ (((∃ (d_1 : Nat), ∃ (k_1 : Nat), ((d : Int) + 1, (2 : Int) * (k : Int) + 1) = ((d_1 : Int), (k_1 : Int)) ∧ pre91 n d_1 k_1 p (grM P64.gd p n (d + 1) ((2 : Nat) * k) m) ∧ (grL P64.gd p n (d + 1) ((2 : Nat) * k)).length + (grL P64.gd p n d_1 k_1).length < 1000000) ∧ (True ∧ (1 : Int) = 1 ∧ ((d : Int) + 1 = (d : Int) + 1 ∧ (2 : Int) * (k : Int) + 1 = 2 * (k : Int) + 1 ∧ True) ∧ True) ∧ (C91 = C91 ∧ LoopState.ready = LoopState.ready ∧ (none : Option Code) = none ∧ (True ∧ True ∧ True) ∧ True) ∧ (True ∧ True ∧ True ∧ True ∧ True ∧ True) ∧ (True ∧ True) ∧ True ∧ (p = p ∧ True ∧ True) ∧ grM P64.gd p n (d + 1) ((2 : Nat) * k) m = grM P64.gd p n (d + 1) ((2 : Nat) * k) m ∧ True ∧ grL P64.gd p n (d + 1) ((2 : Nat) * k) = grL P64.gd p n (d + 1) ((2 : Nat) * k) ∧ false = false ∧ True) ∧ True ∧ True ∧ True ∧ True ∧ True ∧ True ∧ True ∧ True ∧ True ∧ True) ∧ True ∧ ((!(grB P64.gd p n (d + 1) ((2 : Int) * (k : Int) + 1).toNat && !odd ((2 : Int) * (k : Int) + 1).toNat)) = true → True ∧ True ∧ (C91 = C91 ∧ LoopState.done = yst (grB P64.gd p n (d + 1) ((2 : Int) * (k : Int) + 1).toNat) (odd ((2 : Int) * (k : Int) + 1).toNat) ∧ jR (hvB P64.gd p n d k) = yjp (grB P64.gd p n (d + 1) ((2 : Int) * (k : Int) + 1).toNat) (odd ((2 : Int) * (k : Int) + 1).toNat) ∧ (True ∧ True ∧ True) ∧ True) ∧ (True ∧ True ∧ True ∧ True ∧ True ∧ True) ∧ (True ∧ True) ∧ True ∧ (p = p ∧ True ∧ True) ∧ grM P64.gd p n (d + 1) ((2 : Int) * (k : Int) + 1).toNat (grM P64.gd p n (d + 1) ((2 : Nat) * k) m) = hvM P64.gd p n d k m ∧ True ∧ (grB P64.gd p n (d + 1) ((2 : Int) * (k : Int) + 1).toNat && odd ((2 : Int) * (k : Int) + 1).toNat) = hvB P64.gd p n d k ∧ ((d : Int) = (d : Int) ∧ (k : Int) = (k : Int) ∧ True) ∧ grL P64.gd p n (d + 1) ((2 : Nat) * k) ++ grL P64.gd p n (d + 1) ((2 : Int) * (k : Int) + 1).toNat = hvL P64.gd p n d k ∧ True) ∧ ((!(grB P64.gd p n (d + 1) ((2 : Int) * (k : Int) + 1).toNat && !odd ((2 : Int) * (k : Int) + 1).toNat)) = false → inR .i64 (2 : Int) ∧ True ∧ ((∃ (y : Unit), (True ∧ (2 : Nat) < 1) ∧ (True ∧ True ∧ (2 : Int) = 0 ∧ True) ∧ (C91 = C91 ∧ LoopState.ready = yst (grB P64.gd p n (d + 1) ((2 : Int) * (k : Int) + 1).toNat) (odd ((2 : Int) * (k : Int) + 1).toNat) ∧ (none : Option Code) = yjp (grB P64.gd p n (d + 1) ((2 : Int) * (k : Int) + 1).toNat) (odd ((2 : Int) * (k : Int) + 1).toNat) ∧ (True ∧ True ∧ True) ∧ True) ∧ (True ∧ True ∧ True ∧ True ∧ True ∧ True) ∧ (True ∧ True) ∧ True ∧ (p = p ∧ True ∧ True) ∧ grM P64.gd p n (d + 1) ((2 : Int) * (k : Int) + 1).toNat (grM P64.gd p n (d + 1) ((2 : Nat) * k) m) = m ∧ False ∧ (grB P64.gd p n (d + 1) ((2 : Int) * (k : Int) + 1).toNat && odd ((2 : Int) * (k : Int) + 1).toNat) = false ∧ ((d : Int) = (d : Int) ∧ (k : Int) = (k : Int) ∧ True) ∧ True) ∨ ∃ (y : Unit), (grB P64.gd p n (d + 1) ((2 : Nat) * k) = true ∧ (1 : Nat) < 1) ∧ (True ∧ True ∧ (2 : Int) = 1 ∧ True) ∧ (C91 = C91 ∧ LoopState.ready = yst (grB P64.gd p n (d + 1) ((2 : Int) * (k : Int) + 1).toNat) (odd ((2 : Int) * (k : Int) + 1).toNat) ∧ (none : Option Code) = yjp (grB P64.gd p n (d + 1) ((2 : Int) * (k : Int) + 1).toNat) (odd ((2 : Int) * (k : Int) + 1).toNat) ∧ (True ∧ True ∧ True) ∧ True) ∧ (True ∧ True ∧ True ∧ True ∧ True ∧ True) ∧ (True ∧ True) ∧ True ∧ (p = p ∧ True ∧ True) ∧ grM P64.gd p n (d + 1) ((2 : Int) * (k : Int) + 1).toNat (grM P64.gd p n (d + 1) ((2 : Nat) * k) m) = grM P64.gd p n (d + 1) ((2 : Nat) * k) m ∧ True ∧ (grB P64.gd p n (d + 1) ((2 : Int) * (k : Int) + 1).toNat && odd ((2 : Int) * (k : Int) + 1).toNat) = false ∧ ((d : Int) = (d : Int) ∧ (k : Int) = (k : Int) ∧ True) ∧ grL P64.gd p n (d + 1) ((2 : Nat) * k) ++ grL P64.gd p n (d + 1) ((2 : Int) * (k : Int) + 1).toNat = grL P64.gd p n (d + 1) ((2 : Nat) * k) ∧ True))) ∧ (¬(1 : Int) < 2 → False)) (by kernel_rfl) ?_
   simp only [true_and, and_true, false_and, and_false, or_false, false_or, exists_const, exists_false, rat_num_den, rat_int, Int.toNat_natCast]
   have hb := pre_lt hp
   rw [tn1, odd1]
   have e1 : hvL gd p n d k = grL gd p n (d + 1) (2 * k) ++ grL gd p n (d + 1) (2 * k + 1) := by unfold hvL; rw [if_pos hb1]
   have e2 : hvM gd p n d k m = grM gd p n (d + 1) (2 * k + 1) (grM gd p n (d + 1) (2 * k) m) := by unfold hvM; rw [if_pos hb1]
   have e3 : hvB gd p n d k = grB gd p n (d + 1) (2 * k + 1) := by unfold hvB; rw [hb1]; try rfl
   rw [e1, e2, e3]
   rw [e1, List.length_append] at hz
   refine ⟨fun _ => ⟨by simp only [inR]; omega, by simp only [inR]; omega, by simp only [inR]; omega, ⟨d + 1, 2 * k + 1, by simp, pre_memo (pre_right hp) (grM_ok gd p hp.2.2.2), hz⟩, fun _ => ?_, fun hg => ?_⟩, by omega⟩
   · cases grB gd p n (d + 1) (2 * k + 1) <;> simp [yst, yjp, jR]
   · simp at hg
theorem hO_of (n : Nat) (h : YO n) (h' : YS n) : HO n := by
 intro d k p m hp hl hz
 refine gcall_of (X := (Xy [] [EYO n h, EYS n h'] none 9 (fun _ => none))) ((Xy_ok _ _ _ _ _)) (f := 97) (fn := Tryd.f97) (c := bodyOf Tryd.f97) (by kernel_rfl) (by kernel_rfl) (view := false) (rvs := []) (by kernel_rfl) (H := (H97O p m n d k)) 80 (by kernel_rfl) ?_
 have hL := loop97O n h h' p m d k hp hl hz
 refine of_eq (q := True ∧ LoopOK (Xy [] [P64.EYO n h, P64.EYS n h'] none (9 : Nat) fun (x : Nat) => none) P64.L97_0 { J := chks (9 : Nat) [(0 : Nat), (1 : Nat), (4 : Nat)] (P64.fm97O p m n d k), exits := List.map (fun (x : List Nat × Ex) => x.snd) P64.ex97 } (RetR (Xy [] [P64.EYO n h, P64.EYS n h'] none (9 : Nat) fun (x : Nat) => none) false false [] [] (P64.hO LoopState.done (jR (hvB P64.gd p n d k)) p (hvM P64.gd p n d k m) (hvL P64.gd p n d k) (AV.bool (hvB P64.gd p n d k)) ((d : Int), (k : Int)))) ∧ ((∃ (y : Unit), True ∧ (True ∧ True ∧ (0 : Int) = 0 ∧ True) ∧ (C91 = C91 ∧ LoopState.ready = LoopState.ready ∧ (none : Option Code) = none ∧ (True ∧ True ∧ True) ∧ True) ∧ (True ∧ True ∧ True ∧ True ∧ True ∧ True) ∧ (True ∧ True) ∧ True ∧ (p = p ∧ True ∧ True) ∧ m = m ∧ True ∧ false = false ∧ ((d : Int) = (d : Int) ∧ (k : Int) = (k : Int) ∧ True) ∧ True) ∨ ∃ (y : Unit), grB P64.gd p n (d + 1) ((2 : Nat) * k) = true ∧ (True ∧ True ∧ (0 : Int) = 1 ∧ True) ∧ (C91 = C91 ∧ LoopState.ready = LoopState.ready ∧ (none : Option Code) = none ∧ (True ∧ True ∧ True) ∧ True) ∧ (True ∧ True ∧ True ∧ True ∧ True ∧ True) ∧ (True ∧ True) ∧ True ∧ (p = p ∧ True ∧ True) ∧ m = grM P64.gd p n (d + 1) ((2 : Nat) * k) m ∧ False ∧ false = false ∧ ((d : Int) = (d : Int) ∧ (k : Int) = (k : Int) ∧ True) ∧ False) ∧ True) (by kernel_rfl) ?_
 simp only [true_and, and_true, false_and, and_false, or_false, false_or, exists_const, exists_false, rat_num_den, rat_int, Int.toNat_natCast]
 exact hL
noncomputable def fm97S (p : List Int) (m : Memo) (l : List PQ) (n d k : Nat) : List Fam := [⟨Unit, fun _ => True, fun _ => s97 9 0 (hS 0 .ready none p m l .ff ((d : Int), (k : Int))), fun _ => 2, fun _ _ => none⟩,
 ⟨Unit, fun _ => grB gd p n (d + 1) (2 * k) = true, fun _ => s97 9 1 (hS 1 .ready none p (grM gd p n (d + 1) (2 * k) m) (l ++ grL gd p n (d + 1) (2 * k)) .ff ((d : Int), (k : Int))), fun _ => 1, fun _ _ => none⟩]
noncomputable def H97S (p : List Int) (m : Memo) (l : List PQ) (n d k : Nat) : Nat → Option Hint := fun _ => some ⟨chks 10 [0, 1, 4] (fm97S p m l n d k), ex97.map (·.2)⟩
theorem loop97S (n : Nat) (h' : YS n) (p : List Int) (m : Memo) (l : List PQ) (d k : Nat) (hp : pre91 (n + 1) d k p m) (hz : l.length + (hvL gd p n d k).length < 1000000) : LoopOK (Xb [] [EYS n h'] none 10 [7] (fun _ => none)) L97_0 ⟨chks 10 [0, 1, 4] (fm97S p m l n d k), ex97.map (·.2)⟩
   (RetR (Xb [] [EYS n h'] none 10 [7] (fun _ => none)) false false [] [] (hS 1 .done (jR (hvB gd p n d k)) p (hvM gd p n d k m) (l ++ hvL gd p n d k) (.bool (hvB gd p n d k)) ((d : Int), (k : Int)))) := by
 have hle : (grL gd p n (d + 1) (2 * k)).length ≤ (hvL gd p n d k).length := by
   unfold hvL; split
   · simp
   · exact Nat.le_refl _
 refine loop_fams (Xb_ok _ _ _ _ _ _) [0, 1, 4] (fm97S p m l n d k) ex97 90 ⟨fun _ _ => ?_, fun _ hb1 => ?_, trivial⟩
 · refine of_eq (q := True ∧ ((0 : Int) < 2 → True ∧ True ∧ True ∧ True ∧ True ∧ True ∧ inR .i64 ((d : Int) + 1) ∧ True ∧ True ∧ inR .i64 ((2 : Int) * (k : Int)) ∧ True ∧ inR .i64 ((2 : Int) * (k : Int) + 0) ∧ True ∧ (((∃ (d_1 : Nat), ∃ (k_1 : Nat), ((d : Int) + 1, (2 : Int) * (k : Int) + 0) = ((d_1 : Int), (k_1 : Int)) ∧ pre91 n d_1 k_1 p m ∧ l.length + (grL P64.gd p n d_1 k_1).length < 1000000) ∧ (True ∧ (0 : Int) = 0 ∧ ((d : Int) + 1 = (d : Int) + 1 ∧ (2 : Int) * (k : Int) + 0 = 2 * (k : Int) + 0 ∧ True) ∧ True) ∧ (C91 = C91 ∧ LoopState.ready = LoopState.ready ∧ (none : Option Code) = none ∧ (True ∧ True ∧ True) ∧ True) ∧ (True ∧ True ∧ True ∧ True ∧ True ∧ True) ∧ (True ∧ True) ∧ True ∧ (p = p ∧ True ∧ True) ∧ m = m ∧ True ∧ l = l ∧ false = false ∧ True) ∧ True ∧ True ∧ True ∧ True ∧ True ∧ True ∧ True ∧ True ∧ True ∧ True) ∧ True ∧ ((!(grB P64.gd p n (d + 1) ((2 : Int) * (k : Int) + 0).toNat && !odd ((2 : Int) * (k : Int) + 0).toNat)) = true → True ∧ True ∧ (C91 = C91 ∧ LoopState.done = yst (grB P64.gd p n (d + 1) ((2 : Int) * (k : Int) + 0).toNat) (odd ((2 : Int) * (k : Int) + 0).toNat) ∧ jR (hvB P64.gd p n d k) = yjp (grB P64.gd p n (d + 1) ((2 : Int) * (k : Int) + 0).toNat) (odd ((2 : Int) * (k : Int) + 0).toNat) ∧ (True ∧ True ∧ True) ∧ True) ∧ (True ∧ True ∧ True ∧ True ∧ True ∧ True) ∧ (True ∧ True) ∧ True ∧ (p = p ∧ True ∧ True) ∧ grM P64.gd p n (d + 1) ((2 : Int) * (k : Int) + 0).toNat m = hvM P64.gd p n d k m ∧ True ∧ l ++ grL P64.gd p n (d + 1) ((2 : Int) * (k : Int) + 0).toNat = l ++ hvL P64.gd p n d k ∧ (grB P64.gd p n (d + 1) ((2 : Int) * (k : Int) + 0).toNat && odd ((2 : Int) * (k : Int) + 0).toNat) = hvB P64.gd p n d k ∧ ((d : Int) = (d : Int) ∧ (k : Int) = (k : Int) ∧ True) ∧ True) ∧ ((!(grB P64.gd p n (d + 1) ((2 : Int) * (k : Int) + 0).toNat && !odd ((2 : Int) * (k : Int) + 0).toNat)) = false → inR .i64 (1 : Int) ∧ True ∧ ((∃ (y : Unit), (True ∧ (2 : Nat) < 2) ∧ (True ∧ True ∧ (1 : Int) = 0 ∧ True) ∧ (C91 = C91 ∧ LoopState.ready = yst (grB P64.gd p n (d + 1) ((2 : Int) * (k : Int) + 0).toNat) (odd ((2 : Int) * (k : Int) + 0).toNat) ∧ (none : Option Code) = yjp (grB P64.gd p n (d + 1) ((2 : Int) * (k : Int) + 0).toNat) (odd ((2 : Int) * (k : Int) + 0).toNat) ∧ (True ∧ True ∧ True) ∧ True) ∧ (True ∧ True ∧ True ∧ True ∧ True ∧ True) ∧ (True ∧ True) ∧ True ∧ (p = p ∧ True ∧ True) ∧ grM P64.gd p n (d + 1) ((2 : Int) * (k : Int) + 0).toNat m = m ∧ False ∧ False ∧ (grB P64.gd p n (d + 1) ((2 : Int) * (k : Int) + 0).toNat && odd ((2 : Int) * (k : Int) + 0).toNat) = false ∧ ((d : Int) = (d : Int) ∧ (k : Int) = (k : Int) ∧ True) ∧ True) ∨ ∃ (y : Unit), (grB P64.gd p n (d + 1) ((2 : Nat) * k) = true ∧ (1 : Nat) < 2) ∧ (True ∧ True ∧ (1 : Int) = 1 ∧ True) ∧ (C91 = C91 ∧ LoopState.ready = yst (grB P64.gd p n (d + 1) ((2 : Int) * (k : Int) + 0).toNat) (odd ((2 : Int) * (k : Int) + 0).toNat) ∧ (none : Option Code) = yjp (grB P64.gd p n (d + 1) ((2 : Int) * (k : Int) + 0).toNat) (odd ((2 : Int) * (k : Int) + 0).toNat) ∧ (True ∧ True ∧ True) ∧ True) ∧ (True ∧ True ∧ True ∧ True ∧ True ∧ True) ∧ (True ∧ True) ∧ True ∧ (p = p ∧ True ∧ True) ∧ grM P64.gd p n (d + 1) ((2 : Int) * (k : Int) + 0).toNat m = grM P64.gd p n (d + 1) ((2 : Nat) * k) m ∧ True ∧ l ++ grL P64.gd p n (d + 1) ((2 : Int) * (k : Int) + 0).toNat = l ++ grL P64.gd p n (d + 1) ((2 : Nat) * k) ∧ (grB P64.gd p n (d + 1) ((2 : Int) * (k : Int) + 0).toNat && odd ((2 : Int) * (k : Int) + 0).toNat) = false ∧ ((d : Int) = (d : Int) ∧ (k : Int) = (k : Int) ∧ True) ∧ True))) ∧ (¬(0 : Int) < 2 → False)) (by kernel_rfl) ?_
   simp only [true_and, and_true, false_and, and_false, or_false, false_or, exists_const, exists_false, rat_num_den, rat_int, Int.toNat_natCast]
   have hb := pre_lt hp
   rw [tn0, odd0]
   refine ⟨fun _ => ⟨by simp only [inR]; omega, by simp only [inR]; omega, by simp only [inR]; omega, ⟨d + 1, 2 * k, by simp, pre_left hp, by omega⟩, fun hg => ?_, fun hg => ?_⟩, by omega⟩
   · have hg : grB gd p n (d + 1) (2 * k) = false := by simpa using hg
     simp [hvB, hvM, hvL, hg, yst, yjp, jR]
   · have hg : grB gd p n (d + 1) (2 * k) = true := by simpa using hg
     simp only [hg]
     exact ⟨by simp only [inR]; omega, ⟨trivial, by omega⟩, by simp [yst, yjp]⟩
 · have hb1 : grB gd p n (d + 1) (2 * k) = true := hb1
   refine of_eq (q := True ∧ ((1 : Int) < 2 → True ∧ True ∧ True ∧ True ∧ True ∧ True ∧ inR .i64 ((d : Int) + 1) ∧ True ∧ True ∧ inR .i64 ((2 : Int) * (k : Int)) ∧ True ∧ inR .i64 ((2 : Int) * (k : Int) + 1) ∧ True ∧ (((∃ (d_1 : Nat), ∃ (k_1 : Nat), ((d : Int) + 1, (2 : Int) * (k : Int) + 1) = ((d_1 : Int), (k_1 : Int)) ∧ pre91 n d_1 k_1 p (grM P64.gd p n (d + 1) ((2 : Nat) * k) m) ∧ (l ++ grL P64.gd p n (d + 1) ((2 : Nat) * k)).length + (grL P64.gd p n d_1 k_1).length < 1000000) ∧ (True ∧ (1 : Int) = 1 ∧ ((d : Int) + 1 = (d : Int) + 1 ∧ (2 : Int) * (k : Int) + 1 = 2 * (k : Int) + 1 ∧ True) ∧ True) ∧ (C91 = C91 ∧ LoopState.ready = LoopState.ready ∧ (none : Option Code) = none ∧ (True ∧ True ∧ True) ∧ True) ∧ (True ∧ True ∧ True ∧ True ∧ True ∧ True) ∧ (True ∧ True) ∧ True ∧ (p = p ∧ True ∧ True) ∧ grM P64.gd p n (d + 1) ((2 : Nat) * k) m = grM P64.gd p n (d + 1) ((2 : Nat) * k) m ∧ True ∧ l ++ grL P64.gd p n (d + 1) ((2 : Nat) * k) = l ++ grL P64.gd p n (d + 1) ((2 : Nat) * k) ∧ false = false ∧ True) ∧ True ∧ True ∧ True ∧ True ∧ True ∧ True ∧ True ∧ True ∧ True ∧ True) ∧ True ∧ ((!(grB P64.gd p n (d + 1) ((2 : Int) * (k : Int) + 1).toNat && !odd ((2 : Int) * (k : Int) + 1).toNat)) = true → True ∧ True ∧ (C91 = C91 ∧ LoopState.done = yst (grB P64.gd p n (d + 1) ((2 : Int) * (k : Int) + 1).toNat) (odd ((2 : Int) * (k : Int) + 1).toNat) ∧ jR (hvB P64.gd p n d k) = yjp (grB P64.gd p n (d + 1) ((2 : Int) * (k : Int) + 1).toNat) (odd ((2 : Int) * (k : Int) + 1).toNat) ∧ (True ∧ True ∧ True) ∧ True) ∧ (True ∧ True ∧ True ∧ True ∧ True ∧ True) ∧ (True ∧ True) ∧ True ∧ (p = p ∧ True ∧ True) ∧ grM P64.gd p n (d + 1) ((2 : Int) * (k : Int) + 1).toNat (grM P64.gd p n (d + 1) ((2 : Nat) * k) m) = hvM P64.gd p n d k m ∧ True ∧ l ++ grL P64.gd p n (d + 1) ((2 : Nat) * k) ++ grL P64.gd p n (d + 1) ((2 : Int) * (k : Int) + 1).toNat = l ++ hvL P64.gd p n d k ∧ (grB P64.gd p n (d + 1) ((2 : Int) * (k : Int) + 1).toNat && odd ((2 : Int) * (k : Int) + 1).toNat) = hvB P64.gd p n d k ∧ ((d : Int) = (d : Int) ∧ (k : Int) = (k : Int) ∧ True) ∧ True) ∧ ((!(grB P64.gd p n (d + 1) ((2 : Int) * (k : Int) + 1).toNat && !odd ((2 : Int) * (k : Int) + 1).toNat)) = false → inR .i64 (2 : Int) ∧ True ∧ ((∃ (y : Unit), (True ∧ (2 : Nat) < 1) ∧ (True ∧ True ∧ (2 : Int) = 0 ∧ True) ∧ (C91 = C91 ∧ LoopState.ready = yst (grB P64.gd p n (d + 1) ((2 : Int) * (k : Int) + 1).toNat) (odd ((2 : Int) * (k : Int) + 1).toNat) ∧ (none : Option Code) = yjp (grB P64.gd p n (d + 1) ((2 : Int) * (k : Int) + 1).toNat) (odd ((2 : Int) * (k : Int) + 1).toNat) ∧ (True ∧ True ∧ True) ∧ True) ∧ (True ∧ True ∧ True ∧ True ∧ True ∧ True) ∧ (True ∧ True) ∧ True ∧ (p = p ∧ True ∧ True) ∧ grM P64.gd p n (d + 1) ((2 : Int) * (k : Int) + 1).toNat (grM P64.gd p n (d + 1) ((2 : Nat) * k) m) = m ∧ False ∧ False ∧ (grB P64.gd p n (d + 1) ((2 : Int) * (k : Int) + 1).toNat && odd ((2 : Int) * (k : Int) + 1).toNat) = false ∧ ((d : Int) = (d : Int) ∧ (k : Int) = (k : Int) ∧ True) ∧ True) ∨ ∃ (y : Unit), (grB P64.gd p n (d + 1) ((2 : Nat) * k) = true ∧ (1 : Nat) < 1) ∧ (True ∧ True ∧ (2 : Int) = 1 ∧ True) ∧ (C91 = C91 ∧ LoopState.ready = yst (grB P64.gd p n (d + 1) ((2 : Int) * (k : Int) + 1).toNat) (odd ((2 : Int) * (k : Int) + 1).toNat) ∧ (none : Option Code) = yjp (grB P64.gd p n (d + 1) ((2 : Int) * (k : Int) + 1).toNat) (odd ((2 : Int) * (k : Int) + 1).toNat) ∧ (True ∧ True ∧ True) ∧ True) ∧ (True ∧ True ∧ True ∧ True ∧ True ∧ True) ∧ (True ∧ True) ∧ True ∧ (p = p ∧ True ∧ True) ∧ grM P64.gd p n (d + 1) ((2 : Int) * (k : Int) + 1).toNat (grM P64.gd p n (d + 1) ((2 : Nat) * k) m) = grM P64.gd p n (d + 1) ((2 : Nat) * k) m ∧ True ∧ l ++ grL P64.gd p n (d + 1) ((2 : Nat) * k) ++ grL P64.gd p n (d + 1) ((2 : Int) * (k : Int) + 1).toNat = l ++ grL P64.gd p n (d + 1) ((2 : Nat) * k) ∧ (grB P64.gd p n (d + 1) ((2 : Int) * (k : Int) + 1).toNat && odd ((2 : Int) * (k : Int) + 1).toNat) = false ∧ ((d : Int) = (d : Int) ∧ (k : Int) = (k : Int) ∧ True) ∧ True))) ∧ (¬(1 : Int) < 2 → False)) (by kernel_rfl) ?_
   simp only [true_and, and_true, false_and, and_false, or_false, false_or, exists_const, exists_false, rat_num_den, rat_int, Int.toNat_natCast]
   have hb := pre_lt hp
   rw [tn1, odd1]
   have e1 : hvL gd p n d k = grL gd p n (d + 1) (2 * k) ++ grL gd p n (d + 1) (2 * k + 1) := by unfold hvL; rw [if_pos hb1]
   have e2 : hvM gd p n d k m = grM gd p n (d + 1) (2 * k + 1) (grM gd p n (d + 1) (2 * k) m) := by unfold hvM; rw [if_pos hb1]
   have e3 : hvB gd p n d k = grB gd p n (d + 1) (2 * k + 1) := by unfold hvB; rw [hb1]; try rfl
   rw [e1, e2, e3]
   rw [e1, List.length_append] at hz
   refine ⟨fun _ => ⟨by simp only [inR]; omega, by simp only [inR]; omega, by simp only [inR]; omega, ⟨d + 1, 2 * k + 1, by simp, pre_memo (pre_right hp) (grM_ok gd p hp.2.2.2), by rw [List.length_append]; omega⟩, fun _ => ?_, fun hg => ?_⟩, by omega⟩
   · cases grB gd p n (d + 1) (2 * k + 1) <;> simp [yst, yjp, jR]
   · simp at hg
theorem hS_of (n : Nat) (h' : YS n) : HS n := by
 intro d k p m l hp hz
 refine gcall_of (X := (Xb [] [EYS n h'] none 10 [7] (fun _ => none))) ((Xb_ok _ _ _ _ _ _)) (f := 97) (fn := Tryd.f97) (c := bodyOf Tryd.f97) (by kernel_rfl) (by kernel_rfl) (view := false) (rvs := []) (by kernel_rfl) (H := (H97S p m l n d k)) 80 (by kernel_rfl) ?_
 have hL := loop97S n h' p m l d k hp hz
 refine of_eq (q := True ∧ LoopOK (Xb [] [P64.EYS n h'] none (10 : Nat) [(7 : Nat)] fun (x : Nat) => none) P64.L97_0 { J := chks (10 : Nat) [(0 : Nat), (1 : Nat), (4 : Nat)] (P64.fm97S p m l n d k), exits := List.map (fun (x : List Nat × Ex) => x.snd) P64.ex97 } (RetR (Xb [] [P64.EYS n h'] none (10 : Nat) [(7 : Nat)] fun (x : Nat) => none) false false [] [] (P64.hS (1 : Nat) LoopState.done (jR (hvB P64.gd p n d k)) p (hvM P64.gd p n d k m) (l ++ hvL P64.gd p n d k) (AV.bool (hvB P64.gd p n d k)) ((d : Int), (k : Int)))) ∧ ((∃ (y : Unit), True ∧ (True ∧ True ∧ (0 : Int) = 0 ∧ True) ∧ (C91 = C91 ∧ LoopState.ready = LoopState.ready ∧ (none : Option Code) = none ∧ (True ∧ True ∧ True) ∧ True) ∧ (True ∧ True ∧ True ∧ True ∧ True ∧ True) ∧ (True ∧ True) ∧ True ∧ (p = p ∧ True ∧ True) ∧ m = m ∧ True ∧ l = l ∧ false = false ∧ ((d : Int) = (d : Int) ∧ (k : Int) = (k : Int) ∧ True) ∧ True) ∨ ∃ (y : Unit), grB P64.gd p n (d + 1) ((2 : Nat) * k) = true ∧ (True ∧ True ∧ (0 : Int) = 1 ∧ True) ∧ (C91 = C91 ∧ LoopState.ready = LoopState.ready ∧ (none : Option Code) = none ∧ (True ∧ True ∧ True) ∧ True) ∧ (True ∧ True ∧ True ∧ True ∧ True ∧ True) ∧ (True ∧ True) ∧ True ∧ (p = p ∧ True ∧ True) ∧ m = grM P64.gd p n (d + 1) ((2 : Nat) * k) m ∧ False ∧ False ∧ false = false ∧ ((d : Int) = (d : Int) ∧ (k : Int) = (k : Int) ∧ True) ∧ True) ∧ True) (by kernel_rfl) ?_
 simp only [true_and, and_true, false_and, and_false, or_false, false_or, exists_const, exists_false, rat_num_den, rat_int, Int.toNat_natCast]
 exact hL
def unBq : Ob → Option PQ
 | .bx c => toD FR c
 | _ => none
def get97N (_ : List AV) (obs : List Ob) : Option (PQ × List Int × Memo) :=
 match unCvB (obs.getD 4 .gone), unMm (obs.getD 5 .gone), isNl (obs.getD 6 .gone), unBq (obs.getD 8 .gone) with
 | some p, some m, true, some q => some (q, p, m)
 | _, _, _, _ => none
def get97S (_ : List AV) (obs : List Ob) : Option (PQ × List Int × Memo × List PQ) :=
 match unCvB (obs.getD 4 .gone), unMm (obs.getD 5 .gone), unPie (obs.getD 7 .gone), unBq (obs.getD 9 .gone) with
 | some p, some m, some l, some q => some (q, p, m, l)
 | _, _, _, _ => none
theorem en97 : Enters Tryd.prog 97 := ⟨Tryd.f97, by kernel_rfl, by kernel_rfl, by kernel_rfl⟩
noncomputable def e97N (n : Nat) (h : HN n) : Entry Tryd.prog gl := entryW 97 en97 true get97N (fun x => ∃ d k : Nat, x.1 = ((d : Int), (k : Int)) ∧ pre91 (n + 1) d k x.2.1 x.2.2 ∧ hvL gd x.2.1 n d k = []) false (fun _ => [.yld 0, .ptr 8 0 []]) (fun x => hN .ready none x.2.1 x.2.2 .ff x.1) (fun _ => [])
 (fun x => hN .done (some (.exit 0)) x.2.1 (hvM gd x.2.1 n x.1.1.toNat x.1.2.toNat x.2.2) .ff x.1) (by
   rintro ⟨q, p, m⟩ ⟨d, k, hq, h1, h2⟩
   simp only at hq; subst hq
   exact h d k p m h1 h2)
noncomputable def e97O (n : Nat) (h : HO n) : Entry Tryd.prog gl := entryW 97 en97 true get97N (fun x => ∃ d k : Nat, x.1 = ((d : Int), (k : Int)) ∧ pre91 (n + 1) d k x.2.1 x.2.2 ∧ hvL gd x.2.1 n d k ≠ [] ∧ (hvL gd x.2.1 n d k).length < 1000000) false (fun _ => [.yld 0, .ptr 8 0 []]) (fun x => hN .ready none x.2.1 x.2.2 .ff x.1) (fun _ => [])
 (fun x => hO .done (jR (hvB gd x.2.1 n x.1.1.toNat x.1.2.toNat)) x.2.1 (hvM gd x.2.1 n x.1.1.toNat x.1.2.toNat x.2.2) (hvL gd x.2.1 n x.1.1.toNat x.1.2.toNat) (.bool (hvB gd x.2.1 n x.1.1.toNat x.1.2.toNat)) x.1) (by
   rintro ⟨q, p, m⟩ ⟨d, k, hq, h1, h2, h3⟩
   simp only at hq; subst hq
   exact h d k p m h1 h2 h3)
noncomputable def e97S (n : Nat) (h : HS n) : Entry Tryd.prog gl := entryW 97 en97 true get97S (fun x => ∃ d k : Nat, x.1 = ((d : Int), (k : Int)) ∧ pre91 (n + 1) d k x.2.1 x.2.2.1 ∧ x.2.2.2.length + (hvL gd x.2.1 n d k).length < 1000000) false (fun _ => [.yld 0, .ptr 9 0 []]) (fun x => hS 0 .ready none x.2.1 x.2.2.1 x.2.2.2 .ff x.1) (fun _ => [])
 (fun x => hS 1 .done (jR (hvB gd x.2.1 n x.1.1.toNat x.1.2.toNat)) x.2.1 (hvM gd x.2.1 n x.1.1.toNat x.1.2.toNat x.2.2.1) (x.2.2.2 ++ hvL gd x.2.1 n x.1.1.toNat x.1.2.toNat) (.bool (hvB gd x.2.1 n x.1.1.toNat x.1.2.toNat)) x.1) (by
   rintro ⟨q, p, m, l⟩ ⟨d, k, hq, h1, h2⟩
   simp only at hq; subst hq
   exact h d k p m l h1 h2)
noncomputable def E91 : EL := [e69, e64, e92]
theorem gN0 : GN 0 := by
 intro d k p m hp hl
 have h0 := pre_lt hp
 have hpc := piece_of hp
 have hln := qc_length p d k
 have hpl := hp.1.2.1
 have hd6 := hp.2.1
 refine gcall_of (X := (Xy E91 [] none 6 (drOf [(1, 4005)]))) ((Xy_ok _ _ _ _ _)) (f := 91) (fn := Tryd.f91) (c := bodyOf Tryd.f91) (by kernel_rfl) (by kernel_rfl) (view := false) (rvs := [.cell 6 4]) (by kernel_rfl) (H := fun _ => none) 80 (by kernel_rfl) ?_
 refine of_eq (q := True ∧ True ∧ True ∧ true = true ∧ True ∧ true = true ∧ True ∧ true = true ∧ ((isPoly p ∧ isPiece ((d : Int), (k : Int)) ∧ (d : Int) < 7 ∧ memoOk p m) ∧ True ∧ True ∧ True) ∧ ((True ∧ AV.clo (64 : FuncId) [] [] = AV.clo (64 : FuncId) [] []) ∧ True) ∧ (qc p d k).length + 1 ≤ 1000000 ∧ True ∧ (decide (chg (qc p d k) ≤ 1) = true → True ∧ True ∧ True ∧ sumPre (0 : Nat) [((d : Int), (k : Int))].length (nat_lit 16) ∧ True ∧ True ∧ (True ∧ True) ∧ (true = false ∧ True) ∧ (True ∧ True) ∧ True ∧ (p = p ∧ True ∧ True) ∧ cm p d k m = grM P64.gd p (0 : Nat) d k m ∧ False ∧ (True ∧ True ∧ True ∧ True ∧ True ∧ True) ∧ True) ∧ (decide (chg (qc p d k) ≤ 1) = false → True ∧ True ∧ True ∧ ((d : Int) = 6 → True ∧ (True ∧ True) ∧ (false = false ∧ True) ∧ (True ∧ True) ∧ True ∧ (p = p ∧ True ∧ True) ∧ cm p d k m = grM P64.gd p (0 : Nat) d k m ∧ True ∧ (True ∧ True ∧ True ∧ True ∧ True ∧ True) ∧ True) ∧ (¬(d : Int) = 6 → True ∧ (True ∧ True) ∧ False))) (by kernel_rfl) ?_
 simp only [true_and, and_true, false_and, and_false, or_false, false_or, exists_const, exists_false, rat_num_den, rat_int, Int.toNat_natCast]
 refine ⟨⟨hp.1, hpc, by omega, hp.2.2.2⟩, by omega, fun h => ?_, fun h => ⟨fun _ => rfl, fun h6 => by omega⟩⟩
 have h : gd (qc p d k) = true := h
 unfold grL at hl
 rw [if_pos h] at hl
 cases hl
theorem gO0 : GO 0 := by
 intro d k p m hp hl
 have h0 := pre_lt hp
 have hpc := piece_of hp
 have hln := qc_length p d k
 have hpl := hp.1.2.1
 have hd6 := hp.2.1
 refine gcall_of (X := (Xy E91 [] none 6 (drOf [(1, 4005)]))) ((Xy_ok _ _ _ _ _)) (f := 91) (fn := Tryd.f91) (c := bodyOf Tryd.f91) (by kernel_rfl) (by kernel_rfl) (view := false) (rvs := [.cell 6 4]) (by kernel_rfl) (H := fun _ => none) 80 (by kernel_rfl) ?_
 refine of_eq (q := True ∧ True ∧ True ∧ true = true ∧ True ∧ true = true ∧ True ∧ true = true ∧ ((isPoly p ∧ isPiece ((d : Int), (k : Int)) ∧ (d : Int) < 7 ∧ memoOk p m) ∧ True ∧ True ∧ True) ∧ ((True ∧ AV.clo (64 : FuncId) [] [] = AV.clo (64 : FuncId) [] []) ∧ True) ∧ (qc p d k).length + 1 ≤ 1000000 ∧ True ∧ (decide (chg (qc p d k) ≤ 1) = true → True ∧ True ∧ True ∧ sumPre (0 : Nat) [((d : Int), (k : Int))].length (nat_lit 16) ∧ True ∧ True ∧ (True ∧ True) ∧ (true = grB P64.gd p (0 : Nat) d k ∧ True) ∧ (True ∧ True) ∧ True ∧ (p = p ∧ True ∧ True) ∧ cm p d k m = grM P64.gd p (0 : Nat) d k m ∧ True ∧ (True ∧ True ∧ True ∧ True ∧ True ∧ True) ∧ [((d : Int), (k : Int))] = grL P64.gd p (0 : Nat) d k ∧ True) ∧ (decide (chg (qc p d k) ≤ 1) = false → True ∧ True ∧ True ∧ ((d : Int) = 6 → True ∧ (True ∧ True) ∧ (false = grB P64.gd p (0 : Nat) d k ∧ True) ∧ (True ∧ True) ∧ True ∧ (p = p ∧ True ∧ True) ∧ cm p d k m = grM P64.gd p (0 : Nat) d k m ∧ False ∧ (True ∧ True ∧ True ∧ True ∧ True ∧ True) ∧ False) ∧ (¬(d : Int) = 6 → True ∧ (True ∧ True) ∧ False))) (by kernel_rfl) ?_
 simp only [true_and, and_true, false_and, and_false, or_false, false_or, exists_const, exists_false, rat_num_den, rat_int, Int.toNat_natCast]
 refine ⟨⟨hp.1, hpc, by omega, hp.2.2.2⟩, by omega, fun h => ?_, fun h => ⟨fun _ => ?_, fun h6 => by omega⟩⟩
 · have h : gd (qc p d k) = true := h
   refine ⟨by unfold sumPre; simp, h.symm, rfl, ?_⟩
   unfold grL; rw [if_pos h]
 · have h : gd (qc p d k) = false := h
   unfold grL at hl
   rw [if_neg (by simp [h])] at hl
   exact hl rfl
theorem gS0 : GS 0 := by
 intro d k p m l hp hl
 have h0 := pre_lt hp
 have hpc := piece_of hp
 have hln := qc_length p d k
 have hpl := hp.1.2.1
 have hd6 := hp.2.1
 refine gcall_of (X := (Xb E91 [] none 7 [5] (drOf [(1, 4005)]))) ((Xb_ok _ _ _ _ _ _)) (f := 91) (fn := Tryd.f91) (c := bodyOf Tryd.f91) (by kernel_rfl) (by kernel_rfl) (view := false) (rvs := [.cell 6 4]) (by kernel_rfl) (H := fun _ => none) 80 (by kernel_rfl) ?_
 refine of_eq (q := True ∧ True ∧ True ∧ true = true ∧ True ∧ true = true ∧ True ∧ true = true ∧ ((isPoly p ∧ isPiece ((d : Int), (k : Int)) ∧ (d : Int) < 7 ∧ memoOk p m) ∧ True ∧ True ∧ True) ∧ ((True ∧ AV.clo (64 : FuncId) [] [] = AV.clo (64 : FuncId) [] []) ∧ True) ∧ (qc p d k).length + 1 ≤ 1000000 ∧ True ∧ (decide (chg (qc p d k) ≤ 1) = true → True ∧ True ∧ True ∧ sumPre l.length [((d : Int), (k : Int))].length (nat_lit 16) ∧ True ∧ True ∧ (True ∧ True) ∧ (true = grB P64.gd p (0 : Nat) d k ∧ True) ∧ (True ∧ True) ∧ True ∧ (p = p ∧ True ∧ True) ∧ cm p d k m = grM P64.gd p (0 : Nat) d k m ∧ True ∧ l ++ [((d : Int), (k : Int))] = l ++ grL P64.gd p (0 : Nat) d k ∧ (True ∧ True ∧ True ∧ True ∧ True ∧ True) ∧ True) ∧ (decide (chg (qc p d k) ≤ 1) = false → True ∧ True ∧ True ∧ ((d : Int) = 6 → True ∧ (True ∧ True) ∧ (false = grB P64.gd p (0 : Nat) d k ∧ True) ∧ (True ∧ True) ∧ True ∧ (p = p ∧ True ∧ True) ∧ cm p d k m = grM P64.gd p (0 : Nat) d k m ∧ True ∧ l = l ++ grL P64.gd p (0 : Nat) d k ∧ (True ∧ True ∧ True ∧ True ∧ True ∧ True) ∧ True) ∧ (¬(d : Int) = 6 → True ∧ (True ∧ True) ∧ False))) (by kernel_rfl) ?_
 simp only [true_and, and_true, false_and, and_false, or_false, false_or, exists_const, exists_false, rat_num_den, rat_int, Int.toNat_natCast]
 refine ⟨⟨hp.1, hpc, by omega, hp.2.2.2⟩, by omega, fun h => ?_, fun h => ⟨fun _ => ?_, fun h6 => by omega⟩⟩
 · have h : gd (qc p d k) = true := h
   refine ⟨by unfold sumPre; simp; omega, h.symm, rfl, ?_⟩
   unfold grL; rw [if_pos h]; try rfl
 · have h : gd (qc p d k) = false := h
   refine ⟨h.symm, rfl, ?_⟩
   unfold grL; rw [if_neg (by simp [h])]; simp
theorem gN1 (n : Nat) (h : HN n) : GN (n + 1) := by
 intro d k p m hp hl
 have h0 := pre_lt hp
 have hpc := piece_of hp
 have hln := qc_length p d k
 have hpl := hp.1.2.1
 have hd6 := hp.2.1
 refine gcall_of (X := (Xy (e97N n h :: E91) [] none 6 (drOf [(1, 4005)]))) ((Xy_ok _ _ _ _ _)) (f := 91) (fn := Tryd.f91) (c := bodyOf Tryd.f91) (by kernel_rfl) (by kernel_rfl) (view := false) (rvs := [.cell 6 4]) (by kernel_rfl) (H := fun _ => none) 80 (by kernel_rfl) ?_
 refine of_eq (q := True ∧ True ∧ True ∧ true = true ∧ True ∧ true = true ∧ True ∧ true = true ∧ ((isPoly p ∧ isPiece ((d : Int), (k : Int)) ∧ (d : Int) < 7 ∧ memoOk p m) ∧ True ∧ True ∧ True) ∧ ((True ∧ AV.clo (64 : FuncId) [] [] = AV.clo (64 : FuncId) [] []) ∧ True) ∧ (qc p d k).length + 1 ≤ 1000000 ∧ True ∧ (decide (chg (qc p d k) ≤ 1) = true → True ∧ True ∧ True ∧ sumPre (0 : Nat) [((d : Int), (k : Int))].length (nat_lit 16) ∧ True ∧ True ∧ (True ∧ True) ∧ (true = false ∧ True) ∧ (True ∧ True) ∧ True ∧ (p = p ∧ True ∧ True) ∧ cm p d k m = grM P64.gd p (n + 1) d k m ∧ False ∧ (True ∧ True ∧ True ∧ True ∧ True ∧ True) ∧ True) ∧ (decide (chg (qc p d k) ≤ 1) = false → True ∧ True ∧ True ∧ ((d : Int) = 6 → True ∧ (True ∧ True) ∧ (false = false ∧ True) ∧ (True ∧ True) ∧ True ∧ (p = p ∧ True ∧ True) ∧ cm p d k m = grM P64.gd p (n + 1) d k m ∧ True ∧ (True ∧ True ∧ True ∧ True ∧ True ∧ True) ∧ True) ∧ (¬(d : Int) = 6 → True ∧ (True ∧ True) ∧ ((((∃ (d_1 : Nat), ∃ (k_1 : Nat), ((d : Int), (k : Int)) = ((d_1 : Int), (k_1 : Int)) ∧ pre91 (n + 1) d_1 k_1 p (cm p d k m) ∧ hvL P64.gd p n d_1 k_1 = []) ∧ (True ∧ True ∧ True) ∧ (C91 = C91 ∧ LoopState.ready = LoopState.ready ∧ (none : Option Code) = none ∧ (True ∧ True ∧ True) ∧ True) ∧ (True ∧ True ∧ True ∧ True ∧ True ∧ True) ∧ (True ∧ True) ∧ True ∧ (p = p ∧ True ∧ True) ∧ cm p d k m = cm p d k m ∧ True ∧ false = false ∧ ((d : Int) = (d : Int) ∧ (k : Int) = (k : Int) ∧ True) ∧ True) ∧ True ∧ True ∧ True ∧ True ∧ True ∧ True ∧ True ∧ True ∧ True ∧ True) ∧ ¬LoopState.done = LoopState.busy) ∧ (some (Code.exit (0 : Nat)) = none → True ∧ (True ∧ True) ∧ (false = false ∧ True) ∧ (True ∧ True) ∧ True ∧ (p = p ∧ True ∧ True) ∧ hvM P64.gd p n d k (cm p d k m) = grM P64.gd p (n + 1) d k m ∧ True ∧ (True ∧ True ∧ True ∧ True ∧ True ∧ True) ∧ True) ∧ (some (Code.exit (0 : Nat)) = some (Code.exit (0 : Nat)) ∨ some (Code.exit (0 : Nat)) = some Code.ret ∨ some (Code.exit (0 : Nat)) = none) ∧ (some (Code.exit (0 : Nat)) = some (Code.exit (0 : Nat)) → True ∧ (True ∧ True) ∧ (false = false ∧ True) ∧ (True ∧ True) ∧ True ∧ (p = p ∧ True ∧ True) ∧ hvM P64.gd p n d k (cm p d k m) = grM P64.gd p (n + 1) d k m ∧ True ∧ (True ∧ True ∧ True ∧ True ∧ True ∧ True) ∧ True) ∧ (some (Code.exit (0 : Nat)) = some Code.ret → (True ∧ True) ∧ (false = false ∧ True) ∧ (True ∧ True) ∧ True ∧ (p = p ∧ True ∧ True) ∧ hvM P64.gd p n d k (cm p d k m) = grM P64.gd p (n + 1) d k m ∧ True ∧ (True ∧ True ∧ True ∧ True ∧ True ∧ True) ∧ True) ∧ True))) (by kernel_rfl) ?_
 simp only [true_and, and_true, false_and, and_false, or_false, false_or, exists_const, exists_false, rat_num_den, rat_int, Int.toNat_natCast]
 have hg : gd (qc p d k) = false := by
   cases hg : gd (qc p d k) with
   | false => rfl
   | true => rw [grL_succ, if_pos hg] at hl; cases hl
 have e : hvM gd p n d k (cm p d k m) = grM gd p (n + 1) d k m := by rw [grM_succ, if_neg (by simp [hg])]
 have e2 : hvL gd p n d k = [] := by rwa [grL_succ, if_neg (by simp [hg])] at hl
 refine ⟨⟨hp.1, hpc, by omega, hp.2.2.2⟩, by omega, fun h => ?_, fun h => ⟨fun _ => by omega, fun h6 => ?_⟩⟩
 · have h : gd (qc p d k) = true := h
   rw [hg] at h; cases h
 · exact ⟨⟨⟨d, k, rfl, pre_memo hp (cm_ok hp.2.2.2), e2⟩, by simp⟩, fun _ => e, .inl trivial, fun _ => e, fun _ => e⟩
theorem gO1 (n : Nat) (h : HO n) : GO (n + 1) := by
 intro d k p m hp hl
 have h0 := pre_lt hp
 have hpc := piece_of hp
 have hln := qc_length p d k
 have hpl := hp.1.2.1
 have hd6 := hp.2.1
 refine gcall_of (X := (Xy (e97O n h :: E91) [] none 6 (drOf [(1, 4005)]))) ((Xy_ok _ _ _ _ _)) (f := 91) (fn := Tryd.f91) (c := bodyOf Tryd.f91) (by kernel_rfl) (by kernel_rfl) (view := false) (rvs := [.cell 6 4]) (by kernel_rfl) (H := fun _ => none) 80 (by kernel_rfl) ?_
 refine of_eq (q := True ∧ True ∧ True ∧ true = true ∧ True ∧ true = true ∧ True ∧ true = true ∧ ((isPoly p ∧ isPiece ((d : Int), (k : Int)) ∧ (d : Int) < 7 ∧ memoOk p m) ∧ True ∧ True ∧ True) ∧ ((True ∧ AV.clo (64 : FuncId) [] [] = AV.clo (64 : FuncId) [] []) ∧ True) ∧ (qc p d k).length + 1 ≤ 1000000 ∧ True ∧ (decide (chg (qc p d k) ≤ 1) = true → True ∧ True ∧ True ∧ sumPre (0 : Nat) [((d : Int), (k : Int))].length (nat_lit 16) ∧ True ∧ True ∧ (True ∧ True) ∧ (true = grB P64.gd p (n + 1) d k ∧ True) ∧ (True ∧ True) ∧ True ∧ (p = p ∧ True ∧ True) ∧ cm p d k m = grM P64.gd p (n + 1) d k m ∧ True ∧ (True ∧ True ∧ True ∧ True ∧ True ∧ True) ∧ [((d : Int), (k : Int))] = grL P64.gd p (n + 1) d k ∧ True) ∧ (decide (chg (qc p d k) ≤ 1) = false → True ∧ True ∧ True ∧ ((d : Int) = 6 → True ∧ (True ∧ True) ∧ (false = grB P64.gd p (n + 1) d k ∧ True) ∧ (True ∧ True) ∧ True ∧ (p = p ∧ True ∧ True) ∧ cm p d k m = grM P64.gd p (n + 1) d k m ∧ False ∧ (True ∧ True ∧ True ∧ True ∧ True ∧ True) ∧ False) ∧ (¬(d : Int) = 6 → True ∧ (True ∧ True) ∧ ((((∃ (d_1 : Nat), ∃ (k_1 : Nat), ((d : Int), (k : Int)) = ((d_1 : Int), (k_1 : Int)) ∧ pre91 (n + 1) d_1 k_1 p (cm p d k m) ∧ ¬hvL P64.gd p n d_1 k_1 = [] ∧ (hvL P64.gd p n d_1 k_1).length < 1000000) ∧ (True ∧ True ∧ True) ∧ (C91 = C91 ∧ LoopState.ready = LoopState.ready ∧ (none : Option Code) = none ∧ (True ∧ True ∧ True) ∧ True) ∧ (True ∧ True ∧ True ∧ True ∧ True ∧ True) ∧ (True ∧ True) ∧ True ∧ (p = p ∧ True ∧ True) ∧ cm p d k m = cm p d k m ∧ True ∧ false = false ∧ ((d : Int) = (d : Int) ∧ (k : Int) = (k : Int) ∧ True) ∧ True) ∧ True ∧ True ∧ True ∧ True ∧ True ∧ True ∧ True ∧ True ∧ True ∧ True) ∧ ¬LoopState.done = LoopState.busy) ∧ (jR (hvB P64.gd p n d k) = none → True ∧ (True ∧ True) ∧ (false = grB P64.gd p (n + 1) d k ∧ True) ∧ (True ∧ True) ∧ True ∧ (p = p ∧ True ∧ True) ∧ hvM P64.gd p n d k (cm p d k m) = grM P64.gd p (n + 1) d k m ∧ True ∧ (True ∧ True ∧ True ∧ True ∧ True ∧ True) ∧ hvL P64.gd p n d k = grL P64.gd p (n + 1) d k ∧ True) ∧ (jR (hvB P64.gd p n d k) = some (Code.exit (0 : Nat)) ∨ jR (hvB P64.gd p n d k) = some Code.ret ∨ jR (hvB P64.gd p n d k) = none) ∧ (jR (hvB P64.gd p n d k) = some (Code.exit (0 : Nat)) → True ∧ (True ∧ True) ∧ (false = grB P64.gd p (n + 1) d k ∧ True) ∧ (True ∧ True) ∧ True ∧ (p = p ∧ True ∧ True) ∧ hvM P64.gd p n d k (cm p d k m) = grM P64.gd p (n + 1) d k m ∧ True ∧ (True ∧ True ∧ True ∧ True ∧ True ∧ True) ∧ hvL P64.gd p n d k = grL P64.gd p (n + 1) d k ∧ True) ∧ (jR (hvB P64.gd p n d k) = some Code.ret → (True ∧ True) ∧ (hvB P64.gd p n d k = grB P64.gd p (n + 1) d k ∧ True) ∧ (True ∧ True) ∧ True ∧ (p = p ∧ True ∧ True) ∧ hvM P64.gd p n d k (cm p d k m) = grM P64.gd p (n + 1) d k m ∧ True ∧ (True ∧ True ∧ True ∧ True ∧ True ∧ True) ∧ hvL P64.gd p n d k = grL P64.gd p (n + 1) d k ∧ True) ∧ True))) (by kernel_rfl) ?_
 simp only [true_and, and_true, false_and, and_false, or_false, false_or, exists_const, exists_false, rat_num_den, rat_int, Int.toNat_natCast]
 have hln2 := grL_len gd p (n + 1) d k
 have hn2 := Nat.pow_le_pow_right (show 0 < 2 by omega) (show n + 1 ≤ 6 by omega)
 refine ⟨⟨hp.1, hpc, by omega, hp.2.2.2⟩, by omega, fun h => ?_, fun h => ⟨fun _ => by omega, fun h6 => ?_⟩⟩
 · have hg : gd (qc p d k) = true := h
   rw [grB_succ, grM_succ, grL_succ, if_pos hg, if_pos hg, hg]
   exact ⟨by unfold sumPre; simp, rfl, rfl, rfl⟩
 · have hg : gd (qc p d k) = false := h
   have hng : ¬ gd (qc p d k) = true := by simp [hg]
   rw [grL_succ, if_neg hng] at hl hln2
   rw [grB_succ, grM_succ, grL_succ, if_neg hng, if_neg hng, hg]
   refine ⟨⟨⟨d, k, rfl, pre_memo hp (cm_ok hp.2.2.2), hl, by omega⟩, by simp⟩, ?_⟩
   cases hvB gd p n d k <;> simp [jR]
theorem gS1 (n : Nat) (h : HS n) : GS (n + 1) := by
 intro d k p m l hp hl
 have h0 := pre_lt hp
 have hpc := piece_of hp
 have hln := qc_length p d k
 have hpl := hp.1.2.1
 have hd6 := hp.2.1
 refine gcall_of (X := (Xb (e97S n h :: E91) [] none 7 [5] (drOf [(1, 4005)]))) ((Xb_ok _ _ _ _ _ _)) (f := 91) (fn := Tryd.f91) (c := bodyOf Tryd.f91) (by kernel_rfl) (by kernel_rfl) (view := false) (rvs := [.cell 6 4]) (by kernel_rfl) (H := fun _ => none) 80 (by kernel_rfl) ?_
 refine of_eq (q := True ∧ True ∧ True ∧ true = true ∧ True ∧ true = true ∧ True ∧ true = true ∧ ((isPoly p ∧ isPiece ((d : Int), (k : Int)) ∧ (d : Int) < 7 ∧ memoOk p m) ∧ True ∧ True ∧ True) ∧ ((True ∧ AV.clo (64 : FuncId) [] [] = AV.clo (64 : FuncId) [] []) ∧ True) ∧ (qc p d k).length + 1 ≤ 1000000 ∧ True ∧ (decide (chg (qc p d k) ≤ 1) = true → True ∧ True ∧ True ∧ sumPre l.length [((d : Int), (k : Int))].length (nat_lit 16) ∧ True ∧ True ∧ (True ∧ True) ∧ (true = grB P64.gd p (n + 1) d k ∧ True) ∧ (True ∧ True) ∧ True ∧ (p = p ∧ True ∧ True) ∧ cm p d k m = grM P64.gd p (n + 1) d k m ∧ True ∧ l ++ [((d : Int), (k : Int))] = l ++ grL P64.gd p (n + 1) d k ∧ (True ∧ True ∧ True ∧ True ∧ True ∧ True) ∧ True) ∧ (decide (chg (qc p d k) ≤ 1) = false → True ∧ True ∧ True ∧ ((d : Int) = 6 → True ∧ (True ∧ True) ∧ (false = grB P64.gd p (n + 1) d k ∧ True) ∧ (True ∧ True) ∧ True ∧ (p = p ∧ True ∧ True) ∧ cm p d k m = grM P64.gd p (n + 1) d k m ∧ True ∧ l = l ++ grL P64.gd p (n + 1) d k ∧ (True ∧ True ∧ True ∧ True ∧ True ∧ True) ∧ True) ∧ (¬(d : Int) = 6 → True ∧ (True ∧ True) ∧ ((((∃ (d_1 : Nat), ∃ (k_1 : Nat), ((d : Int), (k : Int)) = ((d_1 : Int), (k_1 : Int)) ∧ pre91 (n + 1) d_1 k_1 p (cm p d k m) ∧ l.length + (hvL P64.gd p n d_1 k_1).length < 1000000) ∧ (True ∧ True ∧ True) ∧ (C91 = C91 ∧ LoopState.ready = LoopState.ready ∧ (none : Option Code) = none ∧ (True ∧ True ∧ True) ∧ True) ∧ (True ∧ True ∧ True ∧ True ∧ True ∧ True) ∧ (True ∧ True) ∧ True ∧ (p = p ∧ True ∧ True) ∧ cm p d k m = cm p d k m ∧ True ∧ l = l ∧ false = false ∧ ((d : Int) = (d : Int) ∧ (k : Int) = (k : Int) ∧ True) ∧ True) ∧ True ∧ True ∧ True ∧ True ∧ True ∧ True ∧ True ∧ True ∧ True ∧ True ∧ True) ∧ ¬LoopState.done = LoopState.busy) ∧ (jR (hvB P64.gd p n d k) = none → True ∧ (True ∧ True) ∧ (false = grB P64.gd p (n + 1) d k ∧ True) ∧ (True ∧ True) ∧ True ∧ (p = p ∧ True ∧ True) ∧ hvM P64.gd p n d k (cm p d k m) = grM P64.gd p (n + 1) d k m ∧ True ∧ l ++ hvL P64.gd p n d k = l ++ grL P64.gd p (n + 1) d k ∧ (True ∧ True ∧ True ∧ True ∧ True ∧ True) ∧ True) ∧ (jR (hvB P64.gd p n d k) = some (Code.exit (0 : Nat)) ∨ jR (hvB P64.gd p n d k) = some Code.ret ∨ jR (hvB P64.gd p n d k) = none) ∧ (jR (hvB P64.gd p n d k) = some (Code.exit (0 : Nat)) → True ∧ (True ∧ True) ∧ (false = grB P64.gd p (n + 1) d k ∧ True) ∧ (True ∧ True) ∧ True ∧ (p = p ∧ True ∧ True) ∧ hvM P64.gd p n d k (cm p d k m) = grM P64.gd p (n + 1) d k m ∧ True ∧ l ++ hvL P64.gd p n d k = l ++ grL P64.gd p (n + 1) d k ∧ (True ∧ True ∧ True ∧ True ∧ True ∧ True) ∧ True) ∧ (jR (hvB P64.gd p n d k) = some Code.ret → (True ∧ True) ∧ (hvB P64.gd p n d k = grB P64.gd p (n + 1) d k ∧ True) ∧ (True ∧ True) ∧ True ∧ (p = p ∧ True ∧ True) ∧ hvM P64.gd p n d k (cm p d k m) = grM P64.gd p (n + 1) d k m ∧ True ∧ l ++ hvL P64.gd p n d k = l ++ grL P64.gd p (n + 1) d k ∧ (True ∧ True ∧ True ∧ True ∧ True ∧ True) ∧ True) ∧ True))) (by kernel_rfl) ?_
 simp only [true_and, and_true, false_and, and_false, or_false, false_or, exists_const, exists_false, rat_num_den, rat_int, Int.toNat_natCast]
 refine ⟨⟨hp.1, hpc, by omega, hp.2.2.2⟩, by omega, fun h => ?_, fun h => ⟨fun _ => by omega, fun h6 => ?_⟩⟩
 · have hg : gd (qc p d k) = true := h
   rw [grB_succ, grM_succ, grL_succ, if_pos hg, if_pos hg, hg]
   exact ⟨by unfold sumPre; simp; omega, rfl, rfl, rfl⟩
 · have hg : gd (qc p d k) = false := h
   have hng : ¬ gd (qc p d k) = true := by simp [hg]
   rw [grL_succ, if_neg hng] at hl
   rw [grB_succ, grM_succ, grL_succ, if_neg hng, if_neg hng, hg]
   refine ⟨⟨⟨d, k, rfl, pre_memo hp (cm_ok hp.2.2.2), hl⟩, by simp⟩, ?_⟩
   cases hvB gd p n d k <;> simp [jR]
/-- All levels. -/
theorem g_all : ∀ n, GN n ∧ GO n ∧ GS n
 | 0 => ⟨gN0, gO0, gS0⟩
 | n + 1 => by
   obtain ⟨h1, h2, h3⟩ := g_all n
   exact ⟨gN1 n (hN_of n (yN_of n h1)), gO1 n (hO_of n (yO_of n h2) (yS_of n h3)), gS1 n (hS_of n (yS_of n h3))⟩
noncomputable def e91n : Entry Tryd.prog gl := e91N 6 (g_all 6).1
noncomputable def e91o : Entry Tryd.prog gl := e91O 6 (g_all 6).2.1
def coverB (p : List Int) : Bool := grB gd p 6 0 0
def coverL (p : List Int) : List PQ := grL gd p 6 0 0
def coverM (p : List Int) (m : Memo) : Memo := grM gd p 6 0 0 m
def a63 : List AV := [.ptr 0 0 [], ofD FR ((0 : Int), (0 : Int)), .clo 64 [] []]
def P63N : Prop := ∀ (p : List Int) (m : Memo), isPoly p → memoOk p m → coverB p = false → GCall Tryd.prog gl 63 false a63 [cvO p, mmO m] [nl] [cvO p, mmO (coverM p m)]
def P63O : Prop := ∀ (p : List Int) (m : Memo), isPoly p → memoOk p m → coverB p = true → GCall Tryd.prog gl 63 false a63 [cvO p, mmO m] [.own 2 0] [cvO p, mmO (coverM p m), pieO 0 (coverL p)]
theorem pre6 {p : List Int} {m : Memo} (hp : isPoly p) (hm : memoOk p m) : pre91 6 0 0 p m := ⟨hp, rfl, by omega, hm⟩
theorem call63N : P63N := by
 intro p m hp hm hb
 have hb' : grB gd p 6 0 0 = false := hb
 by_cases hl : grL gd p 6 0 0 = []
 · refine gcall_of (X := (Xy [e91n] [] none 2 (fun _ => none))) ((Xy_ok _ _ _ _ _)) (f := 63) (fn := Tryd.f63) (c := bodyOf Tryd.f63) (by kernel_rfl) (by kernel_rfl) (view := false) (rvs := [.tmp 6]) (by kernel_rfl) (H := fun _ => none) 80 (by kernel_rfl) ?_
   refine of_eq (q := True ∧ True ∧ True ∧ True ∧ True ∧ True ∧ True ∧ True ∧ True ∧ True ∧ (((∃ (d : Nat), ∃ (k : Nat), ((0 : Int), (0 : Int)) = ((d : Int), (k : Int)) ∧ pre91 (6 : Nat) d k p m ∧ grL P64.gd p (6 : Nat) d k = []) ∧ (((0 : Int) = 0 ∧ (0 : Int) = 0 ∧ True) ∧ True ∧ True ∧ True ∧ True ∧ True) ∧ (True ∧ True) ∧ True ∧ (p = p ∧ True ∧ True) ∧ m = m ∧ True ∧ (True ∧ True ∧ True ∧ True ∧ True ∧ True) ∧ True) ∧ True ∧ True ∧ True ∧ True ∧ True ∧ True ∧ True) ∧ True ∧ True ∧ True ∧ (True ∧ True) ∧ (p = p ∧ True ∧ True) ∧ grM P64.gd p (6 : Nat) (0 : Nat) (0 : Nat) m = P64.coverM p m ∧ True) (by kernel_rfl) ?_
   simp only [true_and, and_true, false_and, and_false, or_false, false_or, exists_const, exists_false, rat_num_den, rat_int, Int.toNat_natCast]
   exact ⟨⟨0, 0, rfl, pre6 hp hm, hl⟩, rfl⟩
 · refine gcall_of (X := (Xy [e91o] [] none 2 (fun _ => none))) ((Xy_ok _ _ _ _ _)) (f := 63) (fn := Tryd.f63) (c := bodyOf Tryd.f63) (by kernel_rfl) (by kernel_rfl) (view := false) (rvs := [.tmp 6]) (by kernel_rfl) (H := fun _ => none) 80 (by kernel_rfl) ?_
   refine of_eq (q := True ∧ True ∧ True ∧ True ∧ True ∧ True ∧ True ∧ True ∧ True ∧ True ∧ (((∃ (d : Nat), ∃ (k : Nat), ((0 : Int), (0 : Int)) = ((d : Int), (k : Int)) ∧ pre91 (6 : Nat) d k p m ∧ ¬grL P64.gd p (6 : Nat) d k = []) ∧ (((0 : Int) = 0 ∧ (0 : Int) = 0 ∧ True) ∧ True ∧ True ∧ True ∧ True ∧ True) ∧ (True ∧ True) ∧ True ∧ (p = p ∧ True ∧ True) ∧ m = m ∧ True ∧ (True ∧ True ∧ True ∧ True ∧ True ∧ True) ∧ True) ∧ True ∧ True ∧ True ∧ True ∧ True ∧ True ∧ True) ∧ True ∧ ((!grB P64.gd p (6 : Nat) (0 : Nat) (0 : Nat)) = true → True ∧ True ∧ (True ∧ True) ∧ (p = p ∧ True ∧ True) ∧ grM P64.gd p (6 : Nat) (0 : Nat) (0 : Nat) m = P64.coverM p m ∧ True) ∧ ((!grB P64.gd p (6 : Nat) (0 : Nat) (0 : Nat)) = false → True ∧ True ∧ True ∧ (False ∧ True) ∧ (p = p ∧ True ∧ True) ∧ grM P64.gd p (6 : Nat) (0 : Nat) (0 : Nat) m = P64.coverM p m ∧ True)) (by kernel_rfl) ?_
   simp only [true_and, and_true, false_and, and_false, or_false, false_or, exists_const, exists_false, rat_num_den, rat_int, Int.toNat_natCast]
   refine ⟨⟨0, 0, rfl, pre6 hp hm, hl⟩, fun _ => rfl, fun h => ?_⟩
   simp [hb'] at h
theorem call63O : P63O := by
 intro p m hp hm hb
 have hb' : grB gd p 6 0 0 = true := hb
 have hl := grL_ne gd p hb'
 refine gcall_of (X := (Xy [e91o] [] none 2 (fun _ => none))) ((Xy_ok _ _ _ _ _)) (f := 63) (fn := Tryd.f63) (c := bodyOf Tryd.f63) (by kernel_rfl) (by kernel_rfl) (view := false) (rvs := [.tmp 6]) (by kernel_rfl) (H := fun _ => none) 80 (by kernel_rfl) ?_
 refine of_eq (q := True ∧ True ∧ True ∧ True ∧ True ∧ True ∧ True ∧ True ∧ True ∧ True ∧ (((∃ (d : Nat), ∃ (k : Nat), ((0 : Int), (0 : Int)) = ((d : Int), (k : Int)) ∧ pre91 (6 : Nat) d k p m ∧ ¬grL P64.gd p (6 : Nat) d k = []) ∧ (((0 : Int) = 0 ∧ (0 : Int) = 0 ∧ True) ∧ True ∧ True ∧ True ∧ True ∧ True) ∧ (True ∧ True) ∧ True ∧ (p = p ∧ True ∧ True) ∧ m = m ∧ True ∧ (True ∧ True ∧ True ∧ True ∧ True ∧ True) ∧ True) ∧ True ∧ True ∧ True ∧ True ∧ True ∧ True ∧ True) ∧ True ∧ ((!grB P64.gd p (6 : Nat) (0 : Nat) (0 : Nat)) = true → True ∧ True ∧ (False ∧ True) ∧ (p = p ∧ True ∧ True) ∧ grM P64.gd p (6 : Nat) (0 : Nat) (0 : Nat) m = P64.coverM p m ∧ False) ∧ ((!grB P64.gd p (6 : Nat) (0 : Nat) (0 : Nat)) = false → True ∧ True ∧ True ∧ (True ∧ True) ∧ (p = p ∧ True ∧ True) ∧ grM P64.gd p (6 : Nat) (0 : Nat) (0 : Nat) m = P64.coverM p m ∧ grL P64.gd p (6 : Nat) (0 : Nat) (0 : Nat) = P64.coverL p ∧ True)) (by kernel_rfl) ?_
 simp only [true_and, and_true, false_and, and_false, or_false, false_or, exists_const, exists_false, rat_num_den, rat_int, Int.toNat_natCast]
 refine ⟨⟨0, 0, rfl, pre6 hp hm, hl⟩, fun h => ?_, fun _ => ⟨rfl, rfl⟩⟩
 simp [hb'] at h
end Go.Am.Bern.P64

/- Bern: Positive, Roots, Count. -/
namespace Go.Am.Bern
open Go Go.Am Go.Proofs
def get63 (_ : List AV) (obs : List Ob) : Option (List Int × Memo) :=
 match obs with
 | [c, m] => (match unCv c, unMm m with
   | some p, some m => some (p, m)
   | _, _ => none)
 | _ => none
theorem en63 : Enters Tryd.prog 63 := ⟨Tryd.f63, by kernel_rfl, by kernel_rfl, by kernel_rfl⟩
noncomputable def e63N : Entry Tryd.prog gl := entryW 63 en63 true get63 (fun x => isPoly x.1 ∧ memoOk x.1 x.2 ∧ P71.coverB x.1 = false) false (fun _ => P71.a63) (fun x => [cvO x.1, mmO x.2]) (fun _ => [nl]) (fun x => [cvO x.1, mmO (P71.coverM x.1 x.2)]) (fun x h => P71.call63N x.1 x.2 h.1 h.2.1 h.2.2)
noncomputable def e63O : Entry Tryd.prog gl := entryW 63 en63 true get63 (fun x => isPoly x.1 ∧ memoOk x.1 x.2 ∧ P71.coverB x.1 = true) false (fun _ => P71.a63) (fun x => [cvO x.1, mmO x.2]) (fun _ => [.own 2 0]) (fun x => [cvO x.1, mmO (P71.coverM x.1 x.2), pieO 0 (P71.coverL x.1)]) (fun x h => P71.call63O x.1 x.2 h.1 h.2.1 h.2.2)
noncomputable def e63n : Entry Tryd.prog gl := entryW 63 en63 true get63 (fun x => isPoly x.1 ∧ memoOk x.1 x.2 ∧ P64.coverB x.1 = false) false (fun _ => P64.a63) (fun x => [cvO x.1, mmO x.2]) (fun _ => [nl]) (fun x => [cvO x.1, mmO (P64.coverM x.1 x.2)]) (fun x h => P64.call63N x.1 x.2 h.1 h.2.1 h.2.2)
noncomputable def e63o : Entry Tryd.prog gl := entryW 63 en63 true get63 (fun x => isPoly x.1 ∧ memoOk x.1 x.2 ∧ P64.coverB x.1 = true) false (fun _ => P64.a63) (fun x => [cvO x.1, mmO x.2]) (fun _ => [.own 2 0]) (fun x => [cvO x.1, mmO (P64.coverM x.1 x.2), pieO 0 (P64.coverL x.1)]) (fun x h => P64.call63O x.1 x.2 h.1 h.2.1 h.2.2)
def posB (p : List Int) : Bool := decide (isPoly p) && P71.coverB p
def posK (p : List Int) : List PQ := if posB p then P71.coverL p else []
theorem errOf_pos {p : List Int} (h : ¬ errOf p = 0) : ¬ isPoly p := fun hp => h (by simp [errOf, hp])
theorem errOf_zero {p : List Int} (h : ¬¬ errOf p = 0) : isPoly p := by
 false_or_by_contra; rename_i hn; exact h (by simp [errOf, hn])
theorem call26 (p : List Int) (h : p.length < 1000000) : GCall Tryd.prog gl 26 false [.sl I64 p] [] [.bool (posB p), .sl Q2 (posK p), .int .i64 (errOf p)] [] := by
 have hlen : (P71.coverL p).length ≤ 64 := grL_len _ p 6 0 0
 by_cases hb : P71.coverB p = true
 · refine gcall_of (X := (Xd [e56, e62, e66, e63O] (drOf [(4, 1000000)]))) ((Xd_ok _ _)) (f := 26) (fn := Tryd.f26) (c := bodyOf Tryd.f26) (by kernel_rfl) (by kernel_rfl) (view := true) (rvs := [.tmp 2, .tmp 3, .tmp 4]) (by kernel_rfl) (H := fun _ => none) 80 (by kernel_rfl) ?_
   refine of_eq (q := True ∧ True ∧ True ∧ True ∧ (p.length + 1 ≤ 1000000 ∧ True) ∧ True ∧ True ∧ True ∧ (¬errOf p = 0 → True ∧ True ∧ True ∧ True ∧ True ∧ (false = posB p ∧ ([] : List (Int × Int)) = posK p ∧ errOf p = errOf p ∧ True) ∧ True) ∧ (¬¬errOf p = 0 → ((True ∧ ((True ∧ True) ∧ (True ∧ ((((isPoly p ∧ memoOk p [] ∧ P71.coverB p = true) ∧ (True ∧ ((0 : Int) = 0 ∧ (0 : Int) = 0 ∧ True) ∧ (True ∧ True) ∧ True) ∧ (p = p ∧ True ∧ True) ∧ ([] : List ((Int × Int) × List (Int × Int))) = [] ∧ True) ∧ True ∧ True ∧ True) ∧ (True ∧ (p = p ∧ false = false ∧ True ∧ (0 : Int) = 0 ∧ errOf p = errOf p ∧ True ∧ p = p ∧ errOf p = errOf p ∧ errOf p = errOf p ∧ false = false ∧ p = p ∧ True ∧ ((0 : Int) = 0 ∧ (0 : Int) = 0 ∧ True) ∧ True ∧ True) ∧ (p = p ∧ True ∧ True) ∧ P71.coverM p [] = P71.coverM p [] ∧ P71.coverL p = P71.coverL p ∧ True) ∧ True) ∧ True) ∧ True) ∧ (True ∧ ((True ∧ True) ∧ ((((isPoly p ∧ memoOk p [] ∧ P71.coverB p = true) ∧ (True ∧ ((0 : Int) = 0 ∧ (0 : Int) = 0 ∧ True) ∧ (True ∧ True) ∧ True) ∧ (p = p ∧ True ∧ True) ∧ ([] : List ((Int × Int) × List (Int × Int))) = [] ∧ True) ∧ True ∧ True ∧ True) ∧ (True ∧ (p = p ∧ false = false ∧ True ∧ (0 : Int) = 0 ∧ errOf p = errOf p ∧ True ∧ p = p ∧ errOf p = errOf p ∧ errOf p = errOf p ∧ false = false ∧ p = p ∧ True ∧ ((0 : Int) = 0 ∧ (0 : Int) = 0 ∧ True) ∧ True ∧ True) ∧ (p = p ∧ True ∧ True) ∧ P71.coverM p [] = P71.coverM p [] ∧ P71.coverL p = P71.coverL p ∧ True) ∧ True) ∧ True) ∧ True) ∧ True) ∧ (True ∧ (True ∧ ((True ∧ True) ∧ ((((isPoly p ∧ memoOk p [] ∧ P71.coverB p = true) ∧ (True ∧ ((0 : Int) = 0 ∧ (0 : Int) = 0 ∧ True) ∧ (True ∧ True) ∧ True) ∧ (p = p ∧ True ∧ True) ∧ ([] : List ((Int × Int) × List (Int × Int))) = [] ∧ True) ∧ True ∧ True ∧ True) ∧ (True ∧ (p = p ∧ false = false ∧ True ∧ (0 : Int) = 0 ∧ errOf p = errOf p ∧ True ∧ p = p ∧ errOf p = errOf p ∧ errOf p = errOf p ∧ false = false ∧ p = p ∧ True ∧ ((0 : Int) = 0 ∧ (0 : Int) = 0 ∧ True) ∧ True ∧ True) ∧ (p = p ∧ True ∧ True) ∧ P71.coverM p [] = P71.coverM p [] ∧ P71.coverL p = P71.coverL p ∧ True) ∧ True) ∧ True) ∧ True) ∧ True) ∧ True) ∧ True ∧ True ∧ True ∧ ((P71.coverL p).length + 1 ≤ 1000000 ∧ True) ∧ True ∧ True ∧ True ∧ True ∧ (true = posB p ∧ P71.coverL p = posK p ∧ (0 : Int) = errOf p ∧ True) ∧ True)) (by kernel_rfl) ?_
   simp only [true_and, and_true, false_and, and_false, or_false, false_or, exists_const, exists_false, rat_num_den, rat_int, Int.toNat_natCast]
   refine ⟨by omega, fun he => ?_, fun he => ?_⟩
   · have := errOf_pos he
     simp [posK, posB, this]
   · have hp := errOf_zero he
     exact ⟨⟨⟨⟨hp, memoOk_nil p, hb⟩, ⟨hp, memoOk_nil p, hb⟩⟩, ⟨hp, memoOk_nil p, hb⟩⟩, by omega, by simp [posB, hp, hb], by simp [posK, posB, hp, hb], by simp [errOf, hp]⟩
 · have hb : P71.coverB p = false := by simpa using hb
   refine gcall_of (X := (Xd [e56, e62, e66, e63N] (drOf [(4, 1000000)]))) ((Xd_ok _ _)) (f := 26) (fn := Tryd.f26) (c := bodyOf Tryd.f26) (by kernel_rfl) (by kernel_rfl) (view := true) (rvs := [.tmp 2, .tmp 3, .tmp 4]) (by kernel_rfl) (H := fun _ => none) 80 (by kernel_rfl) ?_
   refine of_eq (q := True ∧ True ∧ True ∧ True ∧ (p.length + 1 ≤ 1000000 ∧ True) ∧ True ∧ True ∧ True ∧ (¬errOf p = 0 → True ∧ True ∧ True ∧ True ∧ True ∧ (false = posB p ∧ ([] : List (Int × Int)) = posK p ∧ errOf p = errOf p ∧ True) ∧ True) ∧ (¬¬errOf p = 0 → ((True ∧ ((True ∧ True) ∧ (True ∧ ((((isPoly p ∧ memoOk p [] ∧ P71.coverB p = false) ∧ (True ∧ ((0 : Int) = 0 ∧ (0 : Int) = 0 ∧ True) ∧ (True ∧ True) ∧ True) ∧ (p = p ∧ True ∧ True) ∧ ([] : List ((Int × Int) × List (Int × Int))) = [] ∧ True) ∧ True ∧ True ∧ True) ∧ (True ∧ (p = p ∧ false = false ∧ True ∧ (0 : Int) = 0 ∧ errOf p = errOf p ∧ True ∧ p = p ∧ errOf p = errOf p ∧ errOf p = errOf p ∧ false = false ∧ p = p ∧ True ∧ ((0 : Int) = 0 ∧ (0 : Int) = 0 ∧ True) ∧ True ∧ True) ∧ (p = p ∧ True ∧ True) ∧ P71.coverM p [] = P71.coverM p [] ∧ True) ∧ True) ∧ True) ∧ True) ∧ (True ∧ ((True ∧ True) ∧ ((((isPoly p ∧ memoOk p [] ∧ P71.coverB p = false) ∧ (True ∧ ((0 : Int) = 0 ∧ (0 : Int) = 0 ∧ True) ∧ (True ∧ True) ∧ True) ∧ (p = p ∧ True ∧ True) ∧ ([] : List ((Int × Int) × List (Int × Int))) = [] ∧ True) ∧ True ∧ True ∧ True) ∧ (True ∧ (p = p ∧ false = false ∧ True ∧ (0 : Int) = 0 ∧ errOf p = errOf p ∧ True ∧ p = p ∧ errOf p = errOf p ∧ errOf p = errOf p ∧ false = false ∧ p = p ∧ True ∧ ((0 : Int) = 0 ∧ (0 : Int) = 0 ∧ True) ∧ True ∧ True) ∧ (p = p ∧ True ∧ True) ∧ P71.coverM p [] = P71.coverM p [] ∧ True) ∧ True) ∧ True) ∧ True) ∧ True) ∧ (True ∧ (True ∧ ((True ∧ True) ∧ ((((isPoly p ∧ memoOk p [] ∧ P71.coverB p = false) ∧ (True ∧ ((0 : Int) = 0 ∧ (0 : Int) = 0 ∧ True) ∧ (True ∧ True) ∧ True) ∧ (p = p ∧ True ∧ True) ∧ ([] : List ((Int × Int) × List (Int × Int))) = [] ∧ True) ∧ True ∧ True ∧ True) ∧ (True ∧ (p = p ∧ false = false ∧ True ∧ (0 : Int) = 0 ∧ errOf p = errOf p ∧ True ∧ p = p ∧ errOf p = errOf p ∧ errOf p = errOf p ∧ false = false ∧ p = p ∧ True ∧ ((0 : Int) = 0 ∧ (0 : Int) = 0 ∧ True) ∧ True ∧ True) ∧ (p = p ∧ True ∧ True) ∧ P71.coverM p [] = P71.coverM p [] ∧ True) ∧ True) ∧ True) ∧ True) ∧ True) ∧ True) ∧ True ∧ True ∧ True ∧ ((1 : Nat) ≤ 1000000 ∧ True) ∧ True ∧ True ∧ True ∧ True ∧ (false = posB p ∧ ([] : List (Int × Int)) = posK p ∧ (0 : Int) = errOf p ∧ True) ∧ True)) (by kernel_rfl) ?_
   simp only [true_and, and_true, false_and, and_false, or_false, false_or, exists_const, exists_false, rat_num_den, rat_int, Int.toNat_natCast]
   refine ⟨by omega, fun he => ?_, fun he => ?_⟩
   · have := errOf_pos he
     simp [posK, posB, this]
   · have hp := errOf_zero he
     exact ⟨⟨⟨⟨hp, memoOk_nil p, hb⟩, ⟨hp, memoOk_nil p, hb⟩⟩, ⟨hp, memoOk_nil p, hb⟩⟩, by omega, by simp [posB, hp, hb], by simp [posK, posB, hp, hb], by simp [errOf, hp]⟩
def e26 : Entry Tryd.prog gl := entry1 26 ⟨Tryd.f26, by kernel_rfl, by kernel_rfl, by kernel_rfl⟩ SI (fun p => p.length < 1000000) false (fun p => [.bool (posB p), .sl Q2 (posK p), .int .i64 (errOf p)]) (fun _ => []) (call26)
def ob68 (p : List Int) (m : Memo) : List Ob := [.bx (.ptr 1 0 []), cvB p 2, mmO m]
def cgz (p : List Int) (q : PQ) : Bool := decide (chg (qc p q.1.toNat q.2.toNat) = 0)
def cmq (p : List Int) (m : Memo) (q : PQ) : Memo := cm p q.1.toNat q.2.toNat m
theorem call68 (p : List Int) (m : Memo) (q : PQ) (h : pre69 7 p m q) : GCall Tryd.prog gl 68 false [ofD FR q, .ptr 0 0 []] (ob68 p m) [.bool (cgz p q)] (ob68 p (cmq p m q)) := by
 refine gcall_of (X := (Xm [e69, e65] 3 (fun _ => none))) ((Xm_ok _ _ _)) (f := 68) (fn := Tryd.f68) (c := bodyOf Tryd.f68) (by kernel_rfl) (by kernel_rfl) (view := false) (rvs := [.tmp 3]) (by kernel_rfl) (H := fun _ => none) 80 (by kernel_rfl) ?_
 refine of_eq (q := True ∧ True ∧ True ∧ True ∧ ((isPoly p ∧ isPiece (q.fst, q.snd) ∧ q.fst < 7 ∧ memoOk p m) ∧ True ∧ True ∧ True) ∧ ((qc p (Int.toNat q.fst) (Int.toNat q.snd)).length + 1 ≤ 1000000 ∧ True) ∧ True ∧ True ∧ True ∧ (decide ((↑(chg (qc p (Int.toNat q.fst) (Int.toNat q.snd))) : Int) = 0) = cgz p q ∧ True) ∧ True ∧ (p = p ∧ True ∧ True) ∧ cm p (Int.toNat q.fst) (Int.toNat q.snd) m = cmq p m q ∧ True) (by kernel_rfl) ?_
 simp only [true_and, and_true, false_and, and_false, or_false, false_or, exists_const, exists_false, rat_num_den, rat_int, Int.toNat_natCast]
 have hln := qc_length p q.1.toNat q.2.toNat
 have := h.1.2.1
 refine ⟨⟨h.1, h.2.1, h.2.2.1, h.2.2.2⟩, by omega, ?_, rfl⟩
 unfold cgz; simp
def get68 (xs : List AV) (obs : List Ob) : Option (PQ × List Int × Memo) :=
 match xs with
 | [x, _] => (match toD FR x, unCvB (obs.getD 1 .gone), unMm (obs.getD 2 .gone) with
   | some q, some p, some m => some (q, p, m)
   | _, _, _ => none)
 | _ => none
theorem en68 : Enters Tryd.prog 68 := ⟨Tryd.f68, by kernel_rfl, by kernel_rfl, by kernel_rfl⟩
def e68 : Entry Tryd.prog gl := entryW 68 en68 true get68 (fun x => pre69 7 x.2.1 x.2.2 x.1) false (fun x => [ofD FR x.1, .ptr 0 0 []]) (fun x => ob68 x.2.1 x.2.2) (fun x => [.bool (cgz x.2.1 x.1)]) (fun x => ob68 x.2.1 (cmq x.2.1 x.2.2 x.1)) (fun x h => call68 x.2.1 x.2.2 x.1 h)
/-- Pieces of a list, one after the other. -/
def cms (p : List Int) (l : List PQ) (m : Memo) : Memo := l.foldl (cmq p) m
def pcs (p : List Int) (l : List PQ) : Prop := isPoly p ∧ l.length < 1000000 ∧ ∀ q ∈ l, isPiece q
theorem cmq_ok {p : List Int} {m : Memo} {q : PQ} (hm : memoOk p m) : memoOk p (cmq p m q) := cm_ok hm
theorem cms_ok {p : List Int} : ∀ {l : List PQ} {m : Memo}, memoOk p m → memoOk p (cms p l m)
 | [], m, h => h
 | q :: l, m, h => cms_ok (l := l) (cmq_ok h)
theorem cms_snoc (p : List Int) (l : List PQ) (q : PQ) (m : Memo) : cms p (l ++ [q]) m = cmq p (cms p l m) q := by simp [cms, List.foldl_append]
def zIdx (p : List Int) (l : List PQ) : Nat := l.findIdx (cgz p)
def zIdxR (p : List Int) (l : List PQ) : Int := if ∃ q ∈ l, cgz p q = true then (zIdx p l : Int) else -1
def obD (v : Nat) (l : List PQ) (p : List Int) (m : Memo) : List Ob := [pieO v l, .bx (.ptr 2 0 []), cvB p 3, mmO m]
def clo68 : AV := .clo 68 [] [.ptr 1 0 []]
theorem find_b {f : PQ → Bool} {l : List PQ} {k : Nat} (hk : k < l.length) (h : ∀ x ∈ l.take k, f x = false) (hx : f (l.getD k (0, 0)) = true) : l.findIdx f = k := by
 induction l generalizing k with
 | nil => simp at hk
 | cons a l ih =>
   cases k with
   | zero => simp at hx; simp [List.findIdx_cons, hx]
   | succ k =>
     have ha : f a = false := h a (by simp)
     rw [List.findIdx_cons, ha]
     simp only [cond_false]
     rw [ih (by simpa using hk) (fun x hx => h x (by simp [hx])) (by simpa using hx)]
theorem find_none {f : PQ → Bool} : ∀ {l : List PQ}, (∀ x ∈ l, f x = false) → l.findIdx f = l.length
 | [], _ => rfl
 | a :: l, h => by
   rw [List.findIdx_cons, h a (by simp)]
   simp only [cond_false]
   rw [find_none fun x hx => h x (by simp [hx])]; try rfl
theorem take_memD {l : List PQ} {k : Nat} {P : PQ → Prop} (hk : k < l.length) (h : ∀ q ∈ l.take k, P q) (hx : P (l.getD k (0, 0))) : ∀ q ∈ l.take (k + 1), P q := by
 rw [take_getD (d := (0, 0)) hk]
 intro q hq
 simp only [List.mem_append, List.mem_singleton] at hq
 rcases hq with hq | hq
 · exact h q hq
 · rw [hq]; exact hx
noncomputable def L93_0 : Code := lp (bodyOf Tryd.f93) 0
def inv93 (p : List Int) (l : List PQ) (k : Nat) : Prop := k ≤ l.length ∧ ∀ q ∈ l.take k, cgz p q = false
def st93 (p : List Int) (l : List PQ) (m : Memo) (k : Nat) : St := ⟨.own 0 0 :: clo68 :: .dead :: .dead :: .dead :: .dead :: .dead :: .int .i64 l.length :: .int .i64 k :: dd 10, obD 0 l p (cms p (l.take k) m)⟩
def ex93 (p : List Int) (l : List PQ) (m : Memo) : List (List Nat × Ex) := [([], ⟨0, Unit, fun _ => ∀ q ∈ l, cgz p q = false, fun _ => ⟨dd 19, obD 0 l p (cms p l m)⟩⟩)]
noncomputable def H93 (p : List Int) (l : List PQ) (m : Memo) : Nat → Option Hint := fun _ => some ⟨chk 4 [0, 1, 7, 8] (inv93 p l) (st93 p l m), (ex93 p l m).map (·.2)⟩
theorem loop93 (p : List Int) (l : List PQ) (m : Memo) (hp : pcs p l) (hm : memoOk p m) : LoopOK (Xm [e68] 4 (fun _ => none)) L93_0 ⟨chk 4 [0, 1, 7, 8] (inv93 p l) (st93 p l m), (ex93 p l m).map (·.2)⟩
   (RetR (Xm [e68] 4 (fun _ => none)) false false [.tmp 4] [.int .i64 (zIdxR p l)] (obD 0 l p (cms p (l.take (zIdx p l + 1)) m))) := by
 refine loop_ok (Xm_ok _ _ _) (H := fun _ _ => none) [0, 1, 7, 8] (inv93 p l) (st93 p l m) (fun k => l.length - k) (ex93 p l m) 90 fun (k : Nat) hk => ?_
 refine of_eq (q := True ∧ ((k : Int) < (l.length : Int) → True ∧ True ∧ True ∧ True ∧ True ∧ idxPre (k : Int) l.length ∧ True ∧ ((pre69 (7 : Int) p (cms p (List.take k l) m) ((l.getD k (0, 0)).fst, (l.getD k (0, 0)).snd) ∧ (((l.getD k (0, 0)).fst = (l.getD k (0, 0)).fst ∧ (l.getD k (0, 0)).snd = (l.getD k (0, 0)).snd ∧ True) ∧ True ∧ True) ∧ True ∧ (p = p ∧ True ∧ True) ∧ cms p (List.take k l) m = cms p (List.take k l) m ∧ True) ∧ True ∧ True ∧ True ∧ True) ∧ (cgz p ((l.getD k (0, 0)).fst, (l.getD k (0, 0)).snd) = true → True ∧ True ∧ True ∧ ((k : Int) = zIdxR p l ∧ True) ∧ l = l ∧ True ∧ (p = p ∧ True ∧ True) ∧ cmq p (cms p (List.take k l) m) ((l.getD k (0, 0)).fst, (l.getD k (0, 0)).snd) = cms p (List.take (zIdx p l + 1) l) m ∧ True) ∧ (cgz p ((l.getD k (0, 0)).fst, (l.getD k (0, 0)).snd) = false → inR .i64 ((k : Int) + 1) ∧ True ∧ ∃ (y : Nat), (inv93 p l y ∧ l.length - y < l.length - k) ∧ (True ∧ (True ∧ True ∧ True) ∧ (l.length : Int) = (l.length : Int) ∧ (k : Int) + 1 = (y : Int) ∧ True) ∧ l = l ∧ True ∧ (p = p ∧ True ∧ True) ∧ cmq p (cms p (List.take k l) m) ((l.getD k (0, 0)).fst, (l.getD k (0, 0)).snd) = cms p (List.take y l) m ∧ True)) ∧ (¬(k : Int) < (l.length : Int) → ∃ (y : Unit), (∀ (q : PQ), q ∈ l → cgz p q = false) ∧ True ∧ l = l ∧ True ∧ (p = p ∧ True ∧ True) ∧ cms p (List.take k l) m = cms p l m ∧ True)) (by kernel_rfl) ?_
 simp only [true_and, and_true, false_and, and_false, or_false, false_or, exists_const, exists_false, rat_num_den, rat_int, Int.toNat_natCast]
 obtain ⟨h1, h2⟩ := hk
 have hz : ∀ k, k < l.length → l.getD k (0, 0) ∈ l := fun k hk => getD_mem hk
 refine ⟨fun hk => ?_, fun hk => ?_⟩
 · have hk : k < l.length := by omega
   have hmem := hz k hk
   have hpc := hp.2.2 _ hmem
   have hl := hp.2.1
   have e1 : ((l.getD k (0, 0)).1, (l.getD k (0, 0)).2) = l.getD k (0, 0) := rfl
   rw [e1]
   refine ⟨by unfold idxPre; omega, ⟨hp.1, hpc, by have := hpc.2.1; omega, cms_ok hm⟩, fun hx => ?_, fun hx => ⟨by simp only [inR]; omega, k + 1, ⟨⟨by omega, take_memD hk h2 hx⟩, by omega⟩, by omega, ?_⟩⟩
   · have hf := find_b hk h2 hx
     have : ∃ q ∈ l, cgz p q = true := ⟨_, hmem, hx⟩
     refine ⟨by unfold zIdxR; rw [if_pos this]; unfold zIdx; rw [hf], ?_⟩
     unfold zIdx
     rw [hf, take_getD (d := (0, 0)) hk, cms_snoc]
   · rw [take_getD (d := (0, 0)) hk, cms_snoc]
 · have : l.take k = l := List.take_of_length_le (by omega)
   rw [this] at h2
   rw [this]
   exact ⟨h2, rfl⟩
theorem call93 (p : List Int) (l : List PQ) (m : Memo) (hp : pcs p l) (hm : memoOk p m) : GCall Tryd.prog gl 93 false [.own 0 0, clo68] (obD 0 l p m) [.int .i64 (zIdxR p l)] (obD 0 l p (cms p (l.take (zIdx p l + 1)) m)) := by
 refine gcall_of (X := (Xm [e68] 4 (fun _ => none))) ((Xm_ok _ _ _)) (f := 93) (fn := Tryd.f93) (c := bodyOf Tryd.f93) (by kernel_rfl) (by kernel_rfl) (view := false) (rvs := [.tmp 4]) (by kernel_rfl) (H := (H93 p l m)) 80 (by kernel_rfl) ?_
 have hL := loop93 p l m hp hm
 refine of_eq (q := True ∧ True ∧ True ∧ True ∧ LoopOK (Xm [e68] (4 : Nat) fun (x : Nat) => none) L93_0 { J := chk (4 : Nat) [(0 : Nat), (1 : Nat), (7 : Nat), (8 : Nat)] (inv93 p l) (st93 p l m), exits := List.map (fun (x : List Nat × Ex) => x.snd) (ex93 p l m) } (RetR (Xm [e68] (4 : Nat) fun (x : Nat) => none) false false [ResultVar.tmp (4 : Tmp)] [AV.int .i64 (zIdxR p l)] (obD (0 : Nat) l p (cms p (List.take (zIdx p l + 1) l) m))) ∧ (∃ (y : Nat), inv93 p l y ∧ (True ∧ (True ∧ True ∧ True) ∧ (l.length : Int) = (l.length : Int) ∧ (0 : Int) = (y : Int) ∧ True) ∧ l = l ∧ True ∧ (p = p ∧ True ∧ True) ∧ m = cms p (List.take y l) m ∧ True) ∧ (∀ (y : Unit), (∀ (q : PQ), q ∈ l → cgz p q = false) → True ∧ True ∧ ((-1 : Int) = zIdxR p l ∧ True) ∧ l = l ∧ True ∧ (p = p ∧ True ∧ True) ∧ cms p l m = cms p (List.take (zIdx p l + 1) l) m ∧ True) ∧ True) (by kernel_rfl) ?_
 simp only [true_and, and_true, false_and, and_false, or_false, false_or, exists_const, exists_false, rat_num_den, rat_int, Int.toNat_natCast]
 refine ⟨hL, ⟨0, ⟨by omega, by simp⟩, rfl, rfl⟩, fun _ h => ⟨?_, ?_⟩⟩
 · unfold zIdxR; rw [if_neg]
   rintro ⟨q, h1, h2⟩
   rw [h q h1] at h2; cases h2
 · have : zIdx p l = l.length := find_none h
   rw [this, List.take_of_length_le (by omega)]
def get93 (xs : List AV) (obs : List Ob) : Option (List Int × List PQ × Memo) :=
 match unCvB (obs.getD 2 .gone), unPie (obs.getD 0 .gone), unMm (obs.getD 3 .gone) with
 | some p, some l, some m => some (p, l, m)
 | _, _, _ => none
theorem en93 : Enters Tryd.prog 93 := ⟨Tryd.f93, by kernel_rfl, by kernel_rfl, by kernel_rfl⟩
def e93 : Entry Tryd.prog gl := entryW 93 en93 true get93 (fun x => pcs x.1 x.2.1 ∧ memoOk x.1 x.2.2) false (fun _ => [.own 0 0, clo68]) (fun x => obD 0 x.2.1 x.1 x.2.2) (fun x => [.int .i64 (zIdxR x.1 x.2.1)]) (fun x => obD 0 x.2.1 x.1 (cms x.1 (x.2.1.take (zIdx x.1 x.2.1 + 1)) x.2.2)) (fun x h => call93 x.1 x.2.1 x.2.2 h.1 h.2)
def keep (p : List Int) (l : List PQ) : List PQ := l.filter fun q => !cgz p q
/-- What the list holds when its first j have been looked at. -/
def mid67 (p : List Int) (l : List PQ) (j : Nat) : List PQ := keep p (l.take j) ++ l.drop (keep p (l.take j)).length
def nz67 (p : List Int) (l : List PQ) : List PQ := keep p l ++ List.replicate (l.length - (keep p l).length) (0, 0)
theorem keep_le (p : List Int) (l : List PQ) (j : Nat) : (keep p (l.take j)).length ≤ j ∧ (keep p (l.take j)).length ≤ l.length := by
 have h1 : (keep p (l.take j)).length ≤ (l.take j).length := List.length_filter_le ..
 rw [List.length_take] at h1
 omega
theorem mid_length (p : List Int) (l : List PQ) (j : Nat) : (mid67 p l j).length = l.length := by
 have := keep_le p l j
 unfold mid67; rw [List.length_append, List.length_drop]; omega
theorem mid_getD (p : List Int) (l : List PQ) {j : Nat} : (mid67 p l j).getD j (0, 0) = l.getD j (0, 0) := by
 have := keep_le p l j
 unfold mid67
 simp only [List.getD_eq_getElem?_getD]
 rw [List.getElem?_append_right (by omega), List.getElem?_drop, show (keep p (l.take j)).length + (j - (keep p (l.take j)).length) = j by omega]
theorem keep_next (p : List Int) {l : List PQ} {j : Nat} (hj : j < l.length) : keep p (l.take (j + 1)) = if cgz p (l.getD j (0, 0)) then keep p (l.take j) else keep p (l.take j) ++ [l.getD j (0, 0)] := by
 rw [take_getD (d := (0, 0)) hj]
 unfold keep
 rw [List.filter_append]
 cases h : cgz p (l.getD j (0, 0)) with
 | true => rw [if_pos rfl, List.filter_cons]; simp only [h, Bool.not_true, Bool.false_eq_true, if_false, List.filter_nil, List.append_nil]
 | false => rw [if_neg (by simp), List.filter_cons]; simp only [h, Bool.not_false, if_true, List.filter_nil]
theorem mid_set (p : List Int) {l : List PQ} {j : Nat} (hj : j < l.length) (h : cgz p (l.getD j (0, 0)) = false) : (mid67 p l j).set (keep p (l.take j)).length (l.getD j (0, 0)) = mid67 p l (j + 1) := by
 have hle := keep_le p l j
 have hk := keep_next p hj
 rw [if_neg (by rw [h]; simp)] at hk
 unfold mid67
 rw [hk]
 rw [List.set_append_right _ _ (Nat.le_refl _), Nat.sub_self, List.length_append, List.append_assoc]
 congr 1
 have : l.drop (keep p (l.take j)).length = l.getD (keep p (l.take j)).length (0, 0) :: l.drop ((keep p (l.take j)).length + 1) := by
   rw [List.drop_eq_getElem_cons (by omega)]
   congr 1
   simp [List.getD_eq_getElem?_getD, show (keep p (l.take j)).length < l.length by omega]
 rw [this]
 rfl
theorem z_facts {p : List Int} {l : List PQ} (h : ∃ q ∈ l, cgz p q = true) : zIdx p l < l.length ∧ cgz p (l.getD (zIdx p l) (0, 0)) = true ∧ ∀ q ∈ l.take (zIdx p l), cgz p q = false := by
 have h1 : zIdx p l < l.length := List.findIdx_lt_length_of_exists h
 refine ⟨h1, ?_, fun q hq => ?_⟩
 · have := List.findIdx_getElem (w := h1)
   rw [List.getD_eq_getElem?_getD, List.getElem?_eq_getElem h1]
   exact this
 · obtain ⟨i, hi, rfl⟩ := List.getElem_of_mem hq
   rw [List.length_take] at hi
   rw [List.getElem_take]
   have hlt : i < l.findIdx (cgz p) := by
     have : i < zIdx p l := by omega
     exact this
   have := List.not_of_lt_findIdx hlt
   simpa using this
theorem keep_all (p : List Int) : ∀ {l : List PQ}, (∀ q ∈ l, cgz p q = false) → keep p l = l
 | [], _ => rfl
 | q :: l, h => by
   unfold keep
   rw [List.filter_cons, h q (by simp)]
   simp only [Bool.not_false, if_true]
   congr 1
   exact keep_all p fun q hq => h q (by simp [hq])
theorem call67a (p : List Int) (l : List PQ) (m : Memo) (hp : pcs p l) (hm : memoOk p m) (hz : ∀ q ∈ l, cgz p q = false) : GCall Tryd.prog gl 67 false [.own 0 0, clo68] (obD 0 l p m) [.own 0 0] (obD 0 l p (cms p l m)) := by
 refine gcall_of (X := (Xm [e93, e68] 4 (fun _ => none))) ((Xm_ok _ _ _)) (f := 67) (fn := Tryd.f67) (c := bodyOf Tryd.f67) (by kernel_rfl) (by kernel_rfl) (view := false) (rvs := [.tmp 4]) (by kernel_rfl) (H := fun _ => none) 80 (by kernel_rfl) ?_
 refine of_eq (q := True ∧ True ∧ True ∧ (((pcs p l ∧ memoOk p m) ∧ (True ∧ (True ∧ True ∧ True) ∧ True) ∧ l = l ∧ True ∧ (p = p ∧ True ∧ True) ∧ m = m ∧ True) ∧ l.length = l.length ∧ True ∧ True ∧ True ∧ True) ∧ True ∧ True ∧ True ∧ (zIdxR p l = (-1 : Int) → True ∧ True ∧ True ∧ (True ∧ True) ∧ l = l ∧ True ∧ (p = p ∧ True ∧ True) ∧ cms p (List.take (zIdx p l + 1) l) m = cms p l m ∧ True) ∧ (¬zIdxR p l = (-1 : Int) → True ∧ inR .i64 (zIdxR p l + 1) ∧ True ∧ False)) (by kernel_rfl) ?_
 simp only [true_and, and_true, false_and, and_false, or_false, false_or, exists_const, exists_false, rat_num_den, rat_int, Int.toNat_natCast]
 have h1 : zIdx p l = l.length := find_none hz
 refine ⟨⟨hp, hm⟩, fun _ => by rw [h1, List.take_of_length_le (by omega)], fun h => h ?_⟩
 unfold zIdxR; rw [if_neg]
 rintro ⟨q, h1, h2⟩
 rw [hz q h1] at h2; cases h2
noncomputable def L67_0 : Code := lp (bodyOf Tryd.f67) 0
def inv67 (p : List Int) (l : List PQ) (j : Nat) : Prop := zIdx p l + 1 ≤ j ∧ j ≤ l.length
def st67 (p : List Int) (l : List PQ) (m : Memo) (j : Nat) : St := ⟨.own 0 0 :: clo68 :: .dead :: .dead :: .dead :: .int .i64 (keep p (l.take j)).length :: .int .i64 j :: dd 35, obD 0 (mid67 p l j) p (cms p (l.take j) m)⟩
def ex67 (p : List Int) (l : List PQ) (m : Memo) : List (List Nat × Ex) := [([0, 1, 5], ⟨0, Unit, fun _ => True, fun _ => ⟨.own 0 0 :: clo68 :: .dead :: .dead :: .dead :: .int .i64 (keep p l).length :: dd 36, obD 0 (mid67 p l l.length) p (cms p l m)⟩⟩)]
noncomputable def H67 (p : List Int) (l : List PQ) (m : Memo) : Nat → Option Hint := fun _ => some ⟨chk 4 [0, 1, 5, 6] (inv67 p l) (st67 p l m), (ex67 p l m).map (·.2)⟩
theorem loop67 (p : List Int) (l : List PQ) (m : Memo) (hp : pcs p l) (hm : memoOk p m) (R : Exit → St → Prop) : LoopOK (Xm [e93, e68] 4 (fun _ => none)) L67_0 ⟨chk 4 [0, 1, 5, 6] (inv67 p l) (st67 p l m), (ex67 p l m).map (·.2)⟩ R := by
 refine loop_ok (Xm_ok _ _ _) (H := fun _ _ => none) [0, 1, 5, 6] (inv67 p l) (st67 p l m) (fun k => l.length - k) (ex67 p l m) 90 fun (j : Nat) hk => ?_
 refine of_eq (q := True ∧ True ∧ True ∧ True ∧ ((j : Int) < (↑(mid67 p l j).length : Int) → True ∧ True ∧ idxPre (j : Int) (mid67 p l j).length ∧ True ∧ True ∧ True ∧ True ∧ True ∧ ((pre69 (7 : Int) p (cms p (List.take j l) m) (((mid67 p l j).getD j (0, 0)).fst, ((mid67 p l j).getD j (0, 0)).snd) ∧ ((((mid67 p l j).getD j (0, 0)).fst = ((mid67 p l j).getD j (0, 0)).fst ∧ ((mid67 p l j).getD j (0, 0)).snd = ((mid67 p l j).getD j (0, 0)).snd ∧ True) ∧ True ∧ True) ∧ True ∧ (p = p ∧ True ∧ True) ∧ cms p (List.take j l) m = cms p (List.take j l) m ∧ True) ∧ True ∧ True ∧ True ∧ True) ∧ True ∧ ((!cgz p (((mid67 p l j).getD j (0, 0)).fst, ((mid67 p l j).getD j (0, 0)).snd)) = true → True ∧ True ∧ True ∧ idxPre (↑(keep p (List.take j l)).length : Int) (mid67 p l j).length ∧ True ∧ True ∧ inR .i64 ((↑(keep p (List.take j l)).length : Int) + 1) ∧ True ∧ True ∧ inR .i64 ((j : Int) + 1) ∧ True ∧ ∃ (y : Nat), (inv67 p l y ∧ l.length - y < l.length - j) ∧ (True ∧ (True ∧ True ∧ True) ∧ (↑(keep p (List.take j l)).length : Int) + 1 = (↑(keep p (List.take y l)).length : Int) ∧ (j : Int) + 1 = (y : Int) ∧ True) ∧ (mid67 p l j).set (keep p (List.take j l)).length (((mid67 p l j).getD j (0, 0)).fst, ((mid67 p l j).getD j (0, 0)).snd) = mid67 p l y ∧ True ∧ (p = p ∧ True ∧ True) ∧ cmq p (cms p (List.take j l) m) (((mid67 p l j).getD j (0, 0)).fst, ((mid67 p l j).getD j (0, 0)).snd) = cms p (List.take y l) m ∧ True) ∧ ((!cgz p (((mid67 p l j).getD j (0, 0)).fst, ((mid67 p l j).getD j (0, 0)).snd)) = false → True ∧ inR .i64 ((j : Int) + 1) ∧ True ∧ ∃ (y : Nat), (inv67 p l y ∧ l.length - y < l.length - j) ∧ (True ∧ (True ∧ True ∧ True) ∧ (↑(keep p (List.take j l)).length : Int) = (↑(keep p (List.take y l)).length : Int) ∧ (j : Int) + 1 = (y : Int) ∧ True) ∧ mid67 p l j = mid67 p l y ∧ True ∧ (p = p ∧ True ∧ True) ∧ cmq p (cms p (List.take j l) m) (((mid67 p l j).getD j (0, 0)).fst, ((mid67 p l j).getD j (0, 0)).snd) = cms p (List.take y l) m ∧ True)) ∧ (¬(j : Int) < (↑(mid67 p l j).length : Int) → ∃ (y : Unit), True ∧ (True ∧ (True ∧ True ∧ True) ∧ (↑(keep p (List.take j l)).length : Int) = (↑(keep p l).length : Int) ∧ True) ∧ mid67 p l j = mid67 p l l.length ∧ True ∧ (p = p ∧ True ∧ True) ∧ cms p (List.take j l) m = cms p l m ∧ True)) (by kernel_rfl) ?_
 simp only [true_and, and_true, false_and, and_false, or_false, false_or, exists_const, exists_false, rat_num_den, rat_int, Int.toNat_natCast]
 obtain ⟨h1, h2⟩ := hk
 have hle := keep_le p l j
 have hl := hp.2.1
 rw [mid_length, mid_getD]
 have e1 : ((l.getD j (0, 0)).1, (l.getD j (0, 0)).2) = l.getD j (0, 0) := rfl
 rw [e1]
 refine ⟨fun hj => ?_, fun hj => ?_⟩
 · have hj : j < l.length := by omega
   have hpc := hp.2.2 _ (getD_mem (d := (0, 0)) hj)
   have hn := keep_next p hj
   have hc : cmq p (cms p (l.take j) m) (l.getD j (0, 0)) = cms p (l.take (j + 1)) m := by rw [take_getD (d := (0, 0)) hj, cms_snoc]
   refine ⟨by unfold idxPre; omega, ⟨hp.1, hpc, by have := hpc.2.1; omega, cms_ok hm⟩, fun hx => ?_, fun hx => ?_⟩
   · have hx : cgz p (l.getD j (0, 0)) = false := by simpa using hx
     rw [if_neg (by rw [hx]; simp)] at hn
     refine ⟨by unfold idxPre; omega, by simp only [inR]; omega, by simp only [inR]; omega, j + 1, ⟨⟨by omega, by omega⟩, by omega⟩, ⟨by rw [hn]; simp, by omega⟩, mid_set p hj hx, hc⟩
   · have hx : cgz p (l.getD j (0, 0)) = true := by simpa using hx
     rw [if_pos hx] at hn
     refine ⟨by simp only [inR]; omega, j + 1, ⟨⟨by omega, by omega⟩, by omega⟩, ⟨by rw [hn], by omega⟩, by unfold mid67; rw [hn], hc⟩
 · have e : j = l.length := by omega
   subst e
   rw [List.take_length]
   exact ⟨rfl, rfl, rfl⟩
theorem call67b (p : List Int) (l : List PQ) (m : Memo) (hp : pcs p l) (hm : memoOk p m) (hz : ∃ q ∈ l, cgz p q = true) : GCall Tryd.prog gl 67 false [.own 0 0, clo68] (obD 0 l p m) [.sub 0 0 [] 0 (keep p l).length] (obD 0 (nz67 p l) p (cms p l m)) := by
 refine gcall_of (X := (Xm [e93, e68] 4 (fun _ => none))) ((Xm_ok _ _ _)) (f := 67) (fn := Tryd.f67) (c := bodyOf Tryd.f67) (by kernel_rfl) (by kernel_rfl) (view := false) (rvs := [.tmp 4]) (by kernel_rfl) (H := (H67 p l m)) 80 (by kernel_rfl) ?_
 have hL := loop67 p l m hp hm
 refine of_eq (q := True ∧ True ∧ True ∧ (((pcs p l ∧ memoOk p m) ∧ (True ∧ (True ∧ True ∧ True) ∧ True) ∧ l = l ∧ True ∧ (p = p ∧ True ∧ True) ∧ m = m ∧ True) ∧ l.length = l.length ∧ True ∧ True ∧ True ∧ True) ∧ True ∧ True ∧ True ∧ (zIdxR p l = (-1 : Int) → True ∧ True ∧ True ∧ (False ∧ True) ∧ l = nz67 p l ∧ True ∧ (p = p ∧ True ∧ True) ∧ cms p (List.take (zIdx p l + 1) l) m = cms p l m ∧ True) ∧ (¬zIdxR p l = (-1 : Int) → True ∧ inR .i64 (zIdxR p l + 1) ∧ True ∧ LoopOK (Xm [e93, e68] (4 : Nat) fun (x : Nat) => none) L67_0 { J := chk (4 : Nat) [(0 : Nat), (1 : Nat), (5 : Nat), (6 : Nat)] (inv67 p l) (st67 p l m), exits := List.map (fun (x : List Nat × Ex) => x.snd) (ex67 p l m) } (RetR (Xm [e93, e68] (4 : Nat) fun (x : Nat) => none) false false [ResultVar.tmp (4 : Tmp)] [AV.sub (0 : Nat) (0 : Nat) [] (0 : Nat) (keep p l).length] (obD (0 : Nat) (nz67 p l) p (cms p l m))) ∧ (∃ (y : Nat), inv67 p l y ∧ (True ∧ (True ∧ True ∧ True) ∧ zIdxR p l = (↑(keep p (List.take y l)).length : Int) ∧ zIdxR p l + 1 = (y : Int) ∧ True) ∧ l = mid67 p l y ∧ True ∧ (p = p ∧ True ∧ True) ∧ cms p (List.take (zIdx p l + 1) l) m = cms p (List.take y l) m ∧ True) ∧ (∀ (y : Unit), True → True ∧ True ∧ slPre (mid67 p l l.length).length (mid67 p l l.length).length (some (↑(keep p l).length : Int)) none none ∧ True ∧ True ∧ True ∧ slPre (List.take (bLo (some (↑(keep p l).length : Int))) (mid67 p l l.length) ++ (List.take (bHi (mid67 p l l.length).length none - bLo (some (↑(keep p l).length : Int))) (List.replicate (bHi (mid67 p l l.length).length none - bLo (some (↑(keep p l).length : Int))) ((Ty.int .i64).s2 (Ty.int .i64)).dflt) ++ List.drop (bLo (some (↑(keep p l).length : Int)) + (bHi (mid67 p l l.length).length none - bLo (some (↑(keep p l).length : Int)))) (mid67 p l l.length))).length (List.take (bLo (some (↑(keep p l).length : Int))) (mid67 p l l.length) ++ (List.take (bHi (mid67 p l l.length).length none - bLo (some (↑(keep p l).length : Int))) (List.replicate (bHi (mid67 p l l.length).length none - bLo (some (↑(keep p l).length : Int))) ((Ty.int .i64).s2 (Ty.int .i64)).dflt) ++ List.drop (bLo (some (↑(keep p l).length : Int)) + (bHi (mid67 p l l.length).length none - bLo (some (↑(keep p l).length : Int)))) (mid67 p l l.length))).length none (some (↑(keep p l).length : Int)) none ∧ True ∧ True ∧ ((bLo none = 0 ∧ bHi (List.take (bLo (some (↑(keep p l).length : Int))) (mid67 p l l.length) ++ (List.take (bHi (mid67 p l l.length).length none - bLo (some (↑(keep p l).length : Int))) (List.replicate (bHi (mid67 p l l.length).length none - bLo (some (↑(keep p l).length : Int))) ((Ty.int .i64).s2 (Ty.int .i64)).dflt) ++ List.drop (bLo (some (↑(keep p l).length : Int)) + (bHi (mid67 p l l.length).length none - bLo (some (↑(keep p l).length : Int)))) (mid67 p l l.length))).length (some (↑(keep p l).length : Int)) - bLo none = (keep p l).length) ∧ True) ∧ List.take (bLo (some (↑(keep p l).length : Int))) (mid67 p l l.length) ++ (List.take (bHi (mid67 p l l.length).length none - bLo (some (↑(keep p l).length : Int))) (List.replicate (bHi (mid67 p l l.length).length none - bLo (some (↑(keep p l).length : Int))) ((Ty.int .i64).s2 (Ty.int .i64)).dflt) ++ List.drop (bLo (some (↑(keep p l).length : Int)) + (bHi (mid67 p l l.length).length none - bLo (some (↑(keep p l).length : Int)))) (mid67 p l l.length)) = nz67 p l ∧ True ∧ (p = p ∧ True ∧ True) ∧ cms p l m = cms p l m ∧ True) ∧ True)) (by kernel_rfl) ?_
 simp only [true_and, and_true, false_and, and_false, or_false, false_or, exists_const, exists_false, rat_num_den, rat_int, Int.toNat_natCast]
 obtain ⟨z1, z2, z3⟩ := z_facts hz
 have hl := hp.2.1
 have hR : zIdxR p l = (zIdx p l : Int) := by unfold zIdxR; rw [if_pos hz]
 have hk0 : keep p (l.take (zIdx p l + 1)) = l.take (zIdx p l) := by
   rw [keep_next p z1, if_pos z2, keep_all p z3]
 have hkl : (keep p l).length ≤ l.length := List.length_filter_le ..
 have hml := mid_length p l l.length
 rw [hR]
 refine ⟨⟨hp, hm⟩, fun h => by omega, fun _ => ⟨by simp only [inR]; omega, hL _, ⟨zIdx p l + 1, ⟨Nat.le_refl _, z1⟩, ⟨by rw [hk0, List.length_take]; omega, by omega⟩, ?_, rfl⟩, fun _ => ?_⟩⟩
 · unfold mid67
   rw [hk0, List.length_take, show min (zIdx p l) l.length = zIdx p l by omega, List.take_append_drop]
 · rw [hml]
   have e0 : bLo (some ((keep p l).length : Int)) = (keep p l).length := by simp [bLo]
   have e1 : bHi l.length none = l.length := rfl
   have e2 : bHi l.length (some ((keep p l).length : Int)) = (keep p l).length := by simp [bHi]
   have e3 : bLo none = 0 := rfl
   rw [e0, e1]
   have e4 : mid67 p l l.length = keep p l ++ l.drop (keep p l).length := by unfold mid67; rw [List.take_length]
   have e5 : List.take (keep p l).length (mid67 p l l.length) ++ (List.take (l.length - (keep p l).length) (List.replicate (l.length - (keep p l).length) ((Ty.int IntKind.i64).s2 (Ty.int IntKind.i64)).dflt) ++ List.drop ((keep p l).length + (l.length - (keep p l).length)) (mid67 p l l.length)) = nz67 p l := by
     rw [e4, List.take_left, List.take_of_length_le (by simp), List.drop_eq_nil_of_le (by simp)]
     simp [nz67, Ty.dflt]
   rw [e5]
   have e6 : (nz67 p l).length = l.length := by unfold nz67; simp; omega
   rw [e6, e2, e3]
   exact fun _ => ⟨by simp only [slPre]; simp [bLo, bHi]; omega, by simp only [slPre]; simp [bLo, bHi]; omega, by omega, rfl⟩
end Go.Am.Bern

/- Bern: Roots, Count. -/
namespace Go.Am.Bern
open Go Go.Am Go.Proofs
theorem grL_piece (gd : List PQ → Bool) (p : List Int) : ∀ (n d k : Nat), d + n = 6 → k < 2 ^ d → ∀ q ∈ grL gd p n d k, isPiece q := by
 have one : ∀ d k : Nat, d ≤ 6 → k < 2 ^ d → isPiece ((d : Int), (k : Int)) := fun d k hd hk => by
   unfold isPiece
   have e : ((2 ^ d : Nat) : Int) = 2 ^ d := by rw [Int.natCast_pow]; try rfl
   simp only [Int.toNat_natCast]
   rw [← e]
   omega
 intro n
 induction n with
 | zero =>
   intro d k hd hk q hq
   unfold grL at hq
   split at hq
   · simp at hq; subst hq; exact one d k (by omega) hk
   · simp at hq
 | succ n ih =>
   intro d k hd hk q hq
   rw [grL_succ] at hq
   have hp : 2 ^ (d + 1) = 2 * 2 ^ d := by rw [Nat.pow_succ]; omega
   split at hq
   · simp at hq; subst hq; exact one d k (by omega) hk
   · unfold hvL at hq
     split at hq
     · rcases List.mem_append.mp hq with hq | hq
       · exact ih (d + 1) (2 * k) (by omega) (by omega) q hq
       · exact ih (d + 1) (2 * k + 1) (by omega) (by omega) q hq
     · exact ih (d + 1) (2 * k) (by omega) (by omega) q hq
theorem en67 : Enters Tryd.prog 67 := ⟨Tryd.f67, by kernel_rfl, by kernel_rfl, by kernel_rfl⟩
def e67a : Entry Tryd.prog gl := entryW 67 en67 true get93 (fun x => pcs x.1 x.2.1 ∧ memoOk x.1 x.2.2 ∧ ∀ q ∈ x.2.1, cgz x.1 q = false) false (fun _ => [.own 0 0, clo68]) (fun x => obD 0 x.2.1 x.1 x.2.2) (fun _ => [.own 0 0]) (fun x => obD 0 x.2.1 x.1 (cms x.1 x.2.1 x.2.2)) (fun x h => call67a x.1 x.2.1 x.2.2 h.1 h.2.1 h.2.2)
def e67b : Entry Tryd.prog gl := entryW 67 en67 true get93 (fun x => pcs x.1 x.2.1 ∧ memoOk x.1 x.2.2 ∧ ∃ q ∈ x.2.1, cgz x.1 q = true) false (fun _ => [.own 0 0, clo68]) (fun x => obD 0 x.2.1 x.1 x.2.2) (fun x => [.sub 0 0 [] 0 (keep x.1 x.2.1).length]) (fun x => obD 0 (nz67 x.1 x.2.1) x.1 (cms x.1 x.2.1 x.2.2)) (fun x h => call67b x.1 x.2.1 x.2.2 h.1 h.2.1 h.2.2)
def rootsB (p : List Int) : Prop := isPoly p ∧ plainP p ∧ P64.coverB p = true
instance (p : List Int) : Decidable (rootsB p) := inferInstanceAs (Decidable (_ ∧ _))
def rootsP (p : List Int) : List PQ := if rootsB p then keep p (P64.coverL p) else []
def rootsE (p : List Int) : Int := if isPoly p then (if plainP p then (if P64.coverB p = true then 0 else 8) else 4) else 80
theorem cover_pcs {p : List Int} (hp : isPoly p) : pcs p (P64.coverL p) := by
 have hlen : (P64.coverL p).length ≤ 64 := grL_len _ p 6 0 0
 exact ⟨hp, by omega, grL_piece _ p 6 0 0 (by omega) (by omega)⟩
theorem call20 (p : List Int) (h : p.length < 1000000) : GCall Tryd.prog gl 20 false [.sl I64 p] [] [.sl Q2 (rootsP p), .int .i64 (rootsE p)] [] := by
 have hlen : (P64.coverL p).length ≤ 64 := grL_len _ p 6 0 0
 have r1 : ¬ isPoly p → rootsP p = [] ∧ rootsE p = errOf p := fun h => by simp [rootsP, rootsB, rootsE, errOf, h]
 have r2 : ¬ plainP p → isPoly p → rootsP p = [] ∧ rootsE p = 4 := fun h hp => by simp [rootsP, rootsB, rootsE, hp, h]
 by_cases hb : P64.coverB p = true
 · have r3 : isPoly p → plainP p → rootsP p = keep p (P64.coverL p) ∧ rootsE p = 0 := fun hp h => by simp [rootsP, rootsB, rootsE, hp, h, hb]
   by_cases hz : ∃ q ∈ P64.coverL p, cgz p q = true
   · refine gcall_of (X := (X [e56, e61, e62, e66, e63o, e67b])) ((X_ok _)) (f := 20) (fn := Tryd.f20) (c := bodyOf Tryd.f20) (by kernel_rfl) (by kernel_rfl) (view := true) (rvs := [.tmp 2, .tmp 3]) (by kernel_rfl) (H := fun _ => none) 80 (by kernel_rfl) ?_
     refine of_eq (q := True ∧ True ∧ True ∧ (p.length + 1 ≤ 1000000 ∧ True) ∧ True ∧ True ∧ True ∧ (¬errOf p = 0 → True ∧ True ∧ True ∧ True ∧ (([] : List (Int × Int)) = rootsP p ∧ errOf p = rootsE p ∧ True) ∧ True) ∧ (¬¬errOf p = 0 → True ∧ (((1 : Nat) ≤ p.length ∧ p.length ≤ 7 ∧ coefs p) ∧ True) ∧ True ∧ ((!decide (plainP p)) = true → True ∧ True ∧ True ∧ (([] : List (Int × Int)) = rootsP p ∧ (4 : Int) = rootsE p ∧ True) ∧ True) ∧ ((!decide (plainP p)) = false → True ∧ (True ∧ True) ∧ True ∧ True ∧ True ∧ True ∧ (((isPoly p ∧ memoOk p [] ∧ P64.coverB p = true) ∧ (True ∧ ((0 : Int) = 0 ∧ (0 : Int) = 0 ∧ True) ∧ (True ∧ True) ∧ True) ∧ (p = p ∧ True ∧ True) ∧ ([] : List ((Int × Int) × List (Int × Int))) = [] ∧ True) ∧ True ∧ True ∧ True) ∧ True ∧ True ∧ True ∧ True ∧ True ∧ (((pcs p (P64.coverL p) ∧ memoOk p (P64.coverM p []) ∧ ∃ (q : PQ), q ∈ P64.coverL p ∧ cgz p q = true) ∧ (True ∧ (True ∧ True ∧ True) ∧ True) ∧ P64.coverL p = P64.coverL p ∧ True ∧ (p = p ∧ True ∧ True) ∧ P64.coverM p [] = P64.coverM p [] ∧ True) ∧ (nz67 p (P64.coverL p)).length = (P64.coverL p).length ∧ True ∧ True ∧ True ∧ True) ∧ ((List.take (keep p (P64.coverL p)).length (List.drop (0 : Nat) (nz67 p (P64.coverL p)))).length + 1 ≤ 1000000 ∧ True) ∧ True ∧ True ∧ True ∧ (List.take (keep p (P64.coverL p)).length (List.drop (0 : Nat) (nz67 p (P64.coverL p))) = rootsP p ∧ (0 : Int) = rootsE p ∧ True) ∧ True))) (by kernel_rfl) ?_
     simp only [true_and, and_true, false_and, and_false, or_false, false_or, exists_const, exists_false, rat_num_den, rat_int, Int.toNat_natCast]
     refine ⟨by omega, fun he => ?_, fun he => ?_⟩
     · obtain ⟨e1, e2⟩ := r1 (errOf_pos he)
       exact ⟨e1.symm, e2.symm⟩
     · have hp := errOf_zero he
       refine ⟨hp, fun hx => ?_, fun hx => ?_⟩
       · have hx : ¬ plainP p := by simpa using hx
         obtain ⟨e1, e2⟩ := r2 hx hp
         exact ⟨e1.symm, e2.symm⟩
       · have hx : plainP p := by simpa using hx
         obtain ⟨e1, e2⟩ := r3 hp hx
         have hnz : (nz67 p (P64.coverL p)).length = (P64.coverL p).length := by
           have : (keep p (P64.coverL p)).length ≤ (P64.coverL p).length := List.length_filter_le ..
           unfold nz67; simp; omega
         have htk : List.take (keep p (P64.coverL p)).length (List.drop 0 (nz67 p (P64.coverL p))) = keep p (P64.coverL p) := by
           unfold nz67; rw [List.drop_zero, List.take_left]
         have hkl : (keep p (P64.coverL p)).length ≤ (P64.coverL p).length := List.length_filter_le ..
         rw [htk]
         exact ⟨⟨hp, memoOk_nil p, hb⟩, ⟨⟨cover_pcs hp, grM_ok _ p (memoOk_nil p), hz⟩, hnz⟩, by omega, e1.symm, e2.symm⟩
   · refine gcall_of (X := (X [e56, e61, e62, e66, e63o, e67a])) ((X_ok _)) (f := 20) (fn := Tryd.f20) (c := bodyOf Tryd.f20) (by kernel_rfl) (by kernel_rfl) (view := true) (rvs := [.tmp 2, .tmp 3]) (by kernel_rfl) (H := fun _ => none) 80 (by kernel_rfl) ?_
     refine of_eq (q := True ∧ True ∧ True ∧ (p.length + 1 ≤ 1000000 ∧ True) ∧ True ∧ True ∧ True ∧ (¬errOf p = 0 → True ∧ True ∧ True ∧ True ∧ (([] : List (Int × Int)) = rootsP p ∧ errOf p = rootsE p ∧ True) ∧ True) ∧ (¬¬errOf p = 0 → True ∧ (((1 : Nat) ≤ p.length ∧ p.length ≤ 7 ∧ coefs p) ∧ True) ∧ True ∧ ((!decide (plainP p)) = true → True ∧ True ∧ True ∧ (([] : List (Int × Int)) = rootsP p ∧ (4 : Int) = rootsE p ∧ True) ∧ True) ∧ ((!decide (plainP p)) = false → True ∧ (True ∧ True) ∧ True ∧ True ∧ True ∧ True ∧ (((isPoly p ∧ memoOk p [] ∧ P64.coverB p = true) ∧ (True ∧ ((0 : Int) = 0 ∧ (0 : Int) = 0 ∧ True) ∧ (True ∧ True) ∧ True) ∧ (p = p ∧ True ∧ True) ∧ ([] : List ((Int × Int) × List (Int × Int))) = [] ∧ True) ∧ True ∧ True ∧ True) ∧ True ∧ True ∧ True ∧ True ∧ True ∧ (((pcs p (P64.coverL p) ∧ memoOk p (P64.coverM p []) ∧ ∀ (q : PQ), q ∈ P64.coverL p → cgz p q = false) ∧ (True ∧ (True ∧ True ∧ True) ∧ True) ∧ P64.coverL p = P64.coverL p ∧ True ∧ (p = p ∧ True ∧ True) ∧ P64.coverM p [] = P64.coverM p [] ∧ True) ∧ (P64.coverL p).length = (P64.coverL p).length ∧ True ∧ True ∧ True ∧ True) ∧ ((P64.coverL p).length + 1 ≤ 1000000 ∧ True) ∧ True ∧ True ∧ True ∧ (P64.coverL p = rootsP p ∧ (0 : Int) = rootsE p ∧ True) ∧ True))) (by kernel_rfl) ?_
     simp only [true_and, and_true, false_and, and_false, or_false, false_or, exists_const, exists_false, rat_num_den, rat_int, Int.toNat_natCast]
     have hz' : ∀ q ∈ P64.coverL p, cgz p q = false := fun q hq => by
       cases h : cgz p q with
       | false => rfl
       | true => exact absurd ⟨q, hq, h⟩ hz
     refine ⟨by omega, fun he => ?_, fun he => ?_⟩
     · obtain ⟨e1, e2⟩ := r1 (errOf_pos he)
       exact ⟨e1.symm, e2.symm⟩
     · have hp := errOf_zero he
       refine ⟨hp, fun hx => ?_, fun hx => ?_⟩
       · have hx : ¬ plainP p := by simpa using hx
         obtain ⟨e1, e2⟩ := r2 hx hp
         exact ⟨e1.symm, e2.symm⟩
       · have hx : plainP p := by simpa using hx
         obtain ⟨e1, e2⟩ := r3 hp hx
         rw [keep_all p hz'] at e1
         exact ⟨⟨hp, memoOk_nil p, hb⟩, ⟨cover_pcs hp, grM_ok _ p (memoOk_nil p), hz'⟩, by omega, e1.symm, e2.symm⟩
 · have hb : P64.coverB p = false := by simpa using hb
   refine gcall_of (X := (X [e56, e61, e62, e66, e63n])) ((X_ok _)) (f := 20) (fn := Tryd.f20) (c := bodyOf Tryd.f20) (by kernel_rfl) (by kernel_rfl) (view := true) (rvs := [.tmp 2, .tmp 3]) (by kernel_rfl) (H := fun _ => none) 80 (by kernel_rfl) ?_
   refine of_eq (q := True ∧ True ∧ True ∧ (p.length + 1 ≤ 1000000 ∧ True) ∧ True ∧ True ∧ True ∧ (¬errOf p = 0 → True ∧ True ∧ True ∧ True ∧ (([] : List (Int × Int)) = rootsP p ∧ errOf p = rootsE p ∧ True) ∧ True) ∧ (¬¬errOf p = 0 → True ∧ (((1 : Nat) ≤ p.length ∧ p.length ≤ 7 ∧ coefs p) ∧ True) ∧ True ∧ ((!decide (plainP p)) = true → True ∧ True ∧ True ∧ (([] : List (Int × Int)) = rootsP p ∧ (4 : Int) = rootsE p ∧ True) ∧ True) ∧ ((!decide (plainP p)) = false → True ∧ (True ∧ True) ∧ True ∧ True ∧ True ∧ True ∧ (((isPoly p ∧ memoOk p [] ∧ P64.coverB p = false) ∧ (True ∧ ((0 : Int) = 0 ∧ (0 : Int) = 0 ∧ True) ∧ (True ∧ True) ∧ True) ∧ (p = p ∧ True ∧ True) ∧ ([] : List ((Int × Int) × List (Int × Int))) = [] ∧ True) ∧ True ∧ True ∧ True) ∧ True ∧ True ∧ True ∧ True ∧ True ∧ True ∧ (([] : List (Int × Int)) = rootsP p ∧ (8 : Int) = rootsE p ∧ True) ∧ True))) (by kernel_rfl) ?_
   simp only [true_and, and_true, false_and, and_false, or_false, false_or, exists_const, exists_false, rat_num_den, rat_int, Int.toNat_natCast]
   refine ⟨by omega, fun he => ?_, fun he => ?_⟩
   · obtain ⟨e1, e2⟩ := r1 (errOf_pos he)
     exact ⟨e1.symm, e2.symm⟩
   · have hp := errOf_zero he
     refine ⟨hp, fun hx => ?_, fun hx => ?_⟩
     · have hx : ¬ plainP p := by simpa using hx
       obtain ⟨e1, e2⟩ := r2 hx hp
       exact ⟨e1.symm, e2.symm⟩
     · have hx : plainP p := by simpa using hx
       exact ⟨⟨hp, memoOk_nil p, hb⟩, by simp [rootsP, rootsB, hb], by simp [rootsE, hp, hx, hb]⟩
def e20 : Entry Tryd.prog gl := entry1 20 ⟨Tryd.f20, by kernel_rfl, by kernel_rfl, by kernel_rfl⟩ SI (fun p => p.length < 1000000) false (fun p => [.sl Q2 (rootsP p), .int .i64 (rootsE p)]) (fun _ => []) (call20)
theorem call21 (p : List Int) (h : p.length < 1000000) : GCall Tryd.prog gl 21 false [.sl I64 p] [] [.int .i64 (rootsP p).length, .int .i64 (rootsE p)] [] := by
 refine gcall_of (X := X [e20]) (X_ok [e20]) (f := 21) (fn := Tryd.f21) (c := bodyOf Tryd.f21) (by kernel_rfl) (by kernel_rfl) (view := false) (rvs := [.tmp 2, .tmp 3]) (by kernel_rfl) (H := fun _ => none) 80 (by kernel_rfl) ?_
 refine of_eq (q := True ∧ True ∧ True ∧ (p.length + 1 ≤ 1000000 ∧ True) ∧ True ∧ True ∧ True ∧ True ∧ True ∧ True ∧ True ∧ True ∧ True ∧ True ∧ True ∧ ((↑(rootsP p).length : Int) = (↑(rootsP p).length : Int) ∧ rootsE p = rootsE p ∧ True) ∧ True) (by kernel_rfl) ?_
 simp only [true_and, and_true, false_and, and_false, or_false, false_or, exists_const, exists_false, rat_num_den, rat_int, Int.toNat_natCast]
 omega
def e21 : Entry Tryd.prog gl := entry1 21 ⟨Tryd.f21, by kernel_rfl, by kernel_rfl, by kernel_rfl⟩ SI (fun p => p.length < 1000000) false (fun p => [.int .i64 (rootsP p).length, .int .i64 (rootsE p)]) (fun _ => []) (call21)
end Go.Am.Bern

/- Bern: readings of the reference. -/
namespace Go.Am.Bern
open Go Go.Am Go.Proofs
def cgs (p : List Int) (d k : Nat) : Nat := chg (qc p d k)
section
variable (p : List Int)
end
end Go.Am.Bern

/- Bern: readings that are checked. -/
namespace Go.Am.Bern
open Go Go.Am Go.Proofs
def fr' (x : PQ) : Int := x.2 * 2 ^ (6 - x.1).toNat
def gapz (p : List Int) (a b : Int) : Prop := ∀ j : Nat, j < 64 → a ≤ j → (j : Int) < b → cgs p 6 j = 0
instance (p : List Int) (a b : Int) : Decidable (gapz p a b) := inferInstanceAs (Decidable (∀ j : Nat, j < 64 → _))
def rdR (p : List Int) : Int → List PQ → Prop
 | a, [] => a ≤ 64 ∧ gapz p a 64
 | a, x :: l => isPiece x ∧ cgs p x.1.toNat x.2.toNat = 1 ∧ a ≤ fr' x ∧ gapz p a (fr' x) ∧ rdR p (fr' x + 2 ^ (6 - x.1).toNat) l
instance rdR_dec (p : List Int) : ∀ (a : Int) (l : List PQ), Decidable (rdR p a l)
 | _, [] => by unfold rdR; infer_instance
 | a, x :: l => by unfold rdR; have := rdR_dec p (fr' x + 2 ^ (6 - x.1).toNat) l; infer_instance
end Go.Am.Bern

/- Bern: awake. -/
namespace Go.Am.Bern
open Go Go.Am Go.Proofs
theorem call18 : GCall Tryd.prog gl 18 true [] [] [.tt] [] := by
 have f1 : cornersE [1, -3, 3] (0, 0) = 0 := by kernel_rfl
 have f2 : (cornersR [1, -3, 3] (0, 0)).length = 3 := by kernel_rfl
 have f3 : errOf [1, -3, 3] = 0 := by kernel_rfl
 have f4 : (posK [1, -3, 3]).length = 2 := by kernel_rfl
 have f5 : isPoly [1, -3, 3] := by decide
 have f6 : errOf [-1, 3] = 0 := by kernel_rfl
 have f7 : low29 [-1, 3] = (0, 1) := by kernel_rfl
 have f8 : rootsE [1, -5, 5] = 0 := by kernel_rfl
 have f9 : (rootsP [1, -5, 5]).length = 2 := by kernel_rfl
 have f10 : (if given [((1 : Int), (1 : Int)), (-1, 2), (1, 1)] 7 then (0 : Int) else 1) = 0 := by kernel_rfl
 refine gcall_of (X := (X [e13, e26, e29, e21, e37, e15, e28])) ((X_ok _)) (f := 18) (fn := Tryd.f18) (c := bodyOf Tryd.f18) (by kernel_rfl) (by kernel_rfl) (view := false) (rvs := [.tmp 0]) (by kernel_rfl) (H := fun _ => none) 200 (by kernel_rfl) ?_
 refine of_eq (q := True ∧ True ∧ True ∧ ([(1 : Int), (-3 : Int), (3 : Int)].length + 1 ≤ 1000000 ∧ True) ∧ True ∧ True ∧ True ∧ True ∧ True ∧ True ∧ ([(1 : Int), (-3 : Int), (3 : Int)].length + 1 ≤ 1000000 ∧ True) ∧ True ∧ True ∧ True ∧ True ∧ True ∧ True ∧ True ∧ True ∧ ([(-1 : Int), (3 : Int)].length + 1 ≤ 1000000 ∧ True) ∧ True ∧ True ∧ True ∧ True ∧ True ∧ True ∧ True ∧ True ∧ True ∧ ([(1 : Int), (-5 : Int), (5 : Int)].length + 1 ≤ 1000000 ∧ True) ∧ True ∧ True ∧ True ∧ True ∧ True ∧ True ∧ True ∧ True ∧ True ∧ ([((1 : Int), (1 : Int)), ((-1 : Int), (2 : Int)), ((1 : Int), (1 : Int))].length + 1 ≤ 1000000 ∧ True) ∧ True ∧ True ∧ True ∧ True ∧ True ∧ True ∧ True ∧ True ∧ (cornersE [(1 : Int), (-3 : Int), (3 : Int)] ((0 : Int), (0 : Int)) = 0 → True ∧ True ∧ True ∧ True ∧ True ∧ ((cornersR [(1 : Int), (-3 : Int), (3 : Int)] ((0 : Int), (0 : Int))).length + 1 ≤ 1000000 ∧ True) ∧ True ∧ True ∧ (true = true → True ∧ True ∧ True ∧ True ∧ (errOf [(1 : Int), (-3 : Int), (3 : Int)] = 0 → True ∧ True ∧ True ∧ (true = true → True ∧ True ∧ ((isPoly [(1 : Int), (-3 : Int), (3 : Int)] ∧ (posK [(1 : Int), (-3 : Int), (3 : Int)]).length < 1000000) ∧ True) ∧ True ∧ True ∧ (true = true → True ∧ True ∧ True ∧ True ∧ (errOf [(-1 : Int), (3 : Int)] = 0 → True ∧ True ∧ True ∧ (true = true → True ∧ True ∧ True ∧ True ∧ True ∧ (((low29 [(-1 : Int), (3 : Int)]).fst, (low29 [(-1 : Int), (3 : Int)]).snd) = ((0 : Int), (1 : Int)) → True ∧ True ∧ True ∧ True ∧ (rootsE [(1 : Int), (-5 : Int), (5 : Int)] = 0 → True ∧ True ∧ True ∧ True ∧ ((↑(rootsP [(1 : Int), (-5 : Int), (5 : Int)]).length : Int) = 2 → True ∧ True ∧ True ∧ True ∧ ((if given [((1 : Int), (1 : Int)), ((-1 : Int), (2 : Int)), ((1 : Int), (1 : Int))] (7 : Int) then (0 : Int) else (1 : Int)) = 0 → True ∧ True ∧ True ∧ True ∧ True ∧ (true = true ∧ True) ∧ True) ∧ (¬(if given [((1 : Int), (1 : Int)), ((-1 : Int), (2 : Int)), ((1 : Int), (1 : Int))] (7 : Int) then (0 : Int) else (1 : Int)) = 0 → True ∧ True ∧ True ∧ (false = true ∧ True) ∧ True)) ∧ (¬(↑(rootsP [(1 : Int), (-5 : Int), (5 : Int)]).length : Int) = 2 → True ∧ True ∧ True ∧ True ∧ True ∧ (false = true ∧ True) ∧ True)) ∧ (¬rootsE [(1 : Int), (-5 : Int), (5 : Int)] = 0 → True ∧ True ∧ True ∧ True ∧ True ∧ True ∧ True ∧ (false = true ∧ True) ∧ True)) ∧ (¬((low29 [(-1 : Int), (3 : Int)]).fst, (low29 [(-1 : Int), (3 : Int)]).snd) = ((0 : Int), (1 : Int)) → True ∧ True ∧ True ∧ True ∧ True ∧ True ∧ True ∧ True ∧ True ∧ (false = true ∧ True) ∧ True)) ∧ (true = false → True ∧ True ∧ True ∧ True ∧ True ∧ True ∧ True ∧ True ∧ True ∧ True ∧ True ∧ (false = true ∧ True) ∧ True)) ∧ (¬errOf [(-1 : Int), (3 : Int)] = 0 → True ∧ True ∧ True ∧ True ∧ True ∧ True ∧ True ∧ True ∧ True ∧ True ∧ True ∧ True ∧ True ∧ (false = true ∧ True) ∧ True)) ∧ (true = false → True ∧ True ∧ True ∧ True ∧ True ∧ True ∧ True ∧ True ∧ True ∧ True ∧ True ∧ True ∧ True ∧ True ∧ True ∧ (false = true ∧ True) ∧ True)) ∧ (true = false → True ∧ True ∧ True ∧ True ∧ True ∧ True ∧ True ∧ True ∧ True ∧ True ∧ True ∧ True ∧ True ∧ True ∧ True ∧ True ∧ True ∧ (false = true ∧ True) ∧ True)) ∧ (¬errOf [(1 : Int), (-3 : Int), (3 : Int)] = 0 → True ∧ True ∧ True ∧ True ∧ True ∧ True ∧ True ∧ True ∧ True ∧ True ∧ True ∧ True ∧ True ∧ True ∧ True ∧ True ∧ True ∧ True ∧ True ∧ (false = true ∧ True) ∧ True)) ∧ (true = false → True ∧ True ∧ True ∧ True ∧ True ∧ True ∧ True ∧ True ∧ True ∧ True ∧ True ∧ True ∧ True ∧ True ∧ True ∧ True ∧ True ∧ True ∧ True ∧ True ∧ True ∧ (false = true ∧ True) ∧ True)) ∧ (¬cornersE [(1 : Int), (-3 : Int), (3 : Int)] ((0 : Int), (0 : Int)) = 0 → True ∧ True ∧ True ∧ True ∧ True ∧ True ∧ True ∧ True ∧ True ∧ True ∧ True ∧ True ∧ True ∧ True ∧ True ∧ True ∧ True ∧ True ∧ True ∧ True ∧ True ∧ True ∧ True ∧ (false = true ∧ True) ∧ True)) (by kernel_rfl) ?_
 simp only [f1, f2, f3, f4, f6, f7, f8, f9, f10]
 simp [f5]
 first | done | kernel_rfl
def e18 : Entry Tryd.prog gl where
 f := 18
 lend := false
 en := ⟨Tryd.f18, by kernel_rfl, by kernel_rfl, by kernel_rfl⟩
 go := fun args ob0 => match args, ob0 with
   | [], [] => some (True, true, [.tt], [])
   | _, _ => none
 ok := by
   intro args ob0 p s r o h hp
   split at h <;> try (cases h; done)
   injection h with h; injection h with h1 h2; injection h2 with h2 h3; injection h3 with h3 h4
   subst h1 h2 h3 h4
   exact call18
end Go.Am.Bern

/- Bern: the law BernChecks. -/
namespace Go.Am
open Go
/-- Bools that are known. -/
def litB : AV → AV
 | .bool true => .tt
 | .bool false => .ff
 | a => a
theorem TR.litB {E : Env} {I : Nat → Option Inf} {F : Nat → Prop} {w : World} : ∀ {x : AV} {u : Value}, TR E I F w x u → TR E I F w (litB x) u
 | .bool true, _, h => h
 | .bool false, _, h => h
 | _, _, h => by
   unfold Am.litB
   split <;> exact h
theorem GCall.lit {P : Program} {gl : Nat → Option ((t : Ty) × t.D)} {f : FuncId} {sep : Bool} {args res : List AV} {ob0 ob1 : List Ob} (h : GCall P gl f sep args ob0 res ob1) : GCall P gl f sep args ob0 (res.map litB) ob1 := by
 intro E F F0 w a h1 h2 h3 hr
 refine (h E F F0 w a h1 h2 h3 hr).mono ?_
 rintro e w' ⟨E', F', a', he, R⟩
 refine ⟨E', F', a', he, R.retm (by simp) fun i y hy => ?_⟩
 rw [List.getElem?_map] at hy
 cases hx : res[i]? with
 | none => rw [hx] at hy; cases hy
 | some x =>
   rw [hx] at hy
   injection hy with hy
   subst hy
   exact ⟨x, rfl, fun u hu => TR.litB hu⟩
end Go.Am
namespace Go.Am.Bern
open Go Go.Am Go.Proofs
end Go.Am.Bern

/- Bern: the law BernLists. -/
namespace Go.Am
open Go
/-- As `loop_fams`; the contracts may be chosen by the state. -/
theorem loop_famsX {X : Cy} {b : Code} (live : List Nat) (fams : List Fam) (exits : List (List Nat × Ex)) {R : Exit → St → Prop} (n : Nat)
   (hbody : allF (fun f => ∀ x, f.post x → ∃ X' : Cy, X'.Ok ∧ X'.P = X.P ∧ X'.gl = X.gl ∧ X'.m0 = X.m0 ∧ X'.ro = X.ro ∧ run X' (f.H x) (bodyR X.m0 exits R) n (f.st x) [.code b, .inv (chkm X.m0 live (f.μ x) fams)]) fams) :
   LoopOK X b ⟨chks X.m0 live fams, exits.map (·.2)⟩ R := by
 intro ro G hG hm hro E F st a w hr hJ
 rw [← hm] at hJ
 obtain ⟨f, hf, x, E', hx, hr'⟩ := hr.chks hJ
 refine wpIn_loop (fun a w => ∃ f, f ∈ fams ∧ ∃ x E F, f.post x ∧ Rel G E F (f.st x) a w) (fun a w => leastOf fun n => ∃ f, f ∈ fams ∧ ∃ x E F, (f.post x ∧ Rel G E F (f.st x) a w) ∧ f.μ x = n) ⟨f, hf, x, E', F, hx, hr'⟩ ?_
 intro a w hI
 have hex : ∃ n, ∃ f, f ∈ fams ∧ ∃ x E F, (f.post x ∧ Rel G E F (f.st x) a w) ∧ f.μ x = n := by
   obtain ⟨f, hf, x, E, F, h⟩ := hI
   exact ⟨_, f, hf, x, E, F, h, rfl⟩
 obtain ⟨⟨f, hf, x, E, F, ⟨hx, hr⟩, hμ⟩, _⟩ := leastOf_spec hex
 obtain ⟨X', hX', eP, eg, em, er, hrun⟩ := allF_mem hbody hf x hx
 have hs := run_sound (ro := ro) hX' (by rw [eg]; exact hG) (by rw [em]; exact hm) (by rw [er]; exact hro) n _ _ hrun E F a w hr
 rw [eP] at hs
 refine wpIn_mono (show b.wpIn (Fw ro) 0 X.P _ a w from hs) ?_
 intro e a' w' he
 cases e with
 | normal =>
   obtain ⟨E1, F1, st1, h1, h2⟩ := he
   rw [← hm] at h2
   obtain ⟨f', hf', y, E2, ⟨h3, h3'⟩, h4⟩ := h1.chkm h2
   refine ⟨⟨f', hf', y, E2, F1, h3, h4⟩, ?_⟩
   refine Nat.lt_of_le_of_lt ((leastOf_spec ⟨_, f', hf', y, E2, F1, ⟨h3, h4⟩, rfl⟩).2 (f'.μ y) ⟨f', hf', y, E2, F1, ⟨h3, h4⟩, rfl⟩) ?_
   rw [← hμ]; exact h3'
 | exit id =>
   obtain ⟨E1, F1, st1, h1, h2⟩ := he
   simp only [bodyR, ← hm] at h2
   exact h1.exR h2
 | ret =>
   obtain ⟨E1, F1, st1, h1, h2⟩ := he
   exact ⟨E1, F1, st1, h1, h2⟩
 | goto l => obtain ⟨_, _, _, _, h2⟩ := he; exact h2.elim
 | panic ch => obtain ⟨_, _, _, _, h2⟩ := he; exact h2.elim
 | outgrown => obtain ⟨_, _, _, _, h2⟩ := he; exact h2.elim
end Go.Am
namespace Go.Am.Bern
open Go Go.Am Go.Proofs
def nG (l : List PQ) (m : Int) : Prop := l.length < 1000000 ∧ ¬ given l m
def yG (l : List PQ) (m : Int) : Prop := l.length < 1000000 ∧ given l m
theorem n34c (l : List PQ) (h : nG l 6) : GCall Tryd.prog gl 34 false [.sl Q2 l] [] [.sl Q2 [], .int .i64 1] [] := by
 have := call34 l h.1
 rwa [show raiseR l = [] by simp [raiseR, h.2], if_neg h.2] at this
def n34 : Entry Tryd.prog gl := entry1 34 ⟨Tryd.f34, by kernel_rfl, by kernel_rfl, by kernel_rfl⟩ SQ (fun l => nG l 6) false (fun _ => [.sl Q2 [], .int .i64 1]) (fun _ => []) n34c
theorem y34c (l : List PQ) (h : yG l 6) : GCall Tryd.prog gl 34 false [.sl Q2 l] [] [.sl Q2 (qs (raise (rats l))), .int .i64 0] [] := by
 have := call34 l h.1
 rwa [show raiseR l = qs (raise (rats l)) by simp [raiseR, h.2], if_pos h.2] at this
def y34 : Entry Tryd.prog gl := entry1 34 ⟨Tryd.f34, by kernel_rfl, by kernel_rfl, by kernel_rfl⟩ SQ (fun l => yG l 6) false (fun l => [.sl Q2 (qs (raise (rats l))), .int .i64 0]) (fun _ => []) y34c
theorem n35c (l : List PQ) (h : nG l 7) : GCall Tryd.prog gl 35 false [.sl Q2 l] [] [.ar (.sl Q2) 2 [[], []], .int .i64 1] [] := by
 have := call35 l h.1
 rwa [show halfR l = [[], []] by simp [halfR, h.2], if_neg h.2] at this
def n35 : Entry Tryd.prog gl := entry1 35 ⟨Tryd.f35, by kernel_rfl, by kernel_rfl, by kernel_rfl⟩ SQ (fun l => nG l 7) false (fun _ => [.ar (.sl Q2) 2 [[], []], .int .i64 1]) (fun _ => []) n35c
theorem y35c (l : List PQ) (h : yG l 7) : GCall Tryd.prog gl 35 false [.sl Q2 l] [] [.ar (.sl Q2) 2 [qs (dvL (rat (1, 2)) (rats l)), qs (dvR (rat (1, 2)) (rats l))], .int .i64 0] [] := by
 have := call35 l h.1
 rwa [show halfR l = [qs (dvL (rat (1, 2)) (rats l)), qs (dvR (rat (1, 2)) (rats l))] by simp [halfR, h.2, rat_half], if_pos h.2] at this
def y35 : Entry Tryd.prog gl := entry1 35 ⟨Tryd.f35, by kernel_rfl, by kernel_rfl, by kernel_rfl⟩ SQ (fun l => yG l 7) false (fun l => [.ar (.sl Q2) 2 [qs (dvL (rat (1, 2)) (rats l)), qs (dvR (rat (1, 2)) (rats l))], .int .i64 0]) (fun _ => []) y35c
theorem n36c (l : List PQ) (x : PQ) (h : l.length < 1000000 ∧ ¬ (given l 7 ∧ isPoint x 16)) : GCall Tryd.prog gl 36 true [.sl Q2 l, ofD Q2 x] [] [ofD Q2 (0, 0), .int .i64 1] [] := by
 have := call36 l x h.1
 rwa [show atR l x = (0, 0) by rw [atR, if_neg h.2], if_neg h.2] at this
def n36 : Entry Tryd.prog gl := entry2 36 ⟨Tryd.f36, by kernel_rfl, by kernel_rfl, by kernel_rfl⟩ SQ Q2 (fun l x => l.length < 1000000 ∧ ¬ (given l 7 ∧ isPoint x 16)) true (fun _ _ => [ofD Q2 (0, 0), .int .i64 1]) (fun _ _ => []) n36c
theorem y36c (l : List PQ) (x : PQ) (h : l.length < 1000000 ∧ given l 7 ∧ isPoint x 16) : GCall Tryd.prog gl 36 true [.sl Q2 l, ofD Q2 x] [] [ofD Q2 ((qs (dvR (rat x) (rats l))).getD 0 (0, 0)), .int .i64 0] [] := by
 have := call36 l x h.1
 rwa [show atR l x = (qs (dvR (rat x) (rats l))).getD 0 (0, 0) by rw [atR, if_pos h.2], if_pos h.2] at this
def y36 : Entry Tryd.prog gl := entry2 36 ⟨Tryd.f36, by kernel_rfl, by kernel_rfl, by kernel_rfl⟩ SQ Q2 (fun l x => l.length < 1000000 ∧ given l 7 ∧ isPoint x 16) true (fun l x => [ofD Q2 ((qs (dvR (rat x) (rats l))).getD 0 (0, 0)), .int .i64 0]) (fun _ _ => []) y36c
theorem n37c (l : List PQ) (h : nG l 7) : GCall Tryd.prog gl 37 true [.sl Q2 l] [] [.int .i64 0, .int .i64 1] [] := by
 have := call37 l h.1
 rwa [if_neg h.2, if_neg h.2] at this
def n37 : Entry Tryd.prog gl := entry1 37 ⟨Tryd.f37, by kernel_rfl, by kernel_rfl, by kernel_rfl⟩ SQ (fun l => nG l 7) true (fun _ => [.int .i64 0, .int .i64 1]) (fun _ => []) n37c
theorem y37c (l : List PQ) (h : yG l 7) : GCall Tryd.prog gl 37 true [.sl Q2 l] [] [.int .i64 (chg l), .int .i64 0] [] := by
 have := call37 l h.1
 rwa [if_pos h.2, if_pos h.2] at this
def y37 : Entry Tryd.prog gl := entry1 37 ⟨Tryd.f37, by kernel_rfl, by kernel_rfl, by kernel_rfl⟩ SQ (fun l => yG l 7) true (fun l => [.int .i64 (chg l), .int .i64 0]) (fun _ => []) y37c
theorem n38c (l : List PQ) (m : Int) (h : nG l m) : GCall Tryd.prog gl 38 true [.sl Q2 l, .int .i64 m] [] [.ff] [] := by
 have := call38 l m h.1
 rw [decide_eq_false h.2] at this; exact this.lit
theorem y38c (l : List PQ) (m : Int) (h : yG l m) : GCall Tryd.prog gl 38 true [.sl Q2 l, .int .i64 m] [] [.tt] [] := by
 have := call38 l m h.1
 rw [decide_eq_true h.2] at this; exact this.lit
def n38 : Entry Tryd.prog gl := entry2 38 ⟨Tryd.f38, by kernel_rfl, by kernel_rfl, by kernel_rfl⟩ SQ I64 nG true (fun _ _ => [.ff]) (fun _ _ => []) n38c
def y38 : Entry Tryd.prog gl := entry2 38 ⟨Tryd.f38, by kernel_rfl, by kernel_rfl, by kernel_rfl⟩ SQ I64 yG true (fun _ _ => [.tt]) (fun _ _ => []) y38c
def i7 (m : Int) : Bool := match m with
 | .ofNat n => Nat.beq n 7
 | _ => false
theorem m38c (l : List PQ) (m : Int) (h : if i7 m = true then yG l m else nG l m) : GCall Tryd.prog gl 38 true [.sl Q2 l, .int .i64 m] [] [match i7 m with | true => .tt | false => .ff] [] := by
 split at h
 · rename_i e; rw [e]; exact y38c l m h
 · rename_i e; rw [show i7 m = false by simpa using e]; exact n38c l m h
def m38 : Entry Tryd.prog gl := entry2 38 ⟨Tryd.f38, by kernel_rfl, by kernel_rfl, by kernel_rfl⟩ SQ I64 (fun l m => if i7 m = true then yG l m else nG l m) true (fun _ m => [match i7 m with | true => .tt | false => .ff]) (fun _ _ => []) m38c
theorem n41c (x : PQ) (m : Int) (h : m < 1000000 ∧ ¬ isPoint x m) : GCall Tryd.prog gl 41 true [ofD Q2 x, .int .i64 m] [] [.ff] [] := by
 have := call41 x m h.1
 rw [decide_eq_false h.2] at this; exact this.lit
theorem y41c (x : PQ) (m : Int) (h : m < 1000000 ∧ isPoint x m) : GCall Tryd.prog gl 41 true [ofD Q2 x, .int .i64 m] [] [.tt] [] := by
 have := call41 x m h.1
 rw [decide_eq_true h.2] at this; exact this.lit
def n41 : Entry Tryd.prog gl := entry2 41 ⟨Tryd.f41, by kernel_rfl, by kernel_rfl, by kernel_rfl⟩ Q2 I64 (fun x m => m < 1000000 ∧ ¬ isPoint x m) true (fun _ _ => [.ff]) (fun _ _ => []) n41c
def y41 : Entry Tryd.prog gl := entry2 41 ⟨Tryd.f41, by kernel_rfl, by kernel_rfl, by kernel_rfl⟩ Q2 I64 (fun x m => m < 1000000 ∧ isPoint x m) true (fun _ _ => [.tt]) (fun _ _ => []) y41c
theorem sm15c (l m : List PQ) (h : l.length < 1000000 ∧ l = m) : GCall Tryd.prog gl 15 true [.sl Q2 l, .sl Q2 m] [] [.tt] [] := by
 have := call15 l m h.1
 rw [decide_eq_true h.2] at this; exact this.lit
def s15 : Entry Tryd.prog gl := entry2 15 ⟨Tryd.f15, by kernel_rfl, by kernel_rfl, by kernel_rfl⟩ SQ SQ (fun l m => l.length < 1000000 ∧ l = m) true (fun _ _ => [.tt]) (fun _ _ => []) sm15c
end Go.Am.Bern

/- Bern: the law BernLists: the loop and the law. -/
namespace Go.Am.Bern
open Go Go.Am Go.Proofs
theorem div_meet (x : Rat) : ∀ (n : Nat) (l acc : List Rat), l.length = n + 1 → (divL x (n + 1) l).getD n 0 = (divR x (n + 1) l acc).getD 0 0
 | 0, l, acc, h => by
   match l, h with
   | [a], _ => rfl
 | n + 1, l, acc, h => by
   rw [divL, divR, List.getD_cons_succ]
   exact div_meet x n (dcs x l) _ (by rw [dcs_length]; omega)
theorem dv_meet (x : Rat) {l : List Rat} (h : 1 ≤ l.length) : (dvL x l).getD (l.length - 1) 0 = (dvR x l).getD 0 0 := by
 obtain ⟨n, hn⟩ : ∃ n, l.length = n + 1 := ⟨l.length - 1, by omega⟩
 unfold dvL dvR
 rw [hn]
 exact div_meet x n l [] hn
noncomputable abbrev E7N : EL := [n34, n35, n36, n37, n38, e42, e43]
noncomputable abbrev E7A : EL := [y34, y35, y36, y37, y38, s15, e39, e33, e40, y41, e42, e43]
noncomputable abbrev E7B : EL := [y34, y35, n36, y37, y38, s15, e39, e33, e40, n41, e42, e43]
noncomputable abbrev E7C : EL := [n34, y35, y36, y37, m38, s15, e33, e40, y41, e42, e43]
noncomputable abbrev E7D : EL := [n34, y35, n36, y37, m38, s15, e33, e40, n41, e42, e43]
noncomputable abbrev E7L : EL := [e18, e12]
noncomputable def L7_0 : Code := lp (bodyOf Tryd.f7) 0
def hd7 (l : List PQ) (a : AV) (i : Int) : List AV := .sl Q2 l :: .dead :: .dead :: .ptr 0 0 [] :: .dead :: a :: .int .i64 i :: dd 170
def sv7 (l : List PQ) (s : Nat × List PQ × PQ) : St := ⟨hd7 l (.sl Q2 s.2.1) s.1, [.bx (ofD Q2 s.2.2)]⟩
def fm7 (l : List PQ) : List Fam := [⟨Nat × List PQ × PQ, fun s => s.1 ≤ 2 ∧ s.2.1.length < 1000000, sv7 l, fun s => 2 - s.1, fun _ _ => none⟩]
def ex7 : List (List Nat × Ex) := [([], ⟨0, Unit, fun _ => True, fun _ => ⟨dd 177, []⟩⟩)]
noncomputable def H7 (l : List PQ) : Nat → Option Hint := fun _ => some ⟨chks 0 [0, 3, 5, 6] (fm7 l), ex7.map (·.2)⟩
theorem raise_length (l : List Rat) : (raise l).length = l.length + 1 := by simp [raise, rzs]
theorem crnL_len (l : List PQ) (n : Nat) : (crnL l n).length ≤ n + 1 := by
 unfold crnL
 split
 · simp
 · rw [List.length_map, List.length_take]; omega
set_option maxHeartbeats 8000000 in
theorem loop7 (l : List PQ) (hl : l.length < 1000000000000000) : LoopOK (X E7L) L7_0 ⟨chks 0 [0, 3, 5, 6] (fm7 l), ex7.map (·.2)⟩ (RetR (X E7L) true false [.tmp 4] [.tt] []) := by
 have hmod : ((l.length : Nat) : Int).tmod 2 = (l.length : Int) % 2 := Int.tmod_eq_emod_of_nonneg (by omega)
 have hc : (crnL l (7 - (l.length : Int) % 2).toNat).length < 1000000 := by have := crnL_len l (7 - (l.length : Int) % 2).toNat; omega
 refine loop_famsX [0, 3, 5, 6] (fm7 l) ex7 250 ⟨fun (s : Nat × List PQ × PQ) hs => ?_, trivial⟩
 · obtain ⟨i, m, q⟩ := s
   dsimp only at *
   have hm : m.length < 1000000 := hs.2
   by_cases h7 : given m 7
   · by_cases hq : isPoint q 16
     · by_cases h6 : given m 6
       · have hlm : List.length m ≤ 7 ∧ 1 ≤ List.length m := ⟨by have := h7.2.2; omega, h7.2.1⟩
         have hg := (given_facts h7).1
         have hdh := given_dv h7 (by decide) point_half
         have hd1 : (qs (dvL (rat (1, 2)) (rats m))).length < 1000000 := by rw [qs_length, dvL_length, rats_length]; omega
         have hd2 : (qs (dvR (rat (1, 2)) (rats m))).length < 1000000 := by rw [qs_length, dvR_length, rats_length]; omega
         have hr1 : (qs (raise (rats m))).length < 1000000 := by rw [qs_length, raise_length, rats_length]; omega
         have hdq := given_dv h7 (by decide) hq
         have hgq := (point_part (m := 16) hq).1
         have hle : (qs (dvL (rat q) (rats m))).length = List.length m := by rw [qs_length, dvL_length, rats_length]
         have hme : (qs (dvR (rat q) (rats m))).getD 0 (0, 0) = (qs (dvL (rat q) (rats m))).getD ((((qs (dvL (rat q) (rats m))).length : Nat) : Int) - 1).toNat (0, 0) := by
           have h0 := dv_meet (rat q) (l := rats m) (by rw [rats_length]; exact hlm.2)
           rw [rats_length] at h0
           rw [hle, qs_getD (by rw [dvR_length, rats_length]; omega), qs_getD (by rw [dvL_length, rats_length]; omega), show (((List.length m : Nat) : Int) - 1).toNat = List.length m - 1 by omega, h0]
         have hpr : (((qs (dvR (rat q) (rats m))).getD 0 (0, 0)).1, ((qs (dvR (rat q) (rats m))).getD 0 (0, 0)).2) = (((qs (dvL (rat q) (rats m))).getD ((((qs (dvL (rat q) (rats m))).length : Nat) : Int) - 1).toNat (0, 0)).1, ((qs (dvL (rat q) (rats m))).getD ((((qs (dvL (rat q) (rats m))).length : Nat) : Int) - 1).toNat (0, 0)).2) := by rw [hme]
         have hin : inR .i64 ((((qs (dvL (rat q) (rats m))).length : Nat) : Int) - 1) := by rw [hle]; simp only [inR]; omega
         have hix : idxPre ((((qs (dvL (rat q) (rats m))).length : Nat) : Int) - 1) (qs (dvL (rat q) (rats m))).length := by rw [hle]; unfold idxPre; omega
         refine ⟨X E7A, X_ok _, rfl, rfl, rfl, rfl, ?_⟩
         have he : (q.1, q.2) = q := rfl
         refine of_eq (q := True ∧ True ∧ ((i : Int) < 2 → True ∧ ((m.length < 1000000 ∧ given m (6 : Int)) ∧ True) ∧ True ∧ True ∧ True ∧ True ∧ True ∧ True ∧ ((m.length < 1000000 ∧ given m (7 : Int)) ∧ True) ∧ True ∧ True ∧ True ∧ True ∧ True ∧ True ∧ True ∧ True ∧ ((m.length < 1000000 ∧ given m (7 : Int) ∧ isPoint (q.fst, q.snd) (16 : Int)) ∧ True) ∧ True ∧ True ∧ True ∧ True ∧ True ∧ True ∧ True ∧ ((m.length < 1000000 ∧ given m (7 : Int)) ∧ True) ∧ True ∧ True ∧ True ∧ True ∧ True ∧ True ∧ ((m.length < 1000000 ∧ given m (6 : Int)) ∧ True) ∧ True ∧ True ∧ True ∧ True ∧ True ∧ ((m.length < 1000000 ∧ given m (6 : Int)) ∧ True) ∧ True ∧ True ∧ True ∧ True ∧ (¬(0 : Int) = 0 → True ∧ True ∧ True ∧ True ∧ True ∧ (false = true ∧ True) ∧ True) ∧ (¬¬(0 : Int) = 0 → True ∧ True ∧ (((∀ (x : Int × Int), x ∈ m → isGiv x) ∧ (1 : Nat) ≤ m.length ∧ (m.length : Int) ≤ 6) ∧ True) ∧ (((qs (raise (rats m))).length < 1000000 ∧ qs (raise (rats m)) = qs (raise (rats m))) ∧ True) ∧ True ∧ True ∧ True ∧ True ∧ True ∧ ((m.length < 1000000 ∧ given m (7 : Int)) ∧ True) ∧ True ∧ True ∧ True ∧ ((goodL m ∧ good ((1 : Int), (2 : Int)) ∧ ∃ (D : Int), ∃ (M : Int), ∃ (b : Int), Dv D M b (rat ((1 : Int), (2 : Int))) (rats m)) ∧ True) ∧ True ∧ True ∧ True ∧ True ∧ True ∧ True ∧ True ∧ True ∧ (¬(0 : Int) = 0 → True ∧ True ∧ True ∧ True ∧ True ∧ True ∧ True ∧ True ∧ True ∧ (false = true ∧ True) ∧ True) ∧ (¬¬(0 : Int) = 0 → idxPre (0 : Int) (2 : Nat) ∧ True ∧ True ∧ (((qs (dvL (rat ((1 : Int), (2 : Int))) (rats m))).length < 1000000 ∧ qs (dvL (rat ((1 : Int), (2 : Int))) (rats m)) = qs (dvL (rat ((1 : Int), (2 : Int))) (rats m))) ∧ True) ∧ True ∧ True ∧ True ∧ idxPre (1 : Int) (2 : Nat) ∧ True ∧ True ∧ (((qs (dvR (rat ((1 : Int), (2 : Int))) (rats m))).length < 1000000 ∧ qs (dvR (rat ((1 : Int), (2 : Int))) (rats m)) = qs (dvR (rat ((1 : Int), (2 : Int))) (rats m))) ∧ True) ∧ True ∧ True ∧ True ∧ True ∧ True ∧ True ∧ True ∧ (¬(0 : Int) = 0 → True ∧ True ∧ True ∧ (false = true ∧ True) ∧ True) ∧ (¬¬(0 : Int) = 0 → True ∧ True ∧ (m.length + 1 ≤ 1000000 ∧ True) ∧ True ∧ True ∧ (¬(↑(chg m) : Int) = (↑(chg m) : Int) → True ∧ True ∧ (false = true ∧ True) ∧ True) ∧ (¬¬(↑(chg m) : Int) = (↑(chg m) : Int) → True ∧ (((16 : Int) < (1000000 : (fun (x : Ty) => Ty.brecOn x Ty.D._f) I64) ∧ isPoint (q.fst, q.snd) (16 : Int)) ∧ True) ∧ True ∧ True ∧ True ∧ ((goodL m ∧ good (q.fst, q.snd) ∧ ∃ (D : Int), ∃ (M : Int), ∃ (b : Int), Dv D M b (rat (q.fst, q.snd)) (rats m)) ∧ True) ∧ True ∧ True ∧ True ∧ True ∧ True ∧ True ∧ True ∧ True ∧ (¬(0 : Int) = 0 → True ∧ True ∧ True ∧ (false = true ∧ True) ∧ True) ∧ (¬¬(0 : Int) = 0 → True ∧ True ∧ True ∧ True ∧ inR .i64 ((↑(qs (dvL (rat (q.fst, q.snd)) (rats m))).length : Int) - 1) ∧ idxPre ((↑(qs (dvL (rat (q.fst, q.snd)) (rats m))).length : Int) - 1) (qs (dvL (rat (q.fst, q.snd)) (rats m))).length ∧ True ∧ True ∧ True ∧ (¬(((qs (dvR (rat (q.fst, q.snd)) (rats m))).getD (0 : Nat) (0, 0)).fst, ((qs (dvR (rat (q.fst, q.snd)) (rats m))).getD (0 : Nat) (0, 0)).snd) = (((qs (dvL (rat (q.fst, q.snd)) (rats m))).getD ((↑(qs (dvL (rat (q.fst, q.snd)) (rats m))).length : Int) - 1).toNat ((0 : Int), (0 : Int))).fst, ((qs (dvL (rat (q.fst, q.snd)) (rats m))).getD ((↑(qs (dvL (rat (q.fst, q.snd)) (rats m))).length : Int) - 1).toNat ((0 : Int), (0 : Int))).snd) → True ∧ True ∧ (false = true ∧ True) ∧ True) ∧ (¬¬(((qs (dvR (rat (q.fst, q.snd)) (rats m))).getD (0 : Nat) (0, 0)).fst, ((qs (dvR (rat (q.fst, q.snd)) (rats m))).getD (0 : Nat) (0, 0)).snd) = (((qs (dvL (rat (q.fst, q.snd)) (rats m))).getD ((↑(qs (dvL (rat (q.fst, q.snd)) (rats m))).length : Int) - 1).toNat ((0 : Int), (0 : Int))).fst, ((qs (dvL (rat (q.fst, q.snd)) (rats m))).getD ((↑(qs (dvL (rat (q.fst, q.snd)) (rats m))).length : Int) - 1).toNat ((0 : Int), (0 : Int))).snd) → True ∧ True ∧ True ∧ ¬(2 : Int) = 0 ∧ inR .i64 ((7 : Int) - (l.length : Int).tmod (2 : Int)) ∧ ((l.length < 1000000000000000 ∧ (0 : Int) ≤ 7 - (l.length : Int).tmod (2 : Int) ∧ (7 : Int) - (l.length : Int).tmod (2 : Int) < 1000000) ∧ True) ∧ True ∧ True ∧ (((1 : Int) ≤ 16 ∧ (16 : Int) ≤ 64) ∧ True) ∧ True ∧ True ∧ inR .i64 ((i : Int) + 1) ∧ True ∧ ∃ (y : Nat × List PQ × PQ), ((y.fst ≤ 2 ∧ y.snd.fst.length < 1000000) ∧ (2 : Nat) - y.fst < 2 - i) ∧ (l = l ∧ True ∧ crnL l ((7 : Int) - (l.length : Int).tmod (2 : Int)).toNat = y.snd.fst ∧ (i : Int) + 1 = (y.fst : Int) ∧ True) ∧ [(fracR (ptN (q.fst, q.snd) (16 : Int)) (ptD (q.fst, q.snd) (16 : Int))).fst, (fracR (ptN (q.fst, q.snd) (16 : Int)) (ptD (q.fst, q.snd) (16 : Int))).snd] = [y.snd.snd.fst, y.snd.snd.snd] ∧ True))))))) ∧ (¬(i : Int) < 2 → ∃ (y : Unit), True ∧ True ∧ True)) (by kernel_rfl) ?_
         simp only [true_and, and_true, false_and, and_false, or_false, false_or, exists_const, not_true_eq_false, not_false_eq_true, true_imp_iff, false_imp_iff, implies_true, rat_num_den, Int.toNat_natCast, he, hmod]
         refine fun h2 => ?_
         repeat' first | exact ⟨(i + 1, crnL l _, fracR (ptN q 16) (ptD q 16)), ⟨⟨by dsimp only; omega, hc⟩, by dsimp only; omega⟩, ⟨rfl, by dsimp only; omega⟩, rfl⟩ | omega | assumption | exact i02 | exact i12 | exact good_half | exact h6.1 | exact h6.2.1 | exact h6.2.2 | exact hg | exact ⟨_, _, _, hdh⟩ | exact hd1 | exact hd2 | exact hr1 | exact hgq | exact ⟨_, _, _, hdq⟩ | exact hin | exact hix | exact fun h => absurd hpr h | intro _ | exact (by decide : (16 : Int) < 1000000) | (simp only [inR]; omega) | (unfold idxPre; omega) | refine And.intro ?_ ?_
       · have hlm : List.length m ≤ 7 ∧ 1 ≤ List.length m := ⟨by have := h7.2.2; omega, h7.2.1⟩
         have hg := (given_facts h7).1
         have hdh := given_dv h7 (by decide) point_half
         have hd1 : (qs (dvL (rat (1, 2)) (rats m))).length < 1000000 := by rw [qs_length, dvL_length, rats_length]; omega
         have hd2 : (qs (dvR (rat (1, 2)) (rats m))).length < 1000000 := by rw [qs_length, dvR_length, rats_length]; omega
         have hdq := given_dv h7 (by decide) hq
         have hgq := (point_part (m := 16) hq).1
         have hle : (qs (dvL (rat q) (rats m))).length = List.length m := by rw [qs_length, dvL_length, rats_length]
         have hme : (qs (dvR (rat q) (rats m))).getD 0 (0, 0) = (qs (dvL (rat q) (rats m))).getD ((((qs (dvL (rat q) (rats m))).length : Nat) : Int) - 1).toNat (0, 0) := by
           have h0 := dv_meet (rat q) (l := rats m) (by rw [rats_length]; exact hlm.2)
           rw [rats_length] at h0
           rw [hle, qs_getD (by rw [dvR_length, rats_length]; omega), qs_getD (by rw [dvL_length, rats_length]; omega), show (((List.length m : Nat) : Int) - 1).toNat = List.length m - 1 by omega, h0]
         have hpr : (((qs (dvR (rat q) (rats m))).getD 0 (0, 0)).1, ((qs (dvR (rat q) (rats m))).getD 0 (0, 0)).2) = (((qs (dvL (rat q) (rats m))).getD ((((qs (dvL (rat q) (rats m))).length : Nat) : Int) - 1).toNat (0, 0)).1, ((qs (dvL (rat q) (rats m))).getD ((((qs (dvL (rat q) (rats m))).length : Nat) : Int) - 1).toNat (0, 0)).2) := by rw [hme]
         have hin : inR .i64 ((((qs (dvL (rat q) (rats m))).length : Nat) : Int) - 1) := by rw [hle]; simp only [inR]; omega
         have hix : idxPre ((((qs (dvL (rat q) (rats m))).length : Nat) : Int) - 1) (qs (dvL (rat q) (rats m))).length := by rw [hle]; unfold idxPre; omega
         refine ⟨X E7C, X_ok _, rfl, rfl, rfl, rfl, ?_⟩
         have he : (q.1, q.2) = q := rfl
         refine of_eq (q := True ∧ True ∧ ((i : Int) < 2 → True ∧ ((m.length < 1000000 ∧ ¬given m (6 : Int)) ∧ True) ∧ True ∧ True ∧ True ∧ True ∧ True ∧ True ∧ ((m.length < 1000000 ∧ given m (7 : Int)) ∧ True) ∧ True ∧ True ∧ True ∧ True ∧ True ∧ True ∧ True ∧ True ∧ ((m.length < 1000000 ∧ given m (7 : Int) ∧ isPoint (q.fst, q.snd) (16 : Int)) ∧ True) ∧ True ∧ True ∧ True ∧ True ∧ True ∧ True ∧ True ∧ ((m.length < 1000000 ∧ given m (7 : Int)) ∧ True) ∧ True ∧ True ∧ True ∧ True ∧ True ∧ True ∧ ((m.length < 1000000 ∧ ¬given m (6 : Int)) ∧ True) ∧ True ∧ True ∧ True ∧ True ∧ True ∧ (¬(1 : Int) = 1 → True ∧ True ∧ True ∧ True ∧ True ∧ True ∧ (false = true ∧ True) ∧ True) ∧ (¬¬(1 : Int) = 1 → True ∧ True ∧ True ∧ True ∧ True ∧ True ∧ (¬(0 : Int) = 0 → True ∧ True ∧ True ∧ (false = true ∧ True) ∧ True) ∧ (¬¬(0 : Int) = 0 → True ∧ ((m.length < 1000000 ∧ ¬given m (6 : Int)) ∧ True) ∧ True ∧ True ∧ True ∧ True ∧ ((m.length < 1000000 ∧ given m (7 : Int)) ∧ True) ∧ True ∧ True ∧ True ∧ ((goodL m ∧ good ((1 : Int), (2 : Int)) ∧ ∃ (D : Int), ∃ (M : Int), ∃ (b : Int), Dv D M b (rat ((1 : Int), (2 : Int))) (rats m)) ∧ True) ∧ True ∧ True ∧ True ∧ True ∧ True ∧ True ∧ True ∧ True ∧ (¬(0 : Int) = 0 → True ∧ True ∧ True ∧ True ∧ True ∧ True ∧ True ∧ True ∧ True ∧ (false = true ∧ True) ∧ True) ∧ (¬¬(0 : Int) = 0 → idxPre (0 : Int) (2 : Nat) ∧ True ∧ True ∧ (((qs (dvL (rat ((1 : Int), (2 : Int))) (rats m))).length < 1000000 ∧ qs (dvL (rat ((1 : Int), (2 : Int))) (rats m)) = qs (dvL (rat ((1 : Int), (2 : Int))) (rats m))) ∧ True) ∧ True ∧ True ∧ True ∧ idxPre (1 : Int) (2 : Nat) ∧ True ∧ True ∧ (((qs (dvR (rat ((1 : Int), (2 : Int))) (rats m))).length < 1000000 ∧ qs (dvR (rat ((1 : Int), (2 : Int))) (rats m)) = qs (dvR (rat ((1 : Int), (2 : Int))) (rats m))) ∧ True) ∧ True ∧ True ∧ True ∧ True ∧ True ∧ True ∧ True ∧ (¬(0 : Int) = 0 → True ∧ True ∧ True ∧ (false = true ∧ True) ∧ True) ∧ (¬¬(0 : Int) = 0 → True ∧ True ∧ (m.length + 1 ≤ 1000000 ∧ True) ∧ True ∧ True ∧ (¬(↑(chg m) : Int) = (↑(chg m) : Int) → True ∧ True ∧ (false = true ∧ True) ∧ True) ∧ (¬¬(↑(chg m) : Int) = (↑(chg m) : Int) → True ∧ (((16 : Int) < (1000000 : (fun (x : Ty) => Ty.brecOn x Ty.D._f) I64) ∧ isPoint (q.fst, q.snd) (16 : Int)) ∧ True) ∧ True ∧ True ∧ True ∧ ((goodL m ∧ good (q.fst, q.snd) ∧ ∃ (D : Int), ∃ (M : Int), ∃ (b : Int), Dv D M b (rat (q.fst, q.snd)) (rats m)) ∧ True) ∧ True ∧ True ∧ True ∧ True ∧ True ∧ True ∧ True ∧ True ∧ (¬(0 : Int) = 0 → True ∧ True ∧ True ∧ (false = true ∧ True) ∧ True) ∧ (¬¬(0 : Int) = 0 → True ∧ True ∧ True ∧ True ∧ inR .i64 ((↑(qs (dvL (rat (q.fst, q.snd)) (rats m))).length : Int) - 1) ∧ idxPre ((↑(qs (dvL (rat (q.fst, q.snd)) (rats m))).length : Int) - 1) (qs (dvL (rat (q.fst, q.snd)) (rats m))).length ∧ True ∧ True ∧ True ∧ (¬(((qs (dvR (rat (q.fst, q.snd)) (rats m))).getD (0 : Nat) (0, 0)).fst, ((qs (dvR (rat (q.fst, q.snd)) (rats m))).getD (0 : Nat) (0, 0)).snd) = (((qs (dvL (rat (q.fst, q.snd)) (rats m))).getD ((↑(qs (dvL (rat (q.fst, q.snd)) (rats m))).length : Int) - 1).toNat ((0 : Int), (0 : Int))).fst, ((qs (dvL (rat (q.fst, q.snd)) (rats m))).getD ((↑(qs (dvL (rat (q.fst, q.snd)) (rats m))).length : Int) - 1).toNat ((0 : Int), (0 : Int))).snd) → True ∧ True ∧ (false = true ∧ True) ∧ True) ∧ (¬¬(((qs (dvR (rat (q.fst, q.snd)) (rats m))).getD (0 : Nat) (0, 0)).fst, ((qs (dvR (rat (q.fst, q.snd)) (rats m))).getD (0 : Nat) (0, 0)).snd) = (((qs (dvL (rat (q.fst, q.snd)) (rats m))).getD ((↑(qs (dvL (rat (q.fst, q.snd)) (rats m))).length : Int) - 1).toNat ((0 : Int), (0 : Int))).fst, ((qs (dvL (rat (q.fst, q.snd)) (rats m))).getD ((↑(qs (dvL (rat (q.fst, q.snd)) (rats m))).length : Int) - 1).toNat ((0 : Int), (0 : Int))).snd) → True ∧ True ∧ True ∧ ¬(2 : Int) = 0 ∧ inR .i64 ((7 : Int) - (l.length : Int).tmod (2 : Int)) ∧ ((l.length < 1000000000000000 ∧ (0 : Int) ≤ 7 - (l.length : Int).tmod (2 : Int) ∧ (7 : Int) - (l.length : Int).tmod (2 : Int) < 1000000) ∧ True) ∧ True ∧ True ∧ (((1 : Int) ≤ 16 ∧ (16 : Int) ≤ 64) ∧ True) ∧ True ∧ True ∧ inR .i64 ((i : Int) + 1) ∧ True ∧ ∃ (y : Nat × List PQ × PQ), ((y.fst ≤ 2 ∧ y.snd.fst.length < 1000000) ∧ (2 : Nat) - y.fst < 2 - i) ∧ (l = l ∧ True ∧ crnL l ((7 : Int) - (l.length : Int).tmod (2 : Int)).toNat = y.snd.fst ∧ (i : Int) + 1 = (y.fst : Int) ∧ True) ∧ [(fracR (ptN (q.fst, q.snd) (16 : Int)) (ptD (q.fst, q.snd) (16 : Int))).fst, (fracR (ptN (q.fst, q.snd) (16 : Int)) (ptD (q.fst, q.snd) (16 : Int))).snd] = [y.snd.snd.fst, y.snd.snd.snd] ∧ True)))))))) ∧ (¬(i : Int) < 2 → ∃ (y : Unit), True ∧ True ∧ True)) (by kernel_rfl) ?_
         simp only [true_and, and_true, false_and, and_false, or_false, false_or, exists_const, not_true_eq_false, not_false_eq_true, true_imp_iff, false_imp_iff, implies_true, rat_num_den, Int.toNat_natCast, he, hmod]
         refine fun h2 => ?_
         repeat' first | exact ⟨(i + 1, crnL l _, fracR (ptN q 16) (ptD q 16)), ⟨⟨by dsimp only; omega, hc⟩, by dsimp only; omega⟩, ⟨rfl, by dsimp only; omega⟩, rfl⟩ | omega | assumption | exact i02 | exact i12 | exact good_half | exact hg | exact ⟨_, _, _, hdh⟩ | exact hd1 | exact hd2 | exact hgq | exact ⟨_, _, _, hdq⟩ | exact hin | exact hix | exact fun h => absurd hpr h | intro _ | exact (by decide : (16 : Int) < 1000000) | (simp only [inR]; omega) | (unfold idxPre; omega) | refine And.intro ?_ ?_
     · by_cases h6 : given m 6
       · have hlm : List.length m ≤ 7 ∧ 1 ≤ List.length m := ⟨by have := h7.2.2; omega, h7.2.1⟩
         have hg := (given_facts h7).1
         have hdh := given_dv h7 (by decide) point_half
         have hd1 : (qs (dvL (rat (1, 2)) (rats m))).length < 1000000 := by rw [qs_length, dvL_length, rats_length]; omega
         have hd2 : (qs (dvR (rat (1, 2)) (rats m))).length < 1000000 := by rw [qs_length, dvR_length, rats_length]; omega
         have hr1 : (qs (raise (rats m))).length < 1000000 := by rw [qs_length, raise_length, rats_length]; omega
         refine ⟨X E7B, X_ok _, rfl, rfl, rfl, rfl, ?_⟩
         have he : (q.1, q.2) = q := rfl
         refine of_eq (q := True ∧ True ∧ ((i : Int) < 2 → True ∧ ((m.length < 1000000 ∧ given m (6 : Int)) ∧ True) ∧ True ∧ True ∧ True ∧ True ∧ True ∧ True ∧ ((m.length < 1000000 ∧ given m (7 : Int)) ∧ True) ∧ True ∧ True ∧ True ∧ True ∧ True ∧ True ∧ True ∧ True ∧ ((m.length < 1000000 ∧ ¬(given m (7 : Int) ∧ isPoint (q.fst, q.snd) (16 : Int))) ∧ True) ∧ True ∧ True ∧ True ∧ True ∧ True ∧ True ∧ True ∧ ((m.length < 1000000 ∧ given m (7 : Int)) ∧ True) ∧ True ∧ True ∧ True ∧ True ∧ True ∧ True ∧ ((m.length < 1000000 ∧ given m (6 : Int)) ∧ True) ∧ True ∧ True ∧ True ∧ True ∧ True ∧ ((m.length < 1000000 ∧ given m (6 : Int)) ∧ True) ∧ True ∧ True ∧ True ∧ True ∧ (¬(0 : Int) = 0 → True ∧ True ∧ True ∧ True ∧ True ∧ (false = true ∧ True) ∧ True) ∧ (¬¬(0 : Int) = 0 → True ∧ True ∧ (((∀ (x : Int × Int), x ∈ m → isGiv x) ∧ (1 : Nat) ≤ m.length ∧ (m.length : Int) ≤ 6) ∧ True) ∧ (((qs (raise (rats m))).length < 1000000 ∧ qs (raise (rats m)) = qs (raise (rats m))) ∧ True) ∧ True ∧ True ∧ True ∧ True ∧ True ∧ ((m.length < 1000000 ∧ given m (7 : Int)) ∧ True) ∧ True ∧ True ∧ True ∧ ((goodL m ∧ good ((1 : Int), (2 : Int)) ∧ ∃ (D : Int), ∃ (M : Int), ∃ (b : Int), Dv D M b (rat ((1 : Int), (2 : Int))) (rats m)) ∧ True) ∧ True ∧ True ∧ True ∧ True ∧ True ∧ True ∧ True ∧ True ∧ (¬(0 : Int) = 0 → True ∧ True ∧ True ∧ True ∧ True ∧ True ∧ True ∧ True ∧ True ∧ (false = true ∧ True) ∧ True) ∧ (¬¬(0 : Int) = 0 → idxPre (0 : Int) (2 : Nat) ∧ True ∧ True ∧ (((qs (dvL (rat ((1 : Int), (2 : Int))) (rats m))).length < 1000000 ∧ qs (dvL (rat ((1 : Int), (2 : Int))) (rats m)) = qs (dvL (rat ((1 : Int), (2 : Int))) (rats m))) ∧ True) ∧ True ∧ True ∧ True ∧ idxPre (1 : Int) (2 : Nat) ∧ True ∧ True ∧ (((qs (dvR (rat ((1 : Int), (2 : Int))) (rats m))).length < 1000000 ∧ qs (dvR (rat ((1 : Int), (2 : Int))) (rats m)) = qs (dvR (rat ((1 : Int), (2 : Int))) (rats m))) ∧ True) ∧ True ∧ True ∧ True ∧ True ∧ True ∧ True ∧ True ∧ (¬(0 : Int) = 0 → True ∧ True ∧ True ∧ (false = true ∧ True) ∧ True) ∧ (¬¬(0 : Int) = 0 → True ∧ True ∧ (m.length + 1 ≤ 1000000 ∧ True) ∧ True ∧ True ∧ (¬(↑(chg m) : Int) = (↑(chg m) : Int) → True ∧ True ∧ (false = true ∧ True) ∧ True) ∧ (¬¬(↑(chg m) : Int) = (↑(chg m) : Int) → True ∧ (((16 : Int) < (1000000 : (fun (x : Ty) => Ty.brecOn x Ty.D._f) I64) ∧ ¬isPoint (q.fst, q.snd) (16 : Int)) ∧ True) ∧ True ∧ True ∧ True ∧ True ∧ (¬(1 : Int) = 1 → True ∧ True ∧ True ∧ (false = true ∧ True) ∧ True) ∧ (¬¬(1 : Int) = 1 → True ∧ True ∧ True ∧ True ∧ (¬((0 : Int), (0 : Int)) = ((0 : Int), (0 : Int)) → True ∧ True ∧ (false = true ∧ True) ∧ True) ∧ (¬¬((0 : Int), (0 : Int)) = ((0 : Int), (0 : Int)) → True ∧ True ∧ True ∧ ¬(2 : Int) = 0 ∧ inR .i64 ((7 : Int) - (l.length : Int).tmod (2 : Int)) ∧ ((l.length < 1000000000000000 ∧ (0 : Int) ≤ 7 - (l.length : Int).tmod (2 : Int) ∧ (7 : Int) - (l.length : Int).tmod (2 : Int) < 1000000) ∧ True) ∧ True ∧ True ∧ (((1 : Int) ≤ 16 ∧ (16 : Int) ≤ 64) ∧ True) ∧ True ∧ True ∧ inR .i64 ((i : Int) + 1) ∧ True ∧ ∃ (y : Nat × List PQ × PQ), ((y.fst ≤ 2 ∧ y.snd.fst.length < 1000000) ∧ (2 : Nat) - y.fst < 2 - i) ∧ (l = l ∧ True ∧ crnL l ((7 : Int) - (l.length : Int).tmod (2 : Int)).toNat = y.snd.fst ∧ (i : Int) + 1 = (y.fst : Int) ∧ True) ∧ [(fracR (ptN (q.fst, q.snd) (16 : Int)) (ptD (q.fst, q.snd) (16 : Int))).fst, (fracR (ptN (q.fst, q.snd) (16 : Int)) (ptD (q.fst, q.snd) (16 : Int))).snd] = [y.snd.snd.fst, y.snd.snd.snd] ∧ True))))))) ∧ (¬(i : Int) < 2 → ∃ (y : Unit), True ∧ True ∧ True)) (by kernel_rfl) ?_
         simp only [true_and, and_true, false_and, and_false, or_false, false_or, exists_const, not_true_eq_false, not_false_eq_true, true_imp_iff, false_imp_iff, implies_true, rat_num_den, Int.toNat_natCast, he, hmod]
         refine fun h2 => ?_
         repeat' first | exact ⟨(i + 1, crnL l _, fracR (ptN q 16) (ptD q 16)), ⟨⟨by dsimp only; omega, hc⟩, by dsimp only; omega⟩, ⟨rfl, by dsimp only; omega⟩, rfl⟩ | omega | assumption | exact i02 | exact i12 | exact good_half | exact fun h => hq h.2 | exact h6.1 | exact h6.2.1 | exact h6.2.2 | exact hg | exact ⟨_, _, _, hdh⟩ | exact hd1 | exact hd2 | exact hr1 | exact (by decide : (16 : Int) < 1000000) | (simp only [inR]; omega) | (unfold idxPre; omega) | refine And.intro ?_ ?_
       · have hlm : List.length m ≤ 7 ∧ 1 ≤ List.length m := ⟨by have := h7.2.2; omega, h7.2.1⟩
         have hg := (given_facts h7).1
         have hdh := given_dv h7 (by decide) point_half
         have hd1 : (qs (dvL (rat (1, 2)) (rats m))).length < 1000000 := by rw [qs_length, dvL_length, rats_length]; omega
         have hd2 : (qs (dvR (rat (1, 2)) (rats m))).length < 1000000 := by rw [qs_length, dvR_length, rats_length]; omega
         refine ⟨X E7D, X_ok _, rfl, rfl, rfl, rfl, ?_⟩
         have he : (q.1, q.2) = q := rfl
         refine of_eq (q := True ∧ True ∧ ((i : Int) < 2 → True ∧ ((m.length < 1000000 ∧ ¬given m (6 : Int)) ∧ True) ∧ True ∧ True ∧ True ∧ True ∧ True ∧ True ∧ ((m.length < 1000000 ∧ given m (7 : Int)) ∧ True) ∧ True ∧ True ∧ True ∧ True ∧ True ∧ True ∧ True ∧ True ∧ ((m.length < 1000000 ∧ ¬(given m (7 : Int) ∧ isPoint (q.fst, q.snd) (16 : Int))) ∧ True) ∧ True ∧ True ∧ True ∧ True ∧ True ∧ True ∧ True ∧ ((m.length < 1000000 ∧ given m (7 : Int)) ∧ True) ∧ True ∧ True ∧ True ∧ True ∧ True ∧ True ∧ ((m.length < 1000000 ∧ ¬given m (6 : Int)) ∧ True) ∧ True ∧ True ∧ True ∧ True ∧ True ∧ (¬(1 : Int) = 1 → True ∧ True ∧ True ∧ True ∧ True ∧ True ∧ (false = true ∧ True) ∧ True) ∧ (¬¬(1 : Int) = 1 → True ∧ True ∧ True ∧ True ∧ True ∧ True ∧ (¬(0 : Int) = 0 → True ∧ True ∧ True ∧ (false = true ∧ True) ∧ True) ∧ (¬¬(0 : Int) = 0 → True ∧ ((m.length < 1000000 ∧ ¬given m (6 : Int)) ∧ True) ∧ True ∧ True ∧ True ∧ True ∧ ((m.length < 1000000 ∧ given m (7 : Int)) ∧ True) ∧ True ∧ True ∧ True ∧ ((goodL m ∧ good ((1 : Int), (2 : Int)) ∧ ∃ (D : Int), ∃ (M : Int), ∃ (b : Int), Dv D M b (rat ((1 : Int), (2 : Int))) (rats m)) ∧ True) ∧ True ∧ True ∧ True ∧ True ∧ True ∧ True ∧ True ∧ True ∧ (¬(0 : Int) = 0 → True ∧ True ∧ True ∧ True ∧ True ∧ True ∧ True ∧ True ∧ True ∧ (false = true ∧ True) ∧ True) ∧ (¬¬(0 : Int) = 0 → idxPre (0 : Int) (2 : Nat) ∧ True ∧ True ∧ (((qs (dvL (rat ((1 : Int), (2 : Int))) (rats m))).length < 1000000 ∧ qs (dvL (rat ((1 : Int), (2 : Int))) (rats m)) = qs (dvL (rat ((1 : Int), (2 : Int))) (rats m))) ∧ True) ∧ True ∧ True ∧ True ∧ idxPre (1 : Int) (2 : Nat) ∧ True ∧ True ∧ (((qs (dvR (rat ((1 : Int), (2 : Int))) (rats m))).length < 1000000 ∧ qs (dvR (rat ((1 : Int), (2 : Int))) (rats m)) = qs (dvR (rat ((1 : Int), (2 : Int))) (rats m))) ∧ True) ∧ True ∧ True ∧ True ∧ True ∧ True ∧ True ∧ True ∧ (¬(0 : Int) = 0 → True ∧ True ∧ True ∧ (false = true ∧ True) ∧ True) ∧ (¬¬(0 : Int) = 0 → True ∧ True ∧ (m.length + 1 ≤ 1000000 ∧ True) ∧ True ∧ True ∧ (¬(↑(chg m) : Int) = (↑(chg m) : Int) → True ∧ True ∧ (false = true ∧ True) ∧ True) ∧ (¬¬(↑(chg m) : Int) = (↑(chg m) : Int) → True ∧ (((16 : Int) < (1000000 : (fun (x : Ty) => Ty.brecOn x Ty.D._f) I64) ∧ ¬isPoint (q.fst, q.snd) (16 : Int)) ∧ True) ∧ True ∧ True ∧ True ∧ True ∧ (¬(1 : Int) = 1 → True ∧ True ∧ True ∧ (false = true ∧ True) ∧ True) ∧ (¬¬(1 : Int) = 1 → True ∧ True ∧ True ∧ True ∧ (¬((0 : Int), (0 : Int)) = ((0 : Int), (0 : Int)) → True ∧ True ∧ (false = true ∧ True) ∧ True) ∧ (¬¬((0 : Int), (0 : Int)) = ((0 : Int), (0 : Int)) → True ∧ True ∧ True ∧ ¬(2 : Int) = 0 ∧ inR .i64 ((7 : Int) - (l.length : Int).tmod (2 : Int)) ∧ ((l.length < 1000000000000000 ∧ (0 : Int) ≤ 7 - (l.length : Int).tmod (2 : Int) ∧ (7 : Int) - (l.length : Int).tmod (2 : Int) < 1000000) ∧ True) ∧ True ∧ True ∧ (((1 : Int) ≤ 16 ∧ (16 : Int) ≤ 64) ∧ True) ∧ True ∧ True ∧ inR .i64 ((i : Int) + 1) ∧ True ∧ ∃ (y : Nat × List PQ × PQ), ((y.fst ≤ 2 ∧ y.snd.fst.length < 1000000) ∧ (2 : Nat) - y.fst < 2 - i) ∧ (l = l ∧ True ∧ crnL l ((7 : Int) - (l.length : Int).tmod (2 : Int)).toNat = y.snd.fst ∧ (i : Int) + 1 = (y.fst : Int) ∧ True) ∧ [(fracR (ptN (q.fst, q.snd) (16 : Int)) (ptD (q.fst, q.snd) (16 : Int))).fst, (fracR (ptN (q.fst, q.snd) (16 : Int)) (ptD (q.fst, q.snd) (16 : Int))).snd] = [y.snd.snd.fst, y.snd.snd.snd] ∧ True)))))))) ∧ (¬(i : Int) < 2 → ∃ (y : Unit), True ∧ True ∧ True)) (by kernel_rfl) ?_
         simp only [true_and, and_true, false_and, and_false, or_false, false_or, exists_const, not_true_eq_false, not_false_eq_true, true_imp_iff, false_imp_iff, implies_true, rat_num_den, Int.toNat_natCast, he, hmod]
         refine fun h2 => ?_
         repeat' first | exact ⟨(i + 1, crnL l _, fracR (ptN q 16) (ptD q 16)), ⟨⟨by dsimp only; omega, hc⟩, by dsimp only; omega⟩, ⟨rfl, by dsimp only; omega⟩, rfl⟩ | omega | assumption | exact i02 | exact i12 | exact good_half | exact fun h => hq h.2 | exact hg | exact ⟨_, _, _, hdh⟩ | exact hd1 | exact hd2 | exact (by decide : (16 : Int) < 1000000) | (simp only [inR]; omega) | (unfold idxPre; omega) | refine And.intro ?_ ?_
   · have h6 : ¬ given m 6 := fun h => h7 ⟨h.1, h.2.1, by have := h.2.2; omega⟩
     have hz0 : ((([] : List PQ).length : Nat) : Int) + (([] : List PQ).length : Nat) + 0 = 0 := by simp
     have hz1 : inR .i64 (((([] : List PQ).length : Nat) : Int) + (([] : List PQ).length : Nat)) := by simp [inR]
     have hz2 : inR .i64 (((([] : List PQ).length : Nat) : Int) + (([] : List PQ).length : Nat) + 0) := by simp [inR]
     refine ⟨X E7N, X_ok _, rfl, rfl, rfl, rfl, ?_⟩
     have he : (q.1, q.2) = q := rfl
     refine of_eq (q := True ∧ True ∧ ((i : Int) < 2 → True ∧ ((m.length < 1000000 ∧ ¬given m (6 : Int)) ∧ True) ∧ True ∧ True ∧ True ∧ True ∧ True ∧ True ∧ ((m.length < 1000000 ∧ ¬given m (7 : Int)) ∧ True) ∧ True ∧ True ∧ True ∧ True ∧ True ∧ True ∧ True ∧ True ∧ ((m.length < 1000000 ∧ ¬(given m (7 : Int) ∧ isPoint (q.fst, q.snd) (16 : Int))) ∧ True) ∧ True ∧ True ∧ True ∧ True ∧ True ∧ True ∧ True ∧ ((m.length < 1000000 ∧ ¬given m (7 : Int)) ∧ True) ∧ True ∧ True ∧ True ∧ True ∧ True ∧ True ∧ ((m.length < 1000000 ∧ ¬given m (6 : Int)) ∧ True) ∧ True ∧ True ∧ True ∧ True ∧ True ∧ (¬(1 : Int) = 1 → True ∧ True ∧ True ∧ True ∧ True ∧ True ∧ (false = true ∧ True) ∧ True) ∧ (¬¬(1 : Int) = 1 → True ∧ True ∧ True ∧ True ∧ True ∧ True ∧ (¬(0 : Int) = 0 → True ∧ True ∧ True ∧ (false = true ∧ True) ∧ True) ∧ (¬¬(0 : Int) = 0 → True ∧ ((m.length < 1000000 ∧ ¬given m (6 : Int)) ∧ True) ∧ True ∧ True ∧ True ∧ True ∧ ((m.length < 1000000 ∧ ¬given m (7 : Int)) ∧ True) ∧ True ∧ True ∧ True ∧ True ∧ (¬(1 : Int) = 1 → True ∧ True ∧ True ∧ True ∧ True ∧ True ∧ True ∧ True ∧ True ∧ (false = true ∧ True) ∧ True) ∧ (¬¬(1 : Int) = 1 → True ∧ True ∧ True ∧ True ∧ (¬(1 : Int) = 1 → True ∧ True ∧ True ∧ True ∧ True ∧ True ∧ True ∧ (false = true ∧ True) ∧ True) ∧ (¬¬(1 : Int) = 1 → True ∧ True ∧ True ∧ True ∧ (¬(1 : Int) = 1 → True ∧ True ∧ True ∧ True ∧ True ∧ (false = true ∧ True) ∧ True) ∧ (¬¬(1 : Int) = 1 → idxPre (0 : Int) (2 : Nat) ∧ True ∧ True ∧ idxPre (1 : Int) (2 : Nat) ∧ True ∧ True ∧ inR .i64 ((↑([] : List Int).length : Int) + (↑([] : List Int).length : Int)) ∧ True ∧ inR .i64 ((↑([] : List Int).length : Int) + (↑([] : List Int).length : Int) + 0) ∧ True ∧ True ∧ True ∧ (¬(↑([] : List Int).length : Int) + (↑([] : List Int).length : Int) + 0 = 0 → True ∧ True ∧ True ∧ (false = true ∧ True) ∧ True) ∧ (¬¬(↑([] : List Int).length : Int) + (↑([] : List Int).length : Int) + 0 = 0 → True ∧ True ∧ True ∧ True ∧ (¬((0 : Int), (0 : Int)) = ((0 : Int), (0 : Int)) → True ∧ True ∧ (false = true ∧ True) ∧ True) ∧ (¬¬((0 : Int), (0 : Int)) = ((0 : Int), (0 : Int)) → True ∧ True ∧ True ∧ ¬(2 : Int) = 0 ∧ inR .i64 ((7 : Int) - (l.length : Int).tmod (2 : Int)) ∧ ((l.length < 1000000000000000 ∧ (0 : Int) ≤ 7 - (l.length : Int).tmod (2 : Int) ∧ (7 : Int) - (l.length : Int).tmod (2 : Int) < 1000000) ∧ True) ∧ True ∧ True ∧ (((1 : Int) ≤ 16 ∧ (16 : Int) ≤ 64) ∧ True) ∧ True ∧ True ∧ inR .i64 ((i : Int) + 1) ∧ True ∧ ∃ (y : Nat × List PQ × PQ), ((y.fst ≤ 2 ∧ y.snd.fst.length < 1000000) ∧ (2 : Nat) - y.fst < 2 - i) ∧ (l = l ∧ True ∧ crnL l ((7 : Int) - (l.length : Int).tmod (2 : Int)).toNat = y.snd.fst ∧ (i : Int) + 1 = (y.fst : Int) ∧ True) ∧ [(fracR (ptN (q.fst, q.snd) (16 : Int)) (ptD (q.fst, q.snd) (16 : Int))).fst, (fracR (ptN (q.fst, q.snd) (16 : Int)) (ptD (q.fst, q.snd) (16 : Int))).snd] = [y.snd.snd.fst, y.snd.snd.snd] ∧ True)))))))) ∧ (¬(i : Int) < 2 → ∃ (y : Unit), True ∧ True ∧ True)) (by kernel_rfl) ?_
     simp only [true_and, and_true, false_and, and_false, or_false, false_or, exists_const, not_true_eq_false, not_false_eq_true, true_imp_iff, false_imp_iff, implies_true, rat_num_den, Int.toNat_natCast, he, hmod]
     refine fun h2 => ?_
     repeat' first | exact ⟨(i + 1, crnL l _, fracR (ptN q 16) (ptD q 16)), ⟨⟨by dsimp only; omega, hc⟩, by dsimp only; omega⟩, ⟨rfl, by dsimp only; omega⟩, rfl⟩ | omega | assumption | exact i02 | exact i12 | exact good_half | exact fun h => h7 h.1 | exact (by decide : (16 : Int) < 1000000) | (simp only [inR]; omega) | (unfold idxPre; omega) | exact fun h => absurd hz0 h | exact hz1 | exact hz2 | intro _ | refine And.intro ?_ ?_
theorem call7 (l : List PQ) (x : PQ) (h : l.length < 1000000000000000) : GCall Tryd.prog gl 7 true [.sl Q2 l, ofD Q2 x] [] [.tt] [] := by
 refine gcall_of (X := (X E7L)) ((X_ok E7L)) (f := 7) (fn := Tryd.f7) (c := bodyOf Tryd.f7) (by kernel_rfl) (by kernel_rfl) (view := false) (rvs := [.tmp 4]) (by kernel_rfl) (H := (H7 l)) 200 (by kernel_rfl) ?_
 have hL := loop7 l h
 refine of_eq (q := True ∧ True ∧ True ∧ True ∧ True ∧ True ∧ True ∧ True ∧ slPre l.length l.length none (some (minI (l.length : Int) (9 : Int))) none ∧ sumPre (0 : Nat) (cutL l none (some (minI (l.length : Int) (9 : Int)))).length (nat_lit 16) ∧ True ∧ True ∧ LoopOK (X E7L) L7_0 { J := chks (0 : Nat) [(0 : Nat), (3 : Nat), (5 : Nat), (6 : Nat)] (fm7 l), exits := List.map (fun (x : List Nat × Ex) => x.snd) ex7 } (RetR (X E7L) true false [ResultVar.tmp (4 : Tmp)] [AV.tt] []) ∧ (∃ (y : Nat × List PQ × PQ), (y.fst ≤ 2 ∧ y.snd.fst.length < 1000000) ∧ (l = l ∧ True ∧ cutL l none (some (minI (l.length : Int) (9 : Int))) = y.snd.fst ∧ (0 : Int) = (y.fst : Int) ∧ True) ∧ [x.fst, x.snd] = [y.snd.snd.fst, y.snd.snd.snd] ∧ True) ∧ (∀ (y : Unit), True → (True ∧ True) ∧ True ∧ True ∧ (true = true ∧ True) ∧ True) ∧ True) (by kernel_rfl) ?_
 simp only [true_and, and_true, false_and, and_false, or_false, false_or, exists_const, exists_false, rat_num_den, rat_int, Int.toNat_natCast]
 have hmi : minI l.length 9 = (l.take 9).length := by unfold minI; rw [List.length_take]; split <;> omega
 have hct : cutL l none (some (minI l.length 9)) = l.take 9 := by
   unfold cutL
   simp only [bLo, bHi, Nat.sub_zero, List.drop_zero]
   rw [hmi]; simp [List.take_eq_take_iff]
 have h9 : (l.take 9).length ≤ 9 := by rw [List.length_take]; omega
 have h9' : (l.take 9).length ≤ l.length := by rw [List.length_take]; omega
 rw [hct]
 refine ⟨by simp only [slPre, bLo, bHi]; omega, by unfold sumPre; omega, hL, ⟨(0, l.take 9, x), ⟨by dsimp only; omega, by dsimp only; omega⟩, ⟨rfl, rfl⟩, rfl⟩, fun _ _ => trivial⟩
end Go.Am.Bern

/- Bern: from the laws' contracts to the given statements: what all laws share. -/
namespace Go.Proofs.YtjmfgoemdkfldaaDoor
open Go Go.ChangeShapes Go.WideShapes Go.ChangeAt Go.RowKit Go.Am Go.Am.Bern
theorem own : ownKnob Tryd.prog.godebug = none := by kernel_rfl
theorem laidOut : laidOutB Tryd.prog = true := by kernel_rfl
theorem u3 : Tryd.prog.underlying 3 = some (.int .i64) := by kernel_rfl
theorem u4 : Tryd.prog.underlying 4 = some .bool := by kernel_rfl
theorem u2 : Tryd.prog.underlying 2 = some (.int .i64) := by kernel_rfl
theorem u48 : Tryd.prog.underlying 48 = some (.array 2 2) := by kernel_rfl
theorem u25 : Tryd.prog.underlying 25 = some (.slice 48) := by kernel_rfl
theorem tyOk48 : TyOk Tryd.prog 48 Q2 := ⟨2, u48, u2, by kernel_rfl, by kernel_rfl⟩
theorem tyOk25 : TyOk Tryd.prog 25 (.sl Q2) := ⟨48, u25, tyOk48, by kernel_rfl, by decide, of_decide_eq_true (by kernel_rfl)⟩
def laidW : List (String × DataW Unit) := [("girouette/bern.whole", Rows.laid_girouette_bern_whole)]
theorem door_met (os : Os) (args : Array Value) : laidMetH Tryd.prog laidW ((World.doorLaid Tryd.prog 400 os).forCall (fun _ _ => 0) ⟨#[], args, []⟩).memory :=
 laidMetH_of_parts3 (fuel := 8) (laidMet_of_run' 8 (by kernel_rfl) (by kernel_rfl)) (by kernel_rfl) (by kernel_rfl)
theorem reach_le {l : List Nat} (h : l.all (fun x => decide (x ≤ reachBytes)) = true) : ∀ n ∈ l, n ≤ 140737488355328 := fun n hn => by
 have := of_decide_eq_true (List.all_eq_true.mp h n hn)
 have e : reachBytes = 140737488351232 := rfl
 omega
theorem gWhole : Tryd.prog.globalNamed "girouette/bern.whole" = some 0 := by kernel_rfl
theorem tWhole : (Tryd.prog.globals[0]?).map (·.type) = some 87 := by kernel_rfl
set_option maxRecDepth 100000 in
theorem glob_of {W : World} (h : laidMetH Tryd.prog laidW W) : GlobOk gl (fun b => b < W.heap.size) W := by
 rw [MakeChecks.laidMetH_plain _ _ _ (by kernel_rfl)] at h
 obtain ⟨ps, ⟨g0, t0, cs0, f0, p0, q0, hg0, ht0, hv0, hd0, _, _⟩, _, _⟩ := h
 obtain rfl := Option.some.inj (gWhole.symm.trans hg0)
 obtain rfl := Option.some.inj (tWhole.symm.trans ht0)
 have hU : ∃ d, Tryd.prog.underlying 87 = some d ∧ dsOf d = .st [(0, 3), (1, 3)] := TI.Ok.under ti87_ok
 obtain ⟨d, hu, hd⟩ := hU
 obtain ⟨fs, rfl, hfs⟩ : ∃ fs, d = .struct fs ∧ fs.toList.map (fun f => (f.offset, f.type)) = [(0, 3), (1, 3)] := by
   cases d <;> simp [dsOf] at hd
   exact ⟨_, rfl, hd⟩
 obtain ⟨xs, n, rfl, hx, hl, hn, hel⟩ := DataW.trod_struct hu hd0
 obtain ⟨fs⟩ := fs
 match fs, hfs, hn, hel with
 | [a, b], hfs, hn, hel =>
 simp only [List.map_cons, List.map_nil, List.cons.injEq, Prod.mk.injEq] at hfs
 obtain ⟨⟨a1, a2⟩, ⟨b1, b2⟩, _⟩ := hfs
 have e0 := hel 0 a rfl
 have e1 := hel 1 b rfl
 have c3 : Tryd.prog.cellsOf 3 = 1 := by kernel_rfl
 have c87 : Tryd.prog.cellsOf 87 = 2 := by kernel_rfl
 rw [a1, a2, c3] at e0
 rw [b1, b2, c3] at e1
 rw [c87] at hl
 obtain ⟨ls⟩ := cs0
 match xs, hn, hx, ls, hl, e0, e1, hv0 with
 | [y0, y1], _, hx, [c0, c1], _, e0, e1, hv0 =>
 simp only [Rows.laid_girouette_bern_whole, List.map_cons, List.map_nil, Prod.mk.injEq, DataW.agg.injEq, List.cons.injEq] at hx
 obtain ⟨n0, k0, k1, _⟩ := DataW.trod_int u3 (show DataW.trod _ Tryd.prog W 0 _ false n 3 [c0] = some y0 from e0)
 obtain ⟨n1, l0, l1, _⟩ := DataW.trod_int u3 (show DataW.trod _ Tryd.prog W 0 _ false n 3 [c1] = some y1 from e1)
 have z0 : n0 = 0 := by rw [k1] at hx; simpa using hx.1.1.symm
 have z1 : n1 = 0 := by rw [l1] at hx; simpa using hx.1.2.1.symm
 subst z0 z1
 have w0 := World.var?_cell hg0 hv0 0
 have w1 := World.var?_cell hg0 hv0 1
 simp only [List.cons.injEq, and_true] at k0 l0
 subst k0 l0
 have w0 : W.cell? ⟨0, 0, none⟩ = some (.int .i64 0) := by simpa using w0
 have w1 : W.cell? ⟨0, 1, none⟩ = some (.int .i64 0) := by simpa using w1
 intro g p hp
 match g, hp with
 | 0, hp =>
   have hp : p = ⟨.s2 (.int .i64) (.int .i64), ((0 : Int), (0 : Int))⟩ := (Option.some.inj hp).symm
   subst hp
   refine ⟨cell_lt w0, [.int .i64 0, .int .i64 0], by simp only [CD]; exact ⟨_, _, rfl, rfl, rfl⟩, fun j hj => ?_⟩
   match j, hj with
   | 0, _ => exact w0
   | 1, _ => exact w1
end Go.Proofs.YtjmfgoemdkfldaaDoor
