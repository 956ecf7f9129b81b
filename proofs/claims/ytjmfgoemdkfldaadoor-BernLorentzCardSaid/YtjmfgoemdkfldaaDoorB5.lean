/- Part B5 of the proof that the law named in the last file returns true at every input and leaves its arguments as they were; no condition of its own. -/
import Derived.Test.YtjmfgoemdkfldaaDoorB4
import Derived.Test.YtjmfgoemdkfldaaDoorA2
import Derived.Test.YtjmfgoemdkfldaaDoorB3
import Derived.Test.YtjmfgoemdkfldaaDoorRows
import Derived.WalkKit
import Derived.ProofKit
import Derived.OpenShut
import Derived.LaidMore
import Derived.ChangeOld
import Derived.Below
import Derived.SevenTiedAt
import Derived.Stop.Joined
set_option linter.unusedSimpArgs false
set_option linter.unusedVariables false
/- Bern: pieces that cover a piece; the property is function 64. -/
namespace Go.Am.Bern.P64
open Go Go.Am Go.Proofs Go.Am.Bern
def gd : List PQ -> Bool := fun l => decide (chg l <= 1)
def gdB : Ob := .bx (.clo 64 [] [])
def gN (p : List Int) (m : Memo) : List Ob := [gdB, .bx (.ptr 2 0 []), cvB p 3, mmO m, .bx nl, .bx (clo91 0 1 4 5)]
def gO (p : List Int) (m : Memo) (l : List PQ) : List Ob := [gdB, .bx (.ptr 2 0 []), cvB p 3, mmO m, .bx (.own 6 0), .bx (clo91 0 1 4 5), pieO 0 l]
def gS (v : Nat) (p : List Int) (m : Memo) (l : List PQ) : List Ob := [gdB, .bx (.ptr 2 0 []), cvB p 3, mmO m, .bx (.own 5 v), pieO v l, .bx (clo91 0 1 4 6)]
def aN (q : PQ) : List AV := [ofD FR q, .ptr 0 0 [], .ptr 1 0 [], .ptr 4 0 [], .ptr 5 0 []]
def aS (q : PQ) : List AV := [ofD FR q, .ptr 0 0 [], .ptr 1 0 [], .ptr 4 0 [], .ptr 6 0 []]
def GN (n : Nat) : Prop := ∀ (d k : Nat) (p : List Int) (m : Memo), pre91 n d k p m -> grL gd p n d k = [] -> GCall Tryd.prog gl 91 false (aN ((d : Int), (k : Int))) (gN p m) [.ff] (gN p (grM gd p n d k m))
def GO (n : Nat) : Prop := ∀ (d k : Nat) (p : List Int) (m : Memo), pre91 n d k p m -> grL gd p n d k ≠ [] -> GCall Tryd.prog gl 91 false (aN ((d : Int), (k : Int))) (gN p m) [.bool (grB gd p n d k)] (gO p (grM gd p n d k m) (grL gd p n d k))
def GS (n : Nat) : Prop := ∀ (d k : Nat) (p : List Int) (m : Memo) (l : List PQ), pre91 n d k p m -> l.length + (grL gd p n d k).length < 1000000 ->
 GCall Tryd.prog gl 91 false (aS ((d : Int), (k : Int))) (gS 0 p m l) [.bool (grB gd p n d k)] (gS 1 p (grM gd p n d k m) (l ++ grL gd p n d k))
def get91N (xs : List AV) (obs : List Ob) : Option (PQ × List Int × Memo) :=
 match xs with
 | x :: _ => (match toD FR x, unCvB (obs.getD 2 .gone), unMm (obs.getD 3 .gone), isNl (obs.getD 4 .gone) with
   | some q, some p, some m, true => some (q, p, m)
   | _, _, _, _ => none)
 | _ => none
def get91S (xs : List AV) (obs : List Ob) : Option (PQ × List Int × Memo × List PQ) :=
 match xs with
 | x :: _ => (match toD FR x, unCvB (obs.getD 2 .gone), unMm (obs.getD 3 .gone), unPie (obs.getD 5 .gone) with
   | some q, some p, some m, some l => some (q, p, m, l)
   | _, _, _, _ => none)
 | _ => none
theorem en91 : Enters Tryd.prog 91 := ⟨Tryd.f91, by kernel_rfl, by kernel_rfl, by kernel_rfl⟩
def e91N (n : Nat) (h : GN n) : Entry Tryd.prog gl := entryW 91 en91 true get91N (fun x => ∃ d k : Nat, x.1 = ((d : Int), (k : Int)) /\ pre91 n d k x.2.1 x.2.2 /\ grL gd x.2.1 n d k = []) false (fun x => aN x.1) (fun x => gN x.2.1 x.2.2) (fun _ => [.ff])
 (fun x => gN x.2.1 (grM gd x.2.1 n x.1.1.toNat x.1.2.toNat x.2.2)) (by
   rintro ⟨q, p, m⟩ ⟨d, k, hq, h1, h2⟩
   simp only at hq; subst hq
   exact h d k p m h1 h2)
def e91O (n : Nat) (h : GO n) : Entry Tryd.prog gl := entryW 91 en91 true get91N (fun x => ∃ d k : Nat, x.1 = ((d : Int), (k : Int)) /\ pre91 n d k x.2.1 x.2.2 /\ grL gd x.2.1 n d k ≠ []) false (fun x => aN x.1) (fun x => gN x.2.1 x.2.2) (fun x => [.bool (grB gd x.2.1 n x.1.1.toNat x.1.2.toNat)])
 (fun x => gO x.2.1 (grM gd x.2.1 n x.1.1.toNat x.1.2.toNat x.2.2) (grL gd x.2.1 n x.1.1.toNat x.1.2.toNat)) (by
   rintro ⟨q, p, m⟩ ⟨d, k, hq, h1, h2⟩
   simp only at hq; subst hq
   exact h d k p m h1 h2)
def e91S (n : Nat) (h : GS n) : Entry Tryd.prog gl := entryW 91 en91 true get91S (fun x => ∃ d k : Nat, x.1 = ((d : Int), (k : Int)) /\ pre91 n d k x.2.1 x.2.2.1 /\ x.2.2.2.length + (grL gd x.2.1 n d k).length < 1000000) false (fun x => aS x.1) (fun x => gS 0 x.2.1 x.2.2.1 x.2.2.2) (fun x => [.bool (grB gd x.2.1 n x.1.1.toNat x.1.2.toNat)])
 (fun x => gS 1 x.2.1 (grM gd x.2.1 n x.1.1.toNat x.1.2.toNat x.2.2.1) (x.2.2.2 ++ grL gd x.2.1 n x.1.1.toNat x.1.2.toNat)) (by
   rintro ⟨q, p, m, l⟩ ⟨d, k, hq, h1, h2⟩
   simp only at hq; subst hq
   exact h d k p m l h1 h2)
noncomputable def yN (s : LoopState) (j : Option Code) (p : List Int) (m : Memo) (b : AV) : List Ob := [.lp C91 s j (rc91 1 7), .bx (clo91 2 3 6 1), gdB, .bx (.ptr 4 0 []), cvB p 5, mmO m, .bx nl, .bx b]
noncomputable def yO (s : LoopState) (j : Option Code) (p : List Int) (m : Memo) (l : List PQ) (b : AV) : List Ob := [.lp C91 s j (rc91 1 7), .bx (clo91 2 3 6 1), gdB, .bx (.ptr 4 0 []), cvB p 5, mmO m, .bx (.own 8 0), .bx b, pieO 0 l]
noncomputable def yS (v : Nat) (s : LoopState) (j : Option Code) (p : List Int) (m : Memo) (l : List PQ) (b : AV) : List Ob := [.lp C91 s j (rc91 1 8), .bx (clo91 2 3 6 1), gdB, .bx (.ptr 4 0 []), cvB p 5, mmO m, .bx (.own 7 v), pieO v l, .bx b]
def aY (i : Int) (q : PQ) : List AV := [.yld 0, .int .i64 i, ofD FR q]
def YN (n : Nat) : Prop := ∀ (i : Int) (d k : Nat) (p : List Int) (m : Memo), pre91 n d k p m -> grL gd p n d k = [] -> GYield Tryd.prog gl false (aY i ((d : Int), (k : Int))) (yN .ready none p m .ff) [.ff] (yN .done (some (.exit 0)) p (grM gd p n d k m) .ff)
def YO (n : Nat) : Prop := ∀ (i : Int) (d k : Nat) (p : List Int) (m : Memo), pre91 n d k p m -> grL gd p n d k ≠ [] ->
 GYield Tryd.prog gl false (aY i ((d : Int), (k : Int))) (yN .ready none p m .ff) [.bool (grB gd p n d k && !odd k)] (yO (yst (grB gd p n d k) (odd k)) (yjp (grB gd p n d k) (odd k)) p (grM gd p n d k m) (grL gd p n d k) (.bool (grB gd p n d k && odd k)))
def YS (n : Nat) : Prop := ∀ (i : Int) (d k : Nat) (p : List Int) (m : Memo) (l : List PQ), pre91 n d k p m -> l.length + (grL gd p n d k).length < 1000000 ->
 GYield Tryd.prog gl false (aY i ((d : Int), (k : Int))) (yS 0 .ready none p m l .ff) [.bool (grB gd p n d k && !odd k)] (yS 1 (yst (grB gd p n d k) (odd k)) (yjp (grB gd p n d k) (odd k)) p (grM gd p n d k m) (l ++ grL gd p n d k) (.bool (grB gd p n d k && odd k)))
theorem yN_of (n : Nat) (h : GN n) : YN n := by
 intro i d k p m hp hl
 refine gyield_of (X := Xy [e91N n h] [] (some 0) 8 (fun _ => none)) (Xy_ok _ _ _ _ _) (C := C91) (j := none) (vs := [.ptr 1 0 [], .ptr 7 0 []]) (xs := [.int .i64 i, ofD FR ((d : Int), (k : Int))]) (view := false) (by kernel_rfl) (by kernel_rfl) (by kernel_rfl) (H := fun _ => none) 90 90 ?_
 refine of_eq (q := True /\ True /\ True /\ True /\ (((∃ (d_1 : Nat), ∃ (k_1 : Nat), ((d : Int), (k : Int)) = ((d_1 : Int), (k_1 : Int)) /\ pre91 n d_1 k_1 p m /\ grL P64.gd p n d_1 k_1 = []) /\ (((d : Int) = (d : Int) /\ (k : Int) = (k : Int) /\ True) /\ True /\ True /\ True /\ True /\ True) /\ (True /\ True) /\ True /\ (p = p /\ True /\ True) /\ m = m /\ True /\ (True /\ True /\ True /\ True /\ True /\ True) /\ True) /\ True /\ True /\ True /\ True /\ True /\ True /\ True) /\ True /\ (false = false /\ True) /\ (C91 = C91 /\ LoopState.done = LoopState.done /\ some (Code.exit (0 : Nat)) = some (Code.exit (0 : Nat)) /\ (True /\ True /\ True) /\ True) /\ (True /\ True /\ True /\ True /\ True /\ True) /\ (True /\ True) /\ True /\ (p = p /\ True /\ True) /\ grM P64.gd p n d k m = grM P64.gd p n d k m /\ True /\ false = false /\ True) (by kernel_rfl) ?_
 simp only [zz]
 exact ⟨d, k, rfl, hp, hl⟩
theorem yO_of (n : Nat) (h : GO n) : YO n := by
 intro i d k p m hp hl
 refine gyield_of (X := Xy [e91O n h] [] (some 0) 8 (fun _ => none)) (Xy_ok _ _ _ _ _) (C := C91) (j := none) (vs := [.ptr 1 0 [], .ptr 7 0 []]) (xs := [.int .i64 i, ofD FR ((d : Int), (k : Int))]) (view := false) (by kernel_rfl) (by kernel_rfl) (by kernel_rfl) (H := fun _ => none) 90 90 ?_
 refine of_eq (q := True /\ True /\ True /\ True /\ (((∃ (d_1 : Nat), ∃ (k_1 : Nat), ((d : Int), (k : Int)) = ((d_1 : Int), (k_1 : Int)) /\ pre91 n d_1 k_1 p m /\ ¬grL P64.gd p n d_1 k_1 = []) /\ (((d : Int) = (d : Int) /\ (k : Int) = (k : Int) /\ True) /\ True /\ True /\ True /\ True /\ True) /\ (True /\ True) /\ True /\ (p = p /\ True /\ True) /\ m = m /\ True /\ (True /\ True /\ True /\ True /\ True /\ True) /\ True) /\ True /\ True /\ True /\ True /\ True /\ True /\ True) /\ True /\ ((!grB P64.gd p n d k) = true -> (false = (grB P64.gd p n d k && !odd k) /\ True) /\ (C91 = C91 /\ yst (grB P64.gd p n d k) (odd k) = LoopState.done /\ yjp (grB P64.gd p n d k) (odd k) = some (Code.exit (0 : Nat)) /\ (True /\ True /\ True) /\ True) /\ (True /\ True /\ True /\ True /\ True /\ True) /\ (True /\ True) /\ True /\ (p = p /\ True /\ True) /\ grM P64.gd p n d k m = grM P64.gd p n d k m /\ True /\ false = (grB P64.gd p n d k && odd k) /\ grL P64.gd p n d k = grL P64.gd p n d k /\ True) /\ ((!grB P64.gd p n d k) = false -> True /\ True /\ ¬(2 : Int) = 0 /\ True /\ ((k : Int).tmod (2 : Int) = 1 -> True /\ (false = (grB P64.gd p n d k && !odd k) /\ True) /\ (C91 = C91 /\ yst (grB P64.gd p n d k) (odd k) = LoopState.done /\ yjp (grB P64.gd p n d k) (odd k) = some Code.ret /\ (True /\ True /\ True) /\ True) /\ (True /\ True /\ True /\ True /\ True /\ True) /\ (True /\ True) /\ True /\ (p = p /\ True /\ True) /\ grM P64.gd p n d k m = grM P64.gd p n d k m /\ True /\ true = (grB P64.gd p n d k && odd k) /\ grL P64.gd p n d k = grL P64.gd p n d k /\ True) /\ (¬(k : Int).tmod (2 : Int) = 1 -> (true = (grB P64.gd p n d k && !odd k) /\ True) /\ (C91 = C91 /\ yst (grB P64.gd p n d k) (odd k) = LoopState.ready /\ yjp (grB P64.gd p n d k) (odd k) = none /\ (True /\ True /\ True) /\ True) /\ (True /\ True /\ True /\ True /\ True /\ True) /\ (True /\ True) /\ True /\ (p = p /\ True /\ True) /\ grM P64.gd p n d k m = grM P64.gd p n d k m /\ True /\ false = (grB P64.gd p n d k && odd k) /\ grL P64.gd p n d k = grL P64.gd p n d k /\ True))) (by kernel_rfl) ?_
 simp only [zz]
 refine ⟨⟨d, k, rfl, hp, hl⟩, fun hb => ?_, fun hb => ⟨by omega, fun ho => ?_, fun ho => ?_⟩⟩
 · have hb' : grB gd p n d k = false := by simpa using hb
   rw [hb']; simp [yst, yjp]
 · have hb' : grB gd p n d k = true := by simpa using hb
   rw [hb', (odd_spec k).mp ho]; simp [yst, yjp]
 · have hb' : grB gd p n d k = true := by simpa using hb
   have ho' : odd k = false := by simpa [odd_spec] using ho
   rw [hb', ho']; simp [yst, yjp]
theorem yS_of (n : Nat) (h : GS n) : YS n := by
 intro i d k p m l hp hl
 refine gyield_of (X := Xb [e91S n h] [] (some 0) 9 [7] (fun _ => none)) (Xb_ok _ _ _ _ _ _) (C := C91) (j := none) (vs := [.ptr 1 0 [], .ptr 8 0 []]) (xs := [.int .i64 i, ofD FR ((d : Int), (k : Int))]) (view := false) (by kernel_rfl) (by kernel_rfl) (by kernel_rfl) (H := fun _ => none) 90 90 ?_
 refine of_eq (q := True /\ True /\ True /\ True /\ (((∃ (d_1 : Nat), ∃ (k_1 : Nat), ((d : Int), (k : Int)) = ((d_1 : Int), (k_1 : Int)) /\ pre91 n d_1 k_1 p m /\ l.length + (grL P64.gd p n d_1 k_1).length < 1000000) /\ (((d : Int) = (d : Int) /\ (k : Int) = (k : Int) /\ True) /\ True /\ True /\ True /\ True /\ True) /\ (True /\ True) /\ True /\ (p = p /\ True /\ True) /\ m = m /\ True /\ l = l /\ (True /\ True /\ True /\ True /\ True /\ True) /\ True) /\ True /\ True /\ True /\ True /\ True /\ True /\ True /\ True) /\ True /\ ((!grB P64.gd p n d k) = true -> (false = (grB P64.gd p n d k && !odd k) /\ True) /\ (C91 = C91 /\ yst (grB P64.gd p n d k) (odd k) = LoopState.done /\ yjp (grB P64.gd p n d k) (odd k) = some (Code.exit (0 : Nat)) /\ (True /\ True /\ True) /\ True) /\ (True /\ True /\ True /\ True /\ True /\ True) /\ (True /\ True) /\ True /\ (p = p /\ True /\ True) /\ grM P64.gd p n d k m = grM P64.gd p n d k m /\ True /\ l ++ grL P64.gd p n d k = l ++ grL P64.gd p n d k /\ false = (grB P64.gd p n d k && odd k) /\ True) /\ ((!grB P64.gd p n d k) = false -> True /\ True /\ ¬(2 : Int) = 0 /\ True /\ ((k : Int).tmod (2 : Int) = 1 -> True /\ (false = (grB P64.gd p n d k && !odd k) /\ True) /\ (C91 = C91 /\ yst (grB P64.gd p n d k) (odd k) = LoopState.done /\ yjp (grB P64.gd p n d k) (odd k) = some Code.ret /\ (True /\ True /\ True) /\ True) /\ (True /\ True /\ True /\ True /\ True /\ True) /\ (True /\ True) /\ True /\ (p = p /\ True /\ True) /\ grM P64.gd p n d k m = grM P64.gd p n d k m /\ True /\ l ++ grL P64.gd p n d k = l ++ grL P64.gd p n d k /\ true = (grB P64.gd p n d k && odd k) /\ True) /\ (¬(k : Int).tmod (2 : Int) = 1 -> (true = (grB P64.gd p n d k && !odd k) /\ True) /\ (C91 = C91 /\ yst (grB P64.gd p n d k) (odd k) = LoopState.ready /\ yjp (grB P64.gd p n d k) (odd k) = none /\ (True /\ True /\ True) /\ True) /\ (True /\ True /\ True /\ True /\ True /\ True) /\ (True /\ True) /\ True /\ (p = p /\ True /\ True) /\ grM P64.gd p n d k m = grM P64.gd p n d k m /\ True /\ l ++ grL P64.gd p n d k = l ++ grL P64.gd p n d k /\ false = (grB P64.gd p n d k && odd k) /\ True))) (by kernel_rfl) ?_
 simp only [zz]
 refine ⟨⟨d, k, rfl, hp, hl⟩, fun hb => ?_, fun hb => ⟨by omega, fun ho => ?_, fun ho => ?_⟩⟩
 · have hb' : grB gd p n d k = false := by simpa using hb
   rw [hb']; simp [yst, yjp]
 · have hb' : grB gd p n d k = true := by simpa using hb
   rw [hb', (odd_spec k).mp ho]; simp [yst, yjp]
 · have hb' : grB gd p n d k = true := by simpa using hb
   have ho' : odd k = false := by simpa [odd_spec] using ho
   rw [hb', ho']; simp [yst, yjp]
def getYN (xs : List AV) (obs : List Ob) : Option (Int × PQ × List Int × Memo) :=
 match xs with
 | [_, i, x] => (match toInt .i64 i, toD FR x, unCvB (obs.getD 4 .gone), unMm (obs.getD 5 .gone), isNl (obs.getD 6 .gone) with
   | some i, some q, some p, some m, true => some (i, q, p, m)
   | _, _, _, _, _ => none)
 | _ => none
def getYS (xs : List AV) (obs : List Ob) : Option (Int × PQ × List Int × Memo × List PQ) :=
 match xs with
 | [_, i, x] => (match toInt .i64 i, toD FR x, unCvB (obs.getD 4 .gone), unMm (obs.getD 5 .gone), unPie (obs.getD 7 .gone) with
   | some i, some q, some p, some m, some l => some (i, q, p, m, l)
   | _, _, _, _, _ => none)
 | _ => none
noncomputable def EYN (n : Nat) (h : YN n) : YEntry Tryd.prog gl := yentryW getYN (fun x => ∃ d k : Nat, x.2.1 = ((d : Int), (k : Int)) /\ pre91 n d k x.2.2.1 x.2.2.2 /\ grL gd x.2.2.1 n d k = []) false (fun x => aY x.1 x.2.1) (fun x => yN .ready none x.2.2.1 x.2.2.2 .ff) (fun _ => [.ff])
 (fun x => yN .done (some (.exit 0)) x.2.2.1 (grM gd x.2.2.1 n x.2.1.1.toNat x.2.1.2.toNat x.2.2.2) .ff) (by
   rintro ⟨i, q, p, m⟩ ⟨d, k, hq, h1, h2⟩
   simp only at hq; subst hq
   exact h i d k p m h1 h2)
noncomputable def EYO (n : Nat) (h : YO n) : YEntry Tryd.prog gl := yentryW getYN (fun x => ∃ d k : Nat, x.2.1 = ((d : Int), (k : Int)) /\ pre91 n d k x.2.2.1 x.2.2.2 /\ grL gd x.2.2.1 n d k ≠ []) false (fun x => aY x.1 x.2.1) (fun x => yN .ready none x.2.2.1 x.2.2.2 .ff)
 (fun x => [.bool (grB gd x.2.2.1 n x.2.1.1.toNat x.2.1.2.toNat && !odd x.2.1.2.toNat)])
 (fun x => yO (yst (grB gd x.2.2.1 n x.2.1.1.toNat x.2.1.2.toNat) (odd x.2.1.2.toNat)) (yjp (grB gd x.2.2.1 n x.2.1.1.toNat x.2.1.2.toNat) (odd x.2.1.2.toNat)) x.2.2.1 (grM gd x.2.2.1 n x.2.1.1.toNat x.2.1.2.toNat x.2.2.2) (grL gd x.2.2.1 n x.2.1.1.toNat x.2.1.2.toNat) (.bool (grB gd x.2.2.1 n x.2.1.1.toNat x.2.1.2.toNat && odd x.2.1.2.toNat))) (by
   rintro ⟨i, q, p, m⟩ ⟨d, k, hq, h1, h2⟩
   simp only at hq; subst hq
   exact h i d k p m h1 h2)
noncomputable def EYS (n : Nat) (h : YS n) : YEntry Tryd.prog gl := yentryW getYS (fun x => ∃ d k : Nat, x.2.1 = ((d : Int), (k : Int)) /\ pre91 n d k x.2.2.1 x.2.2.2.1 /\ x.2.2.2.2.length + (grL gd x.2.2.1 n d k).length < 1000000) false (fun x => aY x.1 x.2.1) (fun x => yS 0 .ready none x.2.2.1 x.2.2.2.1 x.2.2.2.2 .ff)
 (fun x => [.bool (grB gd x.2.2.1 n x.2.1.1.toNat x.2.1.2.toNat && !odd x.2.1.2.toNat)])
 (fun x => yS 1 (yst (grB gd x.2.2.1 n x.2.1.1.toNat x.2.1.2.toNat) (odd x.2.1.2.toNat)) (yjp (grB gd x.2.2.1 n x.2.1.1.toNat x.2.1.2.toNat) (odd x.2.1.2.toNat)) x.2.2.1 (grM gd x.2.2.1 n x.2.1.1.toNat x.2.1.2.toNat x.2.2.2.1) (x.2.2.2.2 ++ grL gd x.2.2.1 n x.2.1.1.toNat x.2.1.2.toNat) (.bool (grB gd x.2.2.1 n x.2.1.1.toNat x.2.1.2.toNat && odd x.2.1.2.toNat))) (by
   rintro ⟨i, q, p, m, l⟩ ⟨d, k, hq, h1, h2⟩
   simp only at hq; subst hq
   exact h i d k p m l h1 h2)
noncomputable def hN (s : LoopState) (j : Option Code) (p : List Int) (m : Memo) (b : AV) (q : PQ) : List Ob := [.lp C91 s j (rc91 1 7), .bx (clo91 2 3 6 1), gdB, .bx (.ptr 4 0 []), cvB p 5, mmO m, .bx nl, .bx b, bq q]
noncomputable def hO (s : LoopState) (j : Option Code) (p : List Int) (m : Memo) (l : List PQ) (b : AV) (q : PQ) : List Ob := [.lp C91 s j (rc91 1 7), .bx (clo91 2 3 6 1), gdB, .bx (.ptr 4 0 []), cvB p 5, mmO m, .bx (.own 9 0), .bx b, bq q, pieO 0 l]
noncomputable def hS (v : Nat) (s : LoopState) (j : Option Code) (p : List Int) (m : Memo) (l : List PQ) (b : AV) (q : PQ) : List Ob := [.lp C91 s j (rc91 1 8), .bx (clo91 2 3 6 1), gdB, .bx (.ptr 4 0 []), cvB p 5, mmO m, .bx (.own 7 v), pieO v l, .bx b, bq q]
def HN (n : Nat) : Prop := ∀ (d k : Nat) (p : List Int) (m : Memo), pre91 (n + 1) d k p m -> hvL gd p n d k = [] ->
 GCall Tryd.prog gl 97 false [.yld 0, .ptr 8 0 []] (hN .ready none p m .ff ((d : Int), (k : Int))) [] (hN .done (some (.exit 0)) p (hvM gd p n d k m) .ff ((d : Int), (k : Int)))
def HO (n : Nat) : Prop := ∀ (d k : Nat) (p : List Int) (m : Memo), pre91 (n + 1) d k p m -> hvL gd p n d k ≠ [] -> (hvL gd p n d k).length < 1000000 ->
 GCall Tryd.prog gl 97 false [.yld 0, .ptr 8 0 []] (hN .ready none p m .ff ((d : Int), (k : Int))) [] (hO .done (jR (hvB gd p n d k)) p (hvM gd p n d k m) (hvL gd p n d k) (.bool (hvB gd p n d k)) ((d : Int), (k : Int)))
def HS (n : Nat) : Prop := ∀ (d k : Nat) (p : List Int) (m : Memo) (l : List PQ), pre91 (n + 1) d k p m -> l.length + (hvL gd p n d k).length < 1000000 ->
 GCall Tryd.prog gl 97 false [.yld 0, .ptr 9 0 []] (hS 0 .ready none p m l .ff ((d : Int), (k : Int))) [] (hS 1 .done (jR (hvB gd p n d k)) p (hvM gd p n d k m) (l ++ hvL gd p n d k) (.bool (hvB gd p n d k)) ((d : Int), (k : Int)))
def s97 (x i : Nat) (obs : List Ob) : St := ⟨.yld 0 :: .ptr x 0 [] :: .dead :: .dead :: .int .i64 i :: dd 16, obs⟩
noncomputable def L97_0 : Code := lp (bodyOf Tryd.f97) 0
def ex97 : List (List Nat × Ex) := []
noncomputable def fm97N (p : List Int) (m : Memo) (d k : Nat) : List Fam := [⟨Unit, fun _ => True, fun _ => s97 8 0 (hN .ready none p m .ff ((d : Int), (k : Int))), fun _ => 2, fun _ _ => none⟩]
noncomputable def H97N (p : List Int) (m : Memo) (d k : Nat) : Nat -> Option Hint := fun _ => some ⟨chks 9 [0, 1, 4] (fm97N p m d k), ex97.map (·.2)⟩
theorem loop97N (n : Nat) (h : YN n) (p : List Int) (m : Memo) (d k : Nat) (hp : pre91 (n + 1) d k p m) (hl : grL gd p n (d + 1) (2 * k) = []) : LoopOK (Xy [] [EYN n h] none 9 (fun _ => none)) L97_0 ⟨chks 9 [0, 1, 4] (fm97N p m d k), ex97.map (·.2)⟩
   (RetR (Xy [] [EYN n h] none 9 (fun _ => none)) false false [] [] (hN .done (some (.exit 0)) p (grM gd p n (d + 1) (2 * k) m) .ff ((d : Int), (k : Int)))) := by
 refine loop_fams (Xy_ok _ _ _ _ _) [0, 1, 4] (fm97N p m d k) ex97 90 ⟨fun _ _ => ?_, trivial⟩
 refine of_eq (q := True /\ ((0 : Int) < 2 -> True /\ True /\ True /\ True /\ True /\ True /\ inR .i64 ((d : Int) + 1) /\ True /\ True /\ inR .i64 ((2 : Int) * (k : Int)) /\ True /\ inR .i64 ((2 : Int) * (k : Int) + 0) /\ True /\ (((∃ (d_1 : Nat), ∃ (k_1 : Nat), ((d : Int) + 1, (2 : Int) * (k : Int) + 0) = ((d_1 : Int), (k_1 : Int)) /\ pre91 n d_1 k_1 p m /\ grL P64.gd p n d_1 k_1 = []) /\ (True /\ (0 : Int) = 0 /\ ((d : Int) + 1 = (d : Int) + 1 /\ (2 : Int) * (k : Int) + 0 = 2 * (k : Int) + 0 /\ True) /\ True) /\ (C91 = C91 /\ LoopState.ready = LoopState.ready /\ (none : Option Code) = none /\ (True /\ True /\ True) /\ True) /\ (True /\ True /\ True /\ True /\ True /\ True) /\ (True /\ True) /\ True /\ (p = p /\ True /\ True) /\ m = m /\ True /\ false = false /\ True) /\ True /\ True /\ True /\ True /\ True /\ True /\ True /\ True /\ True) /\ True /\ True /\ True /\ (C91 = C91 /\ LoopState.done = LoopState.done /\ some (Code.exit (0 : Nat)) = some (Code.exit (0 : Nat)) /\ (True /\ True /\ True) /\ True) /\ (True /\ True /\ True /\ True /\ True /\ True) /\ (True /\ True) /\ True /\ (p = p /\ True /\ True) /\ grM P64.gd p n (d + 1) ((2 : Int) * (k : Int) + 0).toNat m = grM P64.gd p n (d + 1) ((2 : Nat) * k) m /\ True /\ false = false /\ ((d : Int) = (d : Int) /\ (k : Int) = (k : Int) /\ True) /\ True) /\ (¬(0 : Int) < 2 -> False)) (by kernel_rfl) ?_
 simp only [zz]
 have hb := pre_lt hp
 refine ⟨fun _ => ⟨by simp only [inR]; omega, by simp only [inR]; omega, by simp only [inR]; omega, ⟨d + 1, 2 * k, by simp, pre_left hp, hl⟩, ?_⟩, by omega⟩
 rw [tn0]
theorem hvN {n d k : Nat} {p : List Int} (h : hvL gd p n d k = []) : grL gd p n (d + 1) (2 * k) = [] /\ ∀ m, hvM gd p n d k m = grM gd p n (d + 1) (2 * k) m := by
 unfold hvL at h
 split at h
 · rename_i hb
   exact absurd (List.append_eq_nil_iff.mp h).1 (grL_ne gd p hb)
 · rename_i hb
   exact ⟨h, fun m => by unfold hvM; rw [if_neg hb]⟩
theorem hvO {n d k : Nat} {p : List Int} (h : hvL gd p n d k ≠ []) : grL gd p n (d + 1) (2 * k) ≠ [] := by
 unfold hvL at h
 split at h
 · rename_i hb; exact grL_ne gd p hb
 · exact h
theorem hN_of (n : Nat) (h : YN n) : HN n := by
 intro d k p m hp hl
 obtain ⟨h1, h2⟩ := hvN hl
 rw [h2]
 refine gcall_of (X := (Xy [] [EYN n h] none 9 (fun _ => none))) ((Xy_ok _ _ _ _ _)) (f := 97) (fn := Tryd.f97) (c := bodyOf Tryd.f97) (by kernel_rfl) (by kernel_rfl) (view := false) (rvs := []) (by kernel_rfl) (H := (H97N p m d k)) 80 (by kernel_rfl) ?_
 have hL := loop97N n h p m d k hp h1
 refine of_eq (q := True /\ LoopOK (Xy [] [P64.EYN n h] none (9 : Nat) fun (x : Nat) => none) P64.L97_0 { J := chks (9 : Nat) [(0 : Nat), (1 : Nat), (4 : Nat)] (P64.fm97N p m d k), exits := List.map (fun (x : List Nat × Ex) => x.snd) P64.ex97 } (RetR (Xy [] [P64.EYN n h] none (9 : Nat) fun (x : Nat) => none) false false [] [] (P64.hN LoopState.done (some (Code.exit (0 : Nat))) p (grM P64.gd p n (d + 1) ((2 : Nat) * k) m) AV.ff ((d : Int), (k : Int)))) /\ (∃ (y : Unit), True /\ (True /\ True /\ (0 : Int) = 0 /\ True) /\ (C91 = C91 /\ LoopState.ready = LoopState.ready /\ (none : Option Code) = none /\ (True /\ True /\ True) /\ True) /\ (True /\ True /\ True /\ True /\ True /\ True) /\ (True /\ True) /\ True /\ (p = p /\ True /\ True) /\ m = m /\ True /\ false = false /\ ((d : Int) = (d : Int) /\ (k : Int) = (k : Int) /\ True) /\ True) /\ True) (by kernel_rfl) ?_
 simp only [zz]
 exact hL
noncomputable def fm97O (p : List Int) (m : Memo) (n d k : Nat) : List Fam := [⟨Unit, fun _ => True, fun _ => s97 8 0 (hN .ready none p m .ff ((d : Int), (k : Int))), fun _ => 2, fun _ _ => none⟩,
 ⟨Unit, fun _ => grB gd p n (d + 1) (2 * k) = true, fun _ => s97 8 1 (hO .ready none p (grM gd p n (d + 1) (2 * k) m) (grL gd p n (d + 1) (2 * k)) .ff ((d : Int), (k : Int))), fun _ => 1, fun _ _ => none⟩]
noncomputable def H97O (p : List Int) (m : Memo) (n d k : Nat) : Nat -> Option Hint := fun _ => some ⟨chks 9 [0, 1, 4] (fm97O p m n d k), ex97.map (·.2)⟩
theorem loop97O (n : Nat) (h : YO n) (h' : YS n) (p : List Int) (m : Memo) (d k : Nat) (hp : pre91 (n + 1) d k p m) (hl : hvL gd p n d k ≠ []) (hz : (hvL gd p n d k).length < 1000000) : LoopOK (Xy [] [EYO n h, EYS n h'] none 9 (fun _ => none)) L97_0 ⟨chks 9 [0, 1, 4] (fm97O p m n d k), ex97.map (·.2)⟩
   (RetR (Xy [] [EYO n h, EYS n h'] none 9 (fun _ => none)) false false [] [] (hO .done (jR (hvB gd p n d k)) p (hvM gd p n d k m) (hvL gd p n d k) (.bool (hvB gd p n d k)) ((d : Int), (k : Int)))) := by
 refine loop_fams (Xy_ok _ _ _ _ _) [0, 1, 4] (fm97O p m n d k) ex97 90 ⟨fun _ _ => ?_, fun _ hb1 => ?_, trivial⟩
 · refine of_eq (q := True /\ ((0 : Int) < 2 -> True /\ True /\ True /\ True /\ True /\ True /\ inR .i64 ((d : Int) + 1) /\ True /\ True /\ inR .i64 ((2 : Int) * (k : Int)) /\ True /\ inR .i64 ((2 : Int) * (k : Int) + 0) /\ True /\ (((∃ (d_1 : Nat), ∃ (k_1 : Nat), ((d : Int) + 1, (2 : Int) * (k : Int) + 0) = ((d_1 : Int), (k_1 : Int)) /\ pre91 n d_1 k_1 p m /\ ¬grL P64.gd p n d_1 k_1 = []) /\ (True /\ (0 : Int) = 0 /\ ((d : Int) + 1 = (d : Int) + 1 /\ (2 : Int) * (k : Int) + 0 = 2 * (k : Int) + 0 /\ True) /\ True) /\ (C91 = C91 /\ LoopState.ready = LoopState.ready /\ (none : Option Code) = none /\ (True /\ True /\ True) /\ True) /\ (True /\ True /\ True /\ True /\ True /\ True) /\ (True /\ True) /\ True /\ (p = p /\ True /\ True) /\ m = m /\ True /\ false = false /\ True) /\ True /\ True /\ True /\ True /\ True /\ True /\ True /\ True /\ True) /\ True /\ ((!(grB P64.gd p n (d + 1) ((2 : Int) * (k : Int) + 0).toNat && !odd ((2 : Int) * (k : Int) + 0).toNat)) = true -> True /\ True /\ (C91 = C91 /\ LoopState.done = yst (grB P64.gd p n (d + 1) ((2 : Int) * (k : Int) + 0).toNat) (odd ((2 : Int) * (k : Int) + 0).toNat) /\ jR (hvB P64.gd p n d k) = yjp (grB P64.gd p n (d + 1) ((2 : Int) * (k : Int) + 0).toNat) (odd ((2 : Int) * (k : Int) + 0).toNat) /\ (True /\ True /\ True) /\ True) /\ (True /\ True /\ True /\ True /\ True /\ True) /\ (True /\ True) /\ True /\ (p = p /\ True /\ True) /\ grM P64.gd p n (d + 1) ((2 : Int) * (k : Int) + 0).toNat m = hvM P64.gd p n d k m /\ True /\ (grB P64.gd p n (d + 1) ((2 : Int) * (k : Int) + 0).toNat && odd ((2 : Int) * (k : Int) + 0).toNat) = hvB P64.gd p n d k /\ ((d : Int) = (d : Int) /\ (k : Int) = (k : Int) /\ True) /\ grL P64.gd p n (d + 1) ((2 : Int) * (k : Int) + 0).toNat = hvL P64.gd p n d k /\ True) /\ ((!(grB P64.gd p n (d + 1) ((2 : Int) * (k : Int) + 0).toNat && !odd ((2 : Int) * (k : Int) + 0).toNat)) = false -> inR .i64 (1 : Int) /\ True /\ ((∃ (y : Unit), (True /\ (2 : Nat) < 2) /\ (True /\ True /\ (1 : Int) = 0 /\ True) /\ (C91 = C91 /\ LoopState.ready = yst (grB P64.gd p n (d + 1) ((2 : Int) * (k : Int) + 0).toNat) (odd ((2 : Int) * (k : Int) + 0).toNat) /\ (none : Option Code) = yjp (grB P64.gd p n (d + 1) ((2 : Int) * (k : Int) + 0).toNat) (odd ((2 : Int) * (k : Int) + 0).toNat) /\ (True /\ True /\ True) /\ True) /\ (True /\ True /\ True /\ True /\ True /\ True) /\ (True /\ True) /\ True /\ (p = p /\ True /\ True) /\ grM P64.gd p n (d + 1) ((2 : Int) * (k : Int) + 0).toNat m = m /\ False /\ (grB P64.gd p n (d + 1) ((2 : Int) * (k : Int) + 0).toNat && odd ((2 : Int) * (k : Int) + 0).toNat) = false /\ ((d : Int) = (d : Int) /\ (k : Int) = (k : Int) /\ True) /\ True) ∨ ∃ (y : Unit), (grB P64.gd p n (d + 1) ((2 : Nat) * k) = true /\ (1 : Nat) < 2) /\ (True /\ True /\ (1 : Int) = 1 /\ True) /\ (C91 = C91 /\ LoopState.ready = yst (grB P64.gd p n (d + 1) ((2 : Int) * (k : Int) + 0).toNat) (odd ((2 : Int) * (k : Int) + 0).toNat) /\ (none : Option Code) = yjp (grB P64.gd p n (d + 1) ((2 : Int) * (k : Int) + 0).toNat) (odd ((2 : Int) * (k : Int) + 0).toNat) /\ (True /\ True /\ True) /\ True) /\ (True /\ True /\ True /\ True /\ True /\ True) /\ (True /\ True) /\ True /\ (p = p /\ True /\ True) /\ grM P64.gd p n (d + 1) ((2 : Int) * (k : Int) + 0).toNat m = grM P64.gd p n (d + 1) ((2 : Nat) * k) m /\ True /\ (grB P64.gd p n (d + 1) ((2 : Int) * (k : Int) + 0).toNat && odd ((2 : Int) * (k : Int) + 0).toNat) = false /\ ((d : Int) = (d : Int) /\ (k : Int) = (k : Int) /\ True) /\ grL P64.gd p n (d + 1) ((2 : Int) * (k : Int) + 0).toNat = grL P64.gd p n (d + 1) ((2 : Nat) * k) /\ True))) /\ (¬(0 : Int) < 2 -> False)) (by kernel_rfl) ?_
   simp only [zz]
   have hb := pre_lt hp
   rw [tn0, odd0]
   refine ⟨fun _ => ⟨by simp only [inR]; omega, by simp only [inR]; omega, by simp only [inR]; omega, ⟨d + 1, 2 * k, by simp, pre_left hp, hvO hl⟩, fun hg => ?_, fun hg => ?_⟩, by omega⟩
   · have hg : grB gd p n (d + 1) (2 * k) = false := by simpa using hg
     simp [hvB, hvM, hvL, hg, yst, yjp, jR]
   · have hg : grB gd p n (d + 1) (2 * k) = true := by simpa using hg
     simp only [hg]
     exact ⟨by simp only [inR]; omega, ⟨trivial, by omega⟩, by simp [yst, yjp]⟩
 · have hb1 : grB gd p n (d + 1) (2 * k) = true := hb1
   refine of_eq (q := True /\ ((1 : Int) < 2 -> True /\ True /\ True /\ True /\ True /\ True /\ inR .i64 ((d : Int) + 1) /\ True /\ True /\ inR .i64 ((2 : Int) * (k : Int)) /\ True /\ inR .i64 ((2 : Int) * (k : Int) + 1) /\ True /\ (((∃ (d_1 : Nat), ∃ (k_1 : Nat), ((d : Int) + 1, (2 : Int) * (k : Int) + 1) = ((d_1 : Int), (k_1 : Int)) /\ pre91 n d_1 k_1 p (grM P64.gd p n (d + 1) ((2 : Nat) * k) m) /\ (grL P64.gd p n (d + 1) ((2 : Nat) * k)).length + (grL P64.gd p n d_1 k_1).length < 1000000) /\ (True /\ (1 : Int) = 1 /\ ((d : Int) + 1 = (d : Int) + 1 /\ (2 : Int) * (k : Int) + 1 = 2 * (k : Int) + 1 /\ True) /\ True) /\ (C91 = C91 /\ LoopState.ready = LoopState.ready /\ (none : Option Code) = none /\ (True /\ True /\ True) /\ True) /\ (True /\ True /\ True /\ True /\ True /\ True) /\ (True /\ True) /\ True /\ (p = p /\ True /\ True) /\ grM P64.gd p n (d + 1) ((2 : Nat) * k) m = grM P64.gd p n (d + 1) ((2 : Nat) * k) m /\ True /\ grL P64.gd p n (d + 1) ((2 : Nat) * k) = grL P64.gd p n (d + 1) ((2 : Nat) * k) /\ false = false /\ True) /\ True /\ True /\ True /\ True /\ True /\ True /\ True /\ True /\ True /\ True) /\ True /\ ((!(grB P64.gd p n (d + 1) ((2 : Int) * (k : Int) + 1).toNat && !odd ((2 : Int) * (k : Int) + 1).toNat)) = true -> True /\ True /\ (C91 = C91 /\ LoopState.done = yst (grB P64.gd p n (d + 1) ((2 : Int) * (k : Int) + 1).toNat) (odd ((2 : Int) * (k : Int) + 1).toNat) /\ jR (hvB P64.gd p n d k) = yjp (grB P64.gd p n (d + 1) ((2 : Int) * (k : Int) + 1).toNat) (odd ((2 : Int) * (k : Int) + 1).toNat) /\ (True /\ True /\ True) /\ True) /\ (True /\ True /\ True /\ True /\ True /\ True) /\ (True /\ True) /\ True /\ (p = p /\ True /\ True) /\ grM P64.gd p n (d + 1) ((2 : Int) * (k : Int) + 1).toNat (grM P64.gd p n (d + 1) ((2 : Nat) * k) m) = hvM P64.gd p n d k m /\ True /\ (grB P64.gd p n (d + 1) ((2 : Int) * (k : Int) + 1).toNat && odd ((2 : Int) * (k : Int) + 1).toNat) = hvB P64.gd p n d k /\ ((d : Int) = (d : Int) /\ (k : Int) = (k : Int) /\ True) /\ grL P64.gd p n (d + 1) ((2 : Nat) * k) ++ grL P64.gd p n (d + 1) ((2 : Int) * (k : Int) + 1).toNat = hvL P64.gd p n d k /\ True) /\ ((!(grB P64.gd p n (d + 1) ((2 : Int) * (k : Int) + 1).toNat && !odd ((2 : Int) * (k : Int) + 1).toNat)) = false -> inR .i64 (2 : Int) /\ True /\ ((∃ (y : Unit), (True /\ (2 : Nat) < 1) /\ (True /\ True /\ (2 : Int) = 0 /\ True) /\ (C91 = C91 /\ LoopState.ready = yst (grB P64.gd p n (d + 1) ((2 : Int) * (k : Int) + 1).toNat) (odd ((2 : Int) * (k : Int) + 1).toNat) /\ (none : Option Code) = yjp (grB P64.gd p n (d + 1) ((2 : Int) * (k : Int) + 1).toNat) (odd ((2 : Int) * (k : Int) + 1).toNat) /\ (True /\ True /\ True) /\ True) /\ (True /\ True /\ True /\ True /\ True /\ True) /\ (True /\ True) /\ True /\ (p = p /\ True /\ True) /\ grM P64.gd p n (d + 1) ((2 : Int) * (k : Int) + 1).toNat (grM P64.gd p n (d + 1) ((2 : Nat) * k) m) = m /\ False /\ (grB P64.gd p n (d + 1) ((2 : Int) * (k : Int) + 1).toNat && odd ((2 : Int) * (k : Int) + 1).toNat) = false /\ ((d : Int) = (d : Int) /\ (k : Int) = (k : Int) /\ True) /\ True) ∨ ∃ (y : Unit), (grB P64.gd p n (d + 1) ((2 : Nat) * k) = true /\ (1 : Nat) < 1) /\ (True /\ True /\ (2 : Int) = 1 /\ True) /\ (C91 = C91 /\ LoopState.ready = yst (grB P64.gd p n (d + 1) ((2 : Int) * (k : Int) + 1).toNat) (odd ((2 : Int) * (k : Int) + 1).toNat) /\ (none : Option Code) = yjp (grB P64.gd p n (d + 1) ((2 : Int) * (k : Int) + 1).toNat) (odd ((2 : Int) * (k : Int) + 1).toNat) /\ (True /\ True /\ True) /\ True) /\ (True /\ True /\ True /\ True /\ True /\ True) /\ (True /\ True) /\ True /\ (p = p /\ True /\ True) /\ grM P64.gd p n (d + 1) ((2 : Int) * (k : Int) + 1).toNat (grM P64.gd p n (d + 1) ((2 : Nat) * k) m) = grM P64.gd p n (d + 1) ((2 : Nat) * k) m /\ True /\ (grB P64.gd p n (d + 1) ((2 : Int) * (k : Int) + 1).toNat && odd ((2 : Int) * (k : Int) + 1).toNat) = false /\ ((d : Int) = (d : Int) /\ (k : Int) = (k : Int) /\ True) /\ grL P64.gd p n (d + 1) ((2 : Nat) * k) ++ grL P64.gd p n (d + 1) ((2 : Int) * (k : Int) + 1).toNat = grL P64.gd p n (d + 1) ((2 : Nat) * k) /\ True))) /\ (¬(1 : Int) < 2 -> False)) (by kernel_rfl) ?_
   simp only [zz]
   have hb := pre_lt hp
   rw [tn1, odd1]
   have e1 : hvL gd p n d k = grL gd p n (d + 1) (2 * k) ++ grL gd p n (d + 1) (2 * k + 1) := by unfold hvL; rw [if_pos hb1]
   have e2 : hvM gd p n d k m = grM gd p n (d + 1) (2 * k + 1) (grM gd p n (d + 1) (2 * k) m) := by unfold hvM; rw [if_pos hb1]
   have e3 : hvB gd p n d k = grB gd p n (d + 1) (2 * k + 1) := by unfold hvB; rw [hb1]; try rfl
   rw [e1, e2, e3]
   rw [e1, List.length_append] at hz
   refine ⟨fun _ => ⟨by simp only [inR]; omega, by simp only [inR]; omega, by simp only [inR]; omega, ⟨d + 1, 2 * k + 1, by simp, pre_memo (pre_right hp) (grM_ok gd p hp.2.2.2), hz⟩, fun _ => ?_, fun hg => ?_⟩, by omega⟩
   · cases grB gd p n (d + 1) (2 * k + 1) <;> simp [yst, yjp, jR]
   · simp at hg
theorem hO_of (n : Nat) (h : YO n) (h' : YS n) : HO n := by
 intro d k p m hp hl hz
 refine gcall_of (X := (Xy [] [EYO n h, EYS n h'] none 9 (fun _ => none))) ((Xy_ok _ _ _ _ _)) (f := 97) (fn := Tryd.f97) (c := bodyOf Tryd.f97) (by kernel_rfl) (by kernel_rfl) (view := false) (rvs := []) (by kernel_rfl) (H := (H97O p m n d k)) 80 (by kernel_rfl) ?_
 have hL := loop97O n h h' p m d k hp hl hz
 refine of_eq (q := True /\ LoopOK (Xy [] [P64.EYO n h, P64.EYS n h'] none (9 : Nat) fun (x : Nat) => none) P64.L97_0 { J := chks (9 : Nat) [(0 : Nat), (1 : Nat), (4 : Nat)] (P64.fm97O p m n d k), exits := List.map (fun (x : List Nat × Ex) => x.snd) P64.ex97 } (RetR (Xy [] [P64.EYO n h, P64.EYS n h'] none (9 : Nat) fun (x : Nat) => none) false false [] [] (P64.hO LoopState.done (jR (hvB P64.gd p n d k)) p (hvM P64.gd p n d k m) (hvL P64.gd p n d k) (AV.bool (hvB P64.gd p n d k)) ((d : Int), (k : Int)))) /\ ((∃ (y : Unit), True /\ (True /\ True /\ (0 : Int) = 0 /\ True) /\ (C91 = C91 /\ LoopState.ready = LoopState.ready /\ (none : Option Code) = none /\ (True /\ True /\ True) /\ True) /\ (True /\ True /\ True /\ True /\ True /\ True) /\ (True /\ True) /\ True /\ (p = p /\ True /\ True) /\ m = m /\ True /\ false = false /\ ((d : Int) = (d : Int) /\ (k : Int) = (k : Int) /\ True) /\ True) ∨ ∃ (y : Unit), grB P64.gd p n (d + 1) ((2 : Nat) * k) = true /\ (True /\ True /\ (0 : Int) = 1 /\ True) /\ (C91 = C91 /\ LoopState.ready = LoopState.ready /\ (none : Option Code) = none /\ (True /\ True /\ True) /\ True) /\ (True /\ True /\ True /\ True /\ True /\ True) /\ (True /\ True) /\ True /\ (p = p /\ True /\ True) /\ m = grM P64.gd p n (d + 1) ((2 : Nat) * k) m /\ False /\ false = false /\ ((d : Int) = (d : Int) /\ (k : Int) = (k : Int) /\ True) /\ False) /\ True) (by kernel_rfl) ?_
 simp only [zz]
 exact hL
noncomputable def fm97S (p : List Int) (m : Memo) (l : List PQ) (n d k : Nat) : List Fam := [⟨Unit, fun _ => True, fun _ => s97 9 0 (hS 0 .ready none p m l .ff ((d : Int), (k : Int))), fun _ => 2, fun _ _ => none⟩,
 ⟨Unit, fun _ => grB gd p n (d + 1) (2 * k) = true, fun _ => s97 9 1 (hS 1 .ready none p (grM gd p n (d + 1) (2 * k) m) (l ++ grL gd p n (d + 1) (2 * k)) .ff ((d : Int), (k : Int))), fun _ => 1, fun _ _ => none⟩]
noncomputable def H97S (p : List Int) (m : Memo) (l : List PQ) (n d k : Nat) : Nat -> Option Hint := fun _ => some ⟨chks 10 [0, 1, 4] (fm97S p m l n d k), ex97.map (·.2)⟩
theorem loop97S (n : Nat) (h' : YS n) (p : List Int) (m : Memo) (l : List PQ) (d k : Nat) (hp : pre91 (n + 1) d k p m) (hz : l.length + (hvL gd p n d k).length < 1000000) : LoopOK (Xb [] [EYS n h'] none 10 [7] (fun _ => none)) L97_0 ⟨chks 10 [0, 1, 4] (fm97S p m l n d k), ex97.map (·.2)⟩
   (RetR (Xb [] [EYS n h'] none 10 [7] (fun _ => none)) false false [] [] (hS 1 .done (jR (hvB gd p n d k)) p (hvM gd p n d k m) (l ++ hvL gd p n d k) (.bool (hvB gd p n d k)) ((d : Int), (k : Int)))) := by
 have hle : (grL gd p n (d + 1) (2 * k)).length <= (hvL gd p n d k).length := by
   unfold hvL; split
   · simp
   · exact Nat.le_refl _
 refine loop_fams (Xb_ok _ _ _ _ _ _) [0, 1, 4] (fm97S p m l n d k) ex97 90 ⟨fun _ _ => ?_, fun _ hb1 => ?_, trivial⟩
 · refine of_eq (q := True /\ ((0 : Int) < 2 -> True /\ True /\ True /\ True /\ True /\ True /\ inR .i64 ((d : Int) + 1) /\ True /\ True /\ inR .i64 ((2 : Int) * (k : Int)) /\ True /\ inR .i64 ((2 : Int) * (k : Int) + 0) /\ True /\ (((∃ (d_1 : Nat), ∃ (k_1 : Nat), ((d : Int) + 1, (2 : Int) * (k : Int) + 0) = ((d_1 : Int), (k_1 : Int)) /\ pre91 n d_1 k_1 p m /\ l.length + (grL P64.gd p n d_1 k_1).length < 1000000) /\ (True /\ (0 : Int) = 0 /\ ((d : Int) + 1 = (d : Int) + 1 /\ (2 : Int) * (k : Int) + 0 = 2 * (k : Int) + 0 /\ True) /\ True) /\ (C91 = C91 /\ LoopState.ready = LoopState.ready /\ (none : Option Code) = none /\ (True /\ True /\ True) /\ True) /\ (True /\ True /\ True /\ True /\ True /\ True) /\ (True /\ True) /\ True /\ (p = p /\ True /\ True) /\ m = m /\ True /\ l = l /\ false = false /\ True) /\ True /\ True /\ True /\ True /\ True /\ True /\ True /\ True /\ True /\ True) /\ True /\ ((!(grB P64.gd p n (d + 1) ((2 : Int) * (k : Int) + 0).toNat && !odd ((2 : Int) * (k : Int) + 0).toNat)) = true -> True /\ True /\ (C91 = C91 /\ LoopState.done = yst (grB P64.gd p n (d + 1) ((2 : Int) * (k : Int) + 0).toNat) (odd ((2 : Int) * (k : Int) + 0).toNat) /\ jR (hvB P64.gd p n d k) = yjp (grB P64.gd p n (d + 1) ((2 : Int) * (k : Int) + 0).toNat) (odd ((2 : Int) * (k : Int) + 0).toNat) /\ (True /\ True /\ True) /\ True) /\ (True /\ True /\ True /\ True /\ True /\ True) /\ (True /\ True) /\ True /\ (p = p /\ True /\ True) /\ grM P64.gd p n (d + 1) ((2 : Int) * (k : Int) + 0).toNat m = hvM P64.gd p n d k m /\ True /\ l ++ grL P64.gd p n (d + 1) ((2 : Int) * (k : Int) + 0).toNat = l ++ hvL P64.gd p n d k /\ (grB P64.gd p n (d + 1) ((2 : Int) * (k : Int) + 0).toNat && odd ((2 : Int) * (k : Int) + 0).toNat) = hvB P64.gd p n d k /\ ((d : Int) = (d : Int) /\ (k : Int) = (k : Int) /\ True) /\ True) /\ ((!(grB P64.gd p n (d + 1) ((2 : Int) * (k : Int) + 0).toNat && !odd ((2 : Int) * (k : Int) + 0).toNat)) = false -> inR .i64 (1 : Int) /\ True /\ ((∃ (y : Unit), (True /\ (2 : Nat) < 2) /\ (True /\ True /\ (1 : Int) = 0 /\ True) /\ (C91 = C91 /\ LoopState.ready = yst (grB P64.gd p n (d + 1) ((2 : Int) * (k : Int) + 0).toNat) (odd ((2 : Int) * (k : Int) + 0).toNat) /\ (none : Option Code) = yjp (grB P64.gd p n (d + 1) ((2 : Int) * (k : Int) + 0).toNat) (odd ((2 : Int) * (k : Int) + 0).toNat) /\ (True /\ True /\ True) /\ True) /\ (True /\ True /\ True /\ True /\ True /\ True) /\ (True /\ True) /\ True /\ (p = p /\ True /\ True) /\ grM P64.gd p n (d + 1) ((2 : Int) * (k : Int) + 0).toNat m = m /\ False /\ False /\ (grB P64.gd p n (d + 1) ((2 : Int) * (k : Int) + 0).toNat && odd ((2 : Int) * (k : Int) + 0).toNat) = false /\ ((d : Int) = (d : Int) /\ (k : Int) = (k : Int) /\ True) /\ True) ∨ ∃ (y : Unit), (grB P64.gd p n (d + 1) ((2 : Nat) * k) = true /\ (1 : Nat) < 2) /\ (True /\ True /\ (1 : Int) = 1 /\ True) /\ (C91 = C91 /\ LoopState.ready = yst (grB P64.gd p n (d + 1) ((2 : Int) * (k : Int) + 0).toNat) (odd ((2 : Int) * (k : Int) + 0).toNat) /\ (none : Option Code) = yjp (grB P64.gd p n (d + 1) ((2 : Int) * (k : Int) + 0).toNat) (odd ((2 : Int) * (k : Int) + 0).toNat) /\ (True /\ True /\ True) /\ True) /\ (True /\ True /\ True /\ True /\ True /\ True) /\ (True /\ True) /\ True /\ (p = p /\ True /\ True) /\ grM P64.gd p n (d + 1) ((2 : Int) * (k : Int) + 0).toNat m = grM P64.gd p n (d + 1) ((2 : Nat) * k) m /\ True /\ l ++ grL P64.gd p n (d + 1) ((2 : Int) * (k : Int) + 0).toNat = l ++ grL P64.gd p n (d + 1) ((2 : Nat) * k) /\ (grB P64.gd p n (d + 1) ((2 : Int) * (k : Int) + 0).toNat && odd ((2 : Int) * (k : Int) + 0).toNat) = false /\ ((d : Int) = (d : Int) /\ (k : Int) = (k : Int) /\ True) /\ True))) /\ (¬(0 : Int) < 2 -> False)) (by kernel_rfl) ?_
   simp only [zz]
   have hb := pre_lt hp
   rw [tn0, odd0]
   refine ⟨fun _ => ⟨by simp only [inR]; omega, by simp only [inR]; omega, by simp only [inR]; omega, ⟨d + 1, 2 * k, by simp, pre_left hp, by omega⟩, fun hg => ?_, fun hg => ?_⟩, by omega⟩
   · have hg : grB gd p n (d + 1) (2 * k) = false := by simpa using hg
     simp [hvB, hvM, hvL, hg, yst, yjp, jR]
   · have hg : grB gd p n (d + 1) (2 * k) = true := by simpa using hg
     simp only [hg]
     exact ⟨by simp only [inR]; omega, ⟨trivial, by omega⟩, by simp [yst, yjp]⟩
 · have hb1 : grB gd p n (d + 1) (2 * k) = true := hb1
   refine of_eq (q := True /\ ((1 : Int) < 2 -> True /\ True /\ True /\ True /\ True /\ True /\ inR .i64 ((d : Int) + 1) /\ True /\ True /\ inR .i64 ((2 : Int) * (k : Int)) /\ True /\ inR .i64 ((2 : Int) * (k : Int) + 1) /\ True /\ (((∃ (d_1 : Nat), ∃ (k_1 : Nat), ((d : Int) + 1, (2 : Int) * (k : Int) + 1) = ((d_1 : Int), (k_1 : Int)) /\ pre91 n d_1 k_1 p (grM P64.gd p n (d + 1) ((2 : Nat) * k) m) /\ (l ++ grL P64.gd p n (d + 1) ((2 : Nat) * k)).length + (grL P64.gd p n d_1 k_1).length < 1000000) /\ (True /\ (1 : Int) = 1 /\ ((d : Int) + 1 = (d : Int) + 1 /\ (2 : Int) * (k : Int) + 1 = 2 * (k : Int) + 1 /\ True) /\ True) /\ (C91 = C91 /\ LoopState.ready = LoopState.ready /\ (none : Option Code) = none /\ (True /\ True /\ True) /\ True) /\ (True /\ True /\ True /\ True /\ True /\ True) /\ (True /\ True) /\ True /\ (p = p /\ True /\ True) /\ grM P64.gd p n (d + 1) ((2 : Nat) * k) m = grM P64.gd p n (d + 1) ((2 : Nat) * k) m /\ True /\ l ++ grL P64.gd p n (d + 1) ((2 : Nat) * k) = l ++ grL P64.gd p n (d + 1) ((2 : Nat) * k) /\ false = false /\ True) /\ True /\ True /\ True /\ True /\ True /\ True /\ True /\ True /\ True /\ True) /\ True /\ ((!(grB P64.gd p n (d + 1) ((2 : Int) * (k : Int) + 1).toNat && !odd ((2 : Int) * (k : Int) + 1).toNat)) = true -> True /\ True /\ (C91 = C91 /\ LoopState.done = yst (grB P64.gd p n (d + 1) ((2 : Int) * (k : Int) + 1).toNat) (odd ((2 : Int) * (k : Int) + 1).toNat) /\ jR (hvB P64.gd p n d k) = yjp (grB P64.gd p n (d + 1) ((2 : Int) * (k : Int) + 1).toNat) (odd ((2 : Int) * (k : Int) + 1).toNat) /\ (True /\ True /\ True) /\ True) /\ (True /\ True /\ True /\ True /\ True /\ True) /\ (True /\ True) /\ True /\ (p = p /\ True /\ True) /\ grM P64.gd p n (d + 1) ((2 : Int) * (k : Int) + 1).toNat (grM P64.gd p n (d + 1) ((2 : Nat) * k) m) = hvM P64.gd p n d k m /\ True /\ l ++ grL P64.gd p n (d + 1) ((2 : Nat) * k) ++ grL P64.gd p n (d + 1) ((2 : Int) * (k : Int) + 1).toNat = l ++ hvL P64.gd p n d k /\ (grB P64.gd p n (d + 1) ((2 : Int) * (k : Int) + 1).toNat && odd ((2 : Int) * (k : Int) + 1).toNat) = hvB P64.gd p n d k /\ ((d : Int) = (d : Int) /\ (k : Int) = (k : Int) /\ True) /\ True) /\ ((!(grB P64.gd p n (d + 1) ((2 : Int) * (k : Int) + 1).toNat && !odd ((2 : Int) * (k : Int) + 1).toNat)) = false -> inR .i64 (2 : Int) /\ True /\ ((∃ (y : Unit), (True /\ (2 : Nat) < 1) /\ (True /\ True /\ (2 : Int) = 0 /\ True) /\ (C91 = C91 /\ LoopState.ready = yst (grB P64.gd p n (d + 1) ((2 : Int) * (k : Int) + 1).toNat) (odd ((2 : Int) * (k : Int) + 1).toNat) /\ (none : Option Code) = yjp (grB P64.gd p n (d + 1) ((2 : Int) * (k : Int) + 1).toNat) (odd ((2 : Int) * (k : Int) + 1).toNat) /\ (True /\ True /\ True) /\ True) /\ (True /\ True /\ True /\ True /\ True /\ True) /\ (True /\ True) /\ True /\ (p = p /\ True /\ True) /\ grM P64.gd p n (d + 1) ((2 : Int) * (k : Int) + 1).toNat (grM P64.gd p n (d + 1) ((2 : Nat) * k) m) = m /\ False /\ False /\ (grB P64.gd p n (d + 1) ((2 : Int) * (k : Int) + 1).toNat && odd ((2 : Int) * (k : Int) + 1).toNat) = false /\ ((d : Int) = (d : Int) /\ (k : Int) = (k : Int) /\ True) /\ True) ∨ ∃ (y : Unit), (grB P64.gd p n (d + 1) ((2 : Nat) * k) = true /\ (1 : Nat) < 1) /\ (True /\ True /\ (2 : Int) = 1 /\ True) /\ (C91 = C91 /\ LoopState.ready = yst (grB P64.gd p n (d + 1) ((2 : Int) * (k : Int) + 1).toNat) (odd ((2 : Int) * (k : Int) + 1).toNat) /\ (none : Option Code) = yjp (grB P64.gd p n (d + 1) ((2 : Int) * (k : Int) + 1).toNat) (odd ((2 : Int) * (k : Int) + 1).toNat) /\ (True /\ True /\ True) /\ True) /\ (True /\ True /\ True /\ True /\ True /\ True) /\ (True /\ True) /\ True /\ (p = p /\ True /\ True) /\ grM P64.gd p n (d + 1) ((2 : Int) * (k : Int) + 1).toNat (grM P64.gd p n (d + 1) ((2 : Nat) * k) m) = grM P64.gd p n (d + 1) ((2 : Nat) * k) m /\ True /\ l ++ grL P64.gd p n (d + 1) ((2 : Nat) * k) ++ grL P64.gd p n (d + 1) ((2 : Int) * (k : Int) + 1).toNat = l ++ grL P64.gd p n (d + 1) ((2 : Nat) * k) /\ (grB P64.gd p n (d + 1) ((2 : Int) * (k : Int) + 1).toNat && odd ((2 : Int) * (k : Int) + 1).toNat) = false /\ ((d : Int) = (d : Int) /\ (k : Int) = (k : Int) /\ True) /\ True))) /\ (¬(1 : Int) < 2 -> False)) (by kernel_rfl) ?_
   simp only [zz]
   have hb := pre_lt hp
   rw [tn1, odd1]
   have e1 : hvL gd p n d k = grL gd p n (d + 1) (2 * k) ++ grL gd p n (d + 1) (2 * k + 1) := by unfold hvL; rw [if_pos hb1]
   have e2 : hvM gd p n d k m = grM gd p n (d + 1) (2 * k + 1) (grM gd p n (d + 1) (2 * k) m) := by unfold hvM; rw [if_pos hb1]
   have e3 : hvB gd p n d k = grB gd p n (d + 1) (2 * k + 1) := by unfold hvB; rw [hb1]; try rfl
   rw [e1, e2, e3]
   rw [e1, List.length_append] at hz
   refine ⟨fun _ => ⟨by simp only [inR]; omega, by simp only [inR]; omega, by simp only [inR]; omega, ⟨d + 1, 2 * k + 1, by simp, pre_memo (pre_right hp) (grM_ok gd p hp.2.2.2), by rw [List.length_append]; omega⟩, fun _ => ?_, fun hg => ?_⟩, by omega⟩
   · cases grB gd p n (d + 1) (2 * k + 1) <;> simp [yst, yjp, jR]
   · simp at hg
theorem hS_of (n : Nat) (h' : YS n) : HS n := by
 intro d k p m l hp hz
 refine gcall_of (X := (Xb [] [EYS n h'] none 10 [7] (fun _ => none))) ((Xb_ok _ _ _ _ _ _)) (f := 97) (fn := Tryd.f97) (c := bodyOf Tryd.f97) (by kernel_rfl) (by kernel_rfl) (view := false) (rvs := []) (by kernel_rfl) (H := (H97S p m l n d k)) 80 (by kernel_rfl) ?_
 have hL := loop97S n h' p m l d k hp hz
 refine of_eq (q := True /\ LoopOK (Xb [] [P64.EYS n h'] none (10 : Nat) [(7 : Nat)] fun (x : Nat) => none) P64.L97_0 { J := chks (10 : Nat) [(0 : Nat), (1 : Nat), (4 : Nat)] (P64.fm97S p m l n d k), exits := List.map (fun (x : List Nat × Ex) => x.snd) P64.ex97 } (RetR (Xb [] [P64.EYS n h'] none (10 : Nat) [(7 : Nat)] fun (x : Nat) => none) false false [] [] (P64.hS (1 : Nat) LoopState.done (jR (hvB P64.gd p n d k)) p (hvM P64.gd p n d k m) (l ++ hvL P64.gd p n d k) (AV.bool (hvB P64.gd p n d k)) ((d : Int), (k : Int)))) /\ ((∃ (y : Unit), True /\ (True /\ True /\ (0 : Int) = 0 /\ True) /\ (C91 = C91 /\ LoopState.ready = LoopState.ready /\ (none : Option Code) = none /\ (True /\ True /\ True) /\ True) /\ (True /\ True /\ True /\ True /\ True /\ True) /\ (True /\ True) /\ True /\ (p = p /\ True /\ True) /\ m = m /\ True /\ l = l /\ false = false /\ ((d : Int) = (d : Int) /\ (k : Int) = (k : Int) /\ True) /\ True) ∨ ∃ (y : Unit), grB P64.gd p n (d + 1) ((2 : Nat) * k) = true /\ (True /\ True /\ (0 : Int) = 1 /\ True) /\ (C91 = C91 /\ LoopState.ready = LoopState.ready /\ (none : Option Code) = none /\ (True /\ True /\ True) /\ True) /\ (True /\ True /\ True /\ True /\ True /\ True) /\ (True /\ True) /\ True /\ (p = p /\ True /\ True) /\ m = grM P64.gd p n (d + 1) ((2 : Nat) * k) m /\ False /\ False /\ false = false /\ ((d : Int) = (d : Int) /\ (k : Int) = (k : Int) /\ True) /\ True) /\ True) (by kernel_rfl) ?_
 simp only [zz]
 exact hL
def unBq : Ob -> Option PQ
 | .bx c => toD FR c
 | _ => none
def get97N (_ : List AV) (obs : List Ob) : Option (PQ × List Int × Memo) :=
 match unCvB (obs.getD 4 .gone), unMm (obs.getD 5 .gone), isNl (obs.getD 6 .gone), unBq (obs.getD 8 .gone) with
 | some p, some m, true, some q => some (q, p, m)
 | _, _, _, _ => none
def get97S (_ : List AV) (obs : List Ob) : Option (PQ × List Int × Memo × List PQ) :=
 match unCvB (obs.getD 4 .gone), unMm (obs.getD 5 .gone), unPie (obs.getD 7 .gone), unBq (obs.getD 9 .gone) with
 | some p, some m, some l, some q => some (q, p, m, l)
 | _, _, _, _ => none
theorem en97 : Enters Tryd.prog 97 := ⟨Tryd.f97, by kernel_rfl, by kernel_rfl, by kernel_rfl⟩
noncomputable def e97N (n : Nat) (h : HN n) : Entry Tryd.prog gl := entryW 97 en97 true get97N (fun x => ∃ d k : Nat, x.1 = ((d : Int), (k : Int)) /\ pre91 (n + 1) d k x.2.1 x.2.2 /\ hvL gd x.2.1 n d k = []) false (fun _ => [.yld 0, .ptr 8 0 []]) (fun x => hN .ready none x.2.1 x.2.2 .ff x.1) (fun _ => [])
 (fun x => hN .done (some (.exit 0)) x.2.1 (hvM gd x.2.1 n x.1.1.toNat x.1.2.toNat x.2.2) .ff x.1) (by
   rintro ⟨q, p, m⟩ ⟨d, k, hq, h1, h2⟩
   simp only at hq; subst hq
   exact h d k p m h1 h2)
noncomputable def e97O (n : Nat) (h : HO n) : Entry Tryd.prog gl := entryW 97 en97 true get97N (fun x => ∃ d k : Nat, x.1 = ((d : Int), (k : Int)) /\ pre91 (n + 1) d k x.2.1 x.2.2 /\ hvL gd x.2.1 n d k ≠ [] /\ (hvL gd x.2.1 n d k).length < 1000000) false (fun _ => [.yld 0, .ptr 8 0 []]) (fun x => hN .ready none x.2.1 x.2.2 .ff x.1) (fun _ => [])
 (fun x => hO .done (jR (hvB gd x.2.1 n x.1.1.toNat x.1.2.toNat)) x.2.1 (hvM gd x.2.1 n x.1.1.toNat x.1.2.toNat x.2.2) (hvL gd x.2.1 n x.1.1.toNat x.1.2.toNat) (.bool (hvB gd x.2.1 n x.1.1.toNat x.1.2.toNat)) x.1) (by
   rintro ⟨q, p, m⟩ ⟨d, k, hq, h1, h2, h3⟩
   simp only at hq; subst hq
   exact h d k p m h1 h2 h3)
noncomputable def e97S (n : Nat) (h : HS n) : Entry Tryd.prog gl := entryW 97 en97 true get97S (fun x => ∃ d k : Nat, x.1 = ((d : Int), (k : Int)) /\ pre91 (n + 1) d k x.2.1 x.2.2.1 /\ x.2.2.2.length + (hvL gd x.2.1 n d k).length < 1000000) false (fun _ => [.yld 0, .ptr 9 0 []]) (fun x => hS 0 .ready none x.2.1 x.2.2.1 x.2.2.2 .ff x.1) (fun _ => [])
 (fun x => hS 1 .done (jR (hvB gd x.2.1 n x.1.1.toNat x.1.2.toNat)) x.2.1 (hvM gd x.2.1 n x.1.1.toNat x.1.2.toNat x.2.2.1) (x.2.2.2 ++ hvL gd x.2.1 n x.1.1.toNat x.1.2.toNat) (.bool (hvB gd x.2.1 n x.1.1.toNat x.1.2.toNat)) x.1) (by
   rintro ⟨q, p, m, l⟩ ⟨d, k, hq, h1, h2⟩
   simp only at hq; subst hq
   exact h d k p m l h1 h2)
noncomputable def E91 : EL := [e69, e64, e92]
theorem gN0 : GN 0 := by
 intro d k p m hp hl
 have h0 := pre_lt hp
 have hpc := piece_of hp
 have hln := qc_length p d k
 have hpl := hp.1.2.1
 have hd6 := hp.2.1
 refine gcall_of (X := (Xy E91 [] none 6 (drOf [(1, 4005)]))) ((Xy_ok _ _ _ _ _)) (f := 91) (fn := Tryd.f91) (c := bodyOf Tryd.f91) (by kernel_rfl) (by kernel_rfl) (view := false) (rvs := [.cell 6 4]) (by kernel_rfl) (H := fun _ => none) 80 (by kernel_rfl) ?_
 refine of_eq (q := True /\ True /\ True /\ true = true /\ True /\ true = true /\ True /\ true = true /\ ((isPoly p /\ isPiece ((d : Int), (k : Int)) /\ (d : Int) < 7 /\ memoOk p m) /\ True /\ True /\ True) /\ ((True /\ AV.clo (64 : FuncId) [] [] = AV.clo (64 : FuncId) [] []) /\ True) /\ (qc p d k).length + 1 <= 1000000 /\ True /\ (decide (chg (qc p d k) <= 1) = true -> True /\ True /\ True /\ sumPre (0 : Nat) [((d : Int), (k : Int))].length (nat_lit 16) /\ True /\ True /\ (True /\ True) /\ (true = false /\ True) /\ (True /\ True) /\ True /\ (p = p /\ True /\ True) /\ cm p d k m = grM P64.gd p (0 : Nat) d k m /\ False /\ (True /\ True /\ True /\ True /\ True /\ True) /\ True) /\ (decide (chg (qc p d k) <= 1) = false -> True /\ True /\ True /\ ((d : Int) = 6 -> True /\ (True /\ True) /\ (false = false /\ True) /\ (True /\ True) /\ True /\ (p = p /\ True /\ True) /\ cm p d k m = grM P64.gd p (0 : Nat) d k m /\ True /\ (True /\ True /\ True /\ True /\ True /\ True) /\ True) /\ (¬(d : Int) = 6 -> True /\ (True /\ True) /\ False))) (by kernel_rfl) ?_
 simp only [zz]
 refine ⟨⟨hp.1, hpc, by omega, hp.2.2.2⟩, by omega, fun h => ?_, fun h => ⟨fun _ => rfl, fun h6 => by omega⟩⟩
 have h : gd (qc p d k) = true := h
 unfold grL at hl
 rw [if_pos h] at hl
 cases hl
theorem gO0 : GO 0 := by
 intro d k p m hp hl
 have h0 := pre_lt hp
 have hpc := piece_of hp
 have hln := qc_length p d k
 have hpl := hp.1.2.1
 have hd6 := hp.2.1
 refine gcall_of (X := (Xy E91 [] none 6 (drOf [(1, 4005)]))) ((Xy_ok _ _ _ _ _)) (f := 91) (fn := Tryd.f91) (c := bodyOf Tryd.f91) (by kernel_rfl) (by kernel_rfl) (view := false) (rvs := [.cell 6 4]) (by kernel_rfl) (H := fun _ => none) 80 (by kernel_rfl) ?_
 refine of_eq (q := True /\ True /\ True /\ true = true /\ True /\ true = true /\ True /\ true = true /\ ((isPoly p /\ isPiece ((d : Int), (k : Int)) /\ (d : Int) < 7 /\ memoOk p m) /\ True /\ True /\ True) /\ ((True /\ AV.clo (64 : FuncId) [] [] = AV.clo (64 : FuncId) [] []) /\ True) /\ (qc p d k).length + 1 <= 1000000 /\ True /\ (decide (chg (qc p d k) <= 1) = true -> True /\ True /\ True /\ sumPre (0 : Nat) [((d : Int), (k : Int))].length (nat_lit 16) /\ True /\ True /\ (True /\ True) /\ (true = grB P64.gd p (0 : Nat) d k /\ True) /\ (True /\ True) /\ True /\ (p = p /\ True /\ True) /\ cm p d k m = grM P64.gd p (0 : Nat) d k m /\ True /\ (True /\ True /\ True /\ True /\ True /\ True) /\ [((d : Int), (k : Int))] = grL P64.gd p (0 : Nat) d k /\ True) /\ (decide (chg (qc p d k) <= 1) = false -> True /\ True /\ True /\ ((d : Int) = 6 -> True /\ (True /\ True) /\ (false = grB P64.gd p (0 : Nat) d k /\ True) /\ (True /\ True) /\ True /\ (p = p /\ True /\ True) /\ cm p d k m = grM P64.gd p (0 : Nat) d k m /\ False /\ (True /\ True /\ True /\ True /\ True /\ True) /\ False) /\ (¬(d : Int) = 6 -> True /\ (True /\ True) /\ False))) (by kernel_rfl) ?_
 simp only [zz]
 refine ⟨⟨hp.1, hpc, by omega, hp.2.2.2⟩, by omega, fun h => ?_, fun h => ⟨fun _ => ?_, fun h6 => by omega⟩⟩
 · have h : gd (qc p d k) = true := h
   refine ⟨by unfold sumPre; simp, h.symm, rfl, ?_⟩
   unfold grL; rw [if_pos h]
 · have h : gd (qc p d k) = false := h
   unfold grL at hl
   rw [if_neg (by simp [h])] at hl
   exact hl rfl
theorem gS0 : GS 0 := by
 intro d k p m l hp hl
 have h0 := pre_lt hp
 have hpc := piece_of hp
 have hln := qc_length p d k
 have hpl := hp.1.2.1
 have hd6 := hp.2.1
 refine gcall_of (X := (Xb E91 [] none 7 [5] (drOf [(1, 4005)]))) ((Xb_ok _ _ _ _ _ _)) (f := 91) (fn := Tryd.f91) (c := bodyOf Tryd.f91) (by kernel_rfl) (by kernel_rfl) (view := false) (rvs := [.cell 6 4]) (by kernel_rfl) (H := fun _ => none) 80 (by kernel_rfl) ?_
 refine of_eq (q := True /\ True /\ True /\ true = true /\ True /\ true = true /\ True /\ true = true /\ ((isPoly p /\ isPiece ((d : Int), (k : Int)) /\ (d : Int) < 7 /\ memoOk p m) /\ True /\ True /\ True) /\ ((True /\ AV.clo (64 : FuncId) [] [] = AV.clo (64 : FuncId) [] []) /\ True) /\ (qc p d k).length + 1 <= 1000000 /\ True /\ (decide (chg (qc p d k) <= 1) = true -> True /\ True /\ True /\ sumPre l.length [((d : Int), (k : Int))].length (nat_lit 16) /\ True /\ True /\ (True /\ True) /\ (true = grB P64.gd p (0 : Nat) d k /\ True) /\ (True /\ True) /\ True /\ (p = p /\ True /\ True) /\ cm p d k m = grM P64.gd p (0 : Nat) d k m /\ True /\ l ++ [((d : Int), (k : Int))] = l ++ grL P64.gd p (0 : Nat) d k /\ (True /\ True /\ True /\ True /\ True /\ True) /\ True) /\ (decide (chg (qc p d k) <= 1) = false -> True /\ True /\ True /\ ((d : Int) = 6 -> True /\ (True /\ True) /\ (false = grB P64.gd p (0 : Nat) d k /\ True) /\ (True /\ True) /\ True /\ (p = p /\ True /\ True) /\ cm p d k m = grM P64.gd p (0 : Nat) d k m /\ True /\ l = l ++ grL P64.gd p (0 : Nat) d k /\ (True /\ True /\ True /\ True /\ True /\ True) /\ True) /\ (¬(d : Int) = 6 -> True /\ (True /\ True) /\ False))) (by kernel_rfl) ?_
 simp only [zz]
 refine ⟨⟨hp.1, hpc, by omega, hp.2.2.2⟩, by omega, fun h => ?_, fun h => ⟨fun _ => ?_, fun h6 => by omega⟩⟩
 · have h : gd (qc p d k) = true := h
   refine ⟨by unfold sumPre; simp; omega, h.symm, rfl, ?_⟩
   unfold grL; rw [if_pos h]; try rfl
 · have h : gd (qc p d k) = false := h
   refine ⟨h.symm, rfl, ?_⟩
   unfold grL; rw [if_neg (by simp [h])]; simp
theorem gN1 (n : Nat) (h : HN n) : GN (n + 1) := by
 intro d k p m hp hl
 have h0 := pre_lt hp
 have hpc := piece_of hp
 have hln := qc_length p d k
 have hpl := hp.1.2.1
 have hd6 := hp.2.1
 refine gcall_of (X := (Xy (e97N n h :: E91) [] none 6 (drOf [(1, 4005)]))) ((Xy_ok _ _ _ _ _)) (f := 91) (fn := Tryd.f91) (c := bodyOf Tryd.f91) (by kernel_rfl) (by kernel_rfl) (view := false) (rvs := [.cell 6 4]) (by kernel_rfl) (H := fun _ => none) 80 (by kernel_rfl) ?_
 refine of_eq (q := True /\ True /\ True /\ true = true /\ True /\ true = true /\ True /\ true = true /\ ((isPoly p /\ isPiece ((d : Int), (k : Int)) /\ (d : Int) < 7 /\ memoOk p m) /\ True /\ True /\ True) /\ ((True /\ AV.clo (64 : FuncId) [] [] = AV.clo (64 : FuncId) [] []) /\ True) /\ (qc p d k).length + 1 <= 1000000 /\ True /\ (decide (chg (qc p d k) <= 1) = true -> True /\ True /\ True /\ sumPre (0 : Nat) [((d : Int), (k : Int))].length (nat_lit 16) /\ True /\ True /\ (True /\ True) /\ (true = false /\ True) /\ (True /\ True) /\ True /\ (p = p /\ True /\ True) /\ cm p d k m = grM P64.gd p (n + 1) d k m /\ False /\ (True /\ True /\ True /\ True /\ True /\ True) /\ True) /\ (decide (chg (qc p d k) <= 1) = false -> True /\ True /\ True /\ ((d : Int) = 6 -> True /\ (True /\ True) /\ (false = false /\ True) /\ (True /\ True) /\ True /\ (p = p /\ True /\ True) /\ cm p d k m = grM P64.gd p (n + 1) d k m /\ True /\ (True /\ True /\ True /\ True /\ True /\ True) /\ True) /\ (¬(d : Int) = 6 -> True /\ (True /\ True) /\ ((((∃ (d_1 : Nat), ∃ (k_1 : Nat), ((d : Int), (k : Int)) = ((d_1 : Int), (k_1 : Int)) /\ pre91 (n + 1) d_1 k_1 p (cm p d k m) /\ hvL P64.gd p n d_1 k_1 = []) /\ (True /\ True /\ True) /\ (C91 = C91 /\ LoopState.ready = LoopState.ready /\ (none : Option Code) = none /\ (True /\ True /\ True) /\ True) /\ (True /\ True /\ True /\ True /\ True /\ True) /\ (True /\ True) /\ True /\ (p = p /\ True /\ True) /\ cm p d k m = cm p d k m /\ True /\ false = false /\ ((d : Int) = (d : Int) /\ (k : Int) = (k : Int) /\ True) /\ True) /\ True /\ True /\ True /\ True /\ True /\ True /\ True /\ True /\ True /\ True) /\ ¬LoopState.done = LoopState.busy) /\ (some (Code.exit (0 : Nat)) = none -> True /\ (True /\ True) /\ (false = false /\ True) /\ (True /\ True) /\ True /\ (p = p /\ True /\ True) /\ hvM P64.gd p n d k (cm p d k m) = grM P64.gd p (n + 1) d k m /\ True /\ (True /\ True /\ True /\ True /\ True /\ True) /\ True) /\ (some (Code.exit (0 : Nat)) = some (Code.exit (0 : Nat)) ∨ some (Code.exit (0 : Nat)) = some Code.ret ∨ some (Code.exit (0 : Nat)) = none) /\ (some (Code.exit (0 : Nat)) = some (Code.exit (0 : Nat)) -> True /\ (True /\ True) /\ (false = false /\ True) /\ (True /\ True) /\ True /\ (p = p /\ True /\ True) /\ hvM P64.gd p n d k (cm p d k m) = grM P64.gd p (n + 1) d k m /\ True /\ (True /\ True /\ True /\ True /\ True /\ True) /\ True) /\ (some (Code.exit (0 : Nat)) = some Code.ret -> (True /\ True) /\ (false = false /\ True) /\ (True /\ True) /\ True /\ (p = p /\ True /\ True) /\ hvM P64.gd p n d k (cm p d k m) = grM P64.gd p (n + 1) d k m /\ True /\ (True /\ True /\ True /\ True /\ True /\ True) /\ True) /\ True))) (by kernel_rfl) ?_
 simp only [zz]
 have hg : gd (qc p d k) = false := by
   cases hg : gd (qc p d k) with
   | false => rfl
   | true => rw [grL_succ, if_pos hg] at hl; cases hl
 have e : hvM gd p n d k (cm p d k m) = grM gd p (n + 1) d k m := by rw [grM_succ, if_neg (by simp [hg])]
 have e2 : hvL gd p n d k = [] := by rwa [grL_succ, if_neg (by simp [hg])] at hl
 refine ⟨⟨hp.1, hpc, by omega, hp.2.2.2⟩, by omega, fun h => ?_, fun h => ⟨fun _ => by omega, fun h6 => ?_⟩⟩
 · have h : gd (qc p d k) = true := h
   rw [hg] at h; cases h
 · exact ⟨⟨⟨d, k, rfl, pre_memo hp (cm_ok hp.2.2.2), e2⟩, by simp⟩, fun _ => e, .inl trivial, fun _ => e, fun _ => e⟩
theorem gO1 (n : Nat) (h : HO n) : GO (n + 1) := by
 intro d k p m hp hl
 have h0 := pre_lt hp
 have hpc := piece_of hp
 have hln := qc_length p d k
 have hpl := hp.1.2.1
 have hd6 := hp.2.1
 refine gcall_of (X := (Xy (e97O n h :: E91) [] none 6 (drOf [(1, 4005)]))) ((Xy_ok _ _ _ _ _)) (f := 91) (fn := Tryd.f91) (c := bodyOf Tryd.f91) (by kernel_rfl) (by kernel_rfl) (view := false) (rvs := [.cell 6 4]) (by kernel_rfl) (H := fun _ => none) 80 (by kernel_rfl) ?_
 refine of_eq (q := True /\ True /\ True /\ true = true /\ True /\ true = true /\ True /\ true = true /\ ((isPoly p /\ isPiece ((d : Int), (k : Int)) /\ (d : Int) < 7 /\ memoOk p m) /\ True /\ True /\ True) /\ ((True /\ AV.clo (64 : FuncId) [] [] = AV.clo (64 : FuncId) [] []) /\ True) /\ (qc p d k).length + 1 <= 1000000 /\ True /\ (decide (chg (qc p d k) <= 1) = true -> True /\ True /\ True /\ sumPre (0 : Nat) [((d : Int), (k : Int))].length (nat_lit 16) /\ True /\ True /\ (True /\ True) /\ (true = grB P64.gd p (n + 1) d k /\ True) /\ (True /\ True) /\ True /\ (p = p /\ True /\ True) /\ cm p d k m = grM P64.gd p (n + 1) d k m /\ True /\ (True /\ True /\ True /\ True /\ True /\ True) /\ [((d : Int), (k : Int))] = grL P64.gd p (n + 1) d k /\ True) /\ (decide (chg (qc p d k) <= 1) = false -> True /\ True /\ True /\ ((d : Int) = 6 -> True /\ (True /\ True) /\ (false = grB P64.gd p (n + 1) d k /\ True) /\ (True /\ True) /\ True /\ (p = p /\ True /\ True) /\ cm p d k m = grM P64.gd p (n + 1) d k m /\ False /\ (True /\ True /\ True /\ True /\ True /\ True) /\ False) /\ (¬(d : Int) = 6 -> True /\ (True /\ True) /\ ((((∃ (d_1 : Nat), ∃ (k_1 : Nat), ((d : Int), (k : Int)) = ((d_1 : Int), (k_1 : Int)) /\ pre91 (n + 1) d_1 k_1 p (cm p d k m) /\ ¬hvL P64.gd p n d_1 k_1 = [] /\ (hvL P64.gd p n d_1 k_1).length < 1000000) /\ (True /\ True /\ True) /\ (C91 = C91 /\ LoopState.ready = LoopState.ready /\ (none : Option Code) = none /\ (True /\ True /\ True) /\ True) /\ (True /\ True /\ True /\ True /\ True /\ True) /\ (True /\ True) /\ True /\ (p = p /\ True /\ True) /\ cm p d k m = cm p d k m /\ True /\ false = false /\ ((d : Int) = (d : Int) /\ (k : Int) = (k : Int) /\ True) /\ True) /\ True /\ True /\ True /\ True /\ True /\ True /\ True /\ True /\ True /\ True) /\ ¬LoopState.done = LoopState.busy) /\ (jR (hvB P64.gd p n d k) = none -> True /\ (True /\ True) /\ (false = grB P64.gd p (n + 1) d k /\ True) /\ (True /\ True) /\ True /\ (p = p /\ True /\ True) /\ hvM P64.gd p n d k (cm p d k m) = grM P64.gd p (n + 1) d k m /\ True /\ (True /\ True /\ True /\ True /\ True /\ True) /\ hvL P64.gd p n d k = grL P64.gd p (n + 1) d k /\ True) /\ (jR (hvB P64.gd p n d k) = some (Code.exit (0 : Nat)) ∨ jR (hvB P64.gd p n d k) = some Code.ret ∨ jR (hvB P64.gd p n d k) = none) /\ (jR (hvB P64.gd p n d k) = some (Code.exit (0 : Nat)) -> True /\ (True /\ True) /\ (false = grB P64.gd p (n + 1) d k /\ True) /\ (True /\ True) /\ True /\ (p = p /\ True /\ True) /\ hvM P64.gd p n d k (cm p d k m) = grM P64.gd p (n + 1) d k m /\ True /\ (True /\ True /\ True /\ True /\ True /\ True) /\ hvL P64.gd p n d k = grL P64.gd p (n + 1) d k /\ True) /\ (jR (hvB P64.gd p n d k) = some Code.ret -> (True /\ True) /\ (hvB P64.gd p n d k = grB P64.gd p (n + 1) d k /\ True) /\ (True /\ True) /\ True /\ (p = p /\ True /\ True) /\ hvM P64.gd p n d k (cm p d k m) = grM P64.gd p (n + 1) d k m /\ True /\ (True /\ True /\ True /\ True /\ True /\ True) /\ hvL P64.gd p n d k = grL P64.gd p (n + 1) d k /\ True) /\ True))) (by kernel_rfl) ?_
 simp only [zz]
 have hln2 := grL_len gd p (n + 1) d k
 have hn2 := Nat.pow_le_pow_right (show 0 < 2 by omega) (show n + 1 <= 6 by omega)
 refine ⟨⟨hp.1, hpc, by omega, hp.2.2.2⟩, by omega, fun h => ?_, fun h => ⟨fun _ => by omega, fun h6 => ?_⟩⟩
 · have hg : gd (qc p d k) = true := h
   rw [grB_succ, grM_succ, grL_succ, if_pos hg, if_pos hg, hg]
   exact ⟨by unfold sumPre; simp, rfl, rfl, rfl⟩
 · have hg : gd (qc p d k) = false := h
   have hng : ¬ gd (qc p d k) = true := by simp [hg]
   rw [grL_succ, if_neg hng] at hl hln2
   rw [grB_succ, grM_succ, grL_succ, if_neg hng, if_neg hng, hg]
   refine ⟨⟨⟨d, k, rfl, pre_memo hp (cm_ok hp.2.2.2), hl, by omega⟩, by simp⟩, ?_⟩
   cases hvB gd p n d k <;> simp [jR]
theorem gS1 (n : Nat) (h : HS n) : GS (n + 1) := by
 intro d k p m l hp hl
 have h0 := pre_lt hp
 have hpc := piece_of hp
 have hln := qc_length p d k
 have hpl := hp.1.2.1
 have hd6 := hp.2.1
 refine gcall_of (X := (Xb (e97S n h :: E91) [] none 7 [5] (drOf [(1, 4005)]))) ((Xb_ok _ _ _ _ _ _)) (f := 91) (fn := Tryd.f91) (c := bodyOf Tryd.f91) (by kernel_rfl) (by kernel_rfl) (view := false) (rvs := [.cell 6 4]) (by kernel_rfl) (H := fun _ => none) 80 (by kernel_rfl) ?_
 refine of_eq (q := True /\ True /\ True /\ true = true /\ True /\ true = true /\ True /\ true = true /\ ((isPoly p /\ isPiece ((d : Int), (k : Int)) /\ (d : Int) < 7 /\ memoOk p m) /\ True /\ True /\ True) /\ ((True /\ AV.clo (64 : FuncId) [] [] = AV.clo (64 : FuncId) [] []) /\ True) /\ (qc p d k).length + 1 <= 1000000 /\ True /\ (decide (chg (qc p d k) <= 1) = true -> True /\ True /\ True /\ sumPre l.length [((d : Int), (k : Int))].length (nat_lit 16) /\ True /\ True /\ (True /\ True) /\ (true = grB P64.gd p (n + 1) d k /\ True) /\ (True /\ True) /\ True /\ (p = p /\ True /\ True) /\ cm p d k m = grM P64.gd p (n + 1) d k m /\ True /\ l ++ [((d : Int), (k : Int))] = l ++ grL P64.gd p (n + 1) d k /\ (True /\ True /\ True /\ True /\ True /\ True) /\ True) /\ (decide (chg (qc p d k) <= 1) = false -> True /\ True /\ True /\ ((d : Int) = 6 -> True /\ (True /\ True) /\ (false = grB P64.gd p (n + 1) d k /\ True) /\ (True /\ True) /\ True /\ (p = p /\ True /\ True) /\ cm p d k m = grM P64.gd p (n + 1) d k m /\ True /\ l = l ++ grL P64.gd p (n + 1) d k /\ (True /\ True /\ True /\ True /\ True /\ True) /\ True) /\ (¬(d : Int) = 6 -> True /\ (True /\ True) /\ ((((∃ (d_1 : Nat), ∃ (k_1 : Nat), ((d : Int), (k : Int)) = ((d_1 : Int), (k_1 : Int)) /\ pre91 (n + 1) d_1 k_1 p (cm p d k m) /\ l.length + (hvL P64.gd p n d_1 k_1).length < 1000000) /\ (True /\ True /\ True) /\ (C91 = C91 /\ LoopState.ready = LoopState.ready /\ (none : Option Code) = none /\ (True /\ True /\ True) /\ True) /\ (True /\ True /\ True /\ True /\ True /\ True) /\ (True /\ True) /\ True /\ (p = p /\ True /\ True) /\ cm p d k m = cm p d k m /\ True /\ l = l /\ false = false /\ ((d : Int) = (d : Int) /\ (k : Int) = (k : Int) /\ True) /\ True) /\ True /\ True /\ True /\ True /\ True /\ True /\ True /\ True /\ True /\ True /\ True) /\ ¬LoopState.done = LoopState.busy) /\ (jR (hvB P64.gd p n d k) = none -> True /\ (True /\ True) /\ (false = grB P64.gd p (n + 1) d k /\ True) /\ (True /\ True) /\ True /\ (p = p /\ True /\ True) /\ hvM P64.gd p n d k (cm p d k m) = grM P64.gd p (n + 1) d k m /\ True /\ l ++ hvL P64.gd p n d k = l ++ grL P64.gd p (n + 1) d k /\ (True /\ True /\ True /\ True /\ True /\ True) /\ True) /\ (jR (hvB P64.gd p n d k) = some (Code.exit (0 : Nat)) ∨ jR (hvB P64.gd p n d k) = some Code.ret ∨ jR (hvB P64.gd p n d k) = none) /\ (jR (hvB P64.gd p n d k) = some (Code.exit (0 : Nat)) -> True /\ (True /\ True) /\ (false = grB P64.gd p (n + 1) d k /\ True) /\ (True /\ True) /\ True /\ (p = p /\ True /\ True) /\ hvM P64.gd p n d k (cm p d k m) = grM P64.gd p (n + 1) d k m /\ True /\ l ++ hvL P64.gd p n d k = l ++ grL P64.gd p (n + 1) d k /\ (True /\ True /\ True /\ True /\ True /\ True) /\ True) /\ (jR (hvB P64.gd p n d k) = some Code.ret -> (True /\ True) /\ (hvB P64.gd p n d k = grB P64.gd p (n + 1) d k /\ True) /\ (True /\ True) /\ True /\ (p = p /\ True /\ True) /\ hvM P64.gd p n d k (cm p d k m) = grM P64.gd p (n + 1) d k m /\ True /\ l ++ hvL P64.gd p n d k = l ++ grL P64.gd p (n + 1) d k /\ (True /\ True /\ True /\ True /\ True /\ True) /\ True) /\ True))) (by kernel_rfl) ?_
 simp only [zz]
 refine ⟨⟨hp.1, hpc, by omega, hp.2.2.2⟩, by omega, fun h => ?_, fun h => ⟨fun _ => by omega, fun h6 => ?_⟩⟩
 · have hg : gd (qc p d k) = true := h
   rw [grB_succ, grM_succ, grL_succ, if_pos hg, if_pos hg, hg]
   exact ⟨by unfold sumPre; simp; omega, rfl, rfl, rfl⟩
 · have hg : gd (qc p d k) = false := h
   have hng : ¬ gd (qc p d k) = true := by simp [hg]
   rw [grL_succ, if_neg hng] at hl
   rw [grB_succ, grM_succ, grL_succ, if_neg hng, if_neg hng, hg]
   refine ⟨⟨⟨d, k, rfl, pre_memo hp (cm_ok hp.2.2.2), hl⟩, by simp⟩, ?_⟩
   cases hvB gd p n d k <;> simp [jR]
/-- All levels. -/
theorem g_all : ∀ n, GN n /\ GO n /\ GS n
 | 0 => ⟨gN0, gO0, gS0⟩
 | n + 1 => by
   obtain ⟨h1, h2, h3⟩ := g_all n
   exact ⟨gN1 n (hN_of n (yN_of n h1)), gO1 n (hO_of n (yO_of n h2) (yS_of n h3)), gS1 n (hS_of n (yS_of n h3))⟩
noncomputable def e91n : Entry Tryd.prog gl := e91N 6 (g_all 6).1
noncomputable def e91o : Entry Tryd.prog gl := e91O 6 (g_all 6).2.1
def coverB (p : List Int) : Bool := grB gd p 6 0 0
def coverL (p : List Int) : List PQ := grL gd p 6 0 0
def coverM (p : List Int) (m : Memo) : Memo := grM gd p 6 0 0 m
def a63 : List AV := [.ptr 0 0 [], ofD FR ((0 : Int), (0 : Int)), .clo 64 [] []]
def P63N : Prop := ∀ (p : List Int) (m : Memo), isPoly p -> memoOk p m -> coverB p = false -> GCall Tryd.prog gl 63 false a63 [cvO p, mmO m] [nl] [cvO p, mmO (coverM p m)]
def P63O : Prop := ∀ (p : List Int) (m : Memo), isPoly p -> memoOk p m -> coverB p = true -> GCall Tryd.prog gl 63 false a63 [cvO p, mmO m] [.own 2 0] [cvO p, mmO (coverM p m), pieO 0 (coverL p)]
theorem pre6 {p : List Int} {m : Memo} (hp : isPoly p) (hm : memoOk p m) : pre91 6 0 0 p m := ⟨hp, rfl, by omega, hm⟩
theorem call63N : P63N := by
 intro p m hp hm hb
 have hb' : grB gd p 6 0 0 = false := hb
 by_cases hl : grL gd p 6 0 0 = []
 · refine gcall_of (X := (Xy [e91n] [] none 2 (fun _ => none))) ((Xy_ok _ _ _ _ _)) (f := 63) (fn := Tryd.f63) (c := bodyOf Tryd.f63) (by kernel_rfl) (by kernel_rfl) (view := false) (rvs := [.tmp 6]) (by kernel_rfl) (H := fun _ => none) 80 (by kernel_rfl) ?_
   refine of_eq (q := True /\ True /\ True /\ True /\ True /\ True /\ True /\ True /\ True /\ True /\ (((∃ (d : Nat), ∃ (k : Nat), ((0 : Int), (0 : Int)) = ((d : Int), (k : Int)) /\ pre91 (6 : Nat) d k p m /\ grL P64.gd p (6 : Nat) d k = []) /\ (((0 : Int) = 0 /\ (0 : Int) = 0 /\ True) /\ True /\ True /\ True /\ True /\ True) /\ (True /\ True) /\ True /\ (p = p /\ True /\ True) /\ m = m /\ True /\ (True /\ True /\ True /\ True /\ True /\ True) /\ True) /\ True /\ True /\ True /\ True /\ True /\ True /\ True) /\ True /\ True /\ True /\ (True /\ True) /\ (p = p /\ True /\ True) /\ grM P64.gd p (6 : Nat) (0 : Nat) (0 : Nat) m = P64.coverM p m /\ True) (by kernel_rfl) ?_
   simp only [zz]
   exact ⟨⟨0, 0, rfl, pre6 hp hm, hl⟩, rfl⟩
 · refine gcall_of (X := (Xy [e91o] [] none 2 (fun _ => none))) ((Xy_ok _ _ _ _ _)) (f := 63) (fn := Tryd.f63) (c := bodyOf Tryd.f63) (by kernel_rfl) (by kernel_rfl) (view := false) (rvs := [.tmp 6]) (by kernel_rfl) (H := fun _ => none) 80 (by kernel_rfl) ?_
   refine of_eq (q := True /\ True /\ True /\ True /\ True /\ True /\ True /\ True /\ True /\ True /\ (((∃ (d : Nat), ∃ (k : Nat), ((0 : Int), (0 : Int)) = ((d : Int), (k : Int)) /\ pre91 (6 : Nat) d k p m /\ ¬grL P64.gd p (6 : Nat) d k = []) /\ (((0 : Int) = 0 /\ (0 : Int) = 0 /\ True) /\ True /\ True /\ True /\ True /\ True) /\ (True /\ True) /\ True /\ (p = p /\ True /\ True) /\ m = m /\ True /\ (True /\ True /\ True /\ True /\ True /\ True) /\ True) /\ True /\ True /\ True /\ True /\ True /\ True /\ True) /\ True /\ ((!grB P64.gd p (6 : Nat) (0 : Nat) (0 : Nat)) = true -> True /\ True /\ (True /\ True) /\ (p = p /\ True /\ True) /\ grM P64.gd p (6 : Nat) (0 : Nat) (0 : Nat) m = P64.coverM p m /\ True) /\ ((!grB P64.gd p (6 : Nat) (0 : Nat) (0 : Nat)) = false -> True /\ True /\ True /\ (False /\ True) /\ (p = p /\ True /\ True) /\ grM P64.gd p (6 : Nat) (0 : Nat) (0 : Nat) m = P64.coverM p m /\ True)) (by kernel_rfl) ?_
   simp only [zz]
   refine ⟨⟨0, 0, rfl, pre6 hp hm, hl⟩, fun _ => rfl, fun h => ?_⟩
   simp [hb'] at h
theorem call63O : P63O := by
 intro p m hp hm hb
 have hb' : grB gd p 6 0 0 = true := hb
 have hl := grL_ne gd p hb'
 refine gcall_of (X := (Xy [e91o] [] none 2 (fun _ => none))) ((Xy_ok _ _ _ _ _)) (f := 63) (fn := Tryd.f63) (c := bodyOf Tryd.f63) (by kernel_rfl) (by kernel_rfl) (view := false) (rvs := [.tmp 6]) (by kernel_rfl) (H := fun _ => none) 80 (by kernel_rfl) ?_
 refine of_eq (q := True /\ True /\ True /\ True /\ True /\ True /\ True /\ True /\ True /\ True /\ (((∃ (d : Nat), ∃ (k : Nat), ((0 : Int), (0 : Int)) = ((d : Int), (k : Int)) /\ pre91 (6 : Nat) d k p m /\ ¬grL P64.gd p (6 : Nat) d k = []) /\ (((0 : Int) = 0 /\ (0 : Int) = 0 /\ True) /\ True /\ True /\ True /\ True /\ True) /\ (True /\ True) /\ True /\ (p = p /\ True /\ True) /\ m = m /\ True /\ (True /\ True /\ True /\ True /\ True /\ True) /\ True) /\ True /\ True /\ True /\ True /\ True /\ True /\ True) /\ True /\ ((!grB P64.gd p (6 : Nat) (0 : Nat) (0 : Nat)) = true -> True /\ True /\ (False /\ True) /\ (p = p /\ True /\ True) /\ grM P64.gd p (6 : Nat) (0 : Nat) (0 : Nat) m = P64.coverM p m /\ False) /\ ((!grB P64.gd p (6 : Nat) (0 : Nat) (0 : Nat)) = false -> True /\ True /\ True /\ (True /\ True) /\ (p = p /\ True /\ True) /\ grM P64.gd p (6 : Nat) (0 : Nat) (0 : Nat) m = P64.coverM p m /\ grL P64.gd p (6 : Nat) (0 : Nat) (0 : Nat) = P64.coverL p /\ True)) (by kernel_rfl) ?_
 simp only [zz]
 refine ⟨⟨0, 0, rfl, pre6 hp hm, hl⟩, fun h => ?_, fun _ => ⟨rfl, rfl⟩⟩
 simp [hb'] at h
end Go.Am.Bern.P64

/- Bern: Positive, Roots, Count. -/
namespace Go.Am.Bern
open Go Go.Am Go.Proofs
def get63 (_ : List AV) (obs : List Ob) : Option (List Int × Memo) :=
 match obs with
 | [c, m] => (match unCv c, unMm m with
   | some p, some m => some (p, m)
   | _, _ => none)
 | _ => none
theorem en63 : Enters Tryd.prog 63 := ⟨Tryd.f63, by kernel_rfl, by kernel_rfl, by kernel_rfl⟩
noncomputable def e63N : Entry Tryd.prog gl := entryW 63 en63 true get63 (fun x => isPoly x.1 /\ memoOk x.1 x.2 /\ P71.coverB x.1 = false) false (fun _ => P71.a63) (fun x => [cvO x.1, mmO x.2]) (fun _ => [nl]) (fun x => [cvO x.1, mmO (P71.coverM x.1 x.2)]) (fun x h => P71.call63N x.1 x.2 h.1 h.2.1 h.2.2)
noncomputable def e63O : Entry Tryd.prog gl := entryW 63 en63 true get63 (fun x => isPoly x.1 /\ memoOk x.1 x.2 /\ P71.coverB x.1 = true) false (fun _ => P71.a63) (fun x => [cvO x.1, mmO x.2]) (fun _ => [.own 2 0]) (fun x => [cvO x.1, mmO (P71.coverM x.1 x.2), pieO 0 (P71.coverL x.1)]) (fun x h => P71.call63O x.1 x.2 h.1 h.2.1 h.2.2)
noncomputable def e63n : Entry Tryd.prog gl := entryW 63 en63 true get63 (fun x => isPoly x.1 /\ memoOk x.1 x.2 /\ P64.coverB x.1 = false) false (fun _ => P64.a63) (fun x => [cvO x.1, mmO x.2]) (fun _ => [nl]) (fun x => [cvO x.1, mmO (P64.coverM x.1 x.2)]) (fun x h => P64.call63N x.1 x.2 h.1 h.2.1 h.2.2)
noncomputable def e63o : Entry Tryd.prog gl := entryW 63 en63 true get63 (fun x => isPoly x.1 /\ memoOk x.1 x.2 /\ P64.coverB x.1 = true) false (fun _ => P64.a63) (fun x => [cvO x.1, mmO x.2]) (fun _ => [.own 2 0]) (fun x => [cvO x.1, mmO (P64.coverM x.1 x.2), pieO 0 (P64.coverL x.1)]) (fun x h => P64.call63O x.1 x.2 h.1 h.2.1 h.2.2)
def posB (p : List Int) : Bool := decide (isPoly p) && P71.coverB p
def posK (p : List Int) : List PQ := if posB p then P71.coverL p else []
theorem errOf_pos {p : List Int} (h : ¬ errOf p = 0) : ¬ isPoly p := fun hp => h (by simp [errOf, hp])
theorem errOf_zero {p : List Int} (h : ¬¬ errOf p = 0) : isPoly p := by
 false_or_by_contra; rename_i hn; exact h (by simp [errOf, hn])
theorem call26 (p : List Int) (h : p.length < 1000000) : GCall Tryd.prog gl 26 false [.sl I64 p] [] [.bool (posB p), .sl Q2 (posK p), .int .i64 (errOf p)] [] := by
 have hlen : (P71.coverL p).length <= 64 := grL_len _ p 6 0 0
 by_cases hb : P71.coverB p = true
 · refine gcall_of (X := (Xd [e56, e62, e66, e63O] (drOf [(4, 1000000)]))) ((Xd_ok _ _)) (f := 26) (fn := Tryd.f26) (c := bodyOf Tryd.f26) (by kernel_rfl) (by kernel_rfl) (view := true) (rvs := [.tmp 2, .tmp 3, .tmp 4]) (by kernel_rfl) (H := fun _ => none) 80 (by kernel_rfl) ?_
   refine of_eq (q := True /\ True /\ True /\ True /\ (p.length + 1 <= 1000000 /\ True) /\ True /\ True /\ True /\ (¬errOf p = 0 -> True /\ True /\ True /\ True /\ True /\ (false = posB p /\ ([] : List (Int × Int)) = posK p /\ errOf p = errOf p /\ True) /\ True) /\ (¬¬errOf p = 0 -> ((True /\ ((True /\ True) /\ (True /\ ((((isPoly p /\ memoOk p [] /\ P71.coverB p = true) /\ (True /\ ((0 : Int) = 0 /\ (0 : Int) = 0 /\ True) /\ (True /\ True) /\ True) /\ (p = p /\ True /\ True) /\ ([] : List ((Int × Int) × List (Int × Int))) = [] /\ True) /\ True /\ True /\ True) /\ (True /\ (p = p /\ false = false /\ True /\ (0 : Int) = 0 /\ errOf p = errOf p /\ True /\ p = p /\ errOf p = errOf p /\ errOf p = errOf p /\ false = false /\ p = p /\ True /\ ((0 : Int) = 0 /\ (0 : Int) = 0 /\ True) /\ True /\ True) /\ (p = p /\ True /\ True) /\ P71.coverM p [] = P71.coverM p [] /\ P71.coverL p = P71.coverL p /\ True) /\ True) /\ True) /\ True) /\ (True /\ ((True /\ True) /\ ((((isPoly p /\ memoOk p [] /\ P71.coverB p = true) /\ (True /\ ((0 : Int) = 0 /\ (0 : Int) = 0 /\ True) /\ (True /\ True) /\ True) /\ (p = p /\ True /\ True) /\ ([] : List ((Int × Int) × List (Int × Int))) = [] /\ True) /\ True /\ True /\ True) /\ (True /\ (p = p /\ false = false /\ True /\ (0 : Int) = 0 /\ errOf p = errOf p /\ True /\ p = p /\ errOf p = errOf p /\ errOf p = errOf p /\ false = false /\ p = p /\ True /\ ((0 : Int) = 0 /\ (0 : Int) = 0 /\ True) /\ True /\ True) /\ (p = p /\ True /\ True) /\ P71.coverM p [] = P71.coverM p [] /\ P71.coverL p = P71.coverL p /\ True) /\ True) /\ True) /\ True) /\ True) /\ (True /\ (True /\ ((True /\ True) /\ ((((isPoly p /\ memoOk p [] /\ P71.coverB p = true) /\ (True /\ ((0 : Int) = 0 /\ (0 : Int) = 0 /\ True) /\ (True /\ True) /\ True) /\ (p = p /\ True /\ True) /\ ([] : List ((Int × Int) × List (Int × Int))) = [] /\ True) /\ True /\ True /\ True) /\ (True /\ (p = p /\ false = false /\ True /\ (0 : Int) = 0 /\ errOf p = errOf p /\ True /\ p = p /\ errOf p = errOf p /\ errOf p = errOf p /\ false = false /\ p = p /\ True /\ ((0 : Int) = 0 /\ (0 : Int) = 0 /\ True) /\ True /\ True) /\ (p = p /\ True /\ True) /\ P71.coverM p [] = P71.coverM p [] /\ P71.coverL p = P71.coverL p /\ True) /\ True) /\ True) /\ True) /\ True) /\ True) /\ True /\ True /\ True /\ ((P71.coverL p).length + 1 <= 1000000 /\ True) /\ True /\ True /\ True /\ True /\ (true = posB p /\ P71.coverL p = posK p /\ (0 : Int) = errOf p /\ True) /\ True)) (by kernel_rfl) ?_
   simp only [zz]
   refine ⟨by omega, fun he => ?_, fun he => ?_⟩
   · have := errOf_pos he
     simp [posK, posB, this]
   · have hp := errOf_zero he
     exact ⟨⟨⟨⟨hp, memoOk_nil p, hb⟩, ⟨hp, memoOk_nil p, hb⟩⟩, ⟨hp, memoOk_nil p, hb⟩⟩, by omega, by simp [posB, hp, hb], by simp [posK, posB, hp, hb], by simp [errOf, hp]⟩
 · have hb : P71.coverB p = false := by simpa using hb
   refine gcall_of (X := (Xd [e56, e62, e66, e63N] (drOf [(4, 1000000)]))) ((Xd_ok _ _)) (f := 26) (fn := Tryd.f26) (c := bodyOf Tryd.f26) (by kernel_rfl) (by kernel_rfl) (view := true) (rvs := [.tmp 2, .tmp 3, .tmp 4]) (by kernel_rfl) (H := fun _ => none) 80 (by kernel_rfl) ?_
   refine of_eq (q := True /\ True /\ True /\ True /\ (p.length + 1 <= 1000000 /\ True) /\ True /\ True /\ True /\ (¬errOf p = 0 -> True /\ True /\ True /\ True /\ True /\ (false = posB p /\ ([] : List (Int × Int)) = posK p /\ errOf p = errOf p /\ True) /\ True) /\ (¬¬errOf p = 0 -> ((True /\ ((True /\ True) /\ (True /\ ((((isPoly p /\ memoOk p [] /\ P71.coverB p = false) /\ (True /\ ((0 : Int) = 0 /\ (0 : Int) = 0 /\ True) /\ (True /\ True) /\ True) /\ (p = p /\ True /\ True) /\ ([] : List ((Int × Int) × List (Int × Int))) = [] /\ True) /\ True /\ True /\ True) /\ (True /\ (p = p /\ false = false /\ True /\ (0 : Int) = 0 /\ errOf p = errOf p /\ True /\ p = p /\ errOf p = errOf p /\ errOf p = errOf p /\ false = false /\ p = p /\ True /\ ((0 : Int) = 0 /\ (0 : Int) = 0 /\ True) /\ True /\ True) /\ (p = p /\ True /\ True) /\ P71.coverM p [] = P71.coverM p [] /\ True) /\ True) /\ True) /\ True) /\ (True /\ ((True /\ True) /\ ((((isPoly p /\ memoOk p [] /\ P71.coverB p = false) /\ (True /\ ((0 : Int) = 0 /\ (0 : Int) = 0 /\ True) /\ (True /\ True) /\ True) /\ (p = p /\ True /\ True) /\ ([] : List ((Int × Int) × List (Int × Int))) = [] /\ True) /\ True /\ True /\ True) /\ (True /\ (p = p /\ false = false /\ True /\ (0 : Int) = 0 /\ errOf p = errOf p /\ True /\ p = p /\ errOf p = errOf p /\ errOf p = errOf p /\ false = false /\ p = p /\ True /\ ((0 : Int) = 0 /\ (0 : Int) = 0 /\ True) /\ True /\ True) /\ (p = p /\ True /\ True) /\ P71.coverM p [] = P71.coverM p [] /\ True) /\ True) /\ True) /\ True) /\ True) /\ (True /\ (True /\ ((True /\ True) /\ ((((isPoly p /\ memoOk p [] /\ P71.coverB p = false) /\ (True /\ ((0 : Int) = 0 /\ (0 : Int) = 0 /\ True) /\ (True /\ True) /\ True) /\ (p = p /\ True /\ True) /\ ([] : List ((Int × Int) × List (Int × Int))) = [] /\ True) /\ True /\ True /\ True) /\ (True /\ (p = p /\ false = false /\ True /\ (0 : Int) = 0 /\ errOf p = errOf p /\ True /\ p = p /\ errOf p = errOf p /\ errOf p = errOf p /\ false = false /\ p = p /\ True /\ ((0 : Int) = 0 /\ (0 : Int) = 0 /\ True) /\ True /\ True) /\ (p = p /\ True /\ True) /\ P71.coverM p [] = P71.coverM p [] /\ True) /\ True) /\ True) /\ True) /\ True) /\ True) /\ True /\ True /\ True /\ ((1 : Nat) <= 1000000 /\ True) /\ True /\ True /\ True /\ True /\ (false = posB p /\ ([] : List (Int × Int)) = posK p /\ (0 : Int) = errOf p /\ True) /\ True)) (by kernel_rfl) ?_
   simp only [zz]
   refine ⟨by omega, fun he => ?_, fun he => ?_⟩
   · have := errOf_pos he
     simp [posK, posB, this]
   · have hp := errOf_zero he
     exact ⟨⟨⟨⟨hp, memoOk_nil p, hb⟩, ⟨hp, memoOk_nil p, hb⟩⟩, ⟨hp, memoOk_nil p, hb⟩⟩, by omega, by simp [posB, hp, hb], by simp [posK, posB, hp, hb], by simp [errOf, hp]⟩
def e26 : Entry Tryd.prog gl := entry1 26 ⟨Tryd.f26, by kernel_rfl, by kernel_rfl, by kernel_rfl⟩ SI (fun p => p.length < 1000000) false (fun p => [.bool (posB p), .sl Q2 (posK p), .int .i64 (errOf p)]) (fun _ => []) (call26)
def ob68 (p : List Int) (m : Memo) : List Ob := [.bx (.ptr 1 0 []), cvB p 2, mmO m]
def cgz (p : List Int) (q : PQ) : Bool := decide (chg (qc p q.1.toNat q.2.toNat) = 0)
def cmq (p : List Int) (m : Memo) (q : PQ) : Memo := cm p q.1.toNat q.2.toNat m
theorem call68 (p : List Int) (m : Memo) (q : PQ) (h : pre69 7 p m q) : GCall Tryd.prog gl 68 false [ofD FR q, .ptr 0 0 []] (ob68 p m) [.bool (cgz p q)] (ob68 p (cmq p m q)) := by
 refine gcall_of (X := (Xm [e69, e65] 3 (fun _ => none))) ((Xm_ok _ _ _)) (f := 68) (fn := Tryd.f68) (c := bodyOf Tryd.f68) (by kernel_rfl) (by kernel_rfl) (view := false) (rvs := [.tmp 3]) (by kernel_rfl) (H := fun _ => none) 80 (by kernel_rfl) ?_
 refine of_eq (q := True /\ True /\ True /\ True /\ ((isPoly p /\ isPiece (q.fst, q.snd) /\ q.fst < 7 /\ memoOk p m) /\ True /\ True /\ True) /\ ((qc p (Int.toNat q.fst) (Int.toNat q.snd)).length + 1 <= 1000000 /\ True) /\ True /\ True /\ True /\ (decide ((↑(chg (qc p (Int.toNat q.fst) (Int.toNat q.snd))) : Int) = 0) = cgz p q /\ True) /\ True /\ (p = p /\ True /\ True) /\ cm p (Int.toNat q.fst) (Int.toNat q.snd) m = cmq p m q /\ True) (by kernel_rfl) ?_
 simp only [zz]
 have hln := qc_length p q.1.toNat q.2.toNat
 have := h.1.2.1
 refine ⟨⟨h.1, h.2.1, h.2.2.1, h.2.2.2⟩, by omega, ?_, rfl⟩
 unfold cgz; simp
def get68 (xs : List AV) (obs : List Ob) : Option (PQ × List Int × Memo) :=
 match xs with
 | [x, _] => (match toD FR x, unCvB (obs.getD 1 .gone), unMm (obs.getD 2 .gone) with
   | some q, some p, some m => some (q, p, m)
   | _, _, _ => none)
 | _ => none
theorem en68 : Enters Tryd.prog 68 := ⟨Tryd.f68, by kernel_rfl, by kernel_rfl, by kernel_rfl⟩
def e68 : Entry Tryd.prog gl := entryW 68 en68 true get68 (fun x => pre69 7 x.2.1 x.2.2 x.1) false (fun x => [ofD FR x.1, .ptr 0 0 []]) (fun x => ob68 x.2.1 x.2.2) (fun x => [.bool (cgz x.2.1 x.1)]) (fun x => ob68 x.2.1 (cmq x.2.1 x.2.2 x.1)) (fun x h => call68 x.2.1 x.2.2 x.1 h)
/-- Pieces of a list, one after the other. -/
def cms (p : List Int) (l : List PQ) (m : Memo) : Memo := l.foldl (cmq p) m
def pcs (p : List Int) (l : List PQ) : Prop := isPoly p /\ l.length < 1000000 /\ ∀ q ∈ l, isPiece q
theorem cmq_ok {p : List Int} {m : Memo} {q : PQ} (hm : memoOk p m) : memoOk p (cmq p m q) := cm_ok hm
theorem cms_ok {p : List Int} : ∀ {l : List PQ} {m : Memo}, memoOk p m -> memoOk p (cms p l m)
 | [], m, h => h
 | q :: l, m, h => cms_ok (l := l) (cmq_ok h)
theorem cms_snoc (p : List Int) (l : List PQ) (q : PQ) (m : Memo) : cms p (l ++ [q]) m = cmq p (cms p l m) q := by simp [cms, List.foldl_append]
def zIdx (p : List Int) (l : List PQ) : Nat := l.findIdx (cgz p)
def zIdxR (p : List Int) (l : List PQ) : Int := if ∃ q ∈ l, cgz p q = true then (zIdx p l : Int) else -1
def obD (v : Nat) (l : List PQ) (p : List Int) (m : Memo) : List Ob := [pieO v l, .bx (.ptr 2 0 []), cvB p 3, mmO m]
def clo68 : AV := .clo 68 [] [.ptr 1 0 []]
theorem find_b {f : PQ -> Bool} {l : List PQ} {k : Nat} (hk : k < l.length) (h : ∀ x ∈ l.take k, f x = false) (hx : f (l.getD k (0, 0)) = true) : l.findIdx f = k := by
 induction l generalizing k with
 | nil => simp at hk
 | cons a l ih =>
   cases k with
   | zero => simp at hx; simp [List.findIdx_cons, hx]
   | succ k =>
     have ha : f a = false := h a (by simp)
     rw [List.findIdx_cons, ha]
     simp only [cond_false]
     rw [ih (by simpa using hk) (fun x hx => h x (by simp [hx])) (by simpa using hx)]
theorem find_none {f : PQ -> Bool} : ∀ {l : List PQ}, (∀ x ∈ l, f x = false) -> l.findIdx f = l.length
 | [], _ => rfl
 | a :: l, h => by
   rw [List.findIdx_cons, h a (by simp)]
   simp only [cond_false]
   rw [find_none fun x hx => h x (by simp [hx])]; try rfl
theorem take_memD {l : List PQ} {k : Nat} {P : PQ -> Prop} (hk : k < l.length) (h : ∀ q ∈ l.take k, P q) (hx : P (l.getD k (0, 0))) : ∀ q ∈ l.take (k + 1), P q := by
 rw [take_getD (d := (0, 0)) hk]
 intro q hq
 simp only [List.mem_append, List.mem_singleton] at hq
 rcases hq with hq | hq
 · exact h q hq
 · rw [hq]; exact hx
noncomputable def L93_0 : Code := lp (bodyOf Tryd.f93) 0
def inv93 (p : List Int) (l : List PQ) (k : Nat) : Prop := k <= l.length /\ ∀ q ∈ l.take k, cgz p q = false
def st93 (p : List Int) (l : List PQ) (m : Memo) (k : Nat) : St := ⟨.own 0 0 :: clo68 :: .dead :: .dead :: .dead :: .dead :: .dead :: .int .i64 l.length :: .int .i64 k :: dd 10, obD 0 l p (cms p (l.take k) m)⟩
def ex93 (p : List Int) (l : List PQ) (m : Memo) : List (List Nat × Ex) := [([], ⟨0, Unit, fun _ => ∀ q ∈ l, cgz p q = false, fun _ => ⟨dd 19, obD 0 l p (cms p l m)⟩⟩)]
noncomputable def H93 (p : List Int) (l : List PQ) (m : Memo) : Nat -> Option Hint := fun _ => some ⟨chk 4 [0, 1, 7, 8] (inv93 p l) (st93 p l m), (ex93 p l m).map (·.2)⟩
theorem loop93 (p : List Int) (l : List PQ) (m : Memo) (hp : pcs p l) (hm : memoOk p m) : LoopOK (Xm [e68] 4 (fun _ => none)) L93_0 ⟨chk 4 [0, 1, 7, 8] (inv93 p l) (st93 p l m), (ex93 p l m).map (·.2)⟩
   (RetR (Xm [e68] 4 (fun _ => none)) false false [.tmp 4] [.int .i64 (zIdxR p l)] (obD 0 l p (cms p (l.take (zIdx p l + 1)) m))) := by
 refine loop_ok (Xm_ok _ _ _) (H := fun _ _ => none) [0, 1, 7, 8] (inv93 p l) (st93 p l m) (fun k => l.length - k) (ex93 p l m) 90 fun (k : Nat) hk => ?_
 refine of_eq (q := True /\ ((k : Int) < (l.length : Int) -> True /\ True /\ True /\ True /\ True /\ idxPre (k : Int) l.length /\ True /\ ((pre69 (7 : Int) p (cms p (List.take k l) m) ((l.getD k (0, 0)).fst, (l.getD k (0, 0)).snd) /\ (((l.getD k (0, 0)).fst = (l.getD k (0, 0)).fst /\ (l.getD k (0, 0)).snd = (l.getD k (0, 0)).snd /\ True) /\ True /\ True) /\ True /\ (p = p /\ True /\ True) /\ cms p (List.take k l) m = cms p (List.take k l) m /\ True) /\ True /\ True /\ True /\ True) /\ (cgz p ((l.getD k (0, 0)).fst, (l.getD k (0, 0)).snd) = true -> True /\ True /\ True /\ ((k : Int) = zIdxR p l /\ True) /\ l = l /\ True /\ (p = p /\ True /\ True) /\ cmq p (cms p (List.take k l) m) ((l.getD k (0, 0)).fst, (l.getD k (0, 0)).snd) = cms p (List.take (zIdx p l + 1) l) m /\ True) /\ (cgz p ((l.getD k (0, 0)).fst, (l.getD k (0, 0)).snd) = false -> inR .i64 ((k : Int) + 1) /\ True /\ ∃ (y : Nat), (inv93 p l y /\ l.length - y < l.length - k) /\ (True /\ (True /\ True /\ True) /\ (l.length : Int) = (l.length : Int) /\ (k : Int) + 1 = (y : Int) /\ True) /\ l = l /\ True /\ (p = p /\ True /\ True) /\ cmq p (cms p (List.take k l) m) ((l.getD k (0, 0)).fst, (l.getD k (0, 0)).snd) = cms p (List.take y l) m /\ True)) /\ (¬(k : Int) < (l.length : Int) -> ∃ (y : Unit), (∀ (q : PQ), q ∈ l -> cgz p q = false) /\ True /\ l = l /\ True /\ (p = p /\ True /\ True) /\ cms p (List.take k l) m = cms p l m /\ True)) (by kernel_rfl) ?_
 simp only [zz]
 obtain ⟨h1, h2⟩ := hk
 have hz : ∀ k, k < l.length -> l.getD k (0, 0) ∈ l := fun k hk => getD_mem hk
 refine ⟨fun hk => ?_, fun hk => ?_⟩
 · have hk : k < l.length := by omega
   have hmem := hz k hk
   have hpc := hp.2.2 _ hmem
   have hl := hp.2.1
   have e1 : ((l.getD k (0, 0)).1, (l.getD k (0, 0)).2) = l.getD k (0, 0) := rfl
   rw [e1]
   refine ⟨by unfold idxPre; omega, ⟨hp.1, hpc, by have := hpc.2.1; omega, cms_ok hm⟩, fun hx => ?_, fun hx => ⟨by simp only [inR]; omega, k + 1, ⟨⟨by omega, take_memD hk h2 hx⟩, by omega⟩, by omega, ?_⟩⟩
   · have hf := find_b hk h2 hx
     have : ∃ q ∈ l, cgz p q = true := ⟨_, hmem, hx⟩
     refine ⟨by unfold zIdxR; rw [if_pos this]; unfold zIdx; rw [hf], ?_⟩
     unfold zIdx
     rw [hf, take_getD (d := (0, 0)) hk, cms_snoc]
   · rw [take_getD (d := (0, 0)) hk, cms_snoc]
 · have : l.take k = l := List.take_of_length_le (by omega)
   rw [this] at h2
   rw [this]
   exact ⟨h2, rfl⟩
theorem call93 (p : List Int) (l : List PQ) (m : Memo) (hp : pcs p l) (hm : memoOk p m) : GCall Tryd.prog gl 93 false [.own 0 0, clo68] (obD 0 l p m) [.int .i64 (zIdxR p l)] (obD 0 l p (cms p (l.take (zIdx p l + 1)) m)) := by
 refine gcall_of (X := (Xm [e68] 4 (fun _ => none))) ((Xm_ok _ _ _)) (f := 93) (fn := Tryd.f93) (c := bodyOf Tryd.f93) (by kernel_rfl) (by kernel_rfl) (view := false) (rvs := [.tmp 4]) (by kernel_rfl) (H := (H93 p l m)) 80 (by kernel_rfl) ?_
 have hL := loop93 p l m hp hm
 refine of_eq (q := True /\ True /\ True /\ True /\ LoopOK (Xm [e68] (4 : Nat) fun (x : Nat) => none) L93_0 { J := chk (4 : Nat) [(0 : Nat), (1 : Nat), (7 : Nat), (8 : Nat)] (inv93 p l) (st93 p l m), exits := List.map (fun (x : List Nat × Ex) => x.snd) (ex93 p l m) } (RetR (Xm [e68] (4 : Nat) fun (x : Nat) => none) false false [ResultVar.tmp (4 : Tmp)] [AV.int .i64 (zIdxR p l)] (obD (0 : Nat) l p (cms p (List.take (zIdx p l + 1) l) m))) /\ (∃ (y : Nat), inv93 p l y /\ (True /\ (True /\ True /\ True) /\ (l.length : Int) = (l.length : Int) /\ (0 : Int) = (y : Int) /\ True) /\ l = l /\ True /\ (p = p /\ True /\ True) /\ m = cms p (List.take y l) m /\ True) /\ (∀ (y : Unit), (∀ (q : PQ), q ∈ l -> cgz p q = false) -> True /\ True /\ ((-1 : Int) = zIdxR p l /\ True) /\ l = l /\ True /\ (p = p /\ True /\ True) /\ cms p l m = cms p (List.take (zIdx p l + 1) l) m /\ True) /\ True) (by kernel_rfl) ?_
 simp only [zz]
 refine ⟨hL, ⟨0, ⟨by omega, by simp⟩, rfl, rfl⟩, fun _ h => ⟨?_, ?_⟩⟩
 · unfold zIdxR; rw [if_neg]
   rintro ⟨q, h1, h2⟩
   rw [h q h1] at h2; cases h2
 · have : zIdx p l = l.length := find_none h
   rw [this, List.take_of_length_le (by omega)]
def get93 (xs : List AV) (obs : List Ob) : Option (List Int × List PQ × Memo) :=
 match unCvB (obs.getD 2 .gone), unPie (obs.getD 0 .gone), unMm (obs.getD 3 .gone) with
 | some p, some l, some m => some (p, l, m)
 | _, _, _ => none
theorem en93 : Enters Tryd.prog 93 := ⟨Tryd.f93, by kernel_rfl, by kernel_rfl, by kernel_rfl⟩
def e93 : Entry Tryd.prog gl := entryW 93 en93 true get93 (fun x => pcs x.1 x.2.1 /\ memoOk x.1 x.2.2) false (fun _ => [.own 0 0, clo68]) (fun x => obD 0 x.2.1 x.1 x.2.2) (fun x => [.int .i64 (zIdxR x.1 x.2.1)]) (fun x => obD 0 x.2.1 x.1 (cms x.1 (x.2.1.take (zIdx x.1 x.2.1 + 1)) x.2.2)) (fun x h => call93 x.1 x.2.1 x.2.2 h.1 h.2)
def keep (p : List Int) (l : List PQ) : List PQ := l.filter fun q => !cgz p q
/-- What the list holds when its first j have been looked at. -/
def mid67 (p : List Int) (l : List PQ) (j : Nat) : List PQ := keep p (l.take j) ++ l.drop (keep p (l.take j)).length
def nz67 (p : List Int) (l : List PQ) : List PQ := keep p l ++ List.replicate (l.length - (keep p l).length) (0, 0)
theorem keep_le (p : List Int) (l : List PQ) (j : Nat) : (keep p (l.take j)).length <= j /\ (keep p (l.take j)).length <= l.length := by
 have h1 : (keep p (l.take j)).length <= (l.take j).length := List.length_filter_le ..
 rw [List.length_take] at h1
 omega
theorem mid_length (p : List Int) (l : List PQ) (j : Nat) : (mid67 p l j).length = l.length := by
 have := keep_le p l j
 unfold mid67; rw [List.length_append, List.length_drop]; omega
theorem mid_getD (p : List Int) (l : List PQ) {j : Nat} : (mid67 p l j).getD j (0, 0) = l.getD j (0, 0) := by
 have := keep_le p l j
 unfold mid67
 simp only [List.getD_eq_getElem?_getD]
 rw [List.getElem?_append_right (by omega), List.getElem?_drop, show (keep p (l.take j)).length + (j - (keep p (l.take j)).length) = j by omega]
theorem keep_next (p : List Int) {l : List PQ} {j : Nat} (hj : j < l.length) : keep p (l.take (j + 1)) = if cgz p (l.getD j (0, 0)) then keep p (l.take j) else keep p (l.take j) ++ [l.getD j (0, 0)] := by
 rw [take_getD (d := (0, 0)) hj]
 unfold keep
 rw [List.filter_append]
 cases h : cgz p (l.getD j (0, 0)) with
 | true => rw [if_pos rfl, List.filter_cons]; simp only [h, Bool.not_true, Bool.false_eq_true, if_false, List.filter_nil, List.append_nil]
 | false => rw [if_neg (by simp), List.filter_cons]; simp only [h, Bool.not_false, if_true, List.filter_nil]
theorem mid_set (p : List Int) {l : List PQ} {j : Nat} (hj : j < l.length) (h : cgz p (l.getD j (0, 0)) = false) : (mid67 p l j).set (keep p (l.take j)).length (l.getD j (0, 0)) = mid67 p l (j + 1) := by
 have hle := keep_le p l j
 have hk := keep_next p hj
 rw [if_neg (by rw [h]; simp)] at hk
 unfold mid67
 rw [hk]
 rw [List.set_append_right _ _ (Nat.le_refl _), Nat.sub_self, List.length_append, List.append_assoc]
 congr 1
 have : l.drop (keep p (l.take j)).length = l.getD (keep p (l.take j)).length (0, 0) :: l.drop ((keep p (l.take j)).length + 1) := by
   rw [List.drop_eq_getElem_cons (by omega)]
   congr 1
   simp [List.getD_eq_getElem?_getD, show (keep p (l.take j)).length < l.length by omega]
 rw [this]
 rfl
theorem z_facts {p : List Int} {l : List PQ} (h : ∃ q ∈ l, cgz p q = true) : zIdx p l < l.length /\ cgz p (l.getD (zIdx p l) (0, 0)) = true /\ ∀ q ∈ l.take (zIdx p l), cgz p q = false := by
 have h1 : zIdx p l < l.length := List.findIdx_lt_length_of_exists h
 refine ⟨h1, ?_, fun q hq => ?_⟩
 · have := List.findIdx_getElem (w := h1)
   rw [List.getD_eq_getElem?_getD, List.getElem?_eq_getElem h1]
   exact this
 · obtain ⟨i, hi, rfl⟩ := List.getElem_of_mem hq
   rw [List.length_take] at hi
   rw [List.getElem_take]
   have hlt : i < l.findIdx (cgz p) := by
     have : i < zIdx p l := by omega
     exact this
   have := List.not_of_lt_findIdx hlt
   simpa using this
theorem keep_all (p : List Int) : ∀ {l : List PQ}, (∀ q ∈ l, cgz p q = false) -> keep p l = l
 | [], _ => rfl
 | q :: l, h => by
   unfold keep
   rw [List.filter_cons, h q (by simp)]
   simp only [Bool.not_false, if_true]
   congr 1
   exact keep_all p fun q hq => h q (by simp [hq])
theorem call67a (p : List Int) (l : List PQ) (m : Memo) (hp : pcs p l) (hm : memoOk p m) (hz : ∀ q ∈ l, cgz p q = false) : GCall Tryd.prog gl 67 false [.own 0 0, clo68] (obD 0 l p m) [.own 0 0] (obD 0 l p (cms p l m)) := by
 refine gcall_of (X := (Xm [e93, e68] 4 (fun _ => none))) ((Xm_ok _ _ _)) (f := 67) (fn := Tryd.f67) (c := bodyOf Tryd.f67) (by kernel_rfl) (by kernel_rfl) (view := false) (rvs := [.tmp 4]) (by kernel_rfl) (H := fun _ => none) 80 (by kernel_rfl) ?_
 refine of_eq (q := True /\ True /\ True /\ (((pcs p l /\ memoOk p m) /\ (True /\ (True /\ True /\ True) /\ True) /\ l = l /\ True /\ (p = p /\ True /\ True) /\ m = m /\ True) /\ l.length = l.length /\ True /\ True /\ True /\ True) /\ True /\ True /\ True /\ (zIdxR p l = (-1 : Int) -> True /\ True /\ True /\ (True /\ True) /\ l = l /\ True /\ (p = p /\ True /\ True) /\ cms p (List.take (zIdx p l + 1) l) m = cms p l m /\ True) /\ (¬zIdxR p l = (-1 : Int) -> True /\ inR .i64 (zIdxR p l + 1) /\ True /\ False)) (by kernel_rfl) ?_
 simp only [zz]
 have h1 : zIdx p l = l.length := find_none hz
 refine ⟨⟨hp, hm⟩, fun _ => by rw [h1, List.take_of_length_le (by omega)], fun h => h ?_⟩
 unfold zIdxR; rw [if_neg]
 rintro ⟨q, h1, h2⟩
 rw [hz q h1] at h2; cases h2
noncomputable def L67_0 : Code := lp (bodyOf Tryd.f67) 0
def inv67 (p : List Int) (l : List PQ) (j : Nat) : Prop := zIdx p l + 1 <= j /\ j <= l.length
def st67 (p : List Int) (l : List PQ) (m : Memo) (j : Nat) : St := ⟨.own 0 0 :: clo68 :: .dead :: .dead :: .dead :: .int .i64 (keep p (l.take j)).length :: .int .i64 j :: dd 35, obD 0 (mid67 p l j) p (cms p (l.take j) m)⟩
def ex67 (p : List Int) (l : List PQ) (m : Memo) : List (List Nat × Ex) := [([0, 1, 5], ⟨0, Unit, fun _ => True, fun _ => ⟨.own 0 0 :: clo68 :: .dead :: .dead :: .dead :: .int .i64 (keep p l).length :: dd 36, obD 0 (mid67 p l l.length) p (cms p l m)⟩⟩)]
noncomputable def H67 (p : List Int) (l : List PQ) (m : Memo) : Nat -> Option Hint := fun _ => some ⟨chk 4 [0, 1, 5, 6] (inv67 p l) (st67 p l m), (ex67 p l m).map (·.2)⟩
theorem loop67 (p : List Int) (l : List PQ) (m : Memo) (hp : pcs p l) (hm : memoOk p m) (R : Exit -> St -> Prop) : LoopOK (Xm [e93, e68] 4 (fun _ => none)) L67_0 ⟨chk 4 [0, 1, 5, 6] (inv67 p l) (st67 p l m), (ex67 p l m).map (·.2)⟩ R := by
 refine loop_ok (Xm_ok _ _ _) (H := fun _ _ => none) [0, 1, 5, 6] (inv67 p l) (st67 p l m) (fun k => l.length - k) (ex67 p l m) 90 fun (j : Nat) hk => ?_
 refine of_eq (q := True /\ True /\ True /\ True /\ ((j : Int) < (↑(mid67 p l j).length : Int) -> True /\ True /\ idxPre (j : Int) (mid67 p l j).length /\ True /\ True /\ True /\ True /\ True /\ ((pre69 (7 : Int) p (cms p (List.take j l) m) (((mid67 p l j).getD j (0, 0)).fst, ((mid67 p l j).getD j (0, 0)).snd) /\ ((((mid67 p l j).getD j (0, 0)).fst = ((mid67 p l j).getD j (0, 0)).fst /\ ((mid67 p l j).getD j (0, 0)).snd = ((mid67 p l j).getD j (0, 0)).snd /\ True) /\ True /\ True) /\ True /\ (p = p /\ True /\ True) /\ cms p (List.take j l) m = cms p (List.take j l) m /\ True) /\ True /\ True /\ True /\ True) /\ True /\ ((!cgz p (((mid67 p l j).getD j (0, 0)).fst, ((mid67 p l j).getD j (0, 0)).snd)) = true -> True /\ True /\ True /\ idxPre (↑(keep p (List.take j l)).length : Int) (mid67 p l j).length /\ True /\ True /\ inR .i64 ((↑(keep p (List.take j l)).length : Int) + 1) /\ True /\ True /\ inR .i64 ((j : Int) + 1) /\ True /\ ∃ (y : Nat), (inv67 p l y /\ l.length - y < l.length - j) /\ (True /\ (True /\ True /\ True) /\ (↑(keep p (List.take j l)).length : Int) + 1 = (↑(keep p (List.take y l)).length : Int) /\ (j : Int) + 1 = (y : Int) /\ True) /\ (mid67 p l j).set (keep p (List.take j l)).length (((mid67 p l j).getD j (0, 0)).fst, ((mid67 p l j).getD j (0, 0)).snd) = mid67 p l y /\ True /\ (p = p /\ True /\ True) /\ cmq p (cms p (List.take j l) m) (((mid67 p l j).getD j (0, 0)).fst, ((mid67 p l j).getD j (0, 0)).snd) = cms p (List.take y l) m /\ True) /\ ((!cgz p (((mid67 p l j).getD j (0, 0)).fst, ((mid67 p l j).getD j (0, 0)).snd)) = false -> True /\ inR .i64 ((j : Int) + 1) /\ True /\ ∃ (y : Nat), (inv67 p l y /\ l.length - y < l.length - j) /\ (True /\ (True /\ True /\ True) /\ (↑(keep p (List.take j l)).length : Int) = (↑(keep p (List.take y l)).length : Int) /\ (j : Int) + 1 = (y : Int) /\ True) /\ mid67 p l j = mid67 p l y /\ True /\ (p = p /\ True /\ True) /\ cmq p (cms p (List.take j l) m) (((mid67 p l j).getD j (0, 0)).fst, ((mid67 p l j).getD j (0, 0)).snd) = cms p (List.take y l) m /\ True)) /\ (¬(j : Int) < (↑(mid67 p l j).length : Int) -> ∃ (y : Unit), True /\ (True /\ (True /\ True /\ True) /\ (↑(keep p (List.take j l)).length : Int) = (↑(keep p l).length : Int) /\ True) /\ mid67 p l j = mid67 p l l.length /\ True /\ (p = p /\ True /\ True) /\ cms p (List.take j l) m = cms p l m /\ True)) (by kernel_rfl) ?_
 simp only [zz]
 obtain ⟨h1, h2⟩ := hk
 have hle := keep_le p l j
 have hl := hp.2.1
 rw [mid_length, mid_getD]
 have e1 : ((l.getD j (0, 0)).1, (l.getD j (0, 0)).2) = l.getD j (0, 0) := rfl
 rw [e1]
 refine ⟨fun hj => ?_, fun hj => ?_⟩
 · have hj : j < l.length := by omega
   have hpc := hp.2.2 _ (getD_mem (d := (0, 0)) hj)
   have hn := keep_next p hj
   have hc : cmq p (cms p (l.take j) m) (l.getD j (0, 0)) = cms p (l.take (j + 1)) m := by rw [take_getD (d := (0, 0)) hj, cms_snoc]
   refine ⟨by unfold idxPre; omega, ⟨hp.1, hpc, by have := hpc.2.1; omega, cms_ok hm⟩, fun hx => ?_, fun hx => ?_⟩
   · have hx : cgz p (l.getD j (0, 0)) = false := by simpa using hx
     rw [if_neg (by rw [hx]; simp)] at hn
     refine ⟨by unfold idxPre; omega, by simp only [inR]; omega, by simp only [inR]; omega, j + 1, ⟨⟨by omega, by omega⟩, by omega⟩, ⟨by rw [hn]; simp, by omega⟩, mid_set p hj hx, hc⟩
   · have hx : cgz p (l.getD j (0, 0)) = true := by simpa using hx
     rw [if_pos hx] at hn
     refine ⟨by simp only [inR]; omega, j + 1, ⟨⟨by omega, by omega⟩, by omega⟩, ⟨by rw [hn], by omega⟩, by unfold mid67; rw [hn], hc⟩
 · have e : j = l.length := by omega
   subst e
   rw [List.take_length]
   exact ⟨rfl, rfl, rfl⟩
theorem call67b (p : List Int) (l : List PQ) (m : Memo) (hp : pcs p l) (hm : memoOk p m) (hz : ∃ q ∈ l, cgz p q = true) : GCall Tryd.prog gl 67 false [.own 0 0, clo68] (obD 0 l p m) [.sub 0 0 [] 0 (keep p l).length] (obD 0 (nz67 p l) p (cms p l m)) := by
 refine gcall_of (X := (Xm [e93, e68] 4 (fun _ => none))) ((Xm_ok _ _ _)) (f := 67) (fn := Tryd.f67) (c := bodyOf Tryd.f67) (by kernel_rfl) (by kernel_rfl) (view := false) (rvs := [.tmp 4]) (by kernel_rfl) (H := (H67 p l m)) 80 (by kernel_rfl) ?_
 have hL := loop67 p l m hp hm
 refine of_eq (q := True /\ True /\ True /\ (((pcs p l /\ memoOk p m) /\ (True /\ (True /\ True /\ True) /\ True) /\ l = l /\ True /\ (p = p /\ True /\ True) /\ m = m /\ True) /\ l.length = l.length /\ True /\ True /\ True /\ True) /\ True /\ True /\ True /\ (zIdxR p l = (-1 : Int) -> True /\ True /\ True /\ (False /\ True) /\ l = nz67 p l /\ True /\ (p = p /\ True /\ True) /\ cms p (List.take (zIdx p l + 1) l) m = cms p l m /\ True) /\ (¬zIdxR p l = (-1 : Int) -> True /\ inR .i64 (zIdxR p l + 1) /\ True /\ LoopOK (Xm [e93, e68] (4 : Nat) fun (x : Nat) => none) L67_0 { J := chk (4 : Nat) [(0 : Nat), (1 : Nat), (5 : Nat), (6 : Nat)] (inv67 p l) (st67 p l m), exits := List.map (fun (x : List Nat × Ex) => x.snd) (ex67 p l m) } (RetR (Xm [e93, e68] (4 : Nat) fun (x : Nat) => none) false false [ResultVar.tmp (4 : Tmp)] [AV.sub (0 : Nat) (0 : Nat) [] (0 : Nat) (keep p l).length] (obD (0 : Nat) (nz67 p l) p (cms p l m))) /\ (∃ (y : Nat), inv67 p l y /\ (True /\ (True /\ True /\ True) /\ zIdxR p l = (↑(keep p (List.take y l)).length : Int) /\ zIdxR p l + 1 = (y : Int) /\ True) /\ l = mid67 p l y /\ True /\ (p = p /\ True /\ True) /\ cms p (List.take (zIdx p l + 1) l) m = cms p (List.take y l) m /\ True) /\ (∀ (y : Unit), True -> True /\ True /\ slPre (mid67 p l l.length).length (mid67 p l l.length).length (some (↑(keep p l).length : Int)) none none /\ True /\ True /\ True /\ slPre (List.take (bLo (some (↑(keep p l).length : Int))) (mid67 p l l.length) ++ (List.take (bHi (mid67 p l l.length).length none - bLo (some (↑(keep p l).length : Int))) (List.replicate (bHi (mid67 p l l.length).length none - bLo (some (↑(keep p l).length : Int))) ((Ty.int .i64).s2 (Ty.int .i64)).dflt) ++ List.drop (bLo (some (↑(keep p l).length : Int)) + (bHi (mid67 p l l.length).length none - bLo (some (↑(keep p l).length : Int)))) (mid67 p l l.length))).length (List.take (bLo (some (↑(keep p l).length : Int))) (mid67 p l l.length) ++ (List.take (bHi (mid67 p l l.length).length none - bLo (some (↑(keep p l).length : Int))) (List.replicate (bHi (mid67 p l l.length).length none - bLo (some (↑(keep p l).length : Int))) ((Ty.int .i64).s2 (Ty.int .i64)).dflt) ++ List.drop (bLo (some (↑(keep p l).length : Int)) + (bHi (mid67 p l l.length).length none - bLo (some (↑(keep p l).length : Int)))) (mid67 p l l.length))).length none (some (↑(keep p l).length : Int)) none /\ True /\ True /\ ((bLo none = 0 /\ bHi (List.take (bLo (some (↑(keep p l).length : Int))) (mid67 p l l.length) ++ (List.take (bHi (mid67 p l l.length).length none - bLo (some (↑(keep p l).length : Int))) (List.replicate (bHi (mid67 p l l.length).length none - bLo (some (↑(keep p l).length : Int))) ((Ty.int .i64).s2 (Ty.int .i64)).dflt) ++ List.drop (bLo (some (↑(keep p l).length : Int)) + (bHi (mid67 p l l.length).length none - bLo (some (↑(keep p l).length : Int)))) (mid67 p l l.length))).length (some (↑(keep p l).length : Int)) - bLo none = (keep p l).length) /\ True) /\ List.take (bLo (some (↑(keep p l).length : Int))) (mid67 p l l.length) ++ (List.take (bHi (mid67 p l l.length).length none - bLo (some (↑(keep p l).length : Int))) (List.replicate (bHi (mid67 p l l.length).length none - bLo (some (↑(keep p l).length : Int))) ((Ty.int .i64).s2 (Ty.int .i64)).dflt) ++ List.drop (bLo (some (↑(keep p l).length : Int)) + (bHi (mid67 p l l.length).length none - bLo (some (↑(keep p l).length : Int)))) (mid67 p l l.length)) = nz67 p l /\ True /\ (p = p /\ True /\ True) /\ cms p l m = cms p l m /\ True) /\ True)) (by kernel_rfl) ?_
 simp only [zz]
 obtain ⟨z1, z2, z3⟩ := z_facts hz
 have hl := hp.2.1
 have hR : zIdxR p l = (zIdx p l : Int) := by unfold zIdxR; rw [if_pos hz]
 have hk0 : keep p (l.take (zIdx p l + 1)) = l.take (zIdx p l) := by
   rw [keep_next p z1, if_pos z2, keep_all p z3]
 have hkl : (keep p l).length <= l.length := List.length_filter_le ..
 have hml := mid_length p l l.length
 rw [hR]
 refine ⟨⟨hp, hm⟩, fun h => by omega, fun _ => ⟨by simp only [inR]; omega, hL _, ⟨zIdx p l + 1, ⟨Nat.le_refl _, z1⟩, ⟨by rw [hk0, List.length_take]; omega, by omega⟩, ?_, rfl⟩, fun _ => ?_⟩⟩
 · unfold mid67
   rw [hk0, List.length_take, show min (zIdx p l) l.length = zIdx p l by omega, List.take_append_drop]
 · rw [hml]
   have e0 : bLo (some ((keep p l).length : Int)) = (keep p l).length := by simp [bLo]
   have e1 : bHi l.length none = l.length := rfl
   have e2 : bHi l.length (some ((keep p l).length : Int)) = (keep p l).length := by simp [bHi]
   have e3 : bLo none = 0 := rfl
   rw [e0, e1]
   have e4 : mid67 p l l.length = keep p l ++ l.drop (keep p l).length := by unfold mid67; rw [List.take_length]
   have e5 : List.take (keep p l).length (mid67 p l l.length) ++ (List.take (l.length - (keep p l).length) (List.replicate (l.length - (keep p l).length) ((Ty.int IntKind.i64).s2 (Ty.int IntKind.i64)).dflt) ++ List.drop ((keep p l).length + (l.length - (keep p l).length)) (mid67 p l l.length)) = nz67 p l := by
     rw [e4, List.take_left, List.take_of_length_le (by simp), List.drop_eq_nil_of_le (by simp)]
     simp [nz67, Ty.dflt]
   rw [e5]
   have e6 : (nz67 p l).length = l.length := by unfold nz67; simp; omega
   rw [e6, e2, e3]
   exact fun _ => ⟨by simp only [slPre]; simp [bLo, bHi]; omega, by simp only [slPre]; simp [bLo, bHi]; omega, by omega, rfl⟩
end Go.Am.Bern

/- Bern: Roots, Count. -/
namespace Go.Am.Bern
open Go Go.Am Go.Proofs
theorem grL_piece (gd : List PQ -> Bool) (p : List Int) : ∀ (n d k : Nat), d + n = 6 -> k < 2 ^ d -> ∀ q ∈ grL gd p n d k, isPiece q := by
 have one : ∀ d k : Nat, d <= 6 -> k < 2 ^ d -> isPiece ((d : Int), (k : Int)) := fun d k hd hk => by
   unfold isPiece
   have e : ((2 ^ d : Nat) : Int) = 2 ^ d := by rw [Int.natCast_pow]; try rfl
   simp only [Int.toNat_natCast]
   rw [<- e]
   omega
 intro n
 induction n with
 | zero =>
   intro d k hd hk q hq
   unfold grL at hq
   split at hq
   · simp at hq; subst hq; exact one d k (by omega) hk
   · simp at hq
 | succ n ih =>
   intro d k hd hk q hq
   rw [grL_succ] at hq
   have hp : 2 ^ (d + 1) = 2 * 2 ^ d := by rw [Nat.pow_succ]; omega
   split at hq
   · simp at hq; subst hq; exact one d k (by omega) hk
   · unfold hvL at hq
     split at hq
     · rcases List.mem_append.mp hq with hq | hq
       · exact ih (d + 1) (2 * k) (by omega) (by omega) q hq
       · exact ih (d + 1) (2 * k + 1) (by omega) (by omega) q hq
     · exact ih (d + 1) (2 * k) (by omega) (by omega) q hq
theorem en67 : Enters Tryd.prog 67 := ⟨Tryd.f67, by kernel_rfl, by kernel_rfl, by kernel_rfl⟩
def e67a : Entry Tryd.prog gl := entryW 67 en67 true get93 (fun x => pcs x.1 x.2.1 /\ memoOk x.1 x.2.2 /\ ∀ q ∈ x.2.1, cgz x.1 q = false) false (fun _ => [.own 0 0, clo68]) (fun x => obD 0 x.2.1 x.1 x.2.2) (fun _ => [.own 0 0]) (fun x => obD 0 x.2.1 x.1 (cms x.1 x.2.1 x.2.2)) (fun x h => call67a x.1 x.2.1 x.2.2 h.1 h.2.1 h.2.2)
def e67b : Entry Tryd.prog gl := entryW 67 en67 true get93 (fun x => pcs x.1 x.2.1 /\ memoOk x.1 x.2.2 /\ ∃ q ∈ x.2.1, cgz x.1 q = true) false (fun _ => [.own 0 0, clo68]) (fun x => obD 0 x.2.1 x.1 x.2.2) (fun x => [.sub 0 0 [] 0 (keep x.1 x.2.1).length]) (fun x => obD 0 (nz67 x.1 x.2.1) x.1 (cms x.1 x.2.1 x.2.2)) (fun x h => call67b x.1 x.2.1 x.2.2 h.1 h.2.1 h.2.2)
def rootsB (p : List Int) : Prop := isPoly p /\ plainP p /\ P64.coverB p = true
instance (p : List Int) : Decidable (rootsB p) := inferInstanceAs (Decidable (_ /\ _))
def rootsP (p : List Int) : List PQ := if rootsB p then keep p (P64.coverL p) else []
def rootsE (p : List Int) : Int := if isPoly p then (if plainP p then (if P64.coverB p = true then 0 else 8) else 4) else 80
theorem cover_pcs {p : List Int} (hp : isPoly p) : pcs p (P64.coverL p) := by
 have hlen : (P64.coverL p).length <= 64 := grL_len _ p 6 0 0
 exact ⟨hp, by omega, grL_piece _ p 6 0 0 (by omega) (by omega)⟩
theorem call20 (p : List Int) (h : p.length < 1000000) : GCall Tryd.prog gl 20 false [.sl I64 p] [] [.sl Q2 (rootsP p), .int .i64 (rootsE p)] [] := by
 have hlen : (P64.coverL p).length <= 64 := grL_len _ p 6 0 0
 have r1 : ¬ isPoly p -> rootsP p = [] /\ rootsE p = errOf p := fun h => by simp [rootsP, rootsB, rootsE, errOf, h]
 have r2 : ¬ plainP p -> isPoly p -> rootsP p = [] /\ rootsE p = 4 := fun h hp => by simp [rootsP, rootsB, rootsE, hp, h]
 by_cases hb : P64.coverB p = true
 · have r3 : isPoly p -> plainP p -> rootsP p = keep p (P64.coverL p) /\ rootsE p = 0 := fun hp h => by simp [rootsP, rootsB, rootsE, hp, h, hb]
   by_cases hz : ∃ q ∈ P64.coverL p, cgz p q = true
   · refine gcall_of (X := (X [e56, e61, e62, e66, e63o, e67b])) ((X_ok _)) (f := 20) (fn := Tryd.f20) (c := bodyOf Tryd.f20) (by kernel_rfl) (by kernel_rfl) (view := true) (rvs := [.tmp 2, .tmp 3]) (by kernel_rfl) (H := fun _ => none) 80 (by kernel_rfl) ?_
     refine of_eq (q := True /\ True /\ True /\ (p.length + 1 <= 1000000 /\ True) /\ True /\ True /\ True /\ (¬errOf p = 0 -> True /\ True /\ True /\ True /\ (([] : List (Int × Int)) = rootsP p /\ errOf p = rootsE p /\ True) /\ True) /\ (¬¬errOf p = 0 -> True /\ (((1 : Nat) <= p.length /\ p.length <= 7 /\ coefs p) /\ True) /\ True /\ ((!decide (plainP p)) = true -> True /\ True /\ True /\ (([] : List (Int × Int)) = rootsP p /\ (4 : Int) = rootsE p /\ True) /\ True) /\ ((!decide (plainP p)) = false -> True /\ (True /\ True) /\ True /\ True /\ True /\ True /\ (((isPoly p /\ memoOk p [] /\ P64.coverB p = true) /\ (True /\ ((0 : Int) = 0 /\ (0 : Int) = 0 /\ True) /\ (True /\ True) /\ True) /\ (p = p /\ True /\ True) /\ ([] : List ((Int × Int) × List (Int × Int))) = [] /\ True) /\ True /\ True /\ True) /\ True /\ True /\ True /\ True /\ True /\ (((pcs p (P64.coverL p) /\ memoOk p (P64.coverM p []) /\ ∃ (q : PQ), q ∈ P64.coverL p /\ cgz p q = true) /\ (True /\ (True /\ True /\ True) /\ True) /\ P64.coverL p = P64.coverL p /\ True /\ (p = p /\ True /\ True) /\ P64.coverM p [] = P64.coverM p [] /\ True) /\ (nz67 p (P64.coverL p)).length = (P64.coverL p).length /\ True /\ True /\ True /\ True) /\ ((List.take (keep p (P64.coverL p)).length (List.drop (0 : Nat) (nz67 p (P64.coverL p)))).length + 1 <= 1000000 /\ True) /\ True /\ True /\ True /\ (List.take (keep p (P64.coverL p)).length (List.drop (0 : Nat) (nz67 p (P64.coverL p))) = rootsP p /\ (0 : Int) = rootsE p /\ True) /\ True))) (by kernel_rfl) ?_
     simp only [zz]
     refine ⟨by omega, fun he => ?_, fun he => ?_⟩
     · obtain ⟨e1, e2⟩ := r1 (errOf_pos he)
       exact ⟨e1.symm, e2.symm⟩
     · have hp := errOf_zero he
       refine ⟨hp, fun hx => ?_, fun hx => ?_⟩
       · have hx : ¬ plainP p := by simpa using hx
         obtain ⟨e1, e2⟩ := r2 hx hp
         exact ⟨e1.symm, e2.symm⟩
       · have hx : plainP p := by simpa using hx
         obtain ⟨e1, e2⟩ := r3 hp hx
         have hnz : (nz67 p (P64.coverL p)).length = (P64.coverL p).length := by
           have : (keep p (P64.coverL p)).length <= (P64.coverL p).length := List.length_filter_le ..
           unfold nz67; simp; omega
         have htk : List.take (keep p (P64.coverL p)).length (List.drop 0 (nz67 p (P64.coverL p))) = keep p (P64.coverL p) := by
           unfold nz67; rw [List.drop_zero, List.take_left]
         have hkl : (keep p (P64.coverL p)).length <= (P64.coverL p).length := List.length_filter_le ..
         rw [htk]
         exact ⟨⟨hp, memoOk_nil p, hb⟩, ⟨⟨cover_pcs hp, grM_ok _ p (memoOk_nil p), hz⟩, hnz⟩, by omega, e1.symm, e2.symm⟩
   · refine gcall_of (X := (X [e56, e61, e62, e66, e63o, e67a])) ((X_ok _)) (f := 20) (fn := Tryd.f20) (c := bodyOf Tryd.f20) (by kernel_rfl) (by kernel_rfl) (view := true) (rvs := [.tmp 2, .tmp 3]) (by kernel_rfl) (H := fun _ => none) 80 (by kernel_rfl) ?_
     refine of_eq (q := True /\ True /\ True /\ (p.length + 1 <= 1000000 /\ True) /\ True /\ True /\ True /\ (¬errOf p = 0 -> True /\ True /\ True /\ True /\ (([] : List (Int × Int)) = rootsP p /\ errOf p = rootsE p /\ True) /\ True) /\ (¬¬errOf p = 0 -> True /\ (((1 : Nat) <= p.length /\ p.length <= 7 /\ coefs p) /\ True) /\ True /\ ((!decide (plainP p)) = true -> True /\ True /\ True /\ (([] : List (Int × Int)) = rootsP p /\ (4 : Int) = rootsE p /\ True) /\ True) /\ ((!decide (plainP p)) = false -> True /\ (True /\ True) /\ True /\ True /\ True /\ True /\ (((isPoly p /\ memoOk p [] /\ P64.coverB p = true) /\ (True /\ ((0 : Int) = 0 /\ (0 : Int) = 0 /\ True) /\ (True /\ True) /\ True) /\ (p = p /\ True /\ True) /\ ([] : List ((Int × Int) × List (Int × Int))) = [] /\ True) /\ True /\ True /\ True) /\ True /\ True /\ True /\ True /\ True /\ (((pcs p (P64.coverL p) /\ memoOk p (P64.coverM p []) /\ ∀ (q : PQ), q ∈ P64.coverL p -> cgz p q = false) /\ (True /\ (True /\ True /\ True) /\ True) /\ P64.coverL p = P64.coverL p /\ True /\ (p = p /\ True /\ True) /\ P64.coverM p [] = P64.coverM p [] /\ True) /\ (P64.coverL p).length = (P64.coverL p).length /\ True /\ True /\ True /\ True) /\ ((P64.coverL p).length + 1 <= 1000000 /\ True) /\ True /\ True /\ True /\ (P64.coverL p = rootsP p /\ (0 : Int) = rootsE p /\ True) /\ True))) (by kernel_rfl) ?_
     simp only [zz]
     have hz' : ∀ q ∈ P64.coverL p, cgz p q = false := fun q hq => by
       cases h : cgz p q with
       | false => rfl
       | true => exact absurd ⟨q, hq, h⟩ hz
     refine ⟨by omega, fun he => ?_, fun he => ?_⟩
     · obtain ⟨e1, e2⟩ := r1 (errOf_pos he)
       exact ⟨e1.symm, e2.symm⟩
     · have hp := errOf_zero he
       refine ⟨hp, fun hx => ?_, fun hx => ?_⟩
       · have hx : ¬ plainP p := by simpa using hx
         obtain ⟨e1, e2⟩ := r2 hx hp
         exact ⟨e1.symm, e2.symm⟩
       · have hx : plainP p := by simpa using hx
         obtain ⟨e1, e2⟩ := r3 hp hx
         rw [keep_all p hz'] at e1
         exact ⟨⟨hp, memoOk_nil p, hb⟩, ⟨cover_pcs hp, grM_ok _ p (memoOk_nil p), hz'⟩, by omega, e1.symm, e2.symm⟩
 · have hb : P64.coverB p = false := by simpa using hb
   refine gcall_of (X := (X [e56, e61, e62, e66, e63n])) ((X_ok _)) (f := 20) (fn := Tryd.f20) (c := bodyOf Tryd.f20) (by kernel_rfl) (by kernel_rfl) (view := true) (rvs := [.tmp 2, .tmp 3]) (by kernel_rfl) (H := fun _ => none) 80 (by kernel_rfl) ?_
   refine of_eq (q := True /\ True /\ True /\ (p.length + 1 <= 1000000 /\ True) /\ True /\ True /\ True /\ (¬errOf p = 0 -> True /\ True /\ True /\ True /\ (([] : List (Int × Int)) = rootsP p /\ errOf p = rootsE p /\ True) /\ True) /\ (¬¬errOf p = 0 -> True /\ (((1 : Nat) <= p.length /\ p.length <= 7 /\ coefs p) /\ True) /\ True /\ ((!decide (plainP p)) = true -> True /\ True /\ True /\ (([] : List (Int × Int)) = rootsP p /\ (4 : Int) = rootsE p /\ True) /\ True) /\ ((!decide (plainP p)) = false -> True /\ (True /\ True) /\ True /\ True /\ True /\ True /\ (((isPoly p /\ memoOk p [] /\ P64.coverB p = false) /\ (True /\ ((0 : Int) = 0 /\ (0 : Int) = 0 /\ True) /\ (True /\ True) /\ True) /\ (p = p /\ True /\ True) /\ ([] : List ((Int × Int) × List (Int × Int))) = [] /\ True) /\ True /\ True /\ True) /\ True /\ True /\ True /\ True /\ True /\ True /\ (([] : List (Int × Int)) = rootsP p /\ (8 : Int) = rootsE p /\ True) /\ True))) (by kernel_rfl) ?_
   simp only [zz]
   refine ⟨by omega, fun he => ?_, fun he => ?_⟩
   · obtain ⟨e1, e2⟩ := r1 (errOf_pos he)
     exact ⟨e1.symm, e2.symm⟩
   · have hp := errOf_zero he
     refine ⟨hp, fun hx => ?_, fun hx => ?_⟩
     · have hx : ¬ plainP p := by simpa using hx
       obtain ⟨e1, e2⟩ := r2 hx hp
       exact ⟨e1.symm, e2.symm⟩
     · have hx : plainP p := by simpa using hx
       exact ⟨⟨hp, memoOk_nil p, hb⟩, by simp [rootsP, rootsB, hb], by simp [rootsE, hp, hx, hb]⟩
def e20 : Entry Tryd.prog gl := entry1 20 ⟨Tryd.f20, by kernel_rfl, by kernel_rfl, by kernel_rfl⟩ SI (fun p => p.length < 1000000) false (fun p => [.sl Q2 (rootsP p), .int .i64 (rootsE p)]) (fun _ => []) (call20)
theorem call21 (p : List Int) (h : p.length < 1000000) : GCall Tryd.prog gl 21 false [.sl I64 p] [] [.int .i64 (rootsP p).length, .int .i64 (rootsE p)] [] := by
 refine gcall_of (X := X [e20]) (X_ok [e20]) (f := 21) (fn := Tryd.f21) (c := bodyOf Tryd.f21) (by kernel_rfl) (by kernel_rfl) (view := false) (rvs := [.tmp 2, .tmp 3]) (by kernel_rfl) (H := fun _ => none) 80 (by kernel_rfl) ?_
 refine of_eq (q := True /\ True /\ True /\ (p.length + 1 <= 1000000 /\ True) /\ True /\ True /\ True /\ True /\ True /\ True /\ True /\ True /\ True /\ True /\ True /\ ((↑(rootsP p).length : Int) = (↑(rootsP p).length : Int) /\ rootsE p = rootsE p /\ True) /\ True) (by kernel_rfl) ?_
 simp only [zz]
 omega
def e21 : Entry Tryd.prog gl := entry1 21 ⟨Tryd.f21, by kernel_rfl, by kernel_rfl, by kernel_rfl⟩ SI (fun p => p.length < 1000000) false (fun p => [.int .i64 (rootsP p).length, .int .i64 (rootsE p)]) (fun _ => []) (call21)
end Go.Am.Bern

/- Bern: readings of the reference. -/
namespace Go.Am.Bern
open Go Go.Am Go.Proofs
def cgs (p : List Int) (d k : Nat) : Nat := chg (qc p d k)
section
variable (p : List Int)
end
end Go.Am.Bern

/- Bern: readings that are checked. -/
namespace Go.Am.Bern
open Go Go.Am Go.Proofs
def fr' (x : PQ) : Int := x.2 * 2 ^ (6 - x.1).toNat
def gapz (p : List Int) (a b : Int) : Prop := ∀ j : Nat, j < 64 -> a <= j -> (j : Int) < b -> cgs p 6 j = 0
instance (p : List Int) (a b : Int) : Decidable (gapz p a b) := inferInstanceAs (Decidable (∀ j : Nat, j < 64 -> _))
def rdR (p : List Int) : Int -> List PQ -> Prop
 | a, [] => a <= 64 /\ gapz p a 64
 | a, x :: l => isPiece x /\ cgs p x.1.toNat x.2.toNat = 1 /\ a <= fr' x /\ gapz p a (fr' x) /\ rdR p (fr' x + 2 ^ (6 - x.1).toNat) l
instance rdR_dec (p : List Int) : ∀ (a : Int) (l : List PQ), Decidable (rdR p a l)
 | _, [] => by unfold rdR; infer_instance
 | a, x :: l => by unfold rdR; have := rdR_dec p (fr' x + 2 ^ (6 - x.1).toNat) l; infer_instance
end Go.Am.Bern

/- Bern: awake. -/
namespace Go.Am.Bern
open Go Go.Am Go.Proofs
theorem call18 : GCall Tryd.prog gl 18 true [] [] [.tt] [] := by
 have f1 : cornersE [1, -3, 3] (0, 0) = 0 := by kernel_rfl
 have f2 : (cornersR [1, -3, 3] (0, 0)).length = 3 := by kernel_rfl
 have f3 : errOf [1, -3, 3] = 0 := by kernel_rfl
 have f4 : (posK [1, -3, 3]).length = 2 := by kernel_rfl
 have f5 : isPoly [1, -3, 3] := by decide
 have f6 : errOf [-1, 3] = 0 := by kernel_rfl
 have f7 : low29 [-1, 3] = (0, 1) := by kernel_rfl
 have f8 : rootsE [1, -5, 5] = 0 := by kernel_rfl
 have f9 : (rootsP [1, -5, 5]).length = 2 := by kernel_rfl
 have f10 : (if given [((1 : Int), (1 : Int)), (-1, 2), (1, 1)] 7 then (0 : Int) else 1) = 0 := by kernel_rfl
 refine gcall_of (X := (X [e13, e26, e29, e21, e37, e15, e28])) ((X_ok _)) (f := 18) (fn := Tryd.f18) (c := bodyOf Tryd.f18) (by kernel_rfl) (by kernel_rfl) (view := false) (rvs := [.tmp 0]) (by kernel_rfl) (H := fun _ => none) 200 (by kernel_rfl) ?_
 refine of_eq (q := True /\ True /\ True /\ ([(1 : Int), (-3 : Int), (3 : Int)].length + 1 <= 1000000 /\ True) /\ True /\ True /\ True /\ True /\ True /\ True /\ ([(1 : Int), (-3 : Int), (3 : Int)].length + 1 <= 1000000 /\ True) /\ True /\ True /\ True /\ True /\ True /\ True /\ True /\ True /\ ([(-1 : Int), (3 : Int)].length + 1 <= 1000000 /\ True) /\ True /\ True /\ True /\ True /\ True /\ True /\ True /\ True /\ True /\ ([(1 : Int), (-5 : Int), (5 : Int)].length + 1 <= 1000000 /\ True) /\ True /\ True /\ True /\ True /\ True /\ True /\ True /\ True /\ True /\ ([((1 : Int), (1 : Int)), ((-1 : Int), (2 : Int)), ((1 : Int), (1 : Int))].length + 1 <= 1000000 /\ True) /\ True /\ True /\ True /\ True /\ True /\ True /\ True /\ True /\ (cornersE [(1 : Int), (-3 : Int), (3 : Int)] ((0 : Int), (0 : Int)) = 0 -> True /\ True /\ True /\ True /\ True /\ ((cornersR [(1 : Int), (-3 : Int), (3 : Int)] ((0 : Int), (0 : Int))).length + 1 <= 1000000 /\ True) /\ True /\ True /\ (true = true -> True /\ True /\ True /\ True /\ (errOf [(1 : Int), (-3 : Int), (3 : Int)] = 0 -> True /\ True /\ True /\ (true = true -> True /\ True /\ ((isPoly [(1 : Int), (-3 : Int), (3 : Int)] /\ (posK [(1 : Int), (-3 : Int), (3 : Int)]).length < 1000000) /\ True) /\ True /\ True /\ (true = true -> True /\ True /\ True /\ True /\ (errOf [(-1 : Int), (3 : Int)] = 0 -> True /\ True /\ True /\ (true = true -> True /\ True /\ True /\ True /\ True /\ (((low29 [(-1 : Int), (3 : Int)]).fst, (low29 [(-1 : Int), (3 : Int)]).snd) = ((0 : Int), (1 : Int)) -> True /\ True /\ True /\ True /\ (rootsE [(1 : Int), (-5 : Int), (5 : Int)] = 0 -> True /\ True /\ True /\ True /\ ((↑(rootsP [(1 : Int), (-5 : Int), (5 : Int)]).length : Int) = 2 -> True /\ True /\ True /\ True /\ ((if given [((1 : Int), (1 : Int)), ((-1 : Int), (2 : Int)), ((1 : Int), (1 : Int))] (7 : Int) then (0 : Int) else (1 : Int)) = 0 -> True /\ True /\ True /\ True /\ True /\ (true = true /\ True) /\ True) /\ (¬(if given [((1 : Int), (1 : Int)), ((-1 : Int), (2 : Int)), ((1 : Int), (1 : Int))] (7 : Int) then (0 : Int) else (1 : Int)) = 0 -> True /\ True /\ True /\ (false = true /\ True) /\ True)) /\ (¬(↑(rootsP [(1 : Int), (-5 : Int), (5 : Int)]).length : Int) = 2 -> True /\ True /\ True /\ True /\ True /\ (false = true /\ True) /\ True)) /\ (¬rootsE [(1 : Int), (-5 : Int), (5 : Int)] = 0 -> True /\ True /\ True /\ True /\ True /\ True /\ True /\ (false = true /\ True) /\ True)) /\ (¬((low29 [(-1 : Int), (3 : Int)]).fst, (low29 [(-1 : Int), (3 : Int)]).snd) = ((0 : Int), (1 : Int)) -> True /\ True /\ True /\ True /\ True /\ True /\ True /\ True /\ True /\ (false = true /\ True) /\ True)) /\ (true = false -> True /\ True /\ True /\ True /\ True /\ True /\ True /\ True /\ True /\ True /\ True /\ (false = true /\ True) /\ True)) /\ (¬errOf [(-1 : Int), (3 : Int)] = 0 -> True /\ True /\ True /\ True /\ True /\ True /\ True /\ True /\ True /\ True /\ True /\ True /\ True /\ (false = true /\ True) /\ True)) /\ (true = false -> True /\ True /\ True /\ True /\ True /\ True /\ True /\ True /\ True /\ True /\ True /\ True /\ True /\ True /\ True /\ (false = true /\ True) /\ True)) /\ (true = false -> True /\ True /\ True /\ True /\ True /\ True /\ True /\ True /\ True /\ True /\ True /\ True /\ True /\ True /\ True /\ True /\ True /\ (false = true /\ True) /\ True)) /\ (¬errOf [(1 : Int), (-3 : Int), (3 : Int)] = 0 -> True /\ True /\ True /\ True /\ True /\ True /\ True /\ True /\ True /\ True /\ True /\ True /\ True /\ True /\ True /\ True /\ True /\ True /\ True /\ (false = true /\ True) /\ True)) /\ (true = false -> True /\ True /\ True /\ True /\ True /\ True /\ True /\ True /\ True /\ True /\ True /\ True /\ True /\ True /\ True /\ True /\ True /\ True /\ True /\ True /\ True /\ (false = true /\ True) /\ True)) /\ (¬cornersE [(1 : Int), (-3 : Int), (3 : Int)] ((0 : Int), (0 : Int)) = 0 -> True /\ True /\ True /\ True /\ True /\ True /\ True /\ True /\ True /\ True /\ True /\ True /\ True /\ True /\ True /\ True /\ True /\ True /\ True /\ True /\ True /\ True /\ True /\ (false = true /\ True) /\ True)) (by kernel_rfl) ?_
 simp only [f1, f2, f3, f4, f6, f7, f8, f9, f10]
 simp [f5]
 first | done | kernel_rfl
def e18 : Entry Tryd.prog gl where
 f := 18
 lend := false
 en := ⟨Tryd.f18, by kernel_rfl, by kernel_rfl, by kernel_rfl⟩
 go := fun args ob0 => match args, ob0 with
   | [], [] => some (True, true, [.tt], [])
   | _, _ => none
 ok := by
   intro args ob0 p s r o h hp
   split at h <;> try (cases h; done)
   injection h with h; injection h with h1 h2; injection h2 with h2 h3; injection h3 with h3 h4
   subst h1 h2 h3 h4
   exact call18
theorem call12v (l : List Int) (hl : l.length < 1000000000000000) : GCall Tryd.prog gl 12 true [.sl I64 l] [] [.sl I64 (tmL l)] [] := by
 refine gcall_of (X := (Xw [] hs12)) ((Xw_ok [] hs12)) (f := 12) (fn := Tryd.f12) (c := bodyOf Tryd.f12) (by kernel_rfl) (by kernel_rfl) (view := true) (rvs := [.tmp 2]) (by kernel_rfl) (H := (H12 l)) 80 (by kernel_rfl) ?_
 have hL := loop12 l hl
 refine of_eq (q := True /\ True /\ True /\ True /\ LoopOK (Xw [] hs12) L12_0 { J := chk (0 : Nat) [(0 : Nat), (3 : Nat), (4 : Nat)] (inv12 l) (st12 l), exits := List.map (fun (x : List Nat × Ex) => x.snd) (ex12 l) } (RetR (Xw [] hs12) true true [ResultVar.tmp (2 : Tmp)] [AV.sl I64 (tmL l)] []) /\ (∃ (y : Nat), inv12 l y /\ (l = l /\ True /\ (0 : Int) = (y : Int) /\ True) /\ ([] : List Int) = List.map tm (List.take y l) /\ True) /\ (∀ (y : Unit), True -> True /\ True /\ True /\ ((↑(List.map tm (List.take (7 : Nat) l)).length : Int) = 0 -> True /\ True /\ sumPre (List.map tm (List.take (7 : Nat) l)).length [(1 : Int)].length (nat_lit 8) /\ True /\ True /\ True /\ True /\ (List.map tm (List.take (7 : Nat) l) ++ [(1 : Int)] = tmL l /\ True) /\ True) /\ (¬(↑(List.map tm (List.take (7 : Nat) l)).length : Int) = 0 -> True /\ True /\ True /\ (List.map tm (List.take (7 : Nat) l) = tmL l /\ True) /\ True)) /\ True) (by kernel_rfl) ?_
 simp only [zz]
 refine ⟨hL _, ⟨0, ⟨by omega, by omega⟩, rfl, by simp⟩, fun _ _ => ⟨fun h => ?_, fun h => ?_⟩⟩
 · have : l = [] := by
     have h : (List.map tm (List.take 7 l)).length = 0 := by omega
     rw [List.length_map, List.length_take] at h
     exact List.length_eq_zero_iff.mp (by omega)
   subst this
   exact ⟨by unfold sumPre; simp, by simp [tmL]; try rfl⟩
 · have : l ≠ [] := fun e => by subst e; simp at h
   simp [tmL, this]
def e12v : Entry Tryd.prog gl := entry1 12 ⟨Tryd.f12, by kernel_rfl, by kernel_rfl, by kernel_rfl⟩ SI (fun l => l.length < 1000000000000000) true (fun l => [.sl I64 (tmL l)]) (fun _ => []) call12v
end Go.Am.Bern

/- Bern: the law BernChecks. -/
namespace Go.Am
open Go
/-- Bools that are known. -/
def litB : AV -> AV
 | .bool true => .tt
 | .bool false => .ff
 | a => a
theorem TR.litB {E : Env} {I : Nat -> Option Inf} {F : Nat -> Prop} {w : World} : ∀ {x : AV} {u : Value}, TR E I F w x u -> TR E I F w (litB x) u
 | .bool true, _, h => h
 | .bool false, _, h => h
 | _, _, h => by
   unfold Am.litB
   split <;> exact h
theorem GCall.lit {P : Program} {gl : Nat -> Option ((t : Ty) × t.D)} {f : FuncId} {sep : Bool} {args res : List AV} {ob0 ob1 : List Ob} (h : GCall P gl f sep args ob0 res ob1) : GCall P gl f sep args ob0 (res.map litB) ob1 := by
 intro E F F0 w a h1 h2 h3 hr
 refine (h E F F0 w a h1 h2 h3 hr).mono ?_
 rintro e w' ⟨E', F', a', he, R⟩
 refine ⟨E', F', a', he, R.retm (by simp) fun i y hy => ?_⟩
 rw [List.getElem?_map] at hy
 cases hx : res[i]? with
 | none => rw [hx] at hy; cases hy
 | some x =>
   rw [hx] at hy
   injection hy with hy
   subst hy
   exact ⟨x, rfl, fun u hu => TR.litB hu⟩
end Go.Am
namespace Go.Am.Bern
open Go Go.Am Go.Proofs
def yesP (p : List Int) : Prop := p.length < 1000000 /\ isPoly p
end Go.Am.Bern

/- Bern: the law BernLists. -/
namespace Go.Am.Bern
open Go Go.Am Go.Proofs
def yG (l : List PQ) (m : Int) : Prop := l.length < 1000000 /\ given l m
theorem y34c (l : List PQ) (h : yG l 6) : GCall Tryd.prog gl 34 false [.sl Q2 l] [] [.sl Q2 (qs (raise (rats l))), .int .i64 0] [] := by
 have := call34 l h.1
 rwa [show raiseR l = qs (raise (rats l)) by simp [raiseR, h.2], if_pos h.2] at this
def y34 : Entry Tryd.prog gl := entry1 34 ⟨Tryd.f34, by kernel_rfl, by kernel_rfl, by kernel_rfl⟩ SQ (fun l => yG l 6) false (fun l => [.sl Q2 (qs (raise (rats l))), .int .i64 0]) (fun _ => []) y34c
theorem y35c (l : List PQ) (h : yG l 7) : GCall Tryd.prog gl 35 false [.sl Q2 l] [] [.ar (.sl Q2) 2 [qs (dvL (rat (1, 2)) (rats l)), qs (dvR (rat (1, 2)) (rats l))], .int .i64 0] [] := by
 have := call35 l h.1
 rwa [show halfR l = [qs (dvL (rat (1, 2)) (rats l)), qs (dvR (rat (1, 2)) (rats l))] by simp [halfR, h.2, rat_half], if_pos h.2] at this
def y35 : Entry Tryd.prog gl := entry1 35 ⟨Tryd.f35, by kernel_rfl, by kernel_rfl, by kernel_rfl⟩ SQ (fun l => yG l 7) false (fun l => [.ar (.sl Q2) 2 [qs (dvL (rat (1, 2)) (rats l)), qs (dvR (rat (1, 2)) (rats l))], .int .i64 0]) (fun _ => []) y35c
theorem div_meet (x : Rat) : ∀ (n : Nat) (l acc : List Rat), l.length = n + 1 -> (divL x (n + 1) l).getD n 0 = (divR x (n + 1) l acc).getD 0 0
 | 0, l, acc, h => by
   match l, h with
   | [a], _ => rfl
 | n + 1, l, acc, h => by
   rw [divL, divR, List.getD_cons_succ]
   exact div_meet x n (dcs x l) _ (by rw [dcs_length]; omega)
theorem dv_meet (x : Rat) {l : List Rat} (h : 1 <= l.length) : (dvL x l).getD (l.length - 1) 0 = (dvR x l).getD 0 0 := by
 obtain ⟨n, hn⟩ : ∃ n, l.length = n + 1 := ⟨l.length - 1, by omega⟩
 unfold dvL dvR
 rw [hn]
 exact div_meet x n l [] hn
end Go.Am.Bern

/- Bern: the law BernRoots: plain facts. -/
namespace Go.Am.Bern
open Go Go.Am Go.Proofs
theorem num_np (r : Rat) : r.num <= 0 ↔ r <= 0 := by
 have h : 0 <= (-r).num ↔ 0 <= -r := Rat.num_nonneg
 rw [Rat.neg_num] at h
 constructor
 · intro h1
   have h2 := Rat.neg_le_neg (h.mp (by omega))
   rwa [Rat.neg_neg] at h2
 · intro h1
   have := h.mpr (by simpa using Rat.neg_le_neg h1)
   omega
section
variable {P : Rat -> Prop} (x : Rat) (hP : ∀ a b, P a -> P b -> P (avg x a b)) (h0 : P 0)
include hP
include h0
omit hP in
end
theorem avg_nn (a b : Rat) (ha : 0 <= a) (hb : 0 <= b) : 0 <= avg half a b := by
 unfold avg
 have h1 : (0 : Rat) <= 1 - half := by decide +kernel
 have h2 : (0 : Rat) <= half := by decide +kernel
 exact Rat.add_nonneg (Rat.mul_nonneg ha h1) (Rat.mul_nonneg hb h2)
theorem avg_neg (a b : Rat) : avg half (-a) (-b) = - avg half a b := by
 unfold avg
 rw [Rat.neg_mul, Rat.neg_mul, Rat.neg_add]
theorem avg_np (a b : Rat) (ha : a <= 0) (hb : b <= 0) : avg half a b <= 0 := by
 have h := avg_nn (-a) (-b) (Rat.neg_le_neg ha) (Rat.neg_le_neg hb)
 rw [avg_neg] at h
 have := Rat.neg_le_neg h
 rwa [Rat.neg_neg] at this
end Go.Am.Bern

/- Bern: Positive, with a result of its own. -/
namespace Go.Am.Bern
open Go Go.Am Go.Proofs
end Go.Am.Bern

/- Bern: plain facts for BernPositive. -/
namespace Go.Am.Bern
open Go Go.Am Go.Proofs
section
variable {P : Rat -> Prop} (x : Rat) (hP : ∀ a b, P a -> P b -> P (avg x a b))
include hP
end
theorem halves (n k j : Nat) : k * 2 ^ (n + 1) <= j /\ j < (k + 1) * 2 ^ (n + 1) ↔ (2 * k * 2 ^ n <= j /\ j < (2 * k + 1) * 2 ^ n) ∨ ((2 * k + 1) * 2 ^ n <= j /\ j < (2 * k + 1 + 1) * 2 ^ n) := by
 have e0 : 2 ^ (n + 1) = 2 * 2 ^ n := by rw [Nat.pow_succ, Nat.mul_comm]
 have e1 : 2 * k * 2 ^ n = k * 2 ^ (n + 1) := by rw [e0, <- Nat.mul_assoc, Nat.mul_comm 2 k]
 have e2 : (2 * k + 1) * 2 ^ n = k * 2 ^ (n + 1) + 2 ^ n := by rw [Nat.add_mul, e1, Nat.one_mul]
 have e3 : (2 * k + 1 + 1) * 2 ^ n = k * 2 ^ (n + 1) + 2 ^ n + 2 ^ n := by rw [Nat.add_mul, e2, Nat.one_mul]
 have e4 : (k + 1) * 2 ^ (n + 1) = k * 2 ^ (n + 1) + 2 ^ n + 2 ^ n := by rw [Nat.add_mul, Nat.one_mul, e0]; omega
 omega
end Go.Am.Bern

/- Bern: the law BernPositive. -/
namespace Go.Am.Bern
open Go Go.Am Go.Proofs
end Go.Am.Bern

/- Bern: the law BernRoots. -/
namespace Go.Am.Bern
open Go Go.Am Go.Proofs
end Go.Am.Bern

/- Bern: changes of sign: what does not raise them. -/
namespace Go.Am.Bern
open Go Go.Am Go.Proofs
/-- One step of counting. -/
def stp (last a : Int) : Nat := if a = 0 then 0 else if last ≠ 0 /\ ¬ (a < 0 ↔ last < 0) then 1 else 0
def nxt (last a : Int) : Int := if a = 0 then last else a
theorem stp_zero (a : Int) : stp a 0 = 0 := if_pos rfl
theorem nxt_zero (a : Int) : nxt a 0 = a := if_pos rfl
theorem chgS_cons (last a : Int) (l : List Int) : chgS last (a :: l) = stp last a + chgS (nxt last a) l := by
 rw [chgS, stp, nxt]
 by_cases h : a = 0
 · rw [if_pos h, if_pos h, if_pos h, Nat.zero_add]
 · rw [if_neg h, if_neg h, if_neg h]
theorem chgS_same {a b : Int} (h1 : a = 0 ↔ b = 0) (h2 : a < 0 ↔ b < 0) : ∀ l, chgS a l = chgS b l := by
 intro l
 rw [<- chgS_sgn l a, <- chgS_sgn l b]
 congr 1
 unfold sgn
 split <;> split <;> (try split) <;> (try split) <;> omega
theorem chgS_tri (a b : Int) : ∀ l, chgS a l <= stp a b + chgS (nxt a b) l
 | [] => Nat.zero_le _
 | c :: l => by
   rw [chgS_cons, chgS_cons]
   by_cases hb : b = 0
   · subst hb; simp [stp, nxt]
   by_cases hc : c = 0
   · subst hc
     have := chgS_tri a b l
     simpa [stp, nxt] using this
   · have e : nxt (nxt a b) c = nxt a c := by simp [nxt, hc]
     rw [e]
     have : stp a c <= stp a b + stp (nxt a b) c := by
       simp only [stp, nxt, hb, hc, if_false]
       split <;> split <;> split <;> omega
     omega
theorem chgS_sub {l m : List Int} (h : List.Sublist l m) : ∀ a, chgS a l <= chgS a m := by
 induction h with
 | slnil => intro a; exact Nat.le_refl _
 | @cons l m b _ ih =>
   intro a
   rw [chgS_cons]
   exact Nat.le_trans (chgS_tri a b l) (Nat.add_le_add_left (ih _) _)
 | @cons_cons l m b _ ih =>
   intro a
   rw [chgS_cons, chgS_cons]
   exact Nat.add_le_add_left (ih _) _
/-- What lies between two numbers. -/
def btw (a b c : Int) : Prop := (0 <= a -> 0 <= b -> 0 <= c) /\ (a <= 0 -> b <= 0 -> c <= 0)
theorem chgS_ins {a b c : Int} (h : btw a b c) (p : Int) (l : List Int) : chgS p (a :: c :: b :: l) = chgS p (a :: b :: l) := by
 obtain ⟨h1, h2⟩ := h
 simp only [chgS_cons]
 by_cases hc : c = 0
 · subst hc; rw [stp_zero, nxt_zero, Nat.zero_add]
 by_cases hb : b = 0
 · subst hb
   by_cases ha : a = 0
   · subst ha; omega
   · have e1 : stp p a + (stp (nxt p a) c + (stp (nxt (nxt p a) c) 0 + chgS (nxt (nxt (nxt p a) c) 0) l)) = stp p a + (stp a c + chgS c l) := by simp [stp, nxt, ha, hc]
     have e2 : stp p a + (stp (nxt p a) 0 + chgS (nxt (nxt p a) 0) l) = stp p a + chgS a l := by simp [stp, nxt, ha]
     have hs : a < 0 ↔ c < 0 := by omega
     rw [e1, e2, chgS_same (a := c) (b := a) (by omega) hs.symm, show stp a c = 0 by unfold stp; rw [if_neg hc, if_neg (by omega)], Nat.zero_add]
 · have e0 : nxt (nxt (nxt p a) c) b = b := by simp [nxt, hb]
   have e0' : nxt (nxt p a) b = b := by simp [nxt, hb]
   rw [e0, e0']
   have : stp (nxt p a) c + stp (nxt (nxt p a) c) b = stp (nxt p a) b := by
     have e1 : nxt (nxt p a) c = c := by simp [nxt, hc]
     rw [e1]
     by_cases ha : a = 0
     · subst ha
       have e2 : nxt p 0 = p := by simp [nxt]
       have hs : b < 0 ↔ c < 0 := by omega
       rw [e2]
       unfold stp
       rw [if_neg hc, if_neg hb, if_neg hb]
       split <;> split <;> split <;> omega
     · have e2 : nxt p a = a := by simp [nxt, ha]
       rw [e2]
       unfold stp
       rw [if_neg hc, if_neg hb, if_neg hb]
       split <;> split <;> split <;> omega
   omega
/-- Lists between whose neighbours others lie. -/
def btwL : List Int -> List Int -> Prop
 | a :: b :: l, c :: m => btw a b c /\ btwL (b :: l) m
 | [_], [] => True
 | _, _ => False
theorem chgS_cut : ∀ (l m : List Int) (p : Int) (r : List Int), btwL l m -> chgS p (l.take 1 ++ m ++ l.drop (l.length - 1) ++ r) <= chgS p (l ++ r)
 | [], [], _, _, h => h.elim
 | [], _ :: _, _, _, h => h.elim
 | [a], [], p, r, _ => by
   simp only [List.take, List.length, List.append_nil, List.nil_append, List.singleton_append, List.cons_append, Nat.sub_self, List.drop]
   rw [chgS_cons, chgS_cons, chgS_cons]
   by_cases ha : a = 0
   · subst ha; simp [stp, nxt]
   · simp [stp, nxt, ha]
 | [_], _ :: _, _, _, h => h.elim
 | a :: b :: l, [], _, _, h => h.elim
 | a :: b :: l, c :: m, p, r, h => by
   obtain ⟨h1, h2⟩ := h
   have ih := chgS_cut (b :: l) m (nxt (nxt p a) c) r h2
   have e : chgS p (a :: b :: l ++ r) = chgS p (a :: c :: b :: (l ++ r)) := (chgS_ins h1 p _).symm
   rw [e]
   have e2 : (a :: b :: l).take 1 ++ c :: m ++ (a :: b :: l).drop ((a :: b :: l).length - 1) ++ r = a :: c :: (m ++ (b :: l).drop ((b :: l).length - 1) ++ r) := by
     simp
   rw [e2, chgS_cons, chgS_cons, chgS_cons _ a, chgS_cons _ c]
   refine Nat.add_le_add_left (Nat.add_le_add_left (Nat.le_trans (chgS_sub ?_ _) ih) _) _
   simp only [List.take, List.append_assoc, List.singleton_append, List.cons_append]
   exact List.sublist_cons_self _ _
end Go.Am.Bern

/- Bern: changes of sign under division and raising. -/
namespace Go.Am.Bern
open Go Go.Am Go.Proofs
def nm (l : List Rat) : List Int := l.map (·.num)
theorem chg_nm (l : List Rat) : chg (qs l) = chgS 0 (nm l) := by
 unfold chg qs nm
 rw [List.map_map]; try rfl
theorem btw_rat {a b c : Rat} (h1 : 0 <= a -> 0 <= b -> 0 <= c) (h2 : a <= 0 -> b <= 0 -> c <= 0) : btw a.num b.num c.num :=
 ⟨fun ha hb => Rat.num_nonneg.mpr (h1 (Rat.num_nonneg.mp ha) (Rat.num_nonneg.mp hb)), fun ha hb => (num_np c).mpr (h2 ((num_np a).mp ha) ((num_np b).mp hb))⟩
theorem dcs_btw {x : Rat} (hx : ∀ a b : Rat, (0 <= a -> 0 <= b -> 0 <= avg x a b) /\ (a <= 0 -> b <= 0 -> avg x a b <= 0)) : ∀ (l : List Rat), l ≠ [] -> btwL (nm l) (nm (dcs x l))
 | [], h => absurd rfl h
 | [_], _ => trivial
 | a :: b :: l, _ => ⟨btw_rat (hx a b).1 (hx a b).2, dcs_btw hx (b :: l) (by simp)⟩
theorem chgS_pre {a b : List Int} (h : ∀ q, chgS q a <= chgS q b) : ∀ (l : List Int) (p : Int), chgS p (l ++ a) <= chgS p (l ++ b)
 | [], p => h p
 | c :: l, p => by
   rw [List.cons_append, List.cons_append, chgS_cons, chgS_cons]
   exact Nat.add_le_add_left (chgS_pre h l _) _
theorem chgS_any : ∀ (l : List Int) (p : Int), chgS 0 l <= chgS p l
 | [], _ => Nat.le_refl _
 | a :: l, p => by
   rw [chgS_cons, chgS_cons]
   by_cases ha : a = 0
   · subst ha; rw [stp_zero, stp_zero, nxt_zero, nxt_zero]; exact Nat.add_le_add_left (chgS_any l p) _
   · have e1 : nxt 0 a = a := if_neg ha
     have e2 : nxt p a = a := if_neg ha
     have e3 : stp 0 a = 0 := by simp [stp]
     rw [e1, e2, e3]; omega
theorem chgS_app : ∀ (l m : List Int) (p : Int), chgS p l + chgS 0 m <= chgS p (l ++ m)
 | [], m, p => by
   have := chgS_any m p
   show 0 + chgS 0 m <= chgS p m
   omega
 | a :: l, m, p => by
   have := chgS_app l m (nxt p a)
   rw [List.cons_append, chgS_cons, chgS_cons]; omega
theorem nm_app (l m : List Rat) : nm (l ++ m) = nm l ++ nm m := List.map_append ..
theorem div_chg {x : Rat} (hx : ∀ a b : Rat, (0 <= a -> 0 <= b -> 0 <= avg x a b) /\ (a <= 0 -> b <= 0 -> avg x a b <= 0)) (p : Int) : ∀ (n : Nat) (row left right : List Rat), row.length = n ->
   chgS p (nm left ++ nm (divL x n row) ++ nm (divR x n row right)) <= chgS p (nm left ++ nm row ++ nm right)
 | 0, row, left, right, h => by
   have : row = [] := List.eq_nil_of_length_eq_zero h
   subst this
   exact Nat.le_refl _
 | n + 1, row, left, right, h => by
   have hne : row ≠ [] := fun e => by subst e; simp at h
   have ih := div_chg hx p n (dcs x row) (left ++ [row.getD 0 0]) (row.getD (row.length - 1) 0 :: right) (by rw [dcs_length]; omega)
   rw [divL, divR]
   have e1 : nm left ++ nm (row.getD 0 0 :: divL x n (dcs x row)) = nm (left ++ [row.getD 0 0]) ++ nm (divL x n (dcs x row)) := by simp [nm]
   rw [e1]
   refine Nat.le_trans ih ?_
   have hc := fun q => chgS_cut (nm row) (nm (dcs x row)) q (nm right) (dcs_btw hx row hne)
   have e2 : nm (left ++ [row.getD 0 0]) ++ nm (dcs x row) ++ nm (row.getD (row.length - 1) 0 :: right) = nm left ++ ((nm row).take 1 ++ nm (dcs x row) ++ (nm row).drop ((nm row).length - 1) ++ nm right) := by
     have h1 : (nm row).take 1 = nm [row.getD 0 0] := by
       cases row with
       | nil => exact absurd rfl hne
       | cons a l => rfl
     have h2 : (nm row).drop ((nm row).length - 1) = nm [row.getD (row.length - 1) 0] := by
       have hl : (nm row).length = row.length := List.length_map ..
       unfold nm at *
       rw [hl, <- List.map_drop, drop_getD (d := 0) (by omega)]
       rw [show row.length - 1 + 1 = row.length by omega, List.drop_length]
     rw [h1, h2]
     simp [nm]
   rw [e2, List.append_assoc (nm left)]
   exact chgS_pre hc _ _
theorem dv_chg {x : Rat} (hx : ∀ a b : Rat, (0 <= a -> 0 <= b -> 0 <= avg x a b) /\ (a <= 0 -> b <= 0 -> avg x a b <= 0)) (l : List Rat) : chg (qs (dvL x l)) + chg (qs (dvR x l)) <= chg (qs l) := by
 have h := div_chg hx 0 l.length l [] [] rfl
 rw [chg_nm, chg_nm, chg_nm]
 refine Nat.le_trans (chgS_app _ _ _) (Nat.le_trans (show _ <= _ from h) ?_)
 simp [nm]
theorem half_avg (a b : Rat) : (0 <= a -> 0 <= b -> 0 <= avg half a b) /\ (a <= 0 -> b <= 0 -> avg half a b <= 0) := ⟨avg_nn a b, avg_np a b⟩
theorem halves_chg (l : List Rat) : chg (qs (dvL half l)) + chg (qs (dvR half l)) <= chg (qs l) := dv_chg half_avg l
end Go.Am.Bern

/- Bern: corners and values: averages of sequences. -/
namespace Go.Am.Bern
open Go Go.Am Go.Proofs
def av (t : Rat) (a : Nat -> Rat) (i : Nat) : Rat := a i * (1 - t) + a (i + 1) * t
def itr (t : Rat) : Nat -> (Nat -> Rat) -> Nat -> Rat
 | 0, a => a
 | n + 1, a => itr t n (av t a)
theorem itr_lin (t u v : Rat) : ∀ (n : Nat) (a b : Nat -> Rat) (i : Nat), itr t n (fun j => u * a j + v * b j) i = u * itr t n a i + v * itr t n b i
 | 0, _, _, _ => rfl
 | n + 1, a, b, i => by
   rw [itr, itr, itr, <- itr_lin t u v n]
   congr 1
   funext j
   unfold av
   grind
theorem itr_out (t : Rat) : ∀ (n : Nat) (a : Nat -> Rat) (i : Nat), itr t (n + 1) a i = av t (itr t n a) i
 | 0, _, _ => rfl
 | n + 1, a, i => by rw [itr, itr_out t n, itr]
/-- The left part of a division. -/
theorem itr_left (x t : Rat) : ∀ (j : Nat) (a : Nat -> Rat) (k : Nat), itr t j (fun i => itr x i a 0) k = itr (t * x) j (itr x k a) 0
 | 0, _, _ => rfl
 | j + 1, a, k => by
   rw [itr_out, av, itr_left x t j, itr_left x t j]
   have e : itr x (k + 1) a = av x (itr x k a) := by funext i; exact itr_out x k a i
   rw [e, itr]
   have e2 : av (t * x) (itr x k a) = fun i => (1 - t) * itr x k a i + t * av x (itr x k a) i := by
     funext i; unfold av; grind
   rw [e2, itr_lin]
   grind
/-- The right part: counted from its end. -/
theorem itr_shift (t : Rat) : ∀ (n : Nat) (a : Nat -> Rat) (k i : Nat), itr t n (fun j => a (j + k)) i = itr t n a (i + k)
 | 0, _, _, _ => rfl
 | n + 1, a, k, i => by
   rw [itr, itr, <- itr_shift t n (av t a) k i]
   congr 1
   funext j
   unfold av
   show a (j + k) * (1 - t) + a (j + 1 + k) * t = _
   rw [show j + 1 + k = j + k + 1 by omega]
theorem itr_zero : ∀ (n : Nat) (a : Nat -> Rat) (i : Nat), itr 0 n a i = a i
 | 0, _, _ => rfl
 | n + 1, a, i => by
   rw [itr, itr_zero n]; unfold av; grind
theorem itr_one : ∀ (n : Nat) (a : Nat -> Rat) (i : Nat), itr 1 n a i = a (i + n)
 | 0, _, _ => rfl
 | n + 1, a, i => by
   rw [itr, itr_one n]; unfold av
   rw [show i + n + 1 = i + (n + 1) by omega]; grind
theorem itr_right (x t : Rat) : ∀ (j m : Nat) (a : Nat -> Rat) (k : Nat), k + j <= m -> itr t j (fun i => itr x (m - i) a i) k = itr (x + t - t * x) j (itr x (m - k - j) a) k
 | 0, m, a, k, _ => by simp [itr]
 | j + 1, m, a, k, h => by
   rw [itr_out, av, itr_right x t j m a k (by omega), itr_right x t j m a (k + 1) (by omega)]
   have e1 : itr x (m - k - j) a = av x (itr x (m - k - (j + 1)) a) := by
     funext i; rw [<- itr_out, show m - k - (j + 1) + 1 = m - k - j by omega]
   have e2 : m - (k + 1) - j = m - k - (j + 1) := by omega
   rw [e1, e2, itr]
   generalize itr x (m - k - (j + 1)) a = b
   have e3 : itr (x + t - t * x) j b (k + 1) = itr (x + t - t * x) j (fun i => b (i + 1)) k := (itr_shift _ _ b 1 k).symm
   rw [e3]
   have e4 : av (x + t - t * x) b = fun i => (1 - t) * av x b i + t * (fun i => b (i + 1)) i := by
     funext i; unfold av; grind
   rw [e4, itr_lin]
   grind
/-- A list as a sequence; what a division leaves. -/
def sqn (l : List Rat) (i : Nat) : Rat := l.getD i 0
theorem itr_dcs (x : Rat) : ∀ (n : Nat) (l : List Rat) (i : Nat), i + n < l.length -> itr x n (sqn l) i = match n with
   | 0 => sqn l i
   | n + 1 => itr x n (sqn (dcs x l)) i
 | 0, _, _, _ => rfl
 | n + 1, l, i, h => by
   rw [itr]
   have : ∀ (m : Nat) (a b : Nat -> Rat) (i : Nat), (∀ j, i <= j -> j <= i + m -> a j = b j) -> itr x m a i = itr x m b i := by
     intro m
     induction m with
     | zero => intro a b i h; exact h i (Nat.le_refl _) (by omega)
     | succ m ih =>
       intro a b i h
       rw [itr, itr]
       refine ih _ _ i fun j h1 h2 => ?_
       unfold av
       rw [h j h1 (by omega), h (j + 1) (by omega) (by omega)]
   refine this n _ _ i fun j h1 h2 => ?_
   unfold av sqn
   rw [dcs_getD x l j (by omega)]
   unfold avg
   grind
theorem divL_itr (x : Rat) : ∀ (n : Nat) (l : List Rat) (i : Nat), n <= l.length -> i < n -> (divL x n l).getD i 0 = itr x i (sqn l) 0
 | 0, _, _, _, h => absurd h (Nat.not_lt_zero _)
 | n + 1, l, 0, _, _ => by rw [divL]; try rfl
 | n + 1, l, i + 1, hn, h => by
   rw [divL, List.getD_cons_succ, divL_itr x n (dcs x l) i (by rw [dcs_length]; omega) (by omega), itr_dcs x (i + 1) l 0 (by omega)]
theorem divR_itr (x : Rat) : ∀ (n : Nat) (l acc : List Rat) (i : Nat), l.length = n -> i < n + acc.length -> (divR x n l acc).getD i 0 = if i < n then itr x (n - 1 - i) (sqn l) i else acc.getD (i - n) 0
 | 0, l, acc, i, h, hi => by rw [divR, if_neg (by omega)]; try rfl
 | n + 1, l, acc, i, h, hi => by
   rw [divR, divR_itr x n (dcs x l) _ i (by rw [dcs_length]; omega) (by simp; omega)]
   by_cases h1 : i < n
   · rw [if_pos h1, if_pos (by omega), show n + 1 - 1 - i = (n - 1 - i) + 1 by omega, itr_dcs x (n - 1 - i + 1) l i (by omega)]
   · by_cases h2 : i < n + 1
     · have : i = n := by omega
       subst this
       rw [if_neg h1, if_pos h2, Nat.sub_self, show i + 1 - 1 - i = 0 by omega, h]
       rfl
     · rw [if_neg h1, if_neg h2, show i - n = (i - (n + 1)) + 1 by omega, List.getD_cons_succ]
end Go.Am.Bern

/- Bern: corners of a piece give the polynomial's values on it. -/
namespace Go.Am.Bern
open Go Go.Am Go.Proofs
theorem itr_congr (t : Rat) : ∀ (m : Nat) (a b : Nat -> Rat) (i : Nat), (∀ j, i <= j -> j <= i + m -> a j = b j) -> itr t m a i = itr t m b i
 | 0, _, _, i, h => h i (Nat.le_refl _) (by omega)
 | m + 1, a, b, i, h => by
   rw [itr, itr]
   refine itr_congr t m _ _ i fun j h1 h2 => ?_
   unfold av
   rw [h j h1 (by omega), h (j + 1) (by omega) (by omega)]
/-- The value that corners tell. -/
def bval (t : Rat) (l : List Rat) : Rat := itr t (l.length - 1) (sqn l) 0
theorem bval_left (x t : Rat) (l : List Rat) : bval t (dvL x l) = bval (t * x) l := by
 unfold bval
 rw [dvL_length]
 cases hl : l.length with
 | zero =>
   have : l = [] := List.eq_nil_of_length_eq_zero hl
   subst this; try rfl
 | succ n =>
   have e : itr t n (sqn (dvL x l)) 0 = itr t n (fun i => itr x i (sqn l) 0) 0 := itr_congr t n _ _ 0 fun j _ h => by
     unfold sqn dvL
     exact divL_itr x l.length l j (Nat.le_refl _) (by omega)
   rw [show n + 1 - 1 = n by omega, e, itr_left]; try rfl
theorem bval_right (x t : Rat) (l : List Rat) : bval t (dvR x l) = bval (x + t - t * x) l := by
 unfold bval
 rw [dvR_length]
 cases hl : l.length with
 | zero =>
   have : l = [] := List.eq_nil_of_length_eq_zero hl
   subst this; try rfl
 | succ n =>
   have e : itr t n (sqn (dvR x l)) 0 = itr t n (fun i => itr x (n - i) (sqn l) i) 0 := itr_congr t n _ _ 0 fun j _ h => by
     unfold sqn dvR
     rw [divR_itr x l.length l [] j rfl (by simp; omega), if_pos (by omega), hl]
     rw [show n + 1 - 1 - j = n - j by omega]; try rfl
   rw [show n + 1 - 1 = n by omega, e, itr_right x t n n (sqn l) 0 (by omega), Nat.sub_zero, Nat.sub_self]; try rfl
theorem bval_zero (l : List Rat) : bval 0 l = l.getD 0 0 := itr_zero _ _ _
theorem bval_one (l : List Rat) : bval 1 l = l.getD (l.length - 1) 0 := by
 unfold bval; rw [itr_one, Nat.zero_add]; try rfl
theorem cnr_val (p : List Int) : ∀ (d k : Nat) (t : Rat), bval t (cnr p d k) = bval ((((k % 2 ^ d : Nat) : Rat) + t) / ((2 ^ d : Nat) : Rat)) (whole p)
 | 0, k, t => by
   rw [cnr, Nat.pow_zero, Nat.mod_one]
   congr 1
   grind
 | d + 1, k, t => by
   have hh : (half : Rat) = 1 / 2 := by decide +kernel
   have hp : ((2 ^ (d + 1) : Nat) : Rat) = 2 * ((2 ^ d : Nat) : Rat) := by
     rw [Nat.pow_succ, Nat.mul_comm]; push_cast; try rfl
   have hne : ((2 ^ d : Nat) : Rat) ≠ 0 := by
     have : (2 ^ d : Nat) ≠ 0 := by have := Nat.two_pow_pos d; omega
     exact_mod_cast this
   rw [cnr]
   have hm : k % 2 ^ (d + 1) = 2 * (k / 2 % 2 ^ d) + k % 2 := by
     rw [Nat.pow_succ, Nat.mul_comm, Nat.mod_mul]; omega
   rw [hm, hp]
   by_cases hk : k % 2 = 0
   · rw [if_pos hk, bval_left, cnr_val p d, hk, hh]
     congr 1
     push_cast
     grind
   · have hk1 : k % 2 = 1 := by omega
     rw [if_neg hk, bval_right, cnr_val p d, hk1, hh]
     congr 1
     push_cast
     grind
end Go.Am.Bern

/- Bern: the corners on the whole give the polynomial. -/
namespace Go.Am.Bern
open Go Go.Am Go.Proofs
def cR (i k : Nat) : Rat := (ch i k : Rat)
theorem cR_zero (i : Nat) : cR i 0 = 1 := by unfold cR; cases i <;> rfl
theorem cR_succ (i k : Nat) : cR (i + 1) (k + 1) = cR i k + cR i (k + 1) := by
 unfold cR; rw [ch]; push_cast; try rfl
theorem cR_none (k : Nat) : cR 0 (k + 1) = 0 := by unfold cR; try rfl
theorem itr_const (t c : Rat) : ∀ (m i : Nat), itr t m (fun _ => c) i = c
 | 0, _ => rfl
 | m + 1, i => by
   rw [itr, show av t (fun _ => c) = fun _ => c by funext i; unfold av; grind]
   exact itr_const t c m i
theorem itr_cR (t : Rat) : ∀ (m k : Nat), itr t m (fun i => cR i k) 0 = cR m k * t ^ k
 | 0, 0 => by rw [itr, cR_zero]; grind
 | 0, k + 1 => by rw [itr, cR_none]; grind
 | m + 1, 0 => by
   rw [show (fun i => cR i 0) = fun _ => (1 : Rat) by funext i; exact cR_zero i, itr_const, cR_zero]; grind
 | m + 1, k + 1 => by
   have e : av t (fun i => cR i (k + 1)) = fun i => 1 * cR i (k + 1) + t * cR i k := by
     funext i
     unfold av
     show cR i (k + 1) * (1 - t) + cR (i + 1) (k + 1) * t = _
     rw [cR_succ]; grind
   rw [itr, e, itr_lin, itr_cR t m (k + 1), itr_cR t m k, cR_succ, Rat.pow_succ]
   grind
def wful (c : Nat -> Rat) : Nat -> Nat -> Rat
 | 0, _ => 0
 | K + 1, i => wful c K i + c K * cR i K
def gsum (c : Nat -> Rat) (t : Rat) (m : Nat) : Nat -> Rat
 | 0 => 0
 | K + 1 => gsum c t m K + c K * (cR m K * t ^ K)
theorem itr_wful (c : Nat -> Rat) (t : Rat) (m : Nat) : ∀ K, itr t m (wful c K) 0 = gsum c t m K
 | 0 => itr_const t 0 m 0
 | K + 1 => by
   have e : wful c (K + 1) = fun i => 1 * wful c K i + c K * cR i K := by funext i; rw [wful]; grind
   rw [e, itr_lin, itr_wful c t m K, itr_cR, gsum]; grind
def psum (p : List Int) (t : Rat) : Nat -> Rat
 | 0 => 0
 | K + 1 => psum p t K + (p.getD K 0 : Rat) * t ^ K
theorem psum_cons (a : Int) (l : List Int) (t : Rat) : ∀ K, psum (a :: l) t (K + 1) = (a : Rat) + t * psum l t K
 | 0 => by
   rw [psum, psum, psum]
   show (0 : Rat) + (a : Rat) * t ^ 0 = (a : Rat) + t * 0
   grind
 | K + 1 => by
   rw [psum, psum_cons a l t K, psum, List.getD_cons_succ, Rat.pow_succ]; grind
theorem hval_psum (t : Rat) : ∀ p : List Int, hval t p = psum p t p.length
 | [] => rfl
 | a :: l => by
   rw [hval, List.length_cons, psum_cons, hval_psum t l]; grind
theorem ch_over : ∀ (i k : Nat), i < k -> ch i k = 0
 | _, 0, h => absurd h (Nat.not_lt_zero _)
 | 0, k + 1, _ => rfl
 | i + 1, k + 1, h => by rw [ch, ch_over i k (by omega), ch_over i (k + 1) (by omega)]; try rfl
theorem term_cR (p : List Int) (n i k : Nat) : term p n i k = (p.getD k 0 : Rat) / cR n k * cR i k := by
 unfold term cR
 rw [Rat.divInt_eq_div]; push_cast; grind
theorem wsum_wful (p : List Int) (n i : Nat) : ∀ K, wsum p n i K = wful (fun k => (p.getD k 0 : Rat) / cR n k) K i
 | 0 => rfl
 | K + 1 => by rw [wsum, wful, wsum_wful p n i K, term_cR]
theorem wful_over (c : Nat -> Rat) (i : Nat) : ∀ j, wful c (i + 1 + j) i = wful c (i + 1) i
 | 0 => rfl
 | j + 1 => by
   rw [show i + 1 + (j + 1) = i + 1 + j + 1 by omega, wful, wful_over c i j]
   have : cR i (i + 1 + j) = 0 := by unfold cR; rw [ch_over i _ (by omega)]; try rfl
   rw [this]; grind
theorem gsum_psum (p : List Int) (t : Rat) {n : Nat} (hn : n <= 6) : ∀ K, K <= n + 1 -> gsum (fun k => (p.getD k 0 : Rat) / cR n k) t n K = psum p t K
 | 0, _ => rfl
 | K + 1, h => by
   rw [gsum, psum, gsum_psum p t hn K (by omega)]
   have hne : cR n K ≠ 0 := by
     have := (ch_facts hn (k := K) (by omega)).1
     unfold cR
     have h0 : ch n K ≠ 0 := by omega
     exact_mod_cast h0
   grind
theorem whole_val {p : List Int} (h1 : 1 <= p.length) (h7 : p.length <= 7) (t : Rat) : bval t (whole p) = hval t p := by
 unfold bval
 rw [whole_length, hval_psum]
 obtain ⟨n, hn⟩ : ∃ n, p.length = n + 1 := ⟨p.length - 1, by omega⟩
 rw [hn, show n + 1 - 1 = n by omega]
 have e : itr t n (sqn (whole p)) 0 = itr t n (wful (fun k => (p.getD k 0 : Rat) / cR n k) (n + 1)) 0 := itr_congr t n _ _ 0 fun j _ h => by
   have h2 : sqn (whole p) j = wsum p (p.length - 1) j (j + 1) := by
     unfold sqn whole
     rw [List.getD_eq_getElem?_getD, List.getElem?_map, List.getElem?_range (by omega)]; try rfl
   rw [h2, wsum_wful, hn, show n + 1 - 1 = n by omega, <- wful_over _ j (n - j), show j + 1 + (n - j) = n + 1 by omega]
 rw [e, itr_wful, gsum_psum p t (by omega) (n + 1) (Nat.le_refl _)]
theorem cnr_hval {p : List Int} (hp : isPoly p) (d k : Nat) (t : Rat) : bval t (cnr p d k) = hval ((((k % 2 ^ d : Nat) : Rat) + t) / ((2 ^ d : Nat) : Rat)) p := by
 rw [cnr_val, whole_val hp.1 hp.2.1]
end Go.Am.Bern

/- Bern: positive pieces, low points. -/
namespace Go.Am.Bern
open Go Go.Am Go.Proofs
end Go.Am.Bern

/- Bern: counts and changes of sign. -/
namespace Go.Am.Bern
open Go Go.Am Go.Proofs
end Go.Am.Bern

/- Bern: the count of pieces has the parity of the changes of sign. -/
namespace Go.Am.Bern
open Go Go.Am Go.Proofs
end Go.Am.Bern

/- Bern: the corners of the mirrored polynomial. -/
namespace Go.Am.Bern
theorem m1 (a : Int) : whole (mir [a]) = (whole [a]).reverse := by
 simp [whole, mir, mK, mrow, wsum, ch, sg, List.range, List.range.loop, term_cR, cR]
theorem m2 (a b : Int) : whole (mir [a, b]) = (whole [a, b]).reverse := by
 simp [whole, mir, mK, mrow, wsum, ch, sg, List.range, List.range.loop, term_cR, cR]
 grind
end Go.Am.Bern

/- Bern: pieces of the mirrored polynomial. -/
namespace Go.Am.Bern
end Go.Am.Bern

/- Bern: changes of sign, read backwards. -/
namespace Go.Am.Bern
def fz : List Int -> Int
 | [] => 0
 | a :: l => if a = 0 then fz l else a
end Go.Am.Bern

/- Bern: readings of the mirrored polynomial. -/
namespace Go.Am.Bern
end Go.Am.Bern

/- Bern: the mirrored polynomial is plain, positive, as the polynomial is. -/
namespace Go.Am.Bern
end Go.Am.Bern

/- Bern: the law BernDescartes. -/
namespace Go.Am.Bern
open Go Go.Am Go.Proofs
theorem chgS_len : ∀ (l : List Int) (a : Int), chgS a l <= l.length
 | [], _ => Nat.le_refl _
 | b :: l, a => by
   rw [chgS_cons, List.length_cons]
   have := chgS_len l (nxt a b)
   have : stp a b <= 1 := by unfold stp; split <;> (try split) <;> omega
   omega
end Go.Am.Bern

/- Bern: the least and the greatest of a list; values between them. -/
namespace Go.Am.Bern
def fold1R (f : Rat -> Rat -> Rat) : List Rat -> Rat
 | [] => 0
 | a :: l => l.foldl f a
/-- The result is one of them, and not after any of them. -/
theorem foldR_spec {f : Rat -> Rat -> Rat} {R : Rat -> Rat -> Prop} (hr : ∀ a, R a a) (ht : ∀ a b c, R a b -> R b c -> R a c) (h1 : ∀ a b, R (f a b) a /\ R (f a b) b /\ (f a b = a ∨ f a b = b)) : ∀ (l : List Rat) (a : Rat), R (l.foldl f a) a /\ (∀ r ∈ l, R (l.foldl f a) r) /\ (l.foldl f a = a ∨ l.foldl f a ∈ l)
 | [], a => ⟨hr a, fun r h => by simp at h, .inl rfl⟩
 | b :: l, a => by
   obtain ⟨i1, i2, i3⟩ := foldR_spec hr ht h1 l (f a b)
   obtain ⟨j1, j2, j3⟩ := h1 a b
   rw [List.foldl_cons]
   refine ⟨ht _ _ _ i1 j1, fun r h => ?_, ?_⟩
   · rcases List.mem_cons.mp h with rfl | h
     · exact ht _ _ _ i1 j2
     · exact i2 r h
   · rcases i3 with e | e
     · rcases j3 with e2 | e2
       · exact .inl (e.trans e2)
       · exact .inr (by rw [e, e2]; simp)
     · exact .inr (List.mem_cons_of_mem _ e)
theorem fold1R_spec {f : Rat -> Rat -> Rat} {R : Rat -> Rat -> Prop} (hr : ∀ a, R a a) (ht : ∀ a b c, R a b -> R b c -> R a c) (h1 : ∀ a b, R (f a b) a /\ R (f a b) b /\ (f a b = a ∨ f a b = b)) {l : List Rat} (h : 1 <= l.length) : (∀ r ∈ l, R (fold1R f l) r) /\ fold1R f l ∈ l := by
 match l, h with
 | a :: l, _ =>
   obtain ⟨i1, i2, i3⟩ := foldR_spec hr ht h1 l a
   refine ⟨fun r h => ?_, ?_⟩
   · rcases List.mem_cons.mp h with rfl | h
     · exact i1
     · exact i2 r h
   · rcases i3 with e | e
     · show l.foldl f a ∈ a :: l
       rw [e]; simp
     · exact List.mem_cons_of_mem _ e
def mnR (a b : Rat) : Rat := if b < a then b else a
def mxR (a b : Rat) : Rat := if a < b then b else a
theorem mnR_spec (a b : Rat) : mnR a b <= a /\ mnR a b <= b /\ (mnR a b = a ∨ mnR a b = b) := by
 unfold mnR
 split
 · rename_i h; exact ⟨Rat.le_of_lt h, Rat.le_refl, .inr rfl⟩
 · rename_i h; exact ⟨Rat.le_refl, Rat.not_lt.mp h, .inl rfl⟩
theorem mxR_spec (a b : Rat) : a <= mxR a b /\ b <= mxR a b /\ (mxR a b = a ∨ mxR a b = b) := by
 unfold mxR
 split
 · rename_i h; exact ⟨Rat.le_of_lt h, Rat.le_refl, .inr rfl⟩
 · rename_i h; exact ⟨Rat.le_refl, Rat.not_lt.mp h, .inl rfl⟩
def loL (l : List Rat) : Rat := fold1R mnR l
def hiL (l : List Rat) : Rat := fold1R mxR l
theorem loL_spec {l : List Rat} (h : 1 <= l.length) : (∀ r ∈ l, loL l <= r) /\ loL l ∈ l := fold1R_spec (R := fun a b => a <= b) (fun _ => Rat.le_refl) (fun _ _ _ h1 h2 => Rat.le_trans h1 h2) mnR_spec h
theorem hiL_spec {l : List Rat} (h : 1 <= l.length) : (∀ r ∈ l, r <= hiL l) /\ hiL l ∈ l := fold1R_spec (R := fun a b => b <= a) (fun _ => Rat.le_refl) (fun _ _ _ h1 h2 => Rat.le_trans h2 h1) mxR_spec h
theorem mid_ge {t : Rat} (h0 : 0 <= t) (h1 : t <= 1) {m a b : Rat} (ha : m <= a) (hb : m <= b) : m <= a * (1 - t) + b * t := by
 have e1 : 0 <= 1 - t := (Rat.le_iff_sub_nonneg t 1).mp h1
 have h2 := Rat.mul_le_mul_of_nonneg_right ha e1
 have h3 := Rat.mul_le_mul_of_nonneg_right hb h0
 have e : m = m * (1 - t) + m * t := by grind
 rw [e]
 exact Rat.le_trans (Rat.add_le_add_right.mpr h2) (Rat.add_le_add_left.mpr h3)
theorem mid_le {t : Rat} (h0 : 0 <= t) (h1 : t <= 1) {m a b : Rat} (ha : a <= m) (hb : b <= m) : a * (1 - t) + b * t <= m := by
 have e1 : 0 <= 1 - t := (Rat.le_iff_sub_nonneg t 1).mp h1
 have h2 := Rat.mul_le_mul_of_nonneg_right ha e1
 have h3 := Rat.mul_le_mul_of_nonneg_right hb h0
 have e : m = m * (1 - t) + m * t := by grind
 rw [e]
 exact Rat.le_trans (Rat.add_le_add_right.mpr h2) (Rat.add_le_add_left.mpr h3)
end Go.Am.Bern

/- Bern: facts for BernLorentz. -/
namespace Go.Am.Bern
theorem itr_ge {t m : Rat} (h0 : 0 <= t) (h1 : t <= 1) : ∀ (n : Nat) (a : Nat -> Rat) (i : Nat), (∀ j, i <= j -> j <= i + n -> m <= a j) -> m <= itr t n a i
 | 0, a, i, h => h i (Nat.le_refl _) (by omega)
 | n + 1, a, i, h => by
   rw [itr]
   exact itr_ge h0 h1 n _ i fun j h2 h3 => mid_ge h0 h1 (h j h2 (by omega)) (h (j + 1) (by omega) (by omega))
theorem itr_le {t m : Rat} (h0 : 0 <= t) (h1 : t <= 1) : ∀ (n : Nat) (a : Nat -> Rat) (i : Nat), (∀ j, i <= j -> j <= i + n -> a j <= m) -> itr t n a i <= m
 | 0, a, i, h => h i (Nat.le_refl _) (by omega)
 | n + 1, a, i, h => by
   rw [itr]
   exact itr_le h0 h1 n _ i fun j h2 h3 => mid_le h0 h1 (h j h2 (by omega)) (h (j + 1) (by omega) (by omega))
theorem bval_in {t : Rat} (h0 : 0 <= t) (h1 : t <= 1) {l : List Rat} (h : 1 <= l.length) : loL l <= bval t l /\ bval t l <= hiL l := by
 have hm : ∀ j, 0 <= j -> j <= 0 + (l.length - 1) -> sqn l j ∈ l := fun j _ h2 => getD_mem (by omega)
 exact ⟨itr_ge h0 h1 _ _ 0 fun j h2 h3 => (loL_spec h).1 _ (hm j h2 h3), itr_le h0 h1 _ _ 0 fun j h2 h3 => (hiL_spec h).1 _ (hm j h2 h3)⟩
/-- The numbers at which the law looks. -/
def lx (d k i : Nat) : Rat := Rat.divInt ((2 * k + i : Nat) : Int) ((2 * 2 ^ d : Nat) : Int)
def lt2 (i : Nat) : Rat := Rat.divInt (i : Int) 2
theorem lx_eq (d k i : Nat) : lx d k i = ((k : Nat) + lt2 i) / ((2 ^ d : Nat) : Rat) := by
 unfold lx lt2
 rw [Rat.divInt_eq_div, Rat.divInt_eq_div]
 have h1 : ((2 ^ d : Nat) : Rat) ≠ 0 := by have := Nat.two_pow_pos d; exact_mod_cast (show (2 ^ d : Nat) ≠ 0 by omega)
 push_cast at *
 grind
theorem lx_val {p : List Int} (hp : isPoly p) {d k i : Nat} (hk : k < 2 ^ d) : hval (lx d k i) p = bval (lt2 i) (cnr p d k) := by
 rw [cnr_hval hp, Nat.mod_eq_of_lt hk, lx_eq]
theorem lt2_0 : lt2 0 = 0 := by decide +kernel
theorem lt2_1 : lt2 1 = half := by decide +kernel
theorem lt2_2 : lt2 2 = 1 := by decide +kernel
theorem lt2_in {i : Nat} (h : i <= 2) : 0 <= lt2 i /\ lt2 i <= 1 := by
 have : i = 0 ∨ i = 1 ∨ i = 2 := by omega
 rcases this with rfl | rfl | rfl <;> decide +kernel
theorem pow128b : ∀ d : Fin 7, 60 * (2 ^ 7 : Int) ^ d.val < 9223372036854775808 /\ 840000 * (2 ^ 7 : Int) ^ d.val + 840000 * (2 ^ 7 : Int) ^ d.val < 9223372036854775808 /\ 0 < 60 * (2 ^ 7 : Int) ^ d.val := by decide
def cmpOk (l : List Rat) : Prop := ∃ D M : Int, 0 < D /\ D < 9223372036854775808 /\ M + M < 9223372036854775808 /\ frs D M l
theorem cmp_ok {l : List Rat} (h : cmpOk l) {a b : Rat} (ha : a ∈ l) (hb : b ∈ l) : addOk a (-b) := by
 obtain ⟨D, M, h1, h2, h3, h4⟩ := h
 exact ⟨D, M, M, h1, h2, h4 a ha, (h4 b hb).neg, h3⟩
theorem cnr_less {p : List Int} (hp : isPoly p) {d k : Nat} (hd : d <= 6) : cmpOk (cnr p d k) := by
 have h := (cnr_dv hp.2.2 hp.1 hp.2.1 d k hd).1
 have hb := pow128b ⟨d, by omega⟩
 exact ⟨_, _, hb.2.2, hb.1, hb.2.1, h⟩
theorem val_less {p : List Int} (hp : isPoly p) {d k i : Nat} (hd : d <= 6) (hi : i <= 2) (h6 : d = 6 -> i = 0) : cmpOk (bval (lt2 i) (cnr p d k) :: cnr p d k) := by
 have hl : 1 <= (cnr p d k).length := by rw [cnr_length]; exact hp.1
 have hc := cnr_dv hp.2.2 hp.1 hp.2.1 d k hd
 have hin : bval (lt2 i) (cnr p d k) ∈ cnr p d k -> cmpOk (bval (lt2 i) (cnr p d k) :: cnr p d k) := fun hm => by
   obtain ⟨D, M, h1, h2, h3, h4⟩ := cnr_less (k := k) hp hd
   exact ⟨D, M, h1, h2, h3, fun r hr => by rcases List.mem_cons.mp hr with rfl | hr <;> first | exact h4 _ hm | exact h4 _ hr⟩
 have h3 : i = 0 ∨ i = 1 ∨ i = 2 := by omega
 rcases h3 with rfl | rfl | rfl
 · refine hin ?_
   rw [lt2_0, bval_zero]; exact getD_mem (by omega)
 · have hd5 : d <= 5 := by omega
   have ho := (hc.2 hd5).out.1
   have hb := pow128b ⟨d + 1, by omega⟩
   have hv : bval (lt2 1) (cnr p d k) ∈ dvL half (cnr p d k) := by
     have := bval_left half 1 (cnr p d k)
     rw [Rat.one_mul, bval_one] at this
     rw [lt2_1, <- this]
     exact getD_mem (by rw [dvL_length]; omega)
   have e1 : 60 * (2 ^ 7 : Int) ^ (d + 1) = 60 * (2 ^ 7) ^ d * 2 ^ 7 := by rw [Int.pow_succ (2 ^ 7), <- Int.mul_assoc]
   have e2 : 840000 * (2 ^ 7 : Int) ^ (d + 1) = 840000 * (2 ^ 7) ^ d * 2 ^ 7 := by rw [Int.pow_succ (2 ^ 7), <- Int.mul_assoc]
   dsimp only at hb
   rw [e1, e2] at hb
   refine ⟨_, _, hb.2.2, hb.1, hb.2.1, fun r hr => ?_⟩
   rcases List.mem_cons.mp hr with rfl | hr
   · exact ho _ hv
   · exact (hc.1 r hr).scale (k := 2 ^ 7) (by decide)
 · refine hin ?_
   rw [lt2_2, bval_one]; exact getD_mem (by omega)
theorem gcd_qp (r : Rat) : gcdR r.num r.den = 1 := by
 unfold gcdR
 have : Int.gcd r.num r.den = 1 := r.reduced
 rw [this]; try rfl
theorem lx_point {d k i : Nat} (hd : d <= 6) (hk : k < 2 ^ d) (hi : i <= 2) (h6 : d = 6 -> i = 0) : isPoint (qp (lx d k i)) 64 := by
 have hp : part 64 (lx d k i) := by
   rcases Nat.lt_or_ge d 6 with h | h
   · have h2 : 2 ^ d <= 32 := Nat.le_trans (Nat.pow_le_pow_right (by decide) (show d <= 5 by omega)) (by decide)
     have h3 := Nat.two_pow_pos d
     exact part_div (k := 2 * k + i) (D := 2 * 2 ^ d) (m := 64) (by omega) (by omega) (by omega)
   · have : d = 6 := by omega
     subst this
     have := h6 rfl
     subst this
     have e : lx 6 k 0 = Rat.divInt (k : Int) ((64 : Nat) : Int) := by
       unfold lx
       have := Rat.divInt_mul_right (n := (k : Int)) (d := 64) (a := 2) (by decide)
       show Rat.divInt _ _ = Rat.divInt (k : Int) 64
       rw [<- this]; congr 1; omega
     rw [e]
     exact part_div (k := k) (D := 64) (m := 64) (by decide) (by omega) (by decide)
 obtain ⟨h1, h2, h3⟩ := hp
 have := (lx d k i).den_pos
 exact ⟨by rw [qp_snd]; omega, by rw [qp_snd]; omega, by rw [qp_fst]; omega, by rw [qp_fst, qp_snd]; omega, gcd_qp _⟩
theorem isGiv_frac {a b : Int} (ha : -1000 <= a /\ a <= 1000) (hb : 1 <= b) (h : (240 : Int).tmod b = 0) : isGiv (fracR a b) := by
 rw [fracR_eq (by omega)]
 have hf : fr b 1000 (Rat.divInt a b) := ⟨a, rfl, ha.1, ha.2⟩
 have := hf.spec (by omega)
 have hd : b ∣ 240 := Int.dvd_of_tmod_eq_zero h
 have hden := (Rat.divInt a b).den_pos
 exact ⟨by rw [qp_fst]; omega, by rw [qp_fst]; omega, by rw [qp_snd]; omega, by rw [qp_snd]; exact Int.tmod_eq_zero_of_dvd (Int.dvd_trans this.1 hd), gcd_qp _⟩
theorem crn_giv (x : Int × Int) : isGiv (crn x) := by
 have h := den6_range x
 have hu := u64_nn x.1
 have e4 : (u64 x.1).tmod 2001 = u64 x.1 % 2001 := Int.tmod_eq_emod_of_nonneg hu.1
 exact isGiv_frac (by omega) h.1 h.2.2
theorem crnL_given (l : List PQ) {m : Nat} (h : 1 <= m) : given (crnL l m) m := by
 unfold crnL
 split
 · exact ⟨fun x hx => by
     rcases List.mem_singleton.mp hx with rfl
     exact ⟨by decide, by decide, by decide, by decide, by decide⟩, by simp, by simp; omega⟩
 · rename_i hn
   have hl : 1 <= l.length := by
     rcases Nat.eq_zero_or_pos l.length with h0 | h0
     · exact absurd (.inl (List.length_eq_zero_iff.mp h0)) hn
     · exact h0
   refine ⟨fun x hx => ?_, ?_, ?_⟩
   · obtain ⟨y, _, rfl⟩ := List.mem_map.mp hx
     exact crn_giv y
   · rw [List.length_map, List.length_take]; omega
   · rw [List.length_map, List.length_take]; omega
theorem btwL_of : ∀ (l m : List Rat), m.length + 1 = l.length -> (∀ i, i < m.length -> btw (l.getD i 0).num (l.getD (i + 1) 0).num (m.getD i 0).num) -> btwL (nm l) (nm m)
 | [], _, h, _ => by simp at h
 | [_], [], _, _ => trivial
 | [_], _ :: _, h, _ => by simp at h
 | _ :: _ :: _, [], h, _ => by simp at h
 | a :: b :: l, c :: m, h, hb => by
   refine ⟨hb 0 (by simp), btwL_of (b :: l) m (by simpa using h) fun i hi => ?_⟩
   have := hb (i + 1) (by simpa using hi)
   simpa using this
def mids (l : List Rat) : List Rat := (List.range (l.length - 1)).map fun i => rz l (i + 1)
theorem raise_split {l : List Rat} (h : 1 <= l.length) : raise l = [l.getD 0 0] ++ mids l ++ [l.getD (l.length - 1) 0] := by
 obtain ⟨n, hn⟩ : ∃ n, l.length = n + 1 := ⟨l.length - 1, by omega⟩
 have e0 := rz_first (l := l) (by omega)
 have e1 := rz_last (l := l) (by omega)
 unfold raise mids rzs
 rw [<- e0, <- e1, hn, Nat.add_sub_cancel, List.range_succ_eq_map, List.range_succ]
 simp
theorem mids_avg {l : List Rat} {i : Nat} (h : i < (mids l).length) : i + 1 < l.length /\ ∃ t : Rat, 0 <= t /\ t <= 1 /\ (mids l).getD i 0 = l.getD i 0 * (1 - t) + l.getD (i + 1) 0 * t := by
 unfold mids at *
 rw [List.length_map, List.length_range] at h
 refine ⟨by omega, Rat.divInt ((l.length - (i + 1) : Nat) : Int) l.length, ?_⟩
 have hp := part_div (k := l.length - (i + 1)) (D := l.length) (m := l.length) (by omega) (by omega) (by omega)
 have e : (1 : Rat) - Rat.divInt ((l.length - (i + 1) : Nat) : Int) l.length = Rat.divInt ((i + 1 : Nat) : Int) l.length := by
   rw [Rat.divInt_eq_div, Rat.divInt_eq_div]
   have h1 : ((l.length : Int) : Rat) ≠ 0 := by exact_mod_cast (show (l.length : Int) ≠ 0 by omega)
   have h2 : ((l.length - (i + 1) : Nat) : Int) = (l.length : Int) - (i + 1 : Nat) := by omega
   rw [h2]
   push_cast at *
   grind
 refine ⟨Rat.num_nonneg.mp hp.1, ?_, ?_⟩
 · have : (0 : Rat) <= 1 - Rat.divInt ((l.length - (i + 1) : Nat) : Int) l.length := by
     rw [e]
     exact Rat.num_nonneg.mp (part_div (k := i + 1) (D := l.length) (m := l.length) (by omega) (by omega) (by omega)).1
   exact (Rat.le_iff_sub_nonneg _ _).mpr this
 · rw [e, List.getD_eq_getElem?_getD, List.getElem?_map, List.getElem?_range h]
   show rz l (i + 1) = _
   rw [rz_mid (by omega) (by omega), Nat.add_sub_cancel]
theorem raise_mem {l : List Rat} (h : 1 <= l.length) {r : Rat} (hr : r ∈ raise l) : loL l <= r /\ r <= hiL l := by
 have hlo := (loL_spec h).1
 have hhi := (hiL_spec h).1
 have hm : ∀ i, i < l.length -> loL l <= l.getD i 0 /\ l.getD i 0 <= hiL l := fun i hi => ⟨hlo _ (getD_mem hi), hhi _ (getD_mem hi)⟩
 rw [raise_split h] at hr
 simp only [List.mem_append, List.mem_singleton] at hr
 rcases hr with (rfl | hr) | rfl
 · exact hm _ (by omega)
 · obtain ⟨i, hi, rfl⟩ := List.getElem_of_mem hr
   obtain ⟨h1, t, t0, t1, e⟩ := mids_avg hi
   have e2 : (mids l)[i] = (mids l).getD i 0 := by rw [List.getD_eq_getElem?_getD, List.getElem?_eq_getElem hi]; try rfl
   rw [e2, e]
   exact ⟨mid_ge t0 t1 (hm i (by omega)).1 (hm _ h1).1, mid_le t0 t1 (hm i (by omega)).2 (hm _ h1).2⟩
 · exact hm _ (by omega)
theorem zero_mid_ge {t a b : Rat} (t0 : 0 <= t) (t1 : t <= 1) : (0 <= a -> 0 <= b -> 0 <= a * (1 - t) + b * t) /\ (a <= 0 -> b <= 0 -> a * (1 - t) + b * t <= 0) := ⟨mid_ge t0 t1, mid_le t0 t1⟩
theorem raise_chg {l : List Rat} (h : 1 <= l.length) : chg (qs (raise l)) <= chg (qs l) := by
 rw [chg_nm, chg_nm, raise_split h]
 have hlen : (mids l).length + 1 = l.length := by unfold mids; rw [List.length_map, List.length_range]; omega
 have hb := btwL_of l (mids l) hlen fun i hi => by
   obtain ⟨h1, t, t0, t1, e⟩ := mids_avg hi
   rw [e]
   exact btw_rat (zero_mid_ge t0 t1).1 (zero_mid_ge t0 t1).2
 have hc := chgS_cut (nm l) (nm (mids l)) 0 [] hb
 have h1 : (nm l).take 1 = nm [l.getD 0 0] := by
   cases l with
   | nil => simp at h
   | cons a l => rfl
 have h2 : (nm l).drop ((nm l).length - 1) = nm [l.getD (l.length - 1) 0] := by
   have hl : (nm l).length = l.length := List.length_map ..
   unfold nm at *
   rw [hl, <- List.map_drop, drop_getD (d := 0) (by omega)]
   rw [show l.length - 1 + 1 = l.length by omega, List.drop_length]
 rw [h1, h2, List.append_nil, List.append_nil] at hc
 rw [nm_app, nm_app]
 exact hc
theorem raise_less' {l : List Rat} (hf : frs 240 240000000 l) (h1 : 1 <= l.length) (hl : l.length <= 6) : ∃ D M : Int, 0 < D /\ D < 9223372036854775808 /\ M + M < 9223372036854775808 /\ frs D M (raise l) /\ frs D M l := by
 have hend : ∀ r, r ∈ l -> fr (240 * (l.length : Int)) (1440000000 + 1440000000) r := fun r hr => by
   have := (hf r hr).scale (k := (l.length : Int)) (by omega)
   exact this.mono (by omega)
 refine ⟨240 * (l.length : Int), 1440000000 + 1440000000, by omega, by omega, by omega, fun r hr => ?_, hend⟩
 rw [raise_split h1] at hr
 simp only [List.mem_append, List.mem_singleton] at hr
 rcases hr with (rfl | hr) | rfl
 · exact hend _ (getD_mem (by omega))
 · unfold mids at hr
   obtain ⟨i, hi, rfl⟩ := List.mem_map.mp hr
   rw [List.mem_range] at hi
   rw [rz_mid (by omega) (by omega)]
   exact (rz_mul hf hl (by omega) (by omega)).2.add (rz_mul hf hl (by omega) (by omega)).2 (by omega)
 · exact hend _ (getD_mem (by omega))
theorem raise_less {l : List Rat} (hf : frs 240 240000000 l) (h1 : 1 <= l.length) (hl : l.length <= 6) : cmpOk (raise l) := by
 obtain ⟨D, M, h2, h3, h4, h5⟩ := raise_less' hf h1 hl
 exact ⟨D, M, h2, h3, h4, h5.1⟩
theorem raise_cmp {l : List Rat} (hf : frs 240 240000000 l) (h1 : 1 <= l.length) (hl : l.length <= 6) {a b : Rat} (ha : a ∈ l ∨ a ∈ raise l) (hb : b ∈ l ∨ b ∈ raise l) : addOk a (-b) := by
 obtain ⟨D, M, h2, h3, h4, h5⟩ := raise_less' hf h1 hl
 have hm : ∀ r, r ∈ l ∨ r ∈ raise l -> fr D M r := fun r hr => hr.elim (h5.2 r) (h5.1 r)
 exact ⟨D, M, M, h2, h3, hm a ha, (hm b hb).neg, h4⟩
theorem given_less {l : List Rat} (hf : frs 240 240000000 l) : cmpOk l := ⟨240, 240000000, by decide, by decide, by decide, hf⟩
end Go.Am.Bern

/- Bern: extremes; entries for BernLorentz. -/
namespace Go.Am.Bern
open Go Go.Am Go.Proofs
theorem call44 (l : List (Int × Int)) (h : 1 <= l.length /\ l.length < 1000000000000000 /\ lessOk l) : GCall Tryd.prog gl 44 true [.sl Q2 l] [] [ofD Q2 (lowL l l.length), ofD Q2 (highL l l.length)] [] := by
 refine gcall_of (X := (X44)) ((Xd_ok _ _)) (f := 44) (fn := Tryd.f44) (c := bodyOf Tryd.f44) (by kernel_rfl) (by kernel_rfl) (view := false) (rvs := [.cell 2 48, .cell 3 48]) (by kernel_rfl) (H := (H44 l)) 80 (by kernel_rfl) ?_
 have hL := loop44 l h.2.1 h.2.2
 refine of_eq (q := True /\ True /\ True /\ idxPre (0 : Int) l.length /\ True /\ True /\ idxPre (0 : Int) l.length /\ True /\ True /\ True /\ True /\ True /\ True /\ LoopOK X44 L44_0 { J := chk (0 : Nat) [(0 : Nat), (2 : Nat), (3 : Nat), (4 : Nat), (5 : Nat), (6 : Nat)] (inv44 l) (st44 l), exits := List.map (fun (x : List Nat × Ex) => x.snd) (ex44 l) } (RetR X44 true false [ResultVar.cell (2 : Tmp) (48 : TypeId), ResultVar.cell (3 : Tmp) (48 : TypeId)] [ofD Q2 (lowL l l.length), ofD Q2 (highL l l.length)] []) /\ (∃ (y : Nat), inv44 l y /\ (l = l /\ True /\ True /\ True /\ True /\ (1 : Int) = (y : Int) /\ True) /\ [(0 : Int), (0 : Int)] = [(0 : Int), (0 : Int)] /\ [(0 : Int), (0 : Int)] = [(0 : Int), (0 : Int)] /\ [(l.getD (0 : Nat) (0, 0)).fst, (l.getD (0 : Nat) (0, 0)).snd] = [(lowL l y).fst, (lowL l y).snd] /\ [(l.getD (0 : Nat) (0, 0)).fst, (l.getD (0 : Nat) (0, 0)).snd] = [(highL l y).fst, (highL l y).snd] /\ True) /\ (∀ (y : Unit), True -> ((True /\ (True /\ (True /\ (True /\ (True /\ True /\ True /\ True /\ [(lowL l l.length).fst, (lowL l l.length).snd] = [(lowL l l.length).fst, (lowL l l.length).snd] /\ [(highL l l.length).fst, (highL l l.length).snd] = [(highL l l.length).fst, (highL l l.length).snd] /\ True) /\ [(lowL l l.length).fst, (lowL l l.length).snd] = [(lowL l l.length).fst, (lowL l l.length).snd] /\ [(highL l l.length).fst, (highL l l.length).snd] = [(highL l l.length).fst, (highL l l.length).snd] /\ [(lowL l l.length).fst, (lowL l l.length).snd] = [(lowL l l.length).fst, (lowL l l.length).snd] /\ [(highL l l.length).fst, (highL l l.length).snd] = [(highL l l.length).fst, (highL l l.length).snd] /\ True) /\ True) /\ True) /\ (True /\ (True /\ (True /\ (True /\ True /\ True /\ True /\ [(lowL l l.length).fst, (lowL l l.length).snd] = [(lowL l l.length).fst, (lowL l l.length).snd] /\ [(highL l l.length).fst, (highL l l.length).snd] = [(highL l l.length).fst, (highL l l.length).snd] /\ True) /\ [(lowL l l.length).fst, (lowL l l.length).snd] = [(lowL l l.length).fst, (lowL l l.length).snd] /\ [(highL l l.length).fst, (highL l l.length).snd] = [(highL l l.length).fst, (highL l l.length).snd] /\ [(lowL l l.length).fst, (lowL l l.length).snd] = [(lowL l l.length).fst, (lowL l l.length).snd] /\ [(highL l l.length).fst, (highL l l.length).snd] = [(highL l l.length).fst, (highL l l.length).snd] /\ True) /\ True) /\ True) /\ True) /\ (True /\ (True /\ (True /\ (True /\ (True /\ True /\ True /\ True /\ [(lowL l l.length).fst, (lowL l l.length).snd] = [(lowL l l.length).fst, (lowL l l.length).snd] /\ [(highL l l.length).fst, (highL l l.length).snd] = [(highL l l.length).fst, (highL l l.length).snd] /\ True) /\ [(lowL l l.length).fst, (lowL l l.length).snd] = [(lowL l l.length).fst, (lowL l l.length).snd] /\ [(highL l l.length).fst, (highL l l.length).snd] = [(highL l l.length).fst, (highL l l.length).snd] /\ [(lowL l l.length).fst, (lowL l l.length).snd] = [(lowL l l.length).fst, (lowL l l.length).snd] /\ [(highL l l.length).fst, (highL l l.length).snd] = [(highL l l.length).fst, (highL l l.length).snd] /\ True) /\ True) /\ True) /\ True) /\ True) /\ (True /\ True /\ True) /\ ([(lowL l l.length).fst, (lowL l l.length).snd] = [(lowL l l.length).fst, (lowL l l.length).snd] /\ [(highL l l.length).fst, (highL l l.length).snd] = [(highL l l.length).fst, (highL l l.length).snd] /\ True) /\ True) /\ True) (by kernel_rfl) ?_
 have e1 : lowL l 1 = l.getD 0 (0, 0) := by
   have := lowL_step (l := l) (k := 0) (by omega)
   have e : lowL l 0 = l.getD 0 (0, 0) := rfl
   rw [this, e]; split <;> rfl
 have e2 : highL l 1 = l.getD 0 (0, 0) := by
   have := highL_step (l := l) (k := 0) (by omega)
   have e : highL l 0 = l.getD 0 (0, 0) := rfl
   rw [this, e]; split <;> rfl
 simp only [zz]
 refine ⟨by unfold idxPre; omega, by unfold idxPre; omega, hL _, ?_⟩
 refine ⟨⟨1, ⟨by omega, by omega⟩, rfl, by rw [e1], by rw [e2]⟩, fun _ _ => trivial⟩
theorem lowL_le {l : List PQ} : ∀ k, k <= l.length -> ∀ j, j < k -> rat (lowL l k) <= rat (l.getD j (0, 0))
 | 0, _, j, hj => absurd hj (Nat.not_lt_zero _)
 | k + 1, hk, j, hj => by
   have ih := lowL_le (l := l) k (by omega)
   rw [lowL_step (by omega)]
   by_cases e : j = k
   · subst e
     split
     · exact Rat.le_refl
     · rename_i h; exact Rat.not_lt.mp h
   · split
     · rename_i h; exact Rat.le_trans (Rat.le_of_lt h) (ih j (by omega))
     · exact ih j (by omega)
theorem highL_ge {l : List PQ} : ∀ k, k <= l.length -> ∀ j, j < k -> rat (l.getD j (0, 0)) <= rat (highL l k)
 | 0, _, j, hj => absurd hj (Nat.not_lt_zero _)
 | k + 1, hk, j, hj => by
   have ih := highL_ge (l := l) k (by omega)
   rw [highL_step (by omega)]
   by_cases e : j = k
   · subst e
     split
     · exact Rat.le_refl
     · rename_i h; exact Rat.not_lt.mp h
   · split
     · rename_i h; exact Rat.le_trans (ih j (by omega)) (Rat.le_of_lt h)
     · exact ih j (by omega)
theorem mem_qs {l : List Rat} {x : PQ} (h : x ∈ qs l) : ∃ r ∈ l, x = qp r := by
 unfold qs at h
 obtain ⟨r, hr, rfl⟩ := List.mem_map.mp h
 exact ⟨r, hr, rfl⟩
theorem lowL_qs {l : List Rat} (h : 1 <= l.length) : lowL (qs l) (qs l).length = qp (loL l) := by
 have hl := qs_length l
 obtain ⟨r, hr, e⟩ := mem_qs (lowL_mem (l := qs l) (k := (qs l).length) (by omega))
 obtain ⟨h1, h2⟩ := loL_spec h
 rw [e]
 congr 1
 have h3 := h1 r hr
 obtain ⟨j, hj, e2⟩ := List.getElem_of_mem h2
 have h4 := lowL_le (l := qs l) (qs l).length (Nat.le_refl _) j (by omega)
 rw [e, rat_qp, qs_getD hj, rat_qp] at h4
 have e3 : l.getD j 0 = loL l := by rw [<- e2, List.getD_eq_getElem?_getD, List.getElem?_eq_getElem hj]; try rfl
 rw [e3] at h4
 exact Rat.le_antisymm h4 h3
theorem highL_qs {l : List Rat} (h : 1 <= l.length) : highL (qs l) (qs l).length = qp (hiL l) := by
 have hl := qs_length l
 obtain ⟨r, hr, e⟩ := mem_qs (highL_mem (l := qs l) (k := (qs l).length) (by omega))
 obtain ⟨h1, h2⟩ := hiL_spec h
 rw [e]
 congr 1
 have h3 := h1 r hr
 obtain ⟨j, hj, e2⟩ := List.getElem_of_mem h2
 have h4 := highL_ge (l := qs l) (qs l).length (Nat.le_refl _) j (by omega)
 rw [e, rat_qp, qs_getD hj, rat_qp] at h4
 have e3 : l.getD j 0 = hiL l := by rw [<- e2, List.getD_eq_getElem?_getD, List.getElem?_eq_getElem hj]; try rfl
 rw [e3] at h4
 exact Rat.le_antisymm h3 h4
def extOk (l : List PQ) : Prop := goodL l /\ 1 <= l.length /\ l.length < 1000000 /\ cmpOk (rats l)
theorem ext44 (l : List PQ) (h : extOk l) : GCall Tryd.prog gl 44 true [.sl Q2 l] [] [ofD Q2 (qp (loL (rats l))), ofD Q2 (qp (hiL (rats l)))] [] := by
 obtain ⟨h1, h2, h3, h4⟩ := h
 have hr := rats_length l
 have h1' : qs (rats l) = l := h1
 have := call44 l ⟨h2, by omega, fun x hx => by
   rw [<- h1'] at hx
   obtain ⟨r, hr, rfl⟩ := mem_qs hx
   refine ⟨good_qp _, fun y hy => ?_⟩
   rw [<- h1'] at hy
   obtain ⟨s, hs, rfl⟩ := mem_qs hy
   rw [rat_qp, rat_qp]
   exact cmp_ok h4 hr hs⟩
 have e1 := lowL_qs (l := rats l) (by omega)
 have e2 := highL_qs (l := rats l) (by omega)
 rw [h1'] at e1 e2
 rwa [e1, e2] at this
def e44 : Entry Tryd.prog gl := entry1 44 ⟨Tryd.f44, by kernel_rfl, by kernel_rfl, by kernel_rfl⟩ SQ (extOk) true (fun l => [ofD Q2 (qp (loL (rats l))), ofD Q2 (qp (hiL (rats l)))]) (fun _ => []) (ext44)
theorem v13c (p : List Int) (q : PQ) (h : yesP p /\ isPiece q) : GCall Tryd.prog gl 13 false [.sl I64 p, ofD Q2 q] [] [.sl Q2 (qc p q.1.toNat q.2.toNat), .int .i64 0] [] := by
 have := call13 p q h.1.1
 rwa [show cornersR p q = qc p q.1.toNat q.2.toNat by simp [cornersR, h.1.2, h.2], show cornersE p q = 0 by simp [cornersE, h.1.2, h.2]] at this
def v13 : Entry Tryd.prog gl := entry2 13 ⟨Tryd.f13, by kernel_rfl, by kernel_rfl, by kernel_rfl⟩ SI Q2 (fun p q => yesP p /\ isPiece q) false (fun p q => [.sl Q2 (qc p q.1.toNat q.2.toNat), .int .i64 0]) (fun _ _ => []) v13c
theorem v45c (p : List Int) (x : PQ) (h : yesP p /\ isPoint x 64) : GCall Tryd.prog gl 45 true [.sl I64 p, ofD Q2 x] [] [ofD Q2 (qp (hval (rat x) p)), .int .i64 0] [] := by
 have := call45 p x h.1.1
 rwa [show valueR p x = qp (hval (rat x) p) by simp [valueR, h.1.2, h.2], show valueE p x = 0 by simp [valueE, h.1.2, h.2]] at this
/-- The number at which round i looks, and the value there. -/
def lQ (q : PQ) (i : Nat) : PQ := qp (lx q.1.toNat q.2.toNat i)
def vQ (p : List Int) (q : PQ) (i : Nat) : PQ := qp (bval (lt2 i) (cnr p q.1.toNat q.2.toNat))
structure InRound (p : List Int) (q : PQ) (i : Nat) : Prop where
 hp : isPoly p
 hq : isPiece q
 hi : i <= 2
 h6 : q.1.toNat = 6 -> i = 0
structure LessNo (x y : PQ) : Prop where
 gx : good x
 gy : good y
 ok : addOk (rat x) (-rat y)
 no : ¬ rat x < rat y
theorem piece_pow {q : PQ} (h : isPiece q) : ((2 ^ q.1.toNat : Nat) : Int) = 2 ^ q.1.toNat /\ q.1.toNat <= 6 /\ q.2.toNat < 2 ^ q.1.toNat /\ (q.2.toNat : Int) = q.2 := by
 have h2 := h
 unfold isPiece at h2
 have e : ((2 ^ q.1.toNat : Nat) : Int) = 2 ^ q.1.toNat := by rw [Int.natCast_pow]; try rfl
 refine ⟨e, by omega, by omega, by omega⟩
theorem w46c {p : List Int} {q : PQ} {i : Nat} (h : InRound p q i) (a b : Int) (hab : a = 2 * q.2 + i /\ b = 2 * 2 ^ q.1.toNat) : GCall Tryd.prog gl 46 true [.int .i64 a, .int .i64 b] [] [ofD Q2 (lQ q i)] [] := by
 obtain ⟨rfl, rfl⟩ := hab
 obtain ⟨h1, h2, h3, h4⟩ := piece_pow h.hq
 have hi := h.hi
 have h5 : 2 ^ q.1.toNat <= 2 ^ 6 := Nat.pow_le_pow_right (by decide) h2
 have h6 := Nat.two_pow_pos q.1.toNat
 have := call46 (2 * q.2 + i) (2 * 2 ^ q.1.toNat) ⟨by unfold small; omega, by unfold small; omega⟩
 have e : fracR (2 * q.2 + i) (2 * 2 ^ q.1.toNat) = lQ q i := by
   rw [fracR_eq (by omega)]
   unfold lQ lx
   congr 2 <;> omega
 rwa [e] at this
def w46 {p : List Int} {q : PQ} {i : Nat} (h : InRound p q i) : Entry Tryd.prog gl := entry2 46 ⟨Tryd.f46, by kernel_rfl, by kernel_rfl, by kernel_rfl⟩ I64 I64 (fun (a b : Int) => a = 2 * q.2 + i /\ b = 2 * 2 ^ q.1.toNat) true (fun _ _ => [ofD Q2 (lQ q i)]) (fun _ _ => []) (w46c h)
theorem w45c {p : List Int} {q : PQ} {i : Nat} (h : InRound p q i) (p' : List Int) (x : PQ) (hx : p' = p /\ x = lQ q i) : GCall Tryd.prog gl 45 true [.sl I64 p', ofD Q2 x] [] [ofD Q2 (vQ p q i), .int .i64 0] [] := by
 obtain ⟨rfl, rfl⟩ := hx
 obtain ⟨h1, h2, h3, h4⟩ := piece_pow h.hq
 have hl := h.hp.2.1
 have := v45c p' (lQ q i) ⟨⟨by omega, h.hp⟩, lx_point h2 h3 h.hi h.h6⟩
 rwa [show qp (hval (rat (lQ q i)) p') = vQ p' q i by unfold vQ lQ; rw [rat_qp, lx_val h.hp h3]] at this
def w45 {p : List Int} {q : PQ} {i : Nat} (h : InRound p q i) : Entry Tryd.prog gl := entry2 45 ⟨Tryd.f45, by kernel_rfl, by kernel_rfl, by kernel_rfl⟩ SI Q2 (fun p' x => p' = p /\ x = lQ q i) true (fun _ _ => [ofD Q2 (vQ p q i), .int .i64 0]) (fun _ _ => []) (w45c h)
theorem n47c (x y : PQ) (h : LessNo x y) : GCall Tryd.prog gl 47 true [ofD Q2 x, ofD Q2 y] [] [.ff] [] := by
 have := call47 (rat x) (rat y) h.ok
 rw [decide_eq_false h.no, h.gx, h.gy] at this; exact this.lit
def n47 : Entry Tryd.prog gl := entry2 47 ⟨Tryd.f47, by kernel_rfl, by kernel_rfl, by kernel_rfl⟩ Q2 Q2 LessNo true (fun _ _ => [.ff]) (fun _ _ => []) n47c
theorem round_less {p : List Int} {q : PQ} {i : Nat} (h : InRound p q i) : LessNo (vQ p q i) (qp (loL (cnr p q.1.toNat q.2.toNat))) /\ LessNo (qp (hiL (cnr p q.1.toNat q.2.toNat))) (vQ p q i) := by
 obtain ⟨h1, h2, h3, h4⟩ := piece_pow h.hq
 have hl : 1 <= (cnr p q.1.toNat q.2.toNat).length := by rw [cnr_length]; exact h.hp.1
 have hc := val_less (k := q.2.toNat) h.hp h2 h.hi h.h6
 have hb := bval_in (t := lt2 i) (lt2_in h.hi).1 (lt2_in h.hi).2 hl
 have m1 := List.mem_cons_of_mem (bval (lt2 i) (cnr p q.1.toNat q.2.toNat)) (loL_spec hl).2
 have m2 := List.mem_cons_of_mem (bval (lt2 i) (cnr p q.1.toNat q.2.toNat)) (hiL_spec hl).2
 unfold vQ
 exact ⟨⟨good_qp _, good_qp _, by rw [rat_qp, rat_qp]; exact cmp_ok hc (by simp) m1, by rw [rat_qp, rat_qp]; exact Rat.not_lt.mpr hb.1⟩, ⟨good_qp _, good_qp _, by rw [rat_qp, rat_qp]; exact cmp_ok hc m2 (by simp), by rw [rat_qp, rat_qp]; exact Rat.not_lt.mpr hb.2⟩⟩
end Go.Am.Bern

/- Bern: the law BernLorentz: its loops. -/
namespace Go.Am.Bern
open Go Go.Am Go.Proofs
noncomputable abbrev E8 : EL := [e12v, e17, v13, e44, n47, e42, y34, y35, e33, e18]
noncomputable def L8_0 : Code := lp (bodyOf Tryd.f8) 0
noncomputable def L8_2 : Code := lp (bodyOf Tryd.f8) 2
noncomputable def L8_4 : Code := lp (bodyOf Tryd.f8) 4
def st8a (c : List PQ) (p : List Int) (q : PQ) (a : List PQ) (i : Nat) : St := ⟨.dead :: .dead :: .sl Q2 c :: dd 4 ++ .sl I64 p :: .ptr 0 0 [] :: .sl Q2 a :: .dead :: .int .i64 i :: dd 225, [.bx (ofD Q2 q)]⟩
def ex8a (c : List PQ) (p : List Int) (q : PQ) (a : List PQ) : List (List Nat × Ex) := [([2, 7, 8, 9], ⟨0, Unit, fun _ => True, fun _ => ⟨.dead :: .dead :: .sl Q2 c :: dd 4 ++ .sl I64 p :: .ptr 0 0 [] :: .sl Q2 a :: dd 227, [.bx (ofD Q2 q)]⟩⟩)]
def h8a (c : List PQ) (p : List Int) (q : PQ) (a : List PQ) : Hint := ⟨chk 0 [2, 7, 8, 9, 11] (fun i => i <= a.length) (st8a c p q a), (ex8a c p q a).map (·.2)⟩
def st8b (c : List PQ) (p : List Int) (q : PQ) (a : List PQ) (lo hi : PQ) (i : Nat) : St := ⟨.dead :: .dead :: .sl Q2 c :: dd 4 ++ .sl I64 p :: .ptr 0 0 [] :: .sl Q2 a :: .dead :: .dead :: .ptr 1 0 [] :: .ptr 2 0 [] :: .int .i64 (2 ^ q.1.toNat) :: .int .i64 i :: dd 221, [.bx (ofD Q2 q), .bx (ofD Q2 lo), .bx (ofD Q2 hi)]⟩
def inv8b (q : PQ) (i : Nat) : Prop := i <= 3 /\ (q.1.toNat = 6 -> i <= 1)
def fm8b (c : List PQ) (p : List Int) (q : PQ) (a : List PQ) (lo hi : PQ) : List Fam := [⟨Nat, inv8b q, st8b c p q a lo hi, fun i => 3 - i, fun _ _ => none⟩]
def ex8b (c : List PQ) : List (List Nat × Ex) := [([2], ⟨2, Unit, fun _ => True, fun _ => ⟨.dead :: .dead :: .sl Q2 c :: dd 234, []⟩⟩)]
def h8b (c : List PQ) (p : List Int) (q : PQ) (a : List PQ) (lo hi : PQ) : Hint := ⟨chks 0 [2, 7, 8, 9, 12, 13, 14, 15] (fm8b c p q a lo hi), (ex8b c).map (·.2)⟩
def st8c (x y l r : List PQ) (i : Nat) : St := ⟨dd 18 ++ .sl Q2 x :: .sl Q2 y :: .dead :: .ptr 0 0 [] :: .dead :: .int .i64 i :: dd 213, [.bx (.ar (.sl Q2) 2 [l, r])]⟩
def ex8c (x y l r : List PQ) : List (List Nat × Ex) := [([18, 19, 21], ⟨4, Unit, fun _ => True, fun _ => ⟨dd 18 ++ .sl Q2 x :: .sl Q2 y :: .dead :: .ptr 0 0 [] :: dd 215, [.bx (.ar (.sl Q2) 2 [l, r])]⟩⟩)]
def h8c (x y l r : List PQ) : Hint := ⟨chk 0 [18, 19, 21, 23] (fun i => i <= y.length) (st8c x y l r), (ex8c x y l r).map (·.2)⟩
set_option maxRecDepth 10000 in
theorem loop8a (c : List PQ) (p : List Int) (q : PQ) (a : List PQ) (ha : a.length < 1000000) (hd : ∀ i, i < a.length -> 1 <= (a.getD i (0, 0)).2) : LoopOK (X E8) L8_0 (h8a c p q a) (RetR (X E8) true false [.tmp 6] [.tt] []) := by
 refine loop_ok (X_ok _) (H := fun _ _ => none) [2, 7, 8, 9, 11] (fun i => i <= a.length) (st8a c p q a) (fun i => a.length - i) (ex8a c p q a) 80 fun (i : Nat) hi => ?_
 refine of_eq (q := True /\ True /\ True /\ True /\ ((i : Int) < (a.length : Int) -> True /\ True /\ idxPre (i : Int) a.length /\ idxPre (1 : Int) (2 : Nat) /\ True /\ True /\ ((a.getD i (0, 0)).snd < 1 -> True /\ True /\ (false = true /\ True) /\ True) /\ (¬(a.getD i (0, 0)).snd < 1 -> True /\ inR .i64 ((i : Int) + 1) /\ True /\ ∃ (y : Nat), (y <= a.length /\ a.length - y < a.length - i) /\ (c = c /\ p = p /\ True /\ a = a /\ (i : Int) + 1 = (y : Int) /\ True) /\ [q.fst, q.snd] = [q.fst, q.snd] /\ True)) /\ (¬(i : Int) < (a.length : Int) -> ∃ (y : Unit), True /\ (c = c /\ p = p /\ True /\ a = a /\ True) /\ [q.fst, q.snd] = [q.fst, q.snd] /\ True)) (by kernel_rfl) ?_
 simp only [zz]
 refine ⟨fun h => ?_, fun h => trivial⟩
 have := hd i (by omega)
 exact ⟨idx_nat (by omega), i12, fun h2 => by omega, fun _ => ⟨by simp only [inR]; omega, i + 1, by omega, by omega⟩⟩
set_option maxRecDepth 10000 in
theorem loop8c (x y l r : List PQ) (ha : y.length < 1000000) (hd : ∀ i, i < y.length -> 1 <= (y.getD i (0, 0)).2) : LoopOK (X E8) L8_4 (h8c x y l r) (RetR (X E8) true false [.tmp 6] [.tt] []) := by
 refine loop_ok (X_ok _) (H := fun _ _ => none) [18, 19, 21, 23] (fun i => i <= y.length) (st8c x y l r) (fun i => y.length - i) (ex8c x y l r) 80 fun (i : Nat) hi => ?_
 refine of_eq (q := True /\ True /\ True /\ True /\ ((i : Int) < (y.length : Int) -> True /\ True /\ idxPre (i : Int) y.length /\ idxPre (1 : Int) (2 : Nat) /\ True /\ True /\ ((y.getD i (0, 0)).snd < 1 -> True /\ True /\ (false = true /\ True) /\ True) /\ (¬(y.getD i (0, 0)).snd < 1 -> True /\ inR .i64 ((i : Int) + 1) /\ True /\ ∃ (y_1 : Nat), (y_1 <= y.length /\ y.length - y_1 < y.length - i) /\ (x = x /\ y = y /\ True /\ (i : Int) + 1 = (y_1 : Int) /\ True) /\ [l, r] = [l, r] /\ True)) /\ (¬(i : Int) < (y.length : Int) -> ∃ (y_1 : Unit), True /\ (x = x /\ y = y /\ True /\ True) /\ [l, r] = [l, r] /\ True)) (by kernel_rfl) ?_
 simp only [zz]
 refine ⟨fun h => ?_, fun h => trivial⟩
 have := hd i (by omega)
 exact ⟨idx_nat (by omega), i12, fun h2 => by omega, fun _ => ⟨by simp only [inR]; omega, i + 1, by omega, by omega⟩⟩
set_option maxRecDepth 10000 in
theorem loop8b (c : List PQ) (p : List Int) (q : PQ) (a : List PQ) (lo hi : PQ) (hp : isPoly p) (hq : isPiece q) (ha : a = qc p q.1.toNat q.2.toNat) (hlo : lo = qp (loL (cnr p q.1.toNat q.2.toNat))) (hhi : hi = qp (hiL (cnr p q.1.toNat q.2.toNat))) :
   LoopOK (X E8) L8_2 (h8b c p q a lo hi) (RetR (X E8) true false [.tmp 6] [.tt] []) := by
 refine loop_famsX [2, 7, 8, 9, 12, 13, 14, 15] (fm8b c p q a lo hi) (ex8b c) 250 ⟨fun (i : Nat) hi => ?_, trivial⟩
 obtain ⟨e1, e2, e3, e4⟩ := piece_pow hq
 have e5 : 2 ^ q.1.toNat <= 2 ^ 6 := Nat.pow_le_pow_right (by decide) e2
 have e6 := Nat.two_pow_pos q.1.toNat
 have e7 : q.1.toNat = 6 -> (2 : Int) ^ q.1.toNat = 64 := fun h => by rw [h]; try rfl
 have e8 : q.1.toNat <= 5 -> (2 : Int) ^ q.1.toNat <= 32 := fun h => by
   have : 2 ^ q.1.toNat <= 2 ^ 5 := Nat.pow_le_pow_right (by decide) h
   omega
 obtain ⟨hi3, hi6⟩ : i <= 3 /\ (q.1.toNat = 6 -> i <= 1) := hi
 have hlen : a.length = p.length := by rw [ha, qc_length]
 have hl := hp.1
 have hl7 := hp.2.1
 by_cases hr : InRound p q i
 · have hr6 := hr.h6
   have hr2 := hr.hi
   obtain ⟨hL1, hL2⟩ := round_less hr
   rw [<- hlo] at hL1
   rw [<- hhi] at hL2
   have hC : (cnr p q.1.toNat q.2.toNat).length = p.length := cnr_length _ _ _
   have hI0 : (i : Int) = 0 -> vQ p q i = a.getD 0 (0, 0) := fun h => by
     have : i = 0 := by omega
     subst this
     unfold vQ
     rw [lt2_0, bval_zero, ha]
     exact (qs_getD (by omega)).symm
   have hI2 : (i : Int) = 2 -> vQ p q i = a.getD ((a.length : Int) - 1).toNat (0, 0) := fun h => by
     have : i = 2 := by omega
     subst this
     unfold vQ
     rw [lt2_2, bval_one, show ((a.length : Int) - 1).toNat = (cnr p q.1.toNat q.2.toNat).length - 1 by omega, ha]
     exact (qs_getD (by omega)).symm
   have hnext : ∃ y : Nat, (inv8b q y /\ 3 - y < 3 - i) /\ (i : Int) + 1 = (y : Int) := ⟨i + 1, ⟨⟨by omega, fun h => by have := hr6 h; omega⟩, by omega⟩, by omega⟩
   have hidx : idxPre ((a.length : Int) - 1) a.length := by unfold idxPre; omega
   have hidx0 : idxPre 0 a.length := by unfold idxPre; omega
   refine ⟨X [w46 hr, w45 hr, n47], X_ok _, rfl, rfl, rfl, rfl, ?_⟩
   refine of_eq (q := True /\ True /\ True /\ ((i : Int) <= 2 -> True /\ True /\ True /\ True /\ ((2 : Int) ^ q.fst.toNat <= 32 -> True /\ True /\ idxPre (1 : Int) (2 : Nat) /\ True /\ inR .i64 ((2 : Int) * q.snd) /\ True /\ inR .i64 ((2 : Int) * q.snd + (i : Int)) /\ True /\ inR .i64 ((2 : Int) * 2 ^ q.fst.toNat) /\ (((2 : Int) * q.snd + (i : Int) = 2 * q.snd + (i : Int) /\ (2 : Int) * 2 ^ q.fst.toNat = 2 * 2 ^ q.fst.toNat) /\ True) /\ ((p = p /\ ((lQ q i).fst, (lQ q i).snd) = lQ q i) /\ True) /\ True /\ True /\ True /\ True /\ True /\ True /\ True /\ True /\ True /\ (¬(0 : Int) = 0 -> True /\ True /\ True /\ True /\ True /\ (false = true /\ True) /\ True) /\ (¬¬(0 : Int) = 0 -> True /\ True /\ (LessNo ((vQ p q i).fst, (vQ p q i).snd) (lo.fst, lo.snd) /\ True) /\ True /\ True /\ True /\ True /\ (LessNo (hi.fst, hi.snd) ((vQ p q i).fst, (vQ p q i).snd) /\ True) /\ True /\ True /\ True /\ True /\ ((i : Int) = 0 -> True /\ True /\ idxPre (0 : Int) a.length /\ True /\ True /\ True /\ True /\ (¬((vQ p q i).fst, (vQ p q i).snd) = ((a.getD (0 : Nat) (0, 0)).fst, (a.getD (0 : Nat) (0, 0)).snd) -> True /\ True /\ True /\ (false = true /\ True) /\ True) /\ (¬¬((vQ p q i).fst, (vQ p q i).snd) = ((a.getD (0 : Nat) (0, 0)).fst, (a.getD (0 : Nat) (0, 0)).snd) -> True /\ True /\ True /\ ((i : Int) = 2 -> True /\ True /\ True /\ True /\ inR .i64 ((a.length : Int) - 1) /\ idxPre ((a.length : Int) - 1) a.length /\ True /\ True /\ True /\ True /\ (¬((vQ p q i).fst, (vQ p q i).snd) = ((a.getD ((a.length : Int) - 1).toNat ((0 : Int), (0 : Int))).fst, (a.getD ((a.length : Int) - 1).toNat ((0 : Int), (0 : Int))).snd) -> True /\ True /\ (false = true /\ True) /\ True) /\ (¬¬((vQ p q i).fst, (vQ p q i).snd) = ((a.getD ((a.length : Int) - 1).toNat ((0 : Int), (0 : Int))).fst, (a.getD ((a.length : Int) - 1).toNat ((0 : Int), (0 : Int))).snd) -> True /\ inR .i64 ((i : Int) + 1) /\ True /\ ∃ (y : Nat), (inv8b q y /\ (3 : Nat) - y < 3 - i) /\ (c = c /\ p = p /\ True /\ a = a /\ True /\ True /\ (2 : Int) ^ q.fst.toNat = 2 ^ q.fst.toNat /\ (i : Int) + 1 = (y : Int) /\ True) /\ [q.fst, q.snd] = [q.fst, q.snd] /\ [lo.fst, lo.snd] = [lo.fst, lo.snd] /\ [hi.fst, hi.snd] = [hi.fst, hi.snd] /\ True)) /\ (¬(i : Int) = 2 -> True /\ True /\ True /\ inR .i64 ((i : Int) + 1) /\ True /\ ∃ (y : Nat), (inv8b q y /\ (3 : Nat) - y < 3 - i) /\ (c = c /\ p = p /\ True /\ a = a /\ True /\ True /\ (2 : Int) ^ q.fst.toNat = 2 ^ q.fst.toNat /\ (i : Int) + 1 = (y : Int) /\ True) /\ [q.fst, q.snd] = [q.fst, q.snd] /\ [lo.fst, lo.snd] = [lo.fst, lo.snd] /\ [hi.fst, hi.snd] = [hi.fst, hi.snd] /\ True))) /\ (¬(i : Int) = 0 -> True /\ True /\ True /\ True /\ True /\ ((i : Int) = 2 -> True /\ True /\ True /\ True /\ inR .i64 ((a.length : Int) - 1) /\ idxPre ((a.length : Int) - 1) a.length /\ True /\ True /\ True /\ True /\ (¬((vQ p q i).fst, (vQ p q i).snd) = ((a.getD ((a.length : Int) - 1).toNat ((0 : Int), (0 : Int))).fst, (a.getD ((a.length : Int) - 1).toNat ((0 : Int), (0 : Int))).snd) -> True /\ True /\ (false = true /\ True) /\ True) /\ (¬¬((vQ p q i).fst, (vQ p q i).snd) = ((a.getD ((a.length : Int) - 1).toNat ((0 : Int), (0 : Int))).fst, (a.getD ((a.length : Int) - 1).toNat ((0 : Int), (0 : Int))).snd) -> True /\ inR .i64 ((i : Int) + 1) /\ True /\ ∃ (y : Nat), (inv8b q y /\ (3 : Nat) - y < 3 - i) /\ (c = c /\ p = p /\ True /\ a = a /\ True /\ True /\ (2 : Int) ^ q.fst.toNat = 2 ^ q.fst.toNat /\ (i : Int) + 1 = (y : Int) /\ True) /\ [q.fst, q.snd] = [q.fst, q.snd] /\ [lo.fst, lo.snd] = [lo.fst, lo.snd] /\ [hi.fst, hi.snd] = [hi.fst, hi.snd] /\ True)) /\ (¬(i : Int) = 2 -> True /\ True /\ True /\ inR .i64 ((i : Int) + 1) /\ True /\ ∃ (y : Nat), (inv8b q y /\ (3 : Nat) - y < 3 - i) /\ (c = c /\ p = p /\ True /\ a = a /\ True /\ True /\ (2 : Int) ^ q.fst.toNat = 2 ^ q.fst.toNat /\ (i : Int) + 1 = (y : Int) /\ True) /\ [q.fst, q.snd] = [q.fst, q.snd] /\ [lo.fst, lo.snd] = [lo.fst, lo.snd] /\ [hi.fst, hi.snd] = [hi.fst, hi.snd] /\ True)))) /\ (¬(2 : Int) ^ q.fst.toNat <= 32 -> True /\ True /\ True /\ ((i : Int) = 0 -> True /\ idxPre (1 : Int) (2 : Nat) /\ True /\ inR .i64 ((2 : Int) * q.snd) /\ True /\ inR .i64 ((2 : Int) * q.snd + (i : Int)) /\ True /\ inR .i64 ((2 : Int) * 2 ^ q.fst.toNat) /\ (((2 : Int) * q.snd + (i : Int) = 2 * q.snd + (i : Int) /\ (2 : Int) * 2 ^ q.fst.toNat = 2 * 2 ^ q.fst.toNat) /\ True) /\ ((p = p /\ ((lQ q i).fst, (lQ q i).snd) = lQ q i) /\ True) /\ True /\ True /\ True /\ True /\ True /\ True /\ True /\ True /\ True /\ (¬(0 : Int) = 0 -> True /\ True /\ True /\ True /\ True /\ (false = true /\ True) /\ True) /\ (¬¬(0 : Int) = 0 -> True /\ True /\ (LessNo ((vQ p q i).fst, (vQ p q i).snd) (lo.fst, lo.snd) /\ True) /\ True /\ True /\ True /\ True /\ (LessNo (hi.fst, hi.snd) ((vQ p q i).fst, (vQ p q i).snd) /\ True) /\ True /\ True /\ True /\ True /\ ((i : Int) = 0 -> True /\ True /\ idxPre (0 : Int) a.length /\ True /\ True /\ True /\ True /\ (¬((vQ p q i).fst, (vQ p q i).snd) = ((a.getD (0 : Nat) (0, 0)).fst, (a.getD (0 : Nat) (0, 0)).snd) -> True /\ True /\ True /\ (false = true /\ True) /\ True) /\ (¬¬((vQ p q i).fst, (vQ p q i).snd) = ((a.getD (0 : Nat) (0, 0)).fst, (a.getD (0 : Nat) (0, 0)).snd) -> True /\ True /\ True /\ ((i : Int) = 2 -> True /\ True /\ True /\ True /\ inR .i64 ((a.length : Int) - 1) /\ idxPre ((a.length : Int) - 1) a.length /\ True /\ True /\ True /\ True /\ (¬((vQ p q i).fst, (vQ p q i).snd) = ((a.getD ((a.length : Int) - 1).toNat ((0 : Int), (0 : Int))).fst, (a.getD ((a.length : Int) - 1).toNat ((0 : Int), (0 : Int))).snd) -> True /\ True /\ (false = true /\ True) /\ True) /\ (¬¬((vQ p q i).fst, (vQ p q i).snd) = ((a.getD ((a.length : Int) - 1).toNat ((0 : Int), (0 : Int))).fst, (a.getD ((a.length : Int) - 1).toNat ((0 : Int), (0 : Int))).snd) -> True /\ inR .i64 ((i : Int) + 1) /\ True /\ ∃ (y : Nat), (inv8b q y /\ (3 : Nat) - y < 3 - i) /\ (c = c /\ p = p /\ True /\ a = a /\ True /\ True /\ (2 : Int) ^ q.fst.toNat = 2 ^ q.fst.toNat /\ (i : Int) + 1 = (y : Int) /\ True) /\ [q.fst, q.snd] = [q.fst, q.snd] /\ [lo.fst, lo.snd] = [lo.fst, lo.snd] /\ [hi.fst, hi.snd] = [hi.fst, hi.snd] /\ True)) /\ (¬(i : Int) = 2 -> True /\ True /\ True /\ inR .i64 ((i : Int) + 1) /\ True /\ ∃ (y : Nat), (inv8b q y /\ (3 : Nat) - y < 3 - i) /\ (c = c /\ p = p /\ True /\ a = a /\ True /\ True /\ (2 : Int) ^ q.fst.toNat = 2 ^ q.fst.toNat /\ (i : Int) + 1 = (y : Int) /\ True) /\ [q.fst, q.snd] = [q.fst, q.snd] /\ [lo.fst, lo.snd] = [lo.fst, lo.snd] /\ [hi.fst, hi.snd] = [hi.fst, hi.snd] /\ True))) /\ (¬(i : Int) = 0 -> True /\ True /\ True /\ True /\ True /\ ((i : Int) = 2 -> True /\ True /\ True /\ True /\ inR .i64 ((a.length : Int) - 1) /\ idxPre ((a.length : Int) - 1) a.length /\ True /\ True /\ True /\ True /\ (¬((vQ p q i).fst, (vQ p q i).snd) = ((a.getD ((a.length : Int) - 1).toNat ((0 : Int), (0 : Int))).fst, (a.getD ((a.length : Int) - 1).toNat ((0 : Int), (0 : Int))).snd) -> True /\ True /\ (false = true /\ True) /\ True) /\ (¬¬((vQ p q i).fst, (vQ p q i).snd) = ((a.getD ((a.length : Int) - 1).toNat ((0 : Int), (0 : Int))).fst, (a.getD ((a.length : Int) - 1).toNat ((0 : Int), (0 : Int))).snd) -> True /\ inR .i64 ((i : Int) + 1) /\ True /\ ∃ (y : Nat), (inv8b q y /\ (3 : Nat) - y < 3 - i) /\ (c = c /\ p = p /\ True /\ a = a /\ True /\ True /\ (2 : Int) ^ q.fst.toNat = 2 ^ q.fst.toNat /\ (i : Int) + 1 = (y : Int) /\ True) /\ [q.fst, q.snd] = [q.fst, q.snd] /\ [lo.fst, lo.snd] = [lo.fst, lo.snd] /\ [hi.fst, hi.snd] = [hi.fst, hi.snd] /\ True)) /\ (¬(i : Int) = 2 -> True /\ True /\ True /\ inR .i64 ((i : Int) + 1) /\ True /\ ∃ (y : Nat), (inv8b q y /\ (3 : Nat) - y < 3 - i) /\ (c = c /\ p = p /\ True /\ a = a /\ True /\ True /\ (2 : Int) ^ q.fst.toNat = 2 ^ q.fst.toNat /\ (i : Int) + 1 = (y : Int) /\ True) /\ [q.fst, q.snd] = [q.fst, q.snd] /\ [lo.fst, lo.snd] = [lo.fst, lo.snd] /\ [hi.fst, hi.snd] = [hi.fst, hi.snd] /\ True)))) /\ (¬(i : Int) = 0 -> ∃ (y : Unit), True /\ (c = c /\ True) /\ True))) /\ (¬(i : Int) <= 2 -> True /\ True /\ True /\ True /\ True /\ ((i : Int) = 0 -> True /\ idxPre (1 : Int) (2 : Nat) /\ True /\ inR .i64 ((2 : Int) * q.snd) /\ True /\ inR .i64 ((2 : Int) * q.snd + (i : Int)) /\ True /\ inR .i64 ((2 : Int) * 2 ^ q.fst.toNat) /\ (((2 : Int) * q.snd + (i : Int) = 2 * q.snd + (i : Int) /\ (2 : Int) * 2 ^ q.fst.toNat = 2 * 2 ^ q.fst.toNat) /\ True) /\ ((p = p /\ ((lQ q i).fst, (lQ q i).snd) = lQ q i) /\ True) /\ True /\ True /\ True /\ True /\ True /\ True /\ True /\ True /\ True /\ (¬(0 : Int) = 0 -> True /\ True /\ True /\ True /\ True /\ (false = true /\ True) /\ True) /\ (¬¬(0 : Int) = 0 -> True /\ True /\ (LessNo ((vQ p q i).fst, (vQ p q i).snd) (lo.fst, lo.snd) /\ True) /\ True /\ True /\ True /\ True /\ (LessNo (hi.fst, hi.snd) ((vQ p q i).fst, (vQ p q i).snd) /\ True) /\ True /\ True /\ True /\ True /\ ((i : Int) = 0 -> True /\ True /\ idxPre (0 : Int) a.length /\ True /\ True /\ True /\ True /\ (¬((vQ p q i).fst, (vQ p q i).snd) = ((a.getD (0 : Nat) (0, 0)).fst, (a.getD (0 : Nat) (0, 0)).snd) -> True /\ True /\ True /\ (false = true /\ True) /\ True) /\ (¬¬((vQ p q i).fst, (vQ p q i).snd) = ((a.getD (0 : Nat) (0, 0)).fst, (a.getD (0 : Nat) (0, 0)).snd) -> True /\ True /\ True /\ ((i : Int) = 2 -> True /\ True /\ True /\ True /\ inR .i64 ((a.length : Int) - 1) /\ idxPre ((a.length : Int) - 1) a.length /\ True /\ True /\ True /\ True /\ (¬((vQ p q i).fst, (vQ p q i).snd) = ((a.getD ((a.length : Int) - 1).toNat ((0 : Int), (0 : Int))).fst, (a.getD ((a.length : Int) - 1).toNat ((0 : Int), (0 : Int))).snd) -> True /\ True /\ (false = true /\ True) /\ True) /\ (¬¬((vQ p q i).fst, (vQ p q i).snd) = ((a.getD ((a.length : Int) - 1).toNat ((0 : Int), (0 : Int))).fst, (a.getD ((a.length : Int) - 1).toNat ((0 : Int), (0 : Int))).snd) -> True /\ inR .i64 ((i : Int) + 1) /\ True /\ ∃ (y : Nat), (inv8b q y /\ (3 : Nat) - y < 3 - i) /\ (c = c /\ p = p /\ True /\ a = a /\ True /\ True /\ (2 : Int) ^ q.fst.toNat = 2 ^ q.fst.toNat /\ (i : Int) + 1 = (y : Int) /\ True) /\ [q.fst, q.snd] = [q.fst, q.snd] /\ [lo.fst, lo.snd] = [lo.fst, lo.snd] /\ [hi.fst, hi.snd] = [hi.fst, hi.snd] /\ True)) /\ (¬(i : Int) = 2 -> True /\ True /\ True /\ inR .i64 ((i : Int) + 1) /\ True /\ ∃ (y : Nat), (inv8b q y /\ (3 : Nat) - y < 3 - i) /\ (c = c /\ p = p /\ True /\ a = a /\ True /\ True /\ (2 : Int) ^ q.fst.toNat = 2 ^ q.fst.toNat /\ (i : Int) + 1 = (y : Int) /\ True) /\ [q.fst, q.snd] = [q.fst, q.snd] /\ [lo.fst, lo.snd] = [lo.fst, lo.snd] /\ [hi.fst, hi.snd] = [hi.fst, hi.snd] /\ True))) /\ (¬(i : Int) = 0 -> True /\ True /\ True /\ True /\ True /\ ((i : Int) = 2 -> True /\ True /\ True /\ True /\ inR .i64 ((a.length : Int) - 1) /\ idxPre ((a.length : Int) - 1) a.length /\ True /\ True /\ True /\ True /\ (¬((vQ p q i).fst, (vQ p q i).snd) = ((a.getD ((a.length : Int) - 1).toNat ((0 : Int), (0 : Int))).fst, (a.getD ((a.length : Int) - 1).toNat ((0 : Int), (0 : Int))).snd) -> True /\ True /\ (false = true /\ True) /\ True) /\ (¬¬((vQ p q i).fst, (vQ p q i).snd) = ((a.getD ((a.length : Int) - 1).toNat ((0 : Int), (0 : Int))).fst, (a.getD ((a.length : Int) - 1).toNat ((0 : Int), (0 : Int))).snd) -> True /\ inR .i64 ((i : Int) + 1) /\ True /\ ∃ (y : Nat), (inv8b q y /\ (3 : Nat) - y < 3 - i) /\ (c = c /\ p = p /\ True /\ a = a /\ True /\ True /\ (2 : Int) ^ q.fst.toNat = 2 ^ q.fst.toNat /\ (i : Int) + 1 = (y : Int) /\ True) /\ [q.fst, q.snd] = [q.fst, q.snd] /\ [lo.fst, lo.snd] = [lo.fst, lo.snd] /\ [hi.fst, hi.snd] = [hi.fst, hi.snd] /\ True)) /\ (¬(i : Int) = 2 -> True /\ True /\ True /\ inR .i64 ((i : Int) + 1) /\ True /\ ∃ (y : Nat), (inv8b q y /\ (3 : Nat) - y < 3 - i) /\ (c = c /\ p = p /\ True /\ a = a /\ True /\ True /\ (2 : Int) ^ q.fst.toNat = 2 ^ q.fst.toNat /\ (i : Int) + 1 = (y : Int) /\ True) /\ [q.fst, q.snd] = [q.fst, q.snd] /\ [lo.fst, lo.snd] = [lo.fst, lo.snd] /\ [hi.fst, hi.snd] = [hi.fst, hi.snd] /\ True)))) /\ (¬(i : Int) = 0 -> ∃ (y : Unit), True /\ (c = c /\ True) /\ True))) (by kernel_rfl) ?_
   simp only [zz, implies_true, not_true_eq_false, not_false_eq_true, true_imp_iff, false_imp_iff]
   repeat' first | assumption | exact i12 | omega | (simp only [inR]; omega) | exact rfl | exact fun h => absurd (hI0 (by assumption)) h | exact fun h => absurd (hI2 (by assumption)) h | intro _ | refine And.intro ?_ ?_
 · have hn : ¬ i <= 2 ∨ (q.1.toNat = 6 /\ i ≠ 0) := by
     false_or_by_contra
     exact hr ⟨hp, hq, by omega, fun h => by omega⟩
   refine ⟨X [], X_ok _, rfl, rfl, rfl, rfl, ?_⟩
   refine of_eq (q := True /\ True /\ True /\ ((i : Int) <= 2 -> True /\ True /\ True /\ True /\ ((2 : Int) ^ q.fst.toNat <= 32 -> True /\ True /\ idxPre (1 : Int) (2 : Nat) /\ True /\ inR .i64 ((2 : Int) * q.snd) /\ True /\ inR .i64 ((2 : Int) * q.snd + (i : Int)) /\ True /\ inR .i64 ((2 : Int) * 2 ^ q.fst.toNat) /\ False) /\ (¬(2 : Int) ^ q.fst.toNat <= 32 -> True /\ True /\ True /\ ((i : Int) = 0 -> True /\ idxPre (1 : Int) (2 : Nat) /\ True /\ inR .i64 ((2 : Int) * q.snd) /\ True /\ inR .i64 ((2 : Int) * q.snd + (i : Int)) /\ True /\ inR .i64 ((2 : Int) * 2 ^ q.fst.toNat) /\ False) /\ (¬(i : Int) = 0 -> ∃ (y : Unit), True /\ (c = c /\ True) /\ True))) /\ (¬(i : Int) <= 2 -> True /\ True /\ True /\ True /\ True /\ ((i : Int) = 0 -> True /\ idxPre (1 : Int) (2 : Nat) /\ True /\ inR .i64 ((2 : Int) * q.snd) /\ True /\ inR .i64 ((2 : Int) * q.snd + (i : Int)) /\ True /\ inR .i64 ((2 : Int) * 2 ^ q.fst.toNat) /\ False) /\ (¬(i : Int) = 0 -> ∃ (y : Unit), True /\ (c = c /\ True) /\ True))) (by kernel_rfl) ?_
   simp only [zz]
   have e9 : 2 ^ q.1.toNat <= (32 : Int) -> ¬ q.1.toNat = 6 := fun h h6 => by have := e7 h6; omega
   repeat' first | exact True.intro | exact fun _ => True.intro | omega | (exact absurd ‹_› (e9 ‹_›)) | intro _ | refine And.intro ?_ ?_
noncomputable def H8 (c : List PQ) (p : List Int) (q : PQ) (a : List PQ) (lo hi : PQ) (x y l r : List PQ) : Nat -> Option Hint
 | 0 => some (h8a c p q a)
 | 2 => some (h8b c p q a lo hi)
 | 4 => some (h8c x y l r)
 | _ => none
set_option maxHeartbeats 4000000 in
set_option maxRecDepth 10000 in
theorem call8 (l : List Int) (q : PQ) (c : List PQ) (h : l.length < 1000000000000000 /\ c.length < 1000000000000000) : GCall Tryd.prog gl 8 true [.sl I64 l, ofD Q2 q, .sl Q2 c] [] [.tt] [] := by
 obtain ⟨hl0, hc0⟩ := h
 have hp : isPoly (tmL l) := tmL_poly l
 have hy : yesP (tmL l) := ⟨by have := hp.2.1; omega, hp⟩
 have hq : isPiece (pcR q) := pcR_piece q
 generalize hP : tmL l = p at *
 generalize hQ : pcR q = k at *
 have hg : given (crnL c 6) 6 := crnL_given c (by decide)
 generalize hX : crnL c 6 = x at *
 obtain ⟨hg1, hg2⟩ := given_facts hg
 have hxl := hg.2
 have hrl := rats_length x
 have hyG6 : yG x 6 := ⟨by omega, hg⟩
 have hyG7 : yG x 7 := ⟨by omega, hg.1, by omega, by omega⟩
 refine gcall_of (X := (X E8)) ((X_ok E8)) (f := 8) (fn := Tryd.f8) (c := bodyOf Tryd.f8) (by kernel_rfl) (by kernel_rfl) (view := false) (rvs := [.tmp 6]) (by kernel_rfl) (H := (H8 c p k (qc p k.1.toNat k.2.toNat) (qp (loL (cnr p k.1.toNat k.2.toNat))) (qp (hiL (cnr p k.1.toNat k.2.toNat))) x (qs (raise (rats x))) (qs (dvL (rat (1, 2)) (rats x))) (qs (dvR (rat (1, 2)) (rats x))))) 900 (by kernel_rfl) ?_
 have hrs : (raise (rats x)).length = (rats x).length + 1 := by simp [raise, rzs]
 have hca : (qc p k.1.toNat k.2.toNat).length = p.length := qc_length _ _ _
 have hp7 := hp.2.1
 have hp1 := hp.1
 have hA := loop8a c p k (qc p k.1.toNat k.2.toNat) (by omega) fun i hi => by
   unfold qc at hi |-
   rw [qs_length] at hi
   rw [qs_getD hi, qp_snd]
   have := (List.getD (cnr p k.1.toNat k.2.toNat) i 0).den_pos
   omega
 have hB := loop8b c p k (qc p k.1.toNat k.2.toNat) (qp (loL (cnr p k.1.toNat k.2.toNat))) (qp (hiL (cnr p k.1.toNat k.2.toNat))) hp hq rfl rfl rfl
 have hC := loop8c x (qs (raise (rats x))) (qs (dvL (rat (1, 2)) (rats x))) (qs (dvR (rat (1, 2)) (rats x))) (by rw [qs_length, hrs]; omega) fun i hi => by
   rw [qs_length] at hi
   rw [qs_getD hi, qp_snd]
   have := (List.getD (raise (rats x)) i 0).den_pos
   omega
 have hQ' : pcR (q.1, q.2) = k := hQ
 have hrq : rats (qc p k.1.toNat k.2.toNat) = cnr p k.1.toNat k.2.toNat := by unfold qc; rw [rats_qs]
 have hrr : rats (qs (raise (rats x))) = raise (rats x) := rats_qs _
 have hh : rat (1, 2) = half := rat_half
 obtain ⟨e1, e2, e3, e4⟩ := piece_pow hq
 have e5 : 2 ^ k.1.toNat <= 2 ^ 6 := Nat.pow_le_pow_right (by decide) e2
 have e6 := Nat.two_pow_pos k.1.toNat
 have hk := hq
 unfold isPiece at hk
 have hsh : (0 <= k.1 /\ k.1 < bitsOf .i64) /\ -9223372036854775808 <= (2 : Int) ^ k.1.toNat /\ (2 : Int) ^ k.1.toNat <= 9223372036854775807 := by
   simp only [bitsOf]; omega
 have hE1 : goodL (qc p k.1.toNat k.2.toNat) := goodL_qs _
 have hE2 : cmpOk (cnr p k.1.toNat k.2.toNat) := cnr_less hp e2
 have hE3 : goodL (qs (raise (rats x))) := goodL_qs _
 have hE4 : cmpOk (raise (rats x)) := raise_less hg2 (by omega) (by omega)
 have hE5 : cmpOk (rats x) := given_less hg2
 have hx1 : 1 <= (rats x).length := by omega
 have hr1 : 1 <= (raise (rats x)).length := by omega
 have hlr : (qs (raise (rats x))).length = x.length + 1 := by rw [qs_length, hrs, hrl]
 have hdl : (qs (dvL half (rats x))).length = x.length := by rw [qs_length, dvL_length, hrl]
 have hdr : (qs (dvR half (rats x))).length = x.length := by rw [qs_length, dvR_length, hrl]
 have hmem := loL_spec hr1
 have hmem2 := hiL_spec hr1
 have hlo := loL_spec hx1
 have hhi := hiL_spec hx1
 have hcmp : cmpOk (raise (rats x)) := hE4
 have hN1 : LessNo (qp (loL (raise (rats x)))) (qp (loL (rats x))) := by
   refine ⟨good_qp _, good_qp _, ?_, ?_⟩
   · rw [rat_qp, rat_qp]
     exact raise_cmp hg2 hx1 (by omega) (.inr hmem.2) (.inl hlo.2)
   · rw [rat_qp, rat_qp]; exact Rat.not_lt.mpr (raise_mem hx1 hmem.2).1
 have hN2 : LessNo (qp (hiL (rats x))) (qp (hiL (raise (rats x)))) := by
   refine ⟨good_qp _, good_qp _, ?_, ?_⟩
   · rw [rat_qp, rat_qp]
     exact raise_cmp hg2 hx1 (by omega) (.inl hhi.2) (.inr hmem2.2)
   · rw [rat_qp, rat_qp]; exact Rat.not_lt.mpr (raise_mem hx1 hmem2.2).2
 have hqx : qs (rats x) = x := hg1
 have hch1 : chg (qs (raise (rats x))) <= chg x := by
   have := raise_chg hx1
   rwa [hqx] at this
 have hch2 : chg (qs (dvL half (rats x))) + chg (qs (dvR half (rats x))) <= chg x := by
   have := halves_chg (rats x)
   rwa [hqx] at this
 have hchx : chg x < 1000000 := by
   have h1 := chgS_len (nm (rats x)) 0
   have h2 := chg_nm (rats x)
   rw [hqx] at h2
   have h3 : (nm (rats x)).length = (rats x).length := List.length_map ..
   omega
 have hmeet : (qs (dvL half (rats x))).getD ((x.length : Int) - 1).toNat (0, 0) = (qs (dvR half (rats x))).getD 0 (0, 0) := by
   have h0 := dv_meet half (l := rats x) hx1
   rw [show ((x.length : Int) - 1).toNat = (rats x).length - 1 by omega, qs_getD (by rw [dvL_length]; omega), qs_getD (by rw [dvR_length]; omega), h0]
 refine of_eq (q := True /\ True /\ True /\ (l.length + 1 <= 1000000000000000 /\ True) /\ True /\ True /\ (True /\ True) /\ True /\ True /\ True /\ True /\ ((yesP (tmL l) /\ isPiece ((pcR (q.fst, q.snd)).fst, (pcR (q.fst, q.snd)).snd)) /\ True) /\ True /\ True /\ True /\ True /\ True /\ True /\ True /\ True /\ (¬(0 : Int) = 0 -> True /\ True /\ True /\ (false = true /\ True) /\ True) /\ (¬¬(0 : Int) = 0 -> True /\ True /\ True /\ True /\ True /\ True /\ (¬(↑(qc (tmL l) (Int.toNat (pcR (q.fst, q.snd)).fst) (Int.toNat (pcR (q.fst, q.snd)).snd)).length : Int) = (↑(tmL l).length : Int) -> True /\ True /\ (false = true /\ True) /\ True) /\ (¬¬(↑(qc (tmL l) (Int.toNat (pcR (q.fst, q.snd)).fst) (Int.toNat (pcR (q.fst, q.snd)).snd)).length : Int) = (↑(tmL l).length : Int) -> True /\ LoopOK (X E8) L8_0 (h8a c p k (qc p k.fst.toNat k.snd.toNat)) (RetR (X E8) true false [ResultVar.tmp (6 : Tmp)] [AV.tt] []) /\ (∃ (y : Nat), y <= (qc p k.fst.toNat k.snd.toNat).length /\ (c = c /\ tmL l = p /\ True /\ qc (tmL l) (Int.toNat (pcR (q.fst, q.snd)).fst) (Int.toNat (pcR (q.fst, q.snd)).snd) = qc p k.fst.toNat k.snd.toNat /\ (0 : Int) = (y : Int) /\ True) /\ [(pcR (q.fst, q.snd)).fst, (pcR (q.fst, q.snd)).snd] = [k.fst, k.snd] /\ True) /\ (∀ (y : Unit), True -> True /\ ((goodL (qc p k.fst.toNat k.snd.toNat) /\ (1 : Nat) <= (qc p k.fst.toNat k.snd.toNat).length /\ (qc p k.fst.toNat k.snd.toNat).length < 1000000 /\ cmpOk (rats (qc p k.fst.toNat k.snd.toNat))) /\ True) /\ True /\ True /\ True /\ True /\ True /\ True /\ True /\ idxPre (0 : Int) (2 : Nat) /\ True /\ (((0 : Int) <= k.fst /\ k.fst < bitsOf .i64) /\ (-9223372036854775808 : Int) <= 1 * 2 ^ Int.toNat k.fst /\ (1 : Int) * 2 ^ Int.toNat k.fst <= 9223372036854775807) /\ True /\ True /\ LoopOK (X E8) L8_2 (h8b c p k (qc p k.fst.toNat k.snd.toNat) (qp (loL (cnr p k.fst.toNat k.snd.toNat))) (qp (hiL (cnr p k.fst.toNat k.snd.toNat)))) (RetR (X E8) true false [ResultVar.tmp (6 : Tmp)] [AV.tt] []) /\ (∃ (y : Nat), inv8b k y /\ (c = c /\ p = p /\ True /\ qc p k.fst.toNat k.snd.toNat = qc p k.fst.toNat k.snd.toNat /\ True /\ True /\ (1 : Int) * 2 ^ Int.toNat k.fst = 2 ^ k.fst.toNat /\ (0 : Int) = (y : Int) /\ True) /\ [k.fst, k.snd] = [k.fst, k.snd] /\ [(loL (rats (qc p k.fst.toNat k.snd.toNat))).num, (↑(loL (rats (qc p k.fst.toNat k.snd.toNat))).den : Int)] = [(loL (cnr p k.fst.toNat k.snd.toNat)).num, (↑(loL (cnr p k.fst.toNat k.snd.toNat)).den : Int)] /\ [(hiL (rats (qc p k.fst.toNat k.snd.toNat))).num, (↑(hiL (rats (qc p k.fst.toNat k.snd.toNat))).den : Int)] = [(hiL (cnr p k.fst.toNat k.snd.toNat)).num, (↑(hiL (cnr p k.fst.toNat k.snd.toNat)).den : Int)] /\ True) /\ (∀ (y : Unit), True -> True /\ ((c.length < 1000000000000000 /\ (0 : Int) <= 6 /\ (6 : Int) < 1000000) /\ True) /\ True /\ True /\ (((crnL c (6 : Nat)).length < 1000000 /\ given (crnL c (6 : Nat)) (6 : Int)) /\ True) /\ True /\ True /\ True /\ True /\ True /\ True /\ (((crnL c (6 : Nat)).length < 1000000 /\ given (crnL c (6 : Nat)) (7 : Int)) /\ True) /\ True /\ True /\ True /\ True /\ True /\ True /\ True /\ True /\ True /\ (¬(0 : Int) = 0 -> True /\ True /\ True /\ True /\ True /\ True /\ True /\ True /\ True /\ True /\ True /\ (false = true /\ True) /\ True) /\ (¬¬(0 : Int) = 0 -> True /\ True /\ True /\ True /\ (¬(0 : Int) = 0 -> True /\ True /\ True /\ True /\ True /\ True /\ True /\ True /\ True /\ (false = true /\ True) /\ True) /\ (¬¬(0 : Int) = 0 -> True /\ True /\ True /\ True /\ inR .i64 ((↑(crnL c (6 : Nat)).length : Int) + 1) /\ True /\ True /\ True /\ (¬(↑(qs (raise (rats (crnL c (6 : Nat))))).length : Int) = (↑(crnL c (6 : Nat)).length : Int) + 1 -> True /\ True /\ True /\ True /\ True /\ True /\ True /\ (false = true /\ True) /\ True) /\ (¬¬(↑(qs (raise (rats (crnL c (6 : Nat))))).length : Int) = (↑(crnL c (6 : Nat)).length : Int) + 1 -> idxPre (0 : Int) (2 : Nat) /\ True /\ True /\ True /\ True /\ True /\ True /\ True /\ (¬(↑(qs (dvL (rat ((1 : Int), (2 : Int))) (rats (crnL c (6 : Nat))))).length : Int) = (↑(crnL c (6 : Nat)).length : Int) -> True /\ True /\ True /\ True /\ True /\ (false = true /\ True) /\ True) /\ (¬¬(↑(qs (dvL (rat ((1 : Int), (2 : Int))) (rats (crnL c (6 : Nat))))).length : Int) = (↑(crnL c (6 : Nat)).length : Int) -> idxPre (1 : Int) (2 : Nat) /\ True /\ True /\ True /\ True /\ True /\ True /\ True /\ (¬(↑(qs (dvR (rat ((1 : Int), (2 : Int))) (rats (crnL c (6 : Nat))))).length : Int) = (↑(crnL c (6 : Nat)).length : Int) -> True /\ True /\ True /\ (false = true /\ True) /\ True) /\ (¬¬(↑(qs (dvR (rat ((1 : Int), (2 : Int))) (rats (crnL c (6 : Nat))))).length : Int) = (↑(crnL c (6 : Nat)).length : Int) -> idxPre (0 : Int) (2 : Nat) /\ True /\ True /\ True /\ inR .i64 ((↑(crnL c (6 : Nat)).length : Int) - 1) /\ idxPre ((↑(crnL c (6 : Nat)).length : Int) - 1) (qs (dvL (rat ((1 : Int), (2 : Int))) (rats (crnL c (6 : Nat))))).length /\ True /\ idxPre (1 : Int) (2 : Nat) /\ True /\ idxPre (0 : Int) (qs (dvR (rat ((1 : Int), (2 : Int))) (rats (crnL c (6 : Nat))))).length /\ True /\ True /\ True /\ (¬(((qs (dvL (rat ((1 : Int), (2 : Int))) (rats (crnL c (6 : Nat))))).getD ((↑(crnL c (6 : Nat)).length : Int) - 1).toNat ((0 : Int), (0 : Int))).fst, ((qs (dvL (rat ((1 : Int), (2 : Int))) (rats (crnL c (6 : Nat))))).getD ((↑(crnL c (6 : Nat)).length : Int) - 1).toNat ((0 : Int), (0 : Int))).snd) = (((qs (dvR (rat ((1 : Int), (2 : Int))) (rats (crnL c (6 : Nat))))).getD (0 : Nat) (0, 0)).fst, ((qs (dvR (rat ((1 : Int), (2 : Int))) (rats (crnL c (6 : Nat))))).getD (0 : Nat) (0, 0)).snd) -> True /\ True /\ (false = true /\ True) /\ True) /\ (¬¬(((qs (dvL (rat ((1 : Int), (2 : Int))) (rats (crnL c (6 : Nat))))).getD ((↑(crnL c (6 : Nat)).length : Int) - 1).toNat ((0 : Int), (0 : Int))).fst, ((qs (dvL (rat ((1 : Int), (2 : Int))) (rats (crnL c (6 : Nat))))).getD ((↑(crnL c (6 : Nat)).length : Int) - 1).toNat ((0 : Int), (0 : Int))).snd) = (((qs (dvR (rat ((1 : Int), (2 : Int))) (rats (crnL c (6 : Nat))))).getD (0 : Nat) (0, 0)).fst, ((qs (dvR (rat ((1 : Int), (2 : Int))) (rats (crnL c (6 : Nat))))).getD (0 : Nat) (0, 0)).snd) -> True /\ LoopOK (X E8) L8_4 (h8c x (qs (raise (rats x))) (qs (dvL (rat ((1 : Int), (2 : Int))) (rats x))) (qs (dvR (rat ((1 : Int), (2 : Int))) (rats x)))) (RetR (X E8) true false [ResultVar.tmp (6 : Tmp)] [AV.tt] []) /\ (∃ (y : Nat), y <= (qs (raise (rats x))).length /\ (crnL c (6 : Nat) = x /\ qs (raise (rats (crnL c (6 : Nat)))) = qs (raise (rats x)) /\ True /\ (0 : Int) = (y : Int) /\ True) /\ [qs (dvL (rat ((1 : Int), (2 : Int))) (rats (crnL c (6 : Nat)))), qs (dvR (rat ((1 : Int), (2 : Int))) (rats (crnL c (6 : Nat))))] = [qs (dvL (rat ((1 : Int), (2 : Int))) (rats x)), qs (dvR (rat ((1 : Int), (2 : Int))) (rats x))] /\ True) /\ (∀ (y : Unit), True -> True /\ ((goodL x /\ (1 : Nat) <= x.length /\ x.length < 1000000 /\ cmpOk (rats x)) /\ True) /\ True /\ True /\ True /\ True /\ True /\ True /\ True /\ True /\ ((goodL (qs (raise (rats x))) /\ (1 : Nat) <= (qs (raise (rats x))).length /\ (qs (raise (rats x))).length < 1000000 /\ cmpOk (rats (qs (raise (rats x))))) /\ True) /\ True /\ True /\ True /\ True /\ True /\ True /\ True /\ True /\ True /\ LessNo ((loL (rats (qs (raise (rats x))))).num, (↑(loL (rats (qs (raise (rats x))))).den : Int)) ((loL (rats x)).num, (↑(loL (rats x)).den : Int)) /\ True /\ True /\ True /\ True /\ LessNo ((hiL (rats x)).num, (↑(hiL (rats x)).den : Int)) ((hiL (rats (qs (raise (rats x))))).num, (↑(hiL (rats (qs (raise (rats x))))).den : Int)) /\ True /\ True /\ True /\ True /\ (qs (raise (rats x))).length + 1 <= 1000000 /\ True /\ x.length + 1 <= 1000000 /\ True /\ True /\ True /\ ((↑(chg (qs (raise (rats x)))) : Int) <= (↑(chg x) : Int) -> idxPre (0 : Int) (2 : Nat) /\ True /\ (qs (dvL (rat ((1 : Int), (2 : Int))) (rats x))).length + 1 <= 1000000 /\ idxPre (1 : Int) (2 : Nat) /\ True /\ (qs (dvR (rat ((1 : Int), (2 : Int))) (rats x))).length + 1 <= 1000000 /\ inR .i64 ((↑(chg (qs (dvL (rat ((1 : Int), (2 : Int))) (rats x)))) : Int) + (↑(chg (qs (dvR (rat ((1 : Int), (2 : Int))) (rats x)))) : Int)) /\ True /\ x.length + 1 <= 1000000 /\ True /\ True /\ True /\ ((↑(chg (qs (dvL (rat ((1 : Int), (2 : Int))) (rats x)))) : Int) + (↑(chg (qs (dvR (rat ((1 : Int), (2 : Int))) (rats x)))) : Int) <= (↑(chg x) : Int) -> True /\ True /\ True /\ True /\ (true = true /\ True) /\ True) /\ (¬(↑(chg (qs (dvL (rat ((1 : Int), (2 : Int))) (rats x)))) : Int) + (↑(chg (qs (dvR (rat ((1 : Int), (2 : Int))) (rats x)))) : Int) <= (↑(chg x) : Int) -> True /\ True /\ True /\ (false = true /\ True) /\ True)) /\ (¬(↑(chg (qs (raise (rats x)))) : Int) <= (↑(chg x) : Int) -> True /\ True /\ True /\ True /\ True /\ (false = true /\ True) /\ True)) /\ True))))))) /\ True) /\ True))) (by kernel_rfl) ?_
 have he : ∀ z : PQ, (z.1, z.2) = z := fun _ => rfl
 rw [hh] at hC
 simp only [zz, hP, hQ', hX, hrq, hrr, hh, he, Int.one_mul, not_true_eq_false, not_false_eq_true, true_imp_iff, false_imp_iff, implies_true]
 have hz : ∀ n : Nat, ∃ y : Nat, y <= n /\ (0 : Int) = (y : Int) := fun n => ⟨0, Nat.zero_le _, rfl⟩
 have hzb : ∃ y : Nat, inv8b k y /\ (0 : Int) = (y : Int) := ⟨0, ⟨by omega, fun _ => by omega⟩, rfl⟩
 repeat' first | assumption | exact hN1 | exact hN2 | exact hz _ | exact hsh | exact i02 | exact i12 | omega | (simp only [inR]; omega) | (unfold idxPre; omega) | exact fun h => absurd hmeet h | intro _ | refine And.intro ?_ ?_
end Go.Am.Bern

/- Bern: from the laws' contracts to the given statements: what all laws share. -/
namespace Go.Proofs.YtjmfgoemdkfldaaDoor
open Go Go.ChangeShapes Go.WideShapes Go.ChangeAt Go.RowKit Go.Am Go.Am.Bern
theorem own : ownKnob Tryd.prog.godebug = none := by kernel_rfl
theorem laidOut : laidOutB Tryd.prog = true := by kernel_rfl
theorem u3 : Tryd.prog.underlying 3 = some (.int .i64) := by kernel_rfl
theorem u4 : Tryd.prog.underlying 4 = some .bool := by kernel_rfl
theorem u22 : Tryd.prog.underlying 22 = some (.slice 3) := by kernel_rfl
theorem u23 : Tryd.prog.underlying 23 = some (.array 2 3) := by kernel_rfl
theorem tyOk22 : TyOk Tryd.prog 22 (.sl I64) := ⟨3, u22, u3, by kernel_rfl, by decide, of_decide_eq_true (by kernel_rfl)⟩
theorem tyOk23 : TyOk Tryd.prog 23 Q2 := ⟨3, u23, u3, by kernel_rfl, by kernel_rfl⟩
theorem u2 : Tryd.prog.underlying 2 = some (.int .i64) := by kernel_rfl
theorem u48 : Tryd.prog.underlying 48 = some (.array 2 2) := by kernel_rfl
theorem u25 : Tryd.prog.underlying 25 = some (.slice 48) := by kernel_rfl
theorem tyOk48 : TyOk Tryd.prog 48 Q2 := ⟨2, u48, u2, by kernel_rfl, by kernel_rfl⟩
theorem tyOk25 : TyOk Tryd.prog 25 (.sl Q2) := ⟨48, u25, tyOk48, by kernel_rfl, by decide, of_decide_eq_true (by kernel_rfl)⟩
def laidW : List (String × DataW Unit) := [("girouette/bern.whole", Rows.laid_girouette_bern_whole)]
theorem door_met (os : Os) (args : Array Value) : laidMetH Tryd.prog laidW ((World.doorLaid Tryd.prog 400 os).forCall (fun _ _ => 0) ⟨#[], args, []⟩).memory :=
 laidMetH_of_parts3 (fuel := 8) (laidMet_of_run' 8 (by kernel_rfl) (by kernel_rfl)) (by kernel_rfl) (by kernel_rfl)
theorem reach_le {l : List Nat} (h : l.all (fun x => decide (x <= reachBytes)) = true) : ∀ n ∈ l, n <= 140737488355328 := fun n hn => by
 have := of_decide_eq_true (List.all_eq_true.mp h n hn)
 have e : reachBytes = 140737488351232 := rfl
 omega
theorem gWhole : Tryd.prog.globalNamed "girouette/bern.whole" = some 0 := by kernel_rfl
theorem tWhole : (Tryd.prog.globals[0]?).map (·.type) = some 87 := by kernel_rfl
set_option maxRecDepth 100000 in
theorem glob_of {W : World} (h : laidMetH Tryd.prog laidW W) : GlobOk gl (fun b => b < W.heap.size) W := by
 rw [MakeChecks.laidMetH_plain _ _ _ (by kernel_rfl)] at h
 obtain ⟨ps, ⟨g0, t0, cs0, f0, p0, q0, hg0, ht0, hv0, hd0, _, _⟩, _, _⟩ := h
 obtain rfl := Option.some.inj (gWhole.symm.trans hg0)
 obtain rfl := Option.some.inj (tWhole.symm.trans ht0)
 have hU : ∃ d, Tryd.prog.underlying 87 = some d /\ dsOf d = .st [(0, 3), (1, 3)] := TI.Ok.under ti87_ok
 obtain ⟨d, hu, hd⟩ := hU
 obtain ⟨fs, rfl, hfs⟩ : ∃ fs, d = .struct fs /\ fs.toList.map (fun f => (f.offset, f.type)) = [(0, 3), (1, 3)] := by
   cases d <;> simp [dsOf] at hd
   exact ⟨_, rfl, hd⟩
 obtain ⟨xs, n, rfl, hx, hl, hn, hel⟩ := DataW.trod_struct hu hd0
 obtain ⟨fs⟩ := fs
 match fs, hfs, hn, hel with
 | [a, b], hfs, hn, hel =>
 simp only [List.map_cons, List.map_nil, List.cons.injEq, Prod.mk.injEq] at hfs
 obtain ⟨⟨a1, a2⟩, ⟨b1, b2⟩, _⟩ := hfs
 have e0 := hel 0 a rfl
 have e1 := hel 1 b rfl
 have c3 : Tryd.prog.cellsOf 3 = 1 := by kernel_rfl
 have c87 : Tryd.prog.cellsOf 87 = 2 := by kernel_rfl
 rw [a1, a2, c3] at e0
 rw [b1, b2, c3] at e1
 rw [c87] at hl
 obtain ⟨ls⟩ := cs0
 match xs, hn, hx, ls, hl, e0, e1, hv0 with
 | [y0, y1], _, hx, [c0, c1], _, e0, e1, hv0 =>
 simp only [Rows.laid_girouette_bern_whole, List.map_cons, List.map_nil, Prod.mk.injEq, DataW.agg.injEq, List.cons.injEq] at hx
 obtain ⟨n0, k0, k1, _⟩ := DataW.trod_int u3 (show DataW.trod _ Tryd.prog W 0 _ false n 3 [c0] = some y0 from e0)
 obtain ⟨n1, l0, l1, _⟩ := DataW.trod_int u3 (show DataW.trod _ Tryd.prog W 0 _ false n 3 [c1] = some y1 from e1)
 have z0 : n0 = 0 := by rw [k1] at hx; simpa using hx.1.1.symm
 have z1 : n1 = 0 := by rw [l1] at hx; simpa using hx.1.2.1.symm
 subst z0 z1
 have w0 := World.var?_cell hg0 hv0 0
 have w1 := World.var?_cell hg0 hv0 1
 simp only [List.cons.injEq, and_true] at k0 l0
 subst k0 l0
 have w0 : W.cell? ⟨0, 0, none⟩ = some (.int .i64 0) := by simpa using w0
 have w1 : W.cell? ⟨0, 1, none⟩ = some (.int .i64 0) := by simpa using w1
 intro g p hp
 match g, hp with
 | 0, hp =>
   have hp : p = ⟨.s2 (.int .i64) (.int .i64), ((0 : Int), (0 : Int))⟩ := (Option.some.inj hp).symm
   subst hp
   refine ⟨cell_lt w0, [.int .i64 0, .int .i64 0], by simp only [CD]; exact ⟨_, _, rfl, rfl, rfl⟩, fun j hj => ?_⟩
   match j, hj with
   | 0, _ => exact w0
   | 1, _ => exact w1
end Go.Proofs.YtjmfgoemdkfldaaDoor
