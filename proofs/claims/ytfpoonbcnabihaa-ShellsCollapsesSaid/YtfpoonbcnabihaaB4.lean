/- Part B4 of the proof that the law named in the last file returns true at every input and leaves its arguments as they were; no condition of its own. -/
import Derived.Test.YtfpoonbcnabihaaB3
set_option linter.unusedSimpArgs false
set_option linter.unusedVariables false
/- Shells: awake. -/
namespace Go.Am.Sh
open Go Go.Am Go.Proofs
def e15 : Entry Try.prog gl := entry2 15 ⟨Try.f15, by kernel_rfl, by kernel_rfl, by kernel_rfl⟩ I64 SI (fun (n : Int) p => cxOk n p) true (fun _ p => [.sl I64 (shL p), .bool (shB p), .int .i64 0]) (fun _ _ => []) (fun (n : Int) p h => call15 n p h)
def e38 : Entry Try.prog gl := entry2 38 ⟨Try.f38, by kernel_rfl, by kernel_rfl, by kernel_rfl⟩ I64 SI (fun (n : Int) p => cxOk n p) false (fun _ p => [.sl I64 (cnts p), .int .i64 0]) (fun _ _ => []) (fun (n : Int) p h => call38 n p h)
def e27 : Entry Try.prog gl := entry2 27 ⟨Try.f27, by kernel_rfl, by kernel_rfl, by kernel_rfl⟩ I64 SI (fun (n : Int) p => cxOk n p) false (fun _ p => [.sl I64 (hsL p), .int .i64 0]) (fun _ _ => []) (fun (n : Int) p h => call27 n p h)
def e30 : Entry Try.prog gl := entry2 30 ⟨Try.f30, by kernel_rfl, by kernel_rfl, by kernel_rfl⟩ I64 SI (fun (n : Int) p => cxOk n p) false (fun _ p => [.sl I64 (hoL p), .int .i64 0]) (fun _ _ => []) (fun (n : Int) p h => call30 n p h)
def e36 : Entry Try.prog gl := entry2 36 ⟨Try.f36, by kernel_rfl, by kernel_rfl, by kernel_rfl⟩ I64 SI (fun (n : Int) p => cxOk n p) false (fun (n : Int) p => [.sl I64 (fewR (grL (duaG n p))), .int .i64 (fewE (grL (duaG n p)))]) (fun _ _ => []) (fun (n : Int) p h => call36 n p h)
def e24 : Entry Try.prog gl := entry2 24 ⟨Try.f24, by kernel_rfl, by kernel_rfl, by kernel_rfl⟩ I64 I64 (fun (n d : Int) => momOk n d) true (fun (n d : Int) => [.sl I64 (momL n d), .int .i64 0]) (fun _ _ => []) (fun (n d : Int) h => call24 n d h)
instance (n : Int) (p : List Int) (k : Nat) : Decidable (goodAt n p k) := by unfold goodAt; infer_instance
instance (n : Int) (p : List Int) : Decidable (cxOk n p) := by unfold cxOk numOk; infer_instance
theorem call19 : GCall Try.prog gl 19 true [] [] [.tt] [] := by
 have f1 : cxOk 3 [3, 5, 6] := by decide +kernel
 have f2 : cxOk 3 [7] := by decide +kernel
 have f3 : cxOk 4 [3, 12] := by decide +kernel
 have f4 : cnts [3, 5, 6] = [1, 3, 3] := by kernel_rfl
 have f5 : hsL [3, 5, 6] = [1, 1, 1] := by kernel_rfl
 have f6 : hoL [3, 5, 6] = [0, 1] := by kernel_rfl
 have f7 : shL [7] = [0] := by kernel_rfl
 have f8 : fewR (grL (duaG 4 [3, 12])) = [5, 6, 9, 10] := by kernel_rfl
 have f9 : fewE (grL (duaG 4 [3, 12])) = 0 := by kernel_rfl
 refine gcall_of (X := X [e38, e27, e30, e15, e36, e24, e23]) (X_ok [e38, e27, e30, e15, e36, e24, e23]) (f := 19) (fn := Try.f19) (c := bodyOf Try.f19) (by kernel_rfl) (by kernel_rfl) (view := false) (rvs := [.tmp 0]) (by kernel_rfl) (H := fun _ => none) 200 (by kernel_rfl) ?_
 refine of_eq (q := True /\ True /\ ((numOk (3 : Int) /\ ((1 : Nat) <= [(3 : Int), (5 : Int), (6 : Int)].length /\ [(3 : Int), (5 : Int), (6 : Int)].length <= 10) /\ ∀ (k : Nat), k < [(3 : Int), (5 : Int), (6 : Int)].length -> goodAt (3 : Int) [(3 : Int), (5 : Int), (6 : Int)] k) /\ True) /\ True /\ True /\ True /\ True /\ True /\ True /\ ((numOk (3 : Int) /\ ((1 : Nat) <= [(3 : Int), (5 : Int), (6 : Int)].length /\ [(3 : Int), (5 : Int), (6 : Int)].length <= 10) /\ ∀ (k : Nat), k < [(3 : Int), (5 : Int), (6 : Int)].length -> goodAt (3 : Int) [(3 : Int), (5 : Int), (6 : Int)] k) /\ True) /\ True /\ True /\ True /\ True /\ True /\ True /\ ((numOk (3 : Int) /\ ((1 : Nat) <= [(3 : Int), (5 : Int), (6 : Int)].length /\ [(3 : Int), (5 : Int), (6 : Int)].length <= 10) /\ ∀ (k : Nat), k < [(3 : Int), (5 : Int), (6 : Int)].length -> goodAt (3 : Int) [(3 : Int), (5 : Int), (6 : Int)] k) /\ True) /\ True /\ True /\ True /\ True /\ True /\ True /\ ((numOk (3 : Int) /\ ((1 : Nat) <= [(7 : Int)].length /\ [(7 : Int)].length <= 10) /\ ∀ (k : Nat), k < [(7 : Int)].length -> goodAt (3 : Int) [(7 : Int)] k) /\ True) /\ True /\ True /\ True /\ True /\ True /\ True /\ True /\ True /\ ((numOk (4 : Int) /\ ((1 : Nat) <= [(3 : Int), (12 : Int)].length /\ [(3 : Int), (12 : Int)].length <= 10) /\ ∀ (k : Nat), k < [(3 : Int), (12 : Int)].length -> goodAt (4 : Int) [(3 : Int), (12 : Int)] k) /\ True) /\ True /\ True /\ True /\ True /\ True /\ (((2 : Int) <= 3 /\ (3 : Int) < 5 /\ (5 : Int) <= 6) /\ True) /\ True /\ True /\ True /\ True /\ True /\ True /\ True /\ True /\ ((0 : Int) = 0 -> True /\ True /\ ((cnts [(3 : Int), (5 : Int), (6 : Int)]).length + 1 <= 1000000000000000 /\ True) /\ True /\ True /\ (true = true -> True /\ True /\ True /\ True /\ ((0 : Int) = 0 -> True /\ True /\ ((hsL [(3 : Int), (5 : Int), (6 : Int)]).length + 1 <= 1000000000000000 /\ True) /\ True /\ True /\ (true = true -> True /\ True /\ True /\ True /\ ((0 : Int) = 0 -> True /\ True /\ ((hoL [(3 : Int), (5 : Int), (6 : Int)]).length + 1 <= 1000000000000000 /\ True) /\ True /\ True /\ (true = true -> True /\ True /\ True /\ True /\ ((0 : Int) = 0 -> True /\ True /\ True /\ (true = true -> True /\ True /\ ((shL [(7 : Int)]).length + 1 <= 1000000000000000 /\ True) /\ True /\ True /\ (true = true -> True /\ True /\ True /\ True /\ (fewE (grL (duaG (4 : Int) [(3 : Int), (12 : Int)])) = 0 -> True /\ True /\ ((fewR (grL (duaG (4 : Int) [(3 : Int), (12 : Int)]))).length + 1 <= 1000000000000000 /\ True) /\ True /\ True /\ (true = true -> True /\ True /\ True /\ True /\ ((0 : Int) = 0 -> True /\ True /\ True /\ True /\ True /\ True /\ (true = true /\ True) /\ True) /\ (¬(0 : Int) = 0 -> True /\ True /\ True /\ (false = true /\ True) /\ True)) /\ (true = false -> True /\ True /\ True /\ True /\ True /\ (false = true /\ True) /\ True)) /\ (¬fewE (grL (duaG (4 : Int) [(3 : Int), (12 : Int)])) = 0 -> True /\ True /\ True /\ True /\ True /\ True /\ True /\ (false = true /\ True) /\ True)) /\ (true = false -> True /\ True /\ True /\ True /\ True /\ True /\ True /\ True /\ True /\ (false = true /\ True) /\ True)) /\ (true = false -> True /\ True /\ True /\ True /\ True /\ True /\ True /\ True /\ True /\ True /\ True /\ (false = true /\ True) /\ True)) /\ (¬(0 : Int) = 0 -> True /\ True /\ True /\ True /\ True /\ True /\ True /\ True /\ True /\ True /\ True /\ True /\ True /\ (false = true /\ True) /\ True)) /\ (true = false -> True /\ True /\ True /\ True /\ True /\ True /\ True /\ True /\ True /\ True /\ True /\ True /\ True /\ True /\ True /\ (false = true /\ True) /\ True)) /\ (¬(0 : Int) = 0 -> True /\ True /\ True /\ True /\ True /\ True /\ True /\ True /\ True /\ True /\ True /\ True /\ True /\ True /\ True /\ True /\ True /\ (false = true /\ True) /\ True)) /\ (true = false -> True /\ True /\ True /\ True /\ True /\ True /\ True /\ True /\ True /\ True /\ True /\ True /\ True /\ True /\ True /\ True /\ True /\ True /\ True /\ (false = true /\ True) /\ True)) /\ (¬(0 : Int) = 0 -> True /\ True /\ True /\ True /\ True /\ True /\ True /\ True /\ True /\ True /\ True /\ True /\ True /\ True /\ True /\ True /\ True /\ True /\ True /\ True /\ True /\ (false = true /\ True) /\ True)) /\ (true = false -> True /\ True /\ True /\ True /\ True /\ True /\ True /\ True /\ True /\ True /\ True /\ True /\ True /\ True /\ True /\ True /\ True /\ True /\ True /\ True /\ True /\ True /\ True /\ (false = true /\ True) /\ True)) /\ (¬(0 : Int) = 0 -> True /\ True /\ True /\ True /\ True /\ True /\ True /\ True /\ True /\ True /\ True /\ True /\ True /\ True /\ True /\ True /\ True /\ True /\ True /\ True /\ True /\ True /\ True /\ True /\ True /\ (false = true /\ True) /\ True)) (by kernel_rfl) ?_
 rw [f4, f5, f6, f7, f8, f9]
 simp
 exact ⟨⟨f1.1, f1.2.2⟩, ⟨f2.1, f2.2.2 0 (by decide)⟩, f3.1, f3.2.2⟩
def e19 : Entry Try.prog gl where
 f := 19
 lend := false
 en := ⟨Try.f19, by kernel_rfl, by kernel_rfl, by kernel_rfl⟩
 go := fun args ob0 => match args, ob0 with
   | [], [] => some (True, true, [.tt], [])
   | _, _ => none
 ok := by
   intro args ob0 p s r o h hp
   split at h <;> try (cases h; done)
   injection h with h; injection h with h1 h2; injection h2 with h2 h3; injection h3 with h3 h4
   subst h1 h2 h3 h4
   exact call19
end Go.Am.Sh

/- Shells: the reference's shellings. -/
namespace Go.Am.Sh
open Go Go.Am Go.Proofs
def puN (p : List Int) (k : Nat) : Prop := ∀ i, i < k -> pc (p.getD i 0).toNat = pc (p.getD 0 0).toNat
instance (p k) : Decidable (puN p k) := by unfold puN; infer_instance
def puB (p : List Int) : Bool := decide (puN p p.length)
structure ok10 (p : List Int) : Prop where
 h : okL p
 l : p.length <= 10
def fnd (p : List Int) (D s e : Nat) : Nat -> Bool
 | 0 => false
 | g + 1 => fnd p D s e g || (decide (D / 2 ^ g % 2 = 1) && decide (pc (mns s (p.getD g 0).toNat) = 1) && decide (mns s (p.getD g 0).toNat &&& e = 0))
def nxN (p : List Int) (D i k : Nat) : Prop := ∀ e, e < k -> D / 2 ^ e % 2 = 1 -> fnd p D (p.getD i 0).toNat (p.getD e 0).toNat p.length = true
instance (p D i k) : Decidable (nxN p D i k) := by unfold nxN; infer_instance
def nxB (p : List Int) (D i : Nat) : Bool := decide (nxN p D i p.length)
theorem bit_tmod {D k : Nat} : ((D : Int) / 2 ^ k).tmod 2 = ((D / 2 ^ k % 2 : Nat) : Int) := by
 have e : (2 ^ k : Int) = ((2 ^ k : Nat) : Int) := by rw [Int.natCast_pow]; try rfl
 rw [e]
 generalize 2 ^ k = P
 have e1 : (D : Int) / (P : Int) = ((D / P : Nat) : Int) := by rw [Int.natCast_ediv]
 rw [e1, Int.tmod_eq_emod_of_nonneg (Int.natCast_nonneg _)]
 omega
structure ok57 (p : List Int) (D i : Int) : Prop where
 h : ok10 p
 D : 0 <= D /\ D < 1024
 i : 0 <= i /\ i < p.length
def sgB (p : List Int) (i : Int) : Bool := decide (0 <= i /\ i < p.length)
/-- The set of the first k pieces of an order, if they are a shelling so far. -/
def sgK (p o : List Int) : Nat -> Option Nat
 | 0 => some 0
 | k + 1 => (sgK p o k).bind fun D => if sgB p (o.getD k 0) = true /\ D / 2 ^ (o.getD k 0).toNat % 2 = 0 /\ nxB p D (o.getD k 0).toNat = true then some (D ||| 2 ^ (o.getD k 0).toNat) else none
def sgR (p o : List Int) : Bool := (sgK p o o.length).isSome && decide (o.length = p.length) && puB p
end Go.Am.Sh

/- Shells: the reference's Check. -/
namespace Go.Am.Sh
open Go Go.Am Go.Proofs
theorem sub_and {a b : Int} (ha : 0 <= a /\ a < 64) (hb : 0 <= b /\ b < 64) : (bAnd .i64 a b = a) ↔ sub a.toNat b.toNat = true := by
 have : bAnd .i64 a b = ((a.toNat &&& b.toNat : Nat) : Int) := by rw [<- bAnd_nat (by omega) (by omega), Int.toNat_of_nonneg ha.1, Int.toNat_of_nonneg hb.1]
 rw [this]
 unfold sub
 constructor
 · intro h
   have : a.toNat &&& b.toNat = a.toNat := by omega
   rw [this]; exact Nat.beq_refl _
 · intro h
   have := Nat.eq_of_beq_eq_true h
   omega
end Go.Am.Sh

/- Shells: the law of the moment complexes. -/
namespace Go.Am.Sh
open Go Go.Am Go.Proofs
/-- How many of a list have all of a set. -/
def cntM (x : Nat) (p : List Int) (j : Nat) : Nat := ((p.take j).filter fun s => decide (mns x s.toNat = 0)).length
structure mf (n d : Int) : Prop where
 m : momOk n d
 len : 1 <= (momL n d).length /\ (momL n d).length <= 10
 hl : ((hsL (momL n d)).length : Int) = d + 1
 hs : ∀ k, k < d.toNat + 1 -> (hsL (momL n d)).getD k 0 = (hsL (momL n d)).getD (d.toNat - k) 0
 sh : shB (momL n d) = true
 sg : sgR (momL n d) (shL (momL n d)) = true
 sl : (shL (momL n d)).length <= 10
 two : ∀ k, k < (fcs (momL n d)).length -> (pc ((fcs (momL n d)).getD k 0).toNat : Int) = d - 1 -> cntM ((fcs (momL n d)).getD k 0).toNat (momL n d) (momL n d).length = 2
instance (n d : Int) : Decidable (momOk n d) := by unfold momOk; infer_instance
theorem u64_nn (n : Int) : 0 <= modU .u64 n := by
 show 0 <= n % 18446744073709551616
 omega
end Go.Am.Sh

/- Shells: the reference's Pieces. -/
namespace Go.Am.Sh
open Go Go.Am Go.Proofs
/-- Set x is one of the first k of a list. -/
def inK (s : List Int) (x : Nat) : Nat -> Bool
 | 0 => false
 | k + 1 => inK s x k || decide (s.getD k 0 = x)
/-- Set x is no part of another of the first k. -/
def mxS (s : List Int) (x : Nat) : Nat -> Bool
 | 0 => true
 | k + 1 => mxS s x k && (decide (s.getD k 0 = x) || !sub x (s.getD k 0).toNat)
def pieB (s : List Int) (x : Nat) : Bool := inK s x s.length && mxS s x s.length
def pieL (s : List Int) : List Int := trueN (pieB s) 64
structure ok22 (s : List Int) : Prop where
 h : okL s
 l : s.length < 1000000
noncomputable def L22_0 : Code := lp (bodyOf Try.f22) 0
noncomputable def L22_2 : Code := lp (bodyOf Try.f22) 2
def sz22 (s : List Int) (k : Nat) : St := ⟨.sl I64 s :: dd 2 ++ nl :: .int .i64 k :: dd 49, []⟩
def jz22 (s : List Int) (k i : Nat) : St := ⟨.sl I64 s :: dd 2 ++ nl :: .int .i64 k :: .bool (inK s k i) :: .bool (mxS s k i) :: .int .i64 i :: dd 46, []⟩
def ejz22 (s : List Int) (k : Nat) : List (List Nat × Ex) := [([0, 3, 4, 5, 6], ⟨2, Unit, fun _ => True, fun _ => ⟨.sl I64 s :: dd 2 ++ nl :: .int .i64 k :: .bool (inK s k s.length) :: .bool (mxS s k s.length) :: dd 47, []⟩⟩)]
def hz22 (s : List Int) (k : Nat) : Hint := ⟨chk 0 [0, 3, 4, 5, 6, 7] (fun i => i <= s.length) (jz22 s k), (ejz22 s k).map (·.2)⟩
theorem loop22z (s : List Int) (k : Nat) (h : ok22 s) (hk : k < 64) (R : Exit -> St -> Prop) : LoopOK (X [e63]) L22_2 (hz22 s k) R := by
 refine loop_ok (X_ok _) (H := fun _ _ => none) [0, 3, 4, 5, 6, 7] (fun i => i <= s.length) (jz22 s k) (fun i => s.length - i) (ejz22 s k) 150 fun (i : Nat) hi => ?_
 refine of_eq (q := (fun (m : Prop) => (fun (j : Bool) => (fun (f : Prop) => (fun (e : Nat) => (fun (d : Int) => (fun (c : Int) => (fun (g : Prop) => (fun (b : Prop) => (fun (a : Int) => (fun (n : Prop) => (fun (l : Bool) => (fun (h : Prop) => b /\ b /\ b /\ b /\ ((i : Int) < (s.length : Int) -> b /\ b /\ (inK s k i = true -> b /\ b /\ b /\ b /\ (j = true -> b /\ b /\ f /\ b /\ b /\ b /\ b /\ (d = a -> b /\ b /\ b /\ b /\ g /\ b /\ ∃ (y : Nat), (y <= e /\ e - y < e - i) /\ (m /\ b /\ n /\ true = inK s k y /\ true = mxS s k y /\ c = (y : Int) /\ b) /\ b) /\ (¬d = a -> b /\ b /\ b /\ f /\ b /\ h /\ b /\ b /\ b /\ b /\ b /\ g /\ b /\ ∃ (y : Nat), (y <= e /\ e - y < e - i) /\ (m /\ b /\ n /\ true = inK s k y /\ (!sub k d.toNat) = mxS s k y /\ c = (y : Int) /\ b) /\ b)) /\ (j = false -> b /\ b /\ b /\ g /\ b /\ ∃ (y : Nat), (y <= e /\ e - y < e - i) /\ (m /\ b /\ n /\ true = inK s k y /\ false = mxS s k y /\ c = (y : Int) /\ b) /\ b)) /\ (inK s k i = false -> b /\ b /\ f /\ b /\ b /\ b /\ b /\ b /\ b /\ b /\ (j = true -> b /\ b /\ f /\ b /\ b /\ b /\ b /\ (d = a -> b /\ b /\ b /\ b /\ g /\ b /\ ∃ (y : Nat), (y <= e /\ e - y < e - i) /\ (m /\ b /\ n /\ l = inK s k y /\ true = mxS s k y /\ c = (y : Int) /\ b) /\ b) /\ (¬d = a -> b /\ b /\ b /\ f /\ b /\ h /\ b /\ b /\ b /\ b /\ b /\ g /\ b /\ ∃ (y : Nat), (y <= e /\ e - y < e - i) /\ (m /\ b /\ n /\ l = inK s k y /\ (!sub k d.toNat) = mxS s k y /\ c = (y : Int) /\ b) /\ b)) /\ (j = false -> b /\ b /\ b /\ g /\ b /\ ∃ (y : Nat), (y <= e /\ e - y < e - i) /\ (m /\ b /\ n /\ l = inK s k y /\ false = mxS s k y /\ c = (y : Int) /\ b) /\ b))) /\ (¬(i : Int) < (s.length : Int) -> ∃ (y : Unit), b /\ (m /\ b /\ n /\ inK s k i = inK s k e /\ j = mxS s k e /\ b) /\ b)) ((((0 : Int) <= a /\ a < 64) /\ (0 : Int) <= d /\ d < 64) /\ b)) (decide (d = a))) (a = a)) ((k : Int))) (True)) (inR .i64 c)) ((i : Int) + 1)) (s.getD i (0 : Int))) (s.length)) (idxPre (i : Int) s.length)) (mxS s k i)) (s = s)) (by kernel_rfl) ?_
 simp only [zz]
 have hi : i <= s.length := hi
 obtain ⟨q1, q2⟩ := okL_get h.h i
 have hl := h.l
 refine ⟨fun hlt => ?_, fun hlt => by rw [show s.length = i by omega]; exact ⟨rfl, rfl⟩⟩
 have hx : idxPre (i : Int) s.length := idx_nat (by omega)
 have hn : ∀ b c, b = inK s k (i + 1) -> c = mxS s k (i + 1) -> inR .i64 ((i : Int) + 1) /\ ∃ y : Nat, (y <= s.length /\ s.length - y < s.length - i) /\ b = inK s k y /\ c = mxS s k y /\ (i : Int) + 1 = (y : Int) := fun b c hb hc => ⟨by simp only [inR]; omega, i + 1, by omega, hb, hc, by omega⟩
 have hr : (0 <= (k : Int) /\ (k : Int) < 64) /\ 0 <= s.getD i 0 /\ s.getD i 0 < 64 := ⟨⟨by omega, by omega⟩, q1, q2⟩
 refine ⟨fun hI => ⟨fun hM => ⟨hx, fun he => hn _ _ ?_ ?_, fun he => ⟨hx, hr, hn _ _ ?_ ?_⟩⟩, fun hM => hn _ _ ?_ ?_⟩, fun hI => ⟨hx, fun hM => ⟨hx, fun he => hn _ _ ?_ ?_, fun he => ⟨hx, hr, hn _ _ ?_ ?_⟩⟩, fun hM => hn _ _ ?_ ?_⟩⟩
 · rw [inK, hI]; try rfl
 · rw [mxS, hM, decide_eq_true he]; try rfl
 · rw [inK, hI]; try rfl
 · rw [mxS, hM, decide_eq_false he]; try rfl
 · rw [inK, hI]; try rfl
 · rw [mxS, hM]; try rfl
 · rw [inK, hI]; try rfl
 · rw [mxS, hM, decide_eq_true he]; try rfl
 · rw [inK, hI]; try rfl
 · rw [mxS, hM, decide_eq_false he]; try rfl
 · rw [inK, hI]; try rfl
 · rw [mxS, hM]; try rfl
def st22 (s : List Int) (k : Nat) : St := ⟨.sl I64 s :: dd 2 ++ .own 0 0 :: .int .i64 k :: dd 49, [.sc 0 3 I64 (trueN (pieB s) k)]⟩
def jt22 (s : List Int) (k i : Nat) : St := ⟨.sl I64 s :: dd 2 ++ .own 0 0 :: .int .i64 k :: .bool (inK s k i) :: .bool (mxS s k i) :: .int .i64 i :: dd 46, [.sc 0 3 I64 (trueN (pieB s) k)]⟩
def ejt22 (s : List Int) (k : Nat) : List (List Nat × Ex) := [([0, 3, 4, 5, 6], ⟨2, Unit, fun _ => True, fun _ => ⟨.sl I64 s :: dd 2 ++ .own 0 0 :: .int .i64 k :: .bool (inK s k s.length) :: .bool (mxS s k s.length) :: dd 47, [.sc 0 3 I64 (trueN (pieB s) k)]⟩⟩)]
def ht22 (s : List Int) (k : Nat) : Hint := ⟨chk 0 [0, 3, 4, 5, 6, 7] (fun i => i <= s.length) (jt22 s k), (ejt22 s k).map (·.2)⟩
theorem loop22t (s : List Int) (k : Nat) (h : ok22 s) (hk : k < 64) (R : Exit -> St -> Prop) : LoopOK (X [e63]) L22_2 (ht22 s k) R := by
 refine loop_ok (X_ok _) (H := fun _ _ => none) [0, 3, 4, 5, 6, 7] (fun i => i <= s.length) (jt22 s k) (fun i => s.length - i) (ejt22 s k) 150 fun (i : Nat) hi => ?_
 refine of_eq (q := (fun (o : Prop) => (fun (l : Bool) => (fun (g : Prop) => (fun (f : Nat) => (fun (e : Int) => (fun (d : Prop) => (fun (c : Int) => (fun (h : Prop) => (fun (b : Int) => (fun (n : Prop) => (fun (m : Bool) => (fun (j : Prop) => (fun (a : Prop) => d /\ d /\ d /\ d /\ ((i : Int) < (s.length : Int) -> d /\ d /\ (inK s k i = true -> d /\ d /\ d /\ d /\ (l = true -> d /\ d /\ g /\ d /\ d /\ d /\ d /\ (e = b -> d /\ d /\ d /\ d /\ h /\ d /\ ∃ (y : Nat), (y <= f /\ f - y < f - i) /\ (o /\ d /\ n /\ true = inK s k y /\ true = mxS s k y /\ c = (y : Int) /\ d) /\ a) /\ (¬e = b -> d /\ d /\ d /\ g /\ d /\ j /\ d /\ d /\ d /\ d /\ d /\ h /\ d /\ ∃ (y : Nat), (y <= f /\ f - y < f - i) /\ (o /\ d /\ n /\ true = inK s k y /\ (!sub k e.toNat) = mxS s k y /\ c = (y : Int) /\ d) /\ a)) /\ (l = false -> d /\ d /\ d /\ h /\ d /\ ∃ (y : Nat), (y <= f /\ f - y < f - i) /\ (o /\ d /\ n /\ true = inK s k y /\ false = mxS s k y /\ c = (y : Int) /\ d) /\ a)) /\ (inK s k i = false -> d /\ d /\ g /\ d /\ d /\ d /\ d /\ d /\ d /\ d /\ (l = true -> d /\ d /\ g /\ d /\ d /\ d /\ d /\ (e = b -> d /\ d /\ d /\ d /\ h /\ d /\ ∃ (y : Nat), (y <= f /\ f - y < f - i) /\ (o /\ d /\ n /\ m = inK s k y /\ true = mxS s k y /\ c = (y : Int) /\ d) /\ a) /\ (¬e = b -> d /\ d /\ d /\ g /\ d /\ j /\ d /\ d /\ d /\ d /\ d /\ h /\ d /\ ∃ (y : Nat), (y <= f /\ f - y < f - i) /\ (o /\ d /\ n /\ m = inK s k y /\ (!sub k e.toNat) = mxS s k y /\ c = (y : Int) /\ d) /\ a)) /\ (l = false -> d /\ d /\ d /\ h /\ d /\ ∃ (y : Nat), (y <= f /\ f - y < f - i) /\ (o /\ d /\ n /\ m = inK s k y /\ false = mxS s k y /\ c = (y : Int) /\ d) /\ a))) /\ (¬(i : Int) < (s.length : Int) -> ∃ (y : Unit), d /\ (o /\ d /\ n /\ inK s k i = inK s k f /\ l = mxS s k f /\ d) /\ a)) (trueN (pieB s) k = trueN (pieB s) k /\ d)) ((((0 : Int) <= b /\ b < 64) /\ (0 : Int) <= e /\ e < 64) /\ d)) (decide (e = b))) (b = b)) ((k : Int))) (inR .i64 c)) ((i : Int) + 1)) (True)) (s.getD i (0 : Int))) (s.length)) (idxPre (i : Int) s.length)) (mxS s k i)) (s = s)) (by kernel_rfl) ?_
 simp only [zz]
 have hi : i <= s.length := hi
 obtain ⟨q1, q2⟩ := okL_get h.h i
 have hl := h.l
 refine ⟨fun hlt => ?_, fun hlt => by rw [show s.length = i by omega]; exact ⟨rfl, rfl⟩⟩
 have hx : idxPre (i : Int) s.length := idx_nat (by omega)
 have hn : ∀ b c, b = inK s k (i + 1) -> c = mxS s k (i + 1) -> inR .i64 ((i : Int) + 1) /\ ∃ y : Nat, (y <= s.length /\ s.length - y < s.length - i) /\ b = inK s k y /\ c = mxS s k y /\ (i : Int) + 1 = (y : Int) := fun b c hb hc => ⟨by simp only [inR]; omega, i + 1, by omega, hb, hc, by omega⟩
 have hr : (0 <= (k : Int) /\ (k : Int) < 64) /\ 0 <= s.getD i 0 /\ s.getD i 0 < 64 := ⟨⟨by omega, by omega⟩, q1, q2⟩
 refine ⟨fun hI => ⟨fun hM => ⟨hx, fun he => hn _ _ ?_ ?_, fun he => ⟨hx, hr, hn _ _ ?_ ?_⟩⟩, fun hM => hn _ _ ?_ ?_⟩, fun hI => ⟨hx, fun hM => ⟨hx, fun he => hn _ _ ?_ ?_, fun he => ⟨hx, hr, hn _ _ ?_ ?_⟩⟩, fun hM => hn _ _ ?_ ?_⟩⟩
 · rw [inK, hI]; try rfl
 · rw [mxS, hM, decide_eq_true he]; try rfl
 · rw [inK, hI]; try rfl
 · rw [mxS, hM, decide_eq_false he]; try rfl
 · rw [inK, hI]; try rfl
 · rw [mxS, hM]; try rfl
 · rw [inK, hI]; try rfl
 · rw [mxS, hM, decide_eq_true he]; try rfl
 · rw [inK, hI]; try rfl
 · rw [mxS, hM, decide_eq_false he]; try rfl
 · rw [inK, hI]; try rfl
 · rw [mxS, hM]; try rfl
noncomputable def fm22 (s : List Int) : List Fam := [⟨Nat, fun k => k <= 64 /\ trueN (pieB s) k = [], sz22 s, fun k => 64 - k, fun k _ => some (hz22 s k)⟩, ⟨Nat, fun k => k <= 64, st22 s, fun k => 64 - k, fun k _ => some (ht22 s k)⟩]
def ex22 (s : List Int) : List (List Nat × Ex) := [([3], ⟨0, Unit, fun _ => pieL s = [], fun _ => ⟨dd 3 ++ nl :: dd 50, []⟩⟩), ([3], ⟨0, Unit, fun _ => True, fun _ => ⟨dd 3 ++ .own 0 0 :: dd 50, [.sc 0 3 I64 (pieL s)]⟩⟩)]
noncomputable def H22 (s : List Int) : Nat -> Option Hint := fun _ => some ⟨chks 0 [0, 3, 4] (fm22 s), (ex22 s).map (·.2)⟩
theorem loop22 (s : List Int) (h : ok22 s) (R : Exit -> St -> Prop) : LoopOK (X [e63]) L22_0 ⟨chks 0 [0, 3, 4] (fm22 s), (ex22 s).map (·.2)⟩ R := by
 refine loop_fams (X_ok _) [0, 3, 4] (fm22 s) (ex22 s) 150 ⟨fun (k : Nat) hk => ?_, fun (k : Nat) hk => ?_, trivial⟩
 · have hL := fun hk => loop22z s k h hk
   refine of_eq (q := (fun (f : Nat) => (fun (d : Nat) => (fun (c : Prop) => (fun (b : Int) => (fun (e : Int) => (fun (a : Prop) => c /\ c /\ (b < 64 -> c /\ c /\ c /\ LoopOK (X [e63]) L22_2 (hz22 s k) (bodyR (X [e63]).m0 (ex22 s) R) /\ (∃ (y : Nat), y <= f /\ (s = s /\ c /\ b = b /\ false = inK s k y /\ true = mxS s k y /\ (0 : Int) = (y : Int) /\ c) /\ c) /\ (∀ (y : Unit), c -> c /\ c /\ (inK s k f = true -> c /\ c /\ (mxS s k f = true -> c /\ c /\ c /\ sumPre (0 : Nat) [b].length (nat_lit 8) /\ c /\ c /\ inR .i64 e /\ c /\ ((∃ (y : Nat), ((y <= d /\ trueN (pieB s) y = []) /\ d - y < d - k) /\ (s = s /\ False /\ e = (y : Int) /\ c) /\ c) ∨ ∃ (y : Nat), (y <= d /\ d - y < d - k) /\ (s = s /\ c /\ e = (y : Int) /\ c) /\ [b] = trueN (pieB s) y /\ c)) /\ (mxS s k f = false -> a)) /\ (inK s k f = false -> c /\ a)) /\ c) /\ (¬b < 64 -> (∃ (y : Unit), pieL s = [] /\ (c /\ c) /\ c) ∨ ∃ (y : Unit), c /\ (False /\ c) /\ False)) (c /\ inR .i64 e /\ c /\ ((∃ (y : Nat), ((y <= d /\ trueN (pieB s) y = []) /\ d - y < d - k) /\ (s = s /\ c /\ e = (y : Int) /\ c) /\ c) ∨ ∃ (y : Nat), (y <= d /\ d - y < d - k) /\ (s = s /\ False /\ e = (y : Int) /\ c) /\ False))) (b + 1)) ((k : Int))) (True)) ((64 : Nat))) (s.length)) (by kernel_rfl) ?_
   simp only [zz]
   obtain ⟨k1, k2⟩ := hk
   have hf : k < 64 -> pieB s k = false -> inR .i64 ((k : Int) + 1) /\ ∃ y : Nat, ((y <= 64 /\ trueN (pieB s) y = []) /\ 64 - y < 64 - k) /\ (k : Int) + 1 = (y : Int) := fun h3 hb => ⟨by simp only [inR]; omega, k + 1, ⟨⟨by omega, by rw [trueN, hb, k2]; rfl⟩, by omega⟩, by omega⟩
   have hz : ∃ y : Nat, y <= s.length /\ false = inK s k y /\ true = mxS s k y /\ (0 : Int) = (y : Int) := ⟨0, Nat.zero_le _, rfl, rfl, rfl⟩
   refine ⟨fun h3 => ⟨hL (by omega) _, hz, fun _ _ => ⟨fun hI => ⟨fun hM => ⟨by unfold sumPre; simp, by simp only [inR]; omega, k + 1, by omega, by omega, ?_⟩, fun hM => hf (by omega) ?_⟩, fun hI => hf (by omega) ?_⟩⟩, fun h3 => ?_⟩
   · have hb : pieB s k = true := by unfold pieB; rw [hI, hM]; try rfl
     rw [trueN, if_pos hb, k2]; try rfl
   · unfold pieB; rw [hI, hM]; try rfl
   · unfold pieB; rw [hI]; try rfl
   · unfold pieL; rw [show 64 = k by omega, k2]
 · have hL := fun hk => loop22t s k h hk
   refine of_eq (q := (fun (h : Nat) => (fun (f : Nat) => (fun (e : Prop) => (fun (d : Int) => (fun (g : Int) => (fun (c : List Int) => (fun (b : Prop) => (fun (a : Prop) => e /\ e /\ (d < 64 -> e /\ e /\ e /\ LoopOK (X [e63]) L22_2 (ht22 s k) (bodyR (X [e63]).m0 (ex22 s) R) /\ (∃ (y : Nat), y <= h /\ (s = s /\ e /\ d = d /\ false = inK s k y /\ true = mxS s k y /\ (0 : Int) = (y : Int) /\ e) /\ c = c /\ e) /\ (∀ (y : Unit), e -> e /\ e /\ (inK s k h = true -> e /\ e /\ (mxS s k h = true -> e /\ e /\ e /\ sumPre c.length [d].length (nat_lit 8) /\ e /\ e /\ inR .i64 g /\ e /\ (b ∨ ∃ (y : Nat), (y <= f /\ f - y < f - k) /\ (s = s /\ e /\ g = (y : Int) /\ e) /\ c ++ [d] = trueN (pieB s) y /\ e)) /\ (mxS s k h = false -> a)) /\ (inK s k h = false -> e /\ a)) /\ e) /\ (¬d < 64 -> (∃ (y : Unit), pieL s = [] /\ (False /\ e) /\ e) ∨ ∃ (y : Unit), e /\ (e /\ e) /\ c = pieL s /\ e)) (e /\ inR .i64 g /\ e /\ (b ∨ ∃ (y : Nat), (y <= f /\ f - y < f - k) /\ (s = s /\ e /\ g = (y : Int) /\ e) /\ c = trueN (pieB s) y /\ e))) (∃ (y : Nat), ((y <= f /\ trueN (pieB s) y = []) /\ f - y < f - k) /\ (s = s /\ False /\ g = (y : Int) /\ e) /\ e)) (trueN (pieB s) k)) (d + 1)) ((k : Int))) (True)) ((64 : Nat))) (s.length)) (by kernel_rfl) ?_
   simp only [zz]
   have hk : k <= 64 := hk
   have hl := trueN_len (pieB s) k
   have hf : k < 64 -> pieB s k = false -> inR .i64 ((k : Int) + 1) /\ ∃ y : Nat, (y <= 64 /\ 64 - y < 64 - k) /\ (k : Int) + 1 = (y : Int) /\ trueN (pieB s) k = trueN (pieB s) y := fun h3 hb => ⟨by simp only [inR]; omega, k + 1, by omega, by omega, by rw [trueN, hb]; rfl⟩
   have hz : ∃ y : Nat, y <= s.length /\ false = inK s k y /\ true = mxS s k y /\ (0 : Int) = (y : Int) := ⟨0, Nat.zero_le _, rfl, rfl, rfl⟩
   refine ⟨fun h3 => ⟨hL (by omega) _, hz, fun _ _ => ⟨fun hI => ⟨fun hM => ⟨by unfold sumPre; simp; omega, by simp only [inR]; omega, k + 1, by omega, by omega, ?_⟩, fun hM => hf (by omega) ?_⟩, fun hI => hf (by omega) ?_⟩⟩, fun h3 => ?_⟩
   · have hb : pieB s k = true := by unfold pieB; rw [hI, hM]; try rfl
     rw [trueN, if_pos hb]; try rfl
   · unfold pieB; rw [hI, hM]; try rfl
   · unfold pieB; rw [hI]; try rfl
   · unfold pieL; rw [show 64 = k by omega]
theorem call22 (s : List Int) (h : ok22 s) : GCall Try.prog gl 22 true [.sl I64 s] [] [.sl I64 (pieL s)] [] := by
 refine gcall_of (X := (X [e63])) ((X_ok _)) (f := 22) (fn := Try.f22) (c := bodyOf Try.f22) (by kernel_rfl) (by kernel_rfl) (view := true) (rvs := [.tmp 2]) (by kernel_rfl) (H := (H22 s)) 80 (by kernel_rfl) ?_
 have hL := loop22 s h
 refine of_eq (q := (fun (b : Prop) => (fun (a : List Int) => b /\ b /\ b /\ LoopOK (X [e63]) L22_0 { J := chks (0 : Nat) [(0 : Nat), (3 : Nat), (4 : Nat)] (fm22 s), exits := List.map (fun (x : List Nat × Ex) => x.snd) (ex22 s) } (RetR (X [e63]) true true [ResultVar.tmp (2 : Tmp)] [AV.sl I64 a] []) /\ ((∃ (y : Nat), (y <= 64 /\ trueN (pieB s) y = []) /\ (s = s /\ b /\ (0 : Int) = (y : Int) /\ b) /\ b) ∨ ∃ (y : Nat), y <= 64 /\ (s = s /\ False /\ (0 : Int) = (y : Int) /\ b) /\ False) /\ (∀ (y : Unit), a = [] -> b /\ b /\ b /\ (([] : List Int) = a /\ b) /\ b) /\ (∀ (y : Unit), b -> b /\ b /\ b /\ (a = a /\ b) /\ b) /\ b) (pieL s)) (True)) (by kernel_rfl) ?_
 simp only [zz]
 exact ⟨hL _, ⟨0, ⟨Nat.zero_le _, rfl⟩, rfl⟩, fun _ h => h.symm, fun _ h => h⟩
def e22 : Entry Try.prog gl := entry1 22 ⟨Try.f22, by kernel_rfl, by kernel_rfl, by kernel_rfl⟩ SI (fun s => ok22 s) true (fun s => [.sl I64 (pieL s)]) (fun _ => []) (call22)
end Go.Am.Sh

/- Shells: tame. -/
namespace Go.Am.Sh
open Go Go.Am Go.Proofs
def hs14 : Nat -> Bool := fun t => Nat.beq t 10 || Nat.beq t 30
noncomputable def Xh (l : EL) (hs : Nat -> Bool) (dr : Nat -> Option Nat) : Cy := { Xd l dr with hs := hs }
theorem Xh_ok (l : EL) (hs : Nat -> Bool) (dr : Nat -> Option Nat) : (Xh l hs dr).Ok := { tt := (Xd_ok l dr).tt, Γ := (Xd_ok l dr).Γ, Γd := (Xd_ok l dr).Γd, Yl := (Xd_ok l dr).Yl }
noncomputable abbrev X14 : Cy := Xh [e22] hs14 (drOf [(6, 11)])
def tmN (n : Int) : Int := 1 + (modU .u64 n).tmod 6
def tmS (n : Int) (l : List Int) (k : Nat) : List Int := 1 :: (l.take k).map fun x => (modU .u64 x).tmod (2 ^ (tmN n).toNat)
theorem tmN_bd (n : Int) : numOk (tmN n) := by
 have h1 : 0 <= modU .u64 n := u64_nn n
 have e := Int.tmod_eq_emod_of_nonneg (b := 6) h1
 unfold tmN numOk
 omega
theorem tm_pow (n : Int) : modU .u64 (1 * 2 ^ (tmN n).toNat) = 2 ^ (tmN n).toNat := by
 obtain ⟨e1, e2, e3⟩ := numOk_pow (tmN_bd n)
 rw [Int.one_mul, <- e1]
 show _ % 18446744073709551616 = _
 omega
theorem tm_pos (n : Int) : (2 : Int) <= 2 ^ (tmN n).toNat /\ (2 : Int) ^ (tmN n).toNat <= 64 := by
 obtain ⟨e1, e2, e3⟩ := numOk_pow (tmN_bd n)
 omega
theorem tm_x {n : Int} (x : Int) : 0 <= (modU .u64 x).tmod (2 ^ (tmN n).toNat) /\ (modU .u64 x).tmod (2 ^ (tmN n).toNat) < 2 ^ (tmN n).toNat /\ (modU .u64 x).tmod (2 ^ (tmN n).toNat) < 64 := by
 have h := tm_pos n
 have h3 := Int.tmod_nonneg (a := modU .u64 x) (2 ^ (tmN n).toNat) (u64_nn x)
 have h4 := Int.tmod_lt_of_pos (modU .u64 x) (show (0 : Int) < 2 ^ (tmN n).toNat by omega)
 omega
theorem tm_mem {n : Int} {l : List Int} {k : Nat} {x : Int} (h : x ∈ tmS n l k) : 0 <= x /\ x < 2 ^ (tmN n).toNat := by
 have hp := tm_pos n
 unfold tmS at h
 simp only [List.mem_cons, List.mem_map] at h
 rcases h with h | ⟨y, _, h⟩
 · omega
 · have := tm_x (n := n) y
   omega
theorem tm_ok (n : Int) (l : List Int) : ok22 (tmS n l 10) := ⟨fun x hx => by have := tm_mem hx; have := tm_pos n; omega, by unfold tmS; simp; omega⟩
theorem tm_lt (n : Int) (l : List Int) : ∀ x ∈ tmS n l 10, x < 2 ^ (tmN n).toNat := fun x hx => (tm_mem hx).2
theorem trueN_asc {g : Nat -> Bool} : ∀ {k i j : Nat}, i < j -> j < (trueN g k).length -> (trueN g k).getD i 0 < (trueN g k).getD j 0
 | 0, i, j, _, h => by simp [trueN] at h
 | k + 1, i, j, hij, h => by
   rw [trueN] at h |-
   by_cases hg : g k = true
   · rw [if_pos hg] at h |-
     rw [List.length_append, List.length_singleton] at h
     rcases Nat.lt_or_ge j (trueN g k).length with hj | hj
     · rw [getD_append_left (by omega), getD_append_left hj]; exact trueN_asc hij hj
     · have e : (trueN g k ++ [(k : Int)]).getD j 0 = k := by
         rw [List.getD_eq_getElem?_getD, List.getElem?_append_right hj, show j - (trueN g k).length = 0 by omega]; try rfl
       rw [e, getD_append_left (by omega)]
       obtain ⟨m, h1, h2, _⟩ := trueN_mem (mem_getD (d := 0) (show i < (trueN g k).length by omega))
       omega
   · rw [if_neg hg] at h |-; exact trueN_asc hij h
theorem inK_iff {s : List Int} {x : Nat} : ∀ {k : Nat}, inK s x k = true ↔ ∃ i, i < k /\ s.getD i 0 = x
 | 0 => by simp [inK]
 | k + 1 => by
   rw [inK, Bool.or_eq_true, inK_iff, decide_eq_true_eq]
   constructor
   · rintro (⟨i, h1, h2⟩ | h)
     · exact ⟨i, by omega, h2⟩
     · exact ⟨k, by omega, h⟩
   · rintro ⟨i, h1, h2⟩
     rcases Nat.lt_or_ge i k with h3 | h3
     · exact .inl ⟨i, h3, h2⟩
     · exact .inr (by rw [show k = i by omega]; exact h2)
theorem mxS_iff {s : List Int} {x : Nat} : ∀ {k : Nat}, mxS s x k = true ↔ ∀ i, i < k -> s.getD i 0 = x ∨ sub x (s.getD i 0).toNat = false
 | 0 => by simp [mxS]
 | k + 1 => by
   rw [mxS, Bool.and_eq_true, mxS_iff, Bool.or_eq_true, decide_eq_true_eq, Bool.not_eq_true']
   constructor
   · rintro ⟨h1, h2⟩ i hi
     rcases Nat.lt_or_ge i k with h3 | h3
     · exact h1 i h3
     · rw [show i = k by omega]; exact h2
   · intro h
     exact ⟨fun i hi => h i (by omega), h k (by omega)⟩
theorem pie_mem {s : List Int} {y : Int} (h : y ∈ pieL s) : ∃ x : Nat, y = x /\ x < 64 /\ (∃ i, i < s.length /\ s.getD i 0 = x) /\ ∀ i, i < s.length -> s.getD i 0 = x ∨ sub x (s.getD i 0).toNat = false := by
 obtain ⟨x, h1, h2, h3⟩ := trueN_mem h
 unfold pieB at h3
 rw [Bool.and_eq_true, inK_iff, mxS_iff] at h3
 exact ⟨x, h1, h2, h3.1, h3.2⟩
theorem pie_pos {s : List Int} (h1 : ∃ i, i < s.length /\ 1 <= s.getD i 0) : ∀ y ∈ pieL s, 1 <= y := fun y hy => by
 obtain ⟨x, rfl, h2, h3, h4⟩ := pie_mem hy
 obtain ⟨i, hi, h5⟩ := h1
 rcases Nat.eq_zero_or_pos x with h0 | h0
 · subst h0
   rcases h4 i hi with h6 | h6
   · omega
   · rw [sub_zero] at h6; cases h6
 · omega
theorem max_ex (s : List Int) : ∀ k, ∃ i, i < k + 1 /\ ∀ j, j < k + 1 -> s.getD j 0 <= s.getD i 0
 | 0 => ⟨0, by omega, fun j hj => by rw [show j = 0 by omega]; exact Int.le_refl _⟩
 | k + 1 => by
   obtain ⟨i, h1, h2⟩ := max_ex s k
   by_cases h : s.getD i 0 <= s.getD (k + 1) 0
   · refine ⟨k + 1, by omega, fun j hj => ?_⟩
     rcases Nat.lt_or_ge j (k + 1) with h3 | h3
     · exact Int.le_trans (h2 j h3) h
     · rw [show j = k + 1 by omega]; exact Int.le_refl _
   · refine ⟨i, by omega, fun j hj => ?_⟩
     rcases Nat.lt_or_ge j (k + 1) with h3 | h3
     · exact h2 j h3
     · rw [show j = k + 1 by omega]; omega
theorem pie_ne {s : List Int} (h : okL s) (hl : 1 <= s.length) : 1 <= (pieL s).length := by
 obtain ⟨k, hk⟩ : ∃ k, s.length = k + 1 := ⟨s.length - 1, by omega⟩
 obtain ⟨i, h1, h2⟩ := max_ex s k
 have hr := okL_get h i
 have hb : pieB s (s.getD i 0).toNat = true := by
   unfold pieB
   rw [Bool.and_eq_true, inK_iff, mxS_iff]
   refine ⟨⟨i, by omega, by omega⟩, fun j hj => ?_⟩
   have h3 := h2 j (by omega)
   have h4 := okL_get h j
   cases hs : sub (s.getD i 0).toNat (s.getD j 0).toNat with
   | false => exact .inr rfl
   | true => have := sub_le hs; exact .inl (by omega)
 have := trueN_has (g := pieB s) (k := 64) (by omega) hb
 exact List.length_pos_of_mem this
theorem take_get {l : List Int} {k m : Nat} (h : k < m) : (l.take m).getD k 0 = l.getD k 0 := by
 rw [List.getD_eq_getElem?_getD, List.getD_eq_getElem?_getD, List.getElem?_take_of_lt h]
theorem pie_cx {n : Int} {s : List Int} (hn : numOk n) (h : ok22 s) (hlt : ∀ x ∈ s, x < 2 ^ n.toNat) (h1 : ∃ i, i < s.length /\ 1 <= s.getD i 0) : cxOk n ((pieL s).take 10) := by
 have hne := pie_ne h.h (by obtain ⟨i, hi, _⟩ := h1; omega)
 have hlen : ((pieL s).take 10).length <= 10 /\ 1 <= ((pieL s).take 10).length /\ ((pieL s).take 10).length <= (pieL s).length := by rw [List.length_take]; omega
 refine ⟨hn, ⟨hlen.2.1, hlen.1⟩, fun k hk => ?_⟩
 have hk1 : k < (pieL s).length := by omega
 have hmem := mem_getD (d := (0 : Int)) hk1
 have hpos := pie_pos h1 _ hmem
 obtain ⟨x, e, hx, ⟨i, hi, hi2⟩, hmx⟩ := pie_mem hmem
 have hrk := trueN_ok (pieB s) _ hmem
 refine ⟨by rw [take_get (by omega)]; exact hpos, by rw [take_get (by omega), e, <- hi2]; exact hlt _ (mem_getD hi), fun h0 => by rw [take_get (by omega), take_get (by omega)]; exact trueN_asc (by omega) hk1, fun j hj hne2 => ?_⟩
 have hj1 : j < (pieL s).length := by omega
 have hmem2 := mem_getD (d := (0 : Int)) hj1
 obtain ⟨y, e2, hy, ⟨i2, hi3, hi4⟩, hmy⟩ := pie_mem hmem2
 have hrj := trueN_ok (pieB s) _ hmem2
 rw [take_get (by omega), take_get (by omega), Ne, sub_and hrk hrj, e, e2, Int.toNat_natCast, Int.toNat_natCast]
 rcases hmx i2 hi3 with h5 | h5
 · exfalso
   have hxy : (pieL s).getD k 0 = (pieL s).getD j 0 := by omega
   rcases Nat.lt_or_ge j k with h6 | h6
   · have := trueN_asc (g := pieB s) (k := 64) h6 hk1
     unfold pieL at hxy; omega
   · have := trueN_asc (g := pieB s) (k := 64) (show k < j by omega) hj1
     unfold pieL at hxy; omega
 · rw [hi4, Int.toNat_natCast] at h5
   rw [h5]; simp
noncomputable def L14_0 : Code := lp (bodyOf Try.f14) 0
def st14 (n : Int) (l : List Int) (k : Nat) : St := ⟨.int .i64 (tmN n) :: .sl I64 l :: dd 4 ++ .own 0 0 :: .int .i64 k :: dd 51, [.sc 0 3 I64 (tmS n l k)]⟩
def in14 (l : List Int) (k : Nat) : Prop := k <= l.length /\ k <= 10
def ex14 (n : Int) (l : List Int) : List (List Nat × Ex) := [([0, 6], ⟨0, Unit, fun _ => True, fun _ => ⟨.int .i64 (tmN n) :: dd 5 ++ .own 0 0 :: dd 52, [.sc 0 3 I64 (tmS n l 10)]⟩⟩)]
noncomputable def H14 (n : Int) (l : List Int) : Nat -> Option Hint := fun _ => some ⟨chk 0 [0, 1, 6, 7] (in14 l) (st14 n l), (ex14 n l).map (·.2)⟩
theorem loop14 (n : Int) (l : List Int) (hl : l.length < 1000000000000000) (R : Exit -> St -> Prop) : LoopOK X14 L14_0 ⟨chk 0 [0, 1, 6, 7] (in14 l) (st14 n l), (ex14 n l).map (·.2)⟩ R := by
 refine loop_ok (Xh_ok _ _ _) (H := fun _ _ => none) [0, 1, 6, 7] (in14 l) (st14 n l) (fun k => l.length - k) (ex14 n l) 150 fun (k : Nat) hk => ?_
 refine of_eq (q := (fun (e : Int) => (fun (d : Prop) => (fun (c : Int) => (fun (f : Int) => (fun (b : Prop) => (fun (a : Int) => d /\ d /\ d /\ d /\ d /\ (e < (l.length : Int) -> d /\ d /\ d /\ (e < 10 -> d /\ d /\ d /\ idxPre e l.length /\ d /\ d /\ d /\ (((0 : Int) <= c /\ c < bitsOf .u64) /\ d) /\ ¬f = 0 /\ inR .i64 a /\ d /\ sumPre (tmS n l k).length [a].length (nat_lit 8) /\ d /\ d /\ inR .i64 (e + 1) /\ d /\ ∃ (y : Nat), (in14 l y /\ l.length - y < l.length - k) /\ (c = c /\ l = l /\ d /\ e + 1 = (y : Int) /\ d) /\ tmS n l k ++ [a] = tmS n l y /\ d) /\ (¬e < 10 -> b)) /\ (¬e < (l.length : Int) -> d /\ b)) ((modU .u64 (l.getD k (0 : Int))).tmod f)) (∃ (y : Unit), d /\ (c = c /\ d /\ d) /\ tmS n l k = tmS n l (10 : Nat) /\ d)) (modU .u64 ((1 : Int) * 2 ^ c.toNat))) (tmN n)) (True)) ((k : Int))) (by kernel_rfl) ?_
 simp only [zz]
 obtain ⟨k1, k2⟩ := hk
 obtain ⟨b1, b2⟩ := tmN_bd n
 have hp := tm_pow n
 refine ⟨fun h => ⟨fun h2 => ?_, fun h2 => by rw [show k = 10 by omega]⟩, fun h => ?_⟩
 · rw [hp]
   have hx := tm_x (n := n) (l.getD k 0)
   have hlen : (tmS n l k).length <= 11 := by unfold tmS; simp; omega
   refine ⟨idx_nat (by omega), ⟨by omega, by simp only [bitsOf]; omega⟩, by have := tm_pos n; omega, by simp only [inR]; omega, by unfold sumPre; simp; omega, by simp only [inR]; omega, k + 1, ⟨⟨by omega, by omega⟩, by omega⟩, by omega, ?_⟩
   unfold tmS
   rw [take_getD (d := 0) (show k < l.length by omega), List.map_append]
   rfl
 · unfold tmS
   rw [List.take_of_length_le (by omega), List.take_of_length_le (by omega)]
def tmP (n : Int) (l : List Int) : List Int := (pieL (tmS n l 10)).take 10
theorem call14 (n : Int) (l : List Int) (hl : l.length < 1000000000000000) : GCall Try.prog gl 14 false [.int .i64 n, .sl I64 l] [] [.int .i64 (tmN n), .sl I64 (tmP n l)] [] := by
 refine gcall_of (X := X14) ((Xh_ok _ _ _)) (f := 14) (fn := Try.f14) (c := bodyOf Try.f14) (by kernel_rfl) (by kernel_rfl) (view := true) (rvs := [.tmp 4, .tmp 5]) (by kernel_rfl) (H := (H14 n l)) 200 (by kernel_rfl) ?_
 have hL := loop14 n l hl
 refine of_eq (q := (fun (m : Int) => (fun (k : Int) => (fun (i : Option Int) => (fun (h : Int) => (fun (g : Int) => (fun (d : Prop) => (fun (a : List Int) => (fun (j : Nat) => (fun (e : Option Int) => (fun (c : List Int) => (fun (f : Option Int) => (fun (b : Prop) => d /\ d /\ d /\ d /\ ¬(6 : Int) = k /\ inR .i64 g /\ inR .i64 (m + g) /\ d /\ d /\ d /\ d /\ LoopOK X14 L14_0 { J := chk (0 : Nat) [(0 : Nat), (1 : Nat), (6 : Nat), (7 : Nat)] (in14 l) (st14 n l), exits := List.map (fun (x : List Nat × Ex) => x.snd) (ex14 n l) } (RetR X14 false true [ResultVar.tmp (4 : Tmp), ResultVar.tmp (5 : Tmp)] [AV.int .i64 h, AV.sl I64 (tmP n l)] []) /\ (∃ (y : Nat), in14 l y /\ (m + g = h /\ l = l /\ d /\ k = (y : Int) /\ d) /\ [m] = tmS n l y /\ d) /\ (∀ (y : Unit), d -> d /\ (ok22 (tmS n l (10 : Nat)) /\ d) /\ d /\ d /\ d /\ d /\ d /\ (m < (j : Int) -> d /\ idxPre k j /\ d /\ d /\ d /\ (a.getD (0 : Nat) k = k -> d /\ slPre j j (some m) i i /\ d /\ d /\ d /\ d /\ d /\ d /\ d /\ d /\ d /\ slPre c.length c.length i f f /\ d /\ d /\ d /\ (h = h /\ cutL c i f = tmP n l /\ d) /\ d) /\ (¬a.getD (0 : Nat) k = k -> b)) /\ (¬m < (j : Int) -> d /\ b)) /\ d) (d /\ d /\ d /\ d /\ d /\ d /\ d /\ d /\ slPre j j i e e /\ d /\ d /\ d /\ (h = h /\ cutL a i e = tmP n l /\ d) /\ d)) (some (minI (c.length : Int) (10 : Int)))) (cutL a (some m) i)) (some (minI (j : Int) (10 : Int)))) (a.length)) (pieL (tmS n l (10 : Nat)))) (True)) ((modU .u64 n).tmod (6 : Int))) (tmN n)) (none)) ((0 : Int))) ((1 : Int))) (by kernel_rfl) ?_
 simp only [zz]
 obtain ⟨b1, b2⟩ := tmN_bd n
 have hb : 1 + (modU .u64 n).tmod 6 = tmN n := rfl
 have hz : ∀ L : List Int, cutL L none (some (minI (L.length : Int) 10)) = L.take 10 /\ slPre L.length L.length none (some (minI (L.length : Int) 10)) (some (minI (L.length : Int) 10)) := fun L => by
   unfold minI cutL slPre
   simp only
   by_cases h : (10 : Int) < L.length
   · rw [if_pos h]; exact ⟨rfl, by omega⟩
   · rw [if_neg h, Int.toNat_natCast]
     exact ⟨by rw [List.take_of_length_le (Nat.le_refl _), List.take_of_length_le (by omega)], by omega⟩
 rw [hb]
 obtain ⟨z1, z2⟩ := hz (pieL (tmS n l 10))
 refine ⟨by decide, by simp only [inR]; omega, by simp only [inR]; omega, hL _, ⟨0, ⟨Nat.zero_le _, Nat.zero_le _⟩, ⟨rfl, rfl⟩, by simp [tmS]⟩, fun _ _ => ⟨tm_ok n l, fun h => ⟨by unfold idxPre; omega, fun h0 => ?_, fun _ => ⟨z2, z1⟩⟩, fun _ => ⟨z2, z1⟩⟩⟩
 exfalso
 have := pie_pos (s := tmS n l 10) ⟨0, by simp [tmS], by simp [tmS]⟩ _ (mem_getD (d := 0) (show 0 < (pieL (tmS n l 10)).length by omega))
 omega
theorem tm_cx (n : Int) (l : List Int) : cxOk (tmN n) (tmP n l) := pie_cx (tmN_bd n) (tm_ok n l) (tm_lt n l) ⟨0, by simp [tmS], by simp [tmS]⟩
end Go.Am.Sh

/- Shells: the reference's Counts, choose, Hs, Euler. -/
namespace Go.Am.Sh
open Go Go.Am Go.Proofs
def e14 : Entry Try.prog gl := entry2 14 ⟨Try.f14, by kernel_rfl, by kernel_rfl, by kernel_rfl⟩ I64 SI (fun (_ : Int) l => (l : List Int).length < 1000000000000000) false (fun n l => [.int .i64 (tmN n), .sl I64 (tmP n l)]) (fun _ _ => []) (call14)
theorem trueN_cut {g : Nat -> Bool} {m : Nat} : ∀ {k : Nat}, (∀ x, m <= x -> x < m + k -> g x = false) -> trueN g (m + k) = trueN g m
 | 0, _ => rfl
 | k + 1, h => by
   rw [show m + (k + 1) = m + k + 1 by omega, trueN, h (m + k) (by omega) (by omega)]
   exact trueN_cut fun x h1 h2 => h x h1 (by omega)
theorem isF_lt {n : Int} {p : List Int} (h : cxOk n p) {x : Nat} (hx : isF p x = true) : x < 2 ^ n.toNat := by
 unfold isF at hx
 rw [List.any_eq_true] at hx
 obtain ⟨s, hs, h2⟩ := hx
 have h3 := sub_le h2
 obtain ⟨k, hk, rfl⟩ := List.getElem_of_mem hs
 have h4 := (h.2.2 k hk).2.1
 rw [getD_lt hk] at h4
 obtain ⟨e1, e2, e3⟩ := numOk_pow h.1
 have h5 := h.ok _ hs
 omega
theorem facesN_trueN (p : List Int) : ∀ k, facesN p k = trueN (isF p) k
 | 0 => rfl
 | k + 1 => by rw [facesN, trueN, facesN_trueN p k]
theorem faces_fcs {n : Int} {p : List Int} (h : cxOk n p) : facesL n p = fcs p := by
 obtain ⟨e1, e2, e3⟩ := numOk_pow h.1
 have := trueN_cut (g := isF p) (m := 2 ^ n.toNat) (k := 64 - 2 ^ n.toNat) fun x h1 _ => by
   cases hx : isF p x with
   | false => rfl
   | true => have := isF_lt h hx; omega
 rw [show 2 ^ n.toNat + (64 - 2 ^ n.toNat) = 64 by omega] at this
 unfold fcs facesL
 rw [this, facesN_trueN]
noncomputable def L40_0 : Code := lp (bodyOf Try.f40) 0
noncomputable def L40_2 : Code := lp (bodyOf Try.f40) 2
def s0_40 (n : Int) (p : List Int) (k : Nat) : St := ⟨.int .i64 n :: .sl I64 p :: dd 3 ++ .int .i64 (mxK p k) :: .int .i64 k :: dd 39, []⟩
def e0_40 (n : Int) (p : List Int) : List (List Nat × Ex) := [([0, 1, 5], ⟨0, Unit, fun _ => True, fun _ => ⟨.int .i64 n :: .sl I64 p :: dd 3 ++ .int .i64 (mxL p) :: dd 40, []⟩⟩)]
def h0_40 (n : Int) (p : List Int) : Hint := ⟨chk 0 [0, 1, 5, 6] (fun k => k <= p.length) (s0_40 n p), (e0_40 n p).map (·.2)⟩
def s1_40 (p : List Int) (k : Nat) : St := ⟨dd 7 ++ .own 0 0 :: .sl I64 (fcs p) :: .int .i64 k :: dd 36, [.sc 0 3 I64 (cntL (fcs p) (mxL p).toNat k)]⟩
def e1_40 (p : List Int) : List (List Nat × Ex) := [([7], ⟨2, Unit, fun _ => True, fun _ => ⟨dd 7 ++ .own 0 0 :: dd 38, [.sc 0 3 I64 (cnts p)]⟩⟩)]
def h1_40 (p : List Int) : Hint := ⟨chk 0 [7, 8, 9] (fun k => k <= (fcs p).length) (s1_40 p), (e1_40 p).map (·.2)⟩
noncomputable def H40 (n : Int) (p : List Int) (b : Nat) : Option Hint := some (if Nat.beq b 0 then h0_40 n p else h1_40 p)
theorem loop40a (n : Int) (p : List Int) (h : ok10 p) (R : Exit -> St -> Prop) : LoopOK (X [e29, e35]) L40_0 (h0_40 n p) R := by
 refine loop_ok (X_ok _) (H := fun _ _ => none) [0, 1, 5, 6] (fun k => k <= p.length) (s0_40 n p) (fun k => p.length - k) (e0_40 n p) 150 fun (k : Nat) hk => ?_
 refine of_eq (q := (fun (c : Int) => (fun (b : Int) => (fun (a : Prop) => a /\ a /\ a /\ a /\ (b < (p.length : Int) -> a /\ a /\ a /\ idxPre b p.length /\ a /\ (((0 : Int) <= c /\ c < 64) /\ a) /\ a /\ a /\ a /\ inR .i64 (b + 1) /\ a /\ ∃ (y : Nat), (y <= p.length /\ p.length - y < p.length - k) /\ (n = n /\ p = p /\ maxI (mxK p k) (↑(pc c.toNat) : Int) = mxK p y /\ b + 1 = (y : Int) /\ a) /\ a) /\ (¬b < (p.length : Int) -> ∃ (y : Unit), a /\ (n = n /\ p = p /\ mxK p k = mxL p /\ a) /\ a)) (True)) ((k : Int))) (p.getD k (0 : Int))) (by kernel_rfl) ?_
 simp only [zz]
 have hk : k <= p.length := hk
 have hl := h.l
 refine ⟨fun hlt => ⟨idx_nat (by omega), okL_get h.h k, by simp only [inR]; omega, k + 1, by omega, by rw [mxK_step (by omega)], by omega⟩, fun hlt => by rw [mxL, show p.length = k by omega]⟩
theorem loop40b (p : List Int) (h : ok10 p) (R : Exit -> St -> Prop) : LoopOK (X [e29, e35]) L40_2 (h1_40 p) R := by
 refine loop_ok (X_ok _) (H := fun _ _ => none) [7, 8, 9] (fun k => k <= (fcs p).length) (s1_40 p) (fun k => (fcs p).length - k) (e1_40 p) 150 fun (k : Nat) hk => ?_
 refine of_eq (q := (fun (f : Int) => (fun (e : Int) => (fun (d : Prop) => (fun (a : List Int) => (fun (c : Nat) => (fun (b : List Int) => d /\ d /\ d /\ d /\ (e < (a.length : Int) -> d /\ d /\ d /\ idxPre e a.length /\ d /\ ((f <= a.getD k f /\ a.getD k f < 64) /\ d) /\ idxPre (c : Int) b.length /\ d /\ inR .i64 (b.getD c f + 1) /\ idxPre (c : Int) b.length /\ d /\ d /\ inR .i64 (e + 1) /\ d /\ ∃ (y : Nat), (y <= a.length /\ a.length - y < a.length - k) /\ (d /\ a = a /\ e + 1 = (y : Int) /\ d) /\ b.set c (b.getD c f + 1) = cntL a (mxL p).toNat y /\ d) /\ (¬e < (a.length : Int) -> ∃ (y : Unit), d /\ (d /\ d) /\ b = cnts p /\ d)) (cntL a (mxL p).toNat k)) (pc (Int.toNat (a.getD k f)))) (fcs p)) (True)) ((k : Int))) ((0 : Int))) (by kernel_rfl) ?_
 simp only [zz]
 have hk : k <= (fcs p).length := hk
 have hl := fcs_len p
 refine ⟨fun hlt => ?_, fun hlt => by rw [show k = (fcs p).length by omega]; rfl⟩
 have hd := fcs_pc h.h (k := k) (by omega)
 have hle := cntL_le (l := fcs p) (d := (mxL p).toNat) (k := k) (i := pc ((fcs p).getD k 0).toNat)
 have hi : idxPre ((pc ((fcs p).getD k 0).toNat : Nat) : Int) (cntL (fcs p) (mxL p).toNat k).length := idx_nat (by rw [cntL_length]; omega)
 exact ⟨idx_nat (by omega), okL_get (fcs_ok p) k, hi, by simp only [inR]; omega, hi, by simp only [inR]; omega, k + 1, by omega, by omega, cntL_step (by omega) hd⟩
theorem call40 (n : Int) (p : List Int) (h : cxOk n p) : GCall Try.prog gl 40 false [.int .i64 n, .sl I64 p] [] [.sl I64 (cnts p)] [] := by
 refine gcall_of (X := X [e29, e35]) (X_ok [e29, e35]) (f := 40) (fn := Try.f40) (c := bodyOf Try.f40) (by kernel_rfl) (by kernel_rfl) (view := true) (rvs := [.tmp 4]) (by kernel_rfl) (H := (H40 n p)) 80 (by kernel_rfl) ?_
 have hL := fun R => loop40a n p ⟨h.ok, h.2.1.2⟩ R
 have hM := fun R => loop40b p ⟨h.ok, h.2.1.2⟩ R
 refine of_eq (q := (fun (c : Prop) => (fun (b : Cy) => (fun (a : Int) => c /\ c /\ c /\ LoopOK b L40_0 (h0_40 n p) (RetR b false true [ResultVar.tmp (4 : Tmp)] [AV.sl I64 (cnts p)] []) /\ (∃ (y : Nat), y <= p.length /\ (n = n /\ p = p /\ (0 : Int) = mxK p y /\ (0 : Int) = (y : Int) /\ c) /\ c) /\ (∀ (y : Unit), c -> c /\ inR .i64 a /\ ((0 : Int) <= a /\ a <= a /\ a * (↑(nat_lit 8) : Int) <= 140737488355328 /\ a <= 140737488355328) /\ c /\ c /\ c /\ ((numOk n /\ okL p /\ p.length < 1000000) /\ c) /\ c /\ c /\ LoopOK b L40_2 (h1_40 p) (RetR b false true [ResultVar.tmp (4 : Tmp)] [AV.sl I64 (cnts p)] []) /\ (∃ (y : Nat), y <= (fcs p).length /\ (c /\ facesL n p = fcs p /\ (0 : Int) = (y : Int) /\ c) /\ List.replicate a.toNat (Ty.int .i64).dflt = cntL (fcs p) (mxL p).toNat y /\ c) /\ (∀ (y : Unit), c -> c /\ c /\ c /\ (cnts p = cnts p /\ c) /\ c) /\ c) /\ c) (mxL p + 1)) (X [e29, e35])) (True)) (by kernel_rfl) ?_
 simp only [zz]
 obtain ⟨m1, m2⟩ := mxL_le p
 refine ⟨hL _, ⟨0, Nat.zero_le _, rfl, rfl⟩, fun _ _ => ⟨by simp only [inR]; omega, by omega, ⟨h.1, h.ok, by have := h.2.1.2; omega⟩, hM _, ⟨0, Nat.zero_le _, ⟨faces_fcs h, rfl⟩, ?_⟩, fun _ h => h⟩⟩
 apply ext_getD (d := 0) (by rw [cntL_length]; simp; omega)
 intro i hi
 rw [List.length_replicate] at hi
 rw [cntL_getD (by omega), List.getD_eq_getElem?_getD, List.getElem?_replicate, if_pos hi]
 rfl
def chK (n : Int) : Nat -> Int
 | 0 => 1
 | k + 1 => (chK n k * (n - (k + 1) + 1)).tdiv (k + 1)
end Go.Am.Sh

/- Shells: the reference's Hs and Euler. -/
namespace Go.Am.Sh
open Go Go.Am Go.Proofs
def e40 : Entry Try.prog gl := entry2 40 ⟨Try.f40, by kernel_rfl, by kernel_rfl, by kernel_rfl⟩ I64 SI (fun (n : Int) p => cxOk n p) false (fun _ p => [.sl I64 (cnts p)]) (fun _ _ => []) (call40)
def sg (j : Nat) : Int := 1 - 2 * ((j % 2 : Nat) : Int)
def htm (f : List Int) (k i : Nat) : Int := f.getD i 0 * chK ((f.length - 1 - i : Nat) : Int) (k - i) * sg (k - i)
def hsum (f : List Int) (k : Nat) : Nat -> Int
 | 0 => 0
 | i + 1 => hsum f k i + htm f k i
def rhL (f : List Int) : List Int := (List.range f.length).map fun j => hsum f j (j + 1)
structure okF (f : List Int) : Prop where
 b : bdd 64 f
 l : 1 <= f.length /\ f.length <= 7
end Go.Am.Sh

/- Shells: the law of the counts. -/
namespace Go.Am.Sh
open Go Go.Am Go.Proofs
theorem hq1 (a : Int) : hsK [a] 1 = rhL [a] := by
 simp [hsK, rhL, hsum, htm, sg, chK]
theorem hq2 (a b : Int) : hsK [a, b] 2 = rhL [a, b] := by
 simp [hsK, rhL, hsum, htm, sg, chK, triJ, List.range_succ]
 try omega
theorem hq3 (a b c : Int) : hsK [a, b, c] 3 = rhL [a, b, c] := by
 simp [hsK, rhL, hsum, htm, sg, chK, triJ, List.range_succ]
 try omega
end Go.Am.Sh

/- Shells: Made. -/
namespace Go.Am.Sh
open Go Go.Am Go.Proofs
def obN (n : Int) : List Ob := [.bx (.int .i64 n)]
def badB (n s : Int) : Bool := decide (s < 0 ∨ 2 ^ n.toNat <= s)
structure ok83m (x : List Int × Int) : Prop where
 n : numOk x.2
 l : x.1.length <= 64
def badL (n : Int) (p : List Int) : Bool := p.any (badB n)
def madOk (n : Int) (p : List Int) : Prop := numOk n /\ p.length <= 64 /\ badL n p = false
instance (n p) : Decidable (madOk n p) := by unfold madOk numOk; infer_instance
def madE (n : Int) (p : List Int) : Int := if madOk n p then fewE (grL (isF p)) else 1
def madR (n : Int) (p : List Int) : List Int := if madOk n p then fewR (grL (isF p)) else []
theorem isF_iff {s : List Int} {x : Nat} : isF s x = true ↔ ∃ i, i < s.length /\ sub x (s.getD i 0).toNat = true := by
 unfold isF
 rw [List.any_eq_true]
 constructor
 · rintro ⟨a, ha, h⟩
   obtain ⟨i, hi, e⟩ := List.getElem_of_mem ha
   exact ⟨i, hi, by rw [getD_lt hi, e]; exact h⟩
 · rintro ⟨i, hi, h⟩
   exact ⟨_, mem_getD hi, h⟩
end Go.Am.Sh

/- Shells: the reference's Moment. -/
namespace Go.Am.Sh
open Go Go.Am Go.Proofs
def gapB (k a b : Nat) : Bool := decide (k / 2 ^ a % 2 = 0) && decide (k / 2 ^ b % 2 = 0) && decide (pc (k / 2 ^ (a + 1) % 2 ^ (b - a - 1)) % 2 = 1)
def inB (k a : Nat) : Nat -> Bool
 | 0 => true
 | j + 1 => inB k a j && !gapB k a (a + 1 + j)
theorem pow_cast (j : Nat) : (2 ^ j : Int) = ((2 ^ j : Nat) : Int) := by rw [Int.natCast_pow]; try rfl
theorem kt {k a j : Nat} : ((k : Int) / 2 ^ (a + 1)).tmod (1 * 2 ^ j) = ((k / 2 ^ (a + 1) % 2 ^ j : Nat) : Int) := by
 rw [Int.one_mul, pow_cast, pow_cast]
 generalize 2 ^ (a + 1) = P
 generalize 2 ^ j = Q
 have e1 : (k : Int) / (P : Int) = ((k / P : Nat) : Int) := by rw [Int.natCast_ediv]
 rw [e1, Int.tmod_eq_emod_of_nonneg (Int.natCast_nonneg _), Int.natCast_emod]
theorem pt {x : Nat} : ((pc x : Nat) : Int).tmod 2 = ((pc x % 2 : Nat) : Int) := by
 rw [Int.tmod_eq_emod_of_nonneg (Int.natCast_nonneg _)]; omega
end Go.Am.Sh

/- Shells: the law's pure. -/
namespace Go.Am.Sh
open Go Go.Am Go.Proofs
structure cxS (n : Int) (p : List Int) : Prop where
end Go.Am.Sh

/- Shells: what follows, in the program and in the reference; IsShelling. -/
namespace Go.Am.Sh
open Go Go.Am Go.Proofs
end Go.Am.Sh

/- Shells: the reference's Shellable. -/
namespace Go.Am.Sh
open Go Go.Am Go.Proofs
/-- The sets that are reached: one row, the first k of its pieces. -/
def rowC (p : List Int) (D : Nat) (xs : List Bool) : Nat -> List Bool
 | 0 => xs
 | k + 1 => if D / 2 ^ k % 2 = 0 /\ nxB p D k = true then (rowC p D xs k).set (D ||| 2 ^ k) true else rowC p D xs k
/-- ... the first rows. -/
def canC (p : List Int) : Nat -> List Bool
 | 0 => (List.replicate (2 ^ p.length) false).set 0 true
 | D + 1 => if (canC p D).getD D false = true then rowC p D (canC p D) p.length else canC p D
def shR (p : List Int) : Bool := puB p && (canC p (2 ^ p.length)).getD (2 ^ p.length - 1) false
end Go.Am.Sh

/- Shells: what the search finds is what the reference reaches. -/
namespace Go.Am.Sh
open Go Go.Am Go.Proofs
structure rOk (p : List Int) (r : Res) : Prop where
 s : (sgK p r.2.1 r.2.1.length).isSome = true
 l : r.2.1.length = p.length
end Go.Am.Sh

/- Shells: the law of the shellings. -/
namespace Go.Am.Sh
open Go Go.Am Go.Proofs
structure shF (p : List Int) : Prop where
 e : shB p = shR p
 s : shB p = true -> sgR p (shL p) = true
 z : shB p = false -> shL p = []
 l : (shL p).length <= 10
end Go.Am.Sh

/- Shells: the walk of the law of the shellings. -/
namespace Go.Am.Sh
open Go Go.Am Go.Proofs
end Go.Am.Sh

/- Shells: Made, as the law says it; IsShelling. -/
namespace Go.Am.Sh
open Go Go.Am Go.Proofs
structure ok73 (x : List Int × Cx3) : Prop where
 h : okC x.2
 l : x.1.length < 1000000000000000
end Go.Am.Sh

/- Shells: the law of the makers. -/
namespace Go.Am.Sh
open Go Go.Am Go.Proofs
instance (n d : Int) : Decidable (momOk n d) := by unfold momOk; infer_instance
def bdK (n : Int) (s : List Int) : Nat -> Bool
 | 0 => decide (n < 1 ∨ 6 < n ∨ 64 < s.length)
 | i + 1 => badB n (s.getD i 0)
def smK (s : List Int) : Nat -> Bool
 | 0 => false
 | i + 1 => smK s i || decide (0 < s.getD i 0)
def sb4 (n d : Int) (s : List Int) (k i : Nat) : St := ⟨.int .i64 n :: .dead :: .int .i64 d :: dd 4 ++ .sl I64 s :: .int .i64 k :: .sl I64 (madR n s) :: .int .i64 (madE n s) :: .bool (bdK n s i) :: .bool (smK s i) :: .int .i64 i :: dd 164, []⟩
def ib4 (n : Int) (s : List Int) (i : Nat) : Prop := i <= s.length /\ ∀ j, j < i -> bdK n s j = false
def eb4 (n d : Int) (s : List Int) (k : Nat) : List (List Nat × Ex) := [([0, 2, 7, 8, 9, 10, 11, 12], ⟨2, Nat, fun i => ib4 n s i /\ (i = s.length ∨ bdK n s i = true), fun i => ⟨.int .i64 n :: .dead :: .int .i64 d :: dd 4 ++ .sl I64 s :: .int .i64 k :: .sl I64 (madR n s) :: .int .i64 (madE n s) :: .bool (bdK n s i) :: .bool (smK s i) :: dd 165, []⟩⟩)]
def hb4 (n d : Int) (s : List Int) (k : Nat) : Hint := ⟨chk 0 [0, 2, 7, 8, 9, 10, 11, 12, 13] (ib4 n s) (sb4 n d s k), (eb4 n d s k).map (·.2)⟩
def n4 (n : Int) : Int := 3 + (modU .u64 n).tmod 4
def d4 (n d : Int) : Int := 2 + (modU .u64 d).tmod (n4 n - 2)
end Go.Am.Sh

/- Shells: the law of the makers, the outer loop. -/
namespace Go.Am.Sh
open Go Go.Am Go.Proofs
def nH : Nat -> Option Hint := fun _ => none
end Go.Am.Sh

/- Shells: News. -/
namespace Go.Am.Sh
open Go Go.Am Go.Proofs
def okO (p l : List Int) : Prop := ∀ j ∈ l, 0 <= j /\ j < p.length
structure pre59n (w : Int) (p l : List Int) : Prop where
 hp : okL p
 hw : 0 <= w /\ w < 64
 ho : okO p l
 hl : l.length <= 64
structure ok43 (n : Int) (p o : List Int) : Prop where
 hc : cxOk n p
 ho : okO p o
 hl : o.length <= 10
end Go.Am.Sh

/- Shells: News, as the reference finds them. -/
namespace Go.Am.Sh
open Go Go.Am Go.Proofs
end Go.Am.Sh

/- Shells: the law of the orders. -/
namespace Go.Am.Sh
open Go Go.Am Go.Proofs
end Go.Am.Sh

/- Shells: the rank of rows, as the reference finds it. -/
namespace Go.Am.Sh
open Go Go.Am Go.Proofs
noncomputable abbrev X69 : Cy := Xw [] (fun t => Nat.beq t 10)
noncomputable def L69_0 : Code := lp (bodyOf Try.f69) 0
noncomputable def L69_2 : Code := lp (bodyOf Try.f69) 2
def st69 (l : List Int) (i : Nat) : St := ⟨dd 3 ++ .own 0 0 :: .int .i64 (rkI l i) :: .int .i64 i :: dd 56, [.sc 0 3 I64 (rwI l i)]⟩
def ex69 (l : List Int) : List (List Nat × Ex) := [([4], ⟨0, Unit, fun _ => True, fun _ => ⟨dd 4 ++ .int .i64 (rk l) :: dd 57, []⟩⟩)]
def h69 (l : List Int) : Hint := ⟨chk 0 [3, 4, 5] (inv86 l) (st69 l), (ex69 l).map (·.2)⟩
def sj69 (l : List Int) (i j : Nat) : St := ⟨dd 3 ++ .own 0 0 :: .int .i64 (rkI l i + 1) :: .int .i64 i :: .int .i64 (lo ((rwI l i).getD i 0).toNat) :: .int .i64 j :: dd 54, [.sc 0 3 I64 (clr (rwI l i) i j)]⟩
def ej69 (l : List Int) (i : Nat) : List (List Nat × Ex) := [([3, 4, 5], ⟨2, Unit, fun _ => True, fun _ => ⟨dd 3 ++ .own 0 0 :: .int .i64 (rkI l i + 1) :: .int .i64 i :: dd 56, [.sc 0 3 I64 (clr (rwI l i) i l.length)]⟩⟩)]
def hj69 (l : List Int) (i : Nat) : Hint := ⟨chk 0 [3, 4, 5, 6, 7] (inj86 l i) (sj69 l i), (ej69 l i).map (·.2)⟩
theorem loop69b (l : List Int) (i : Nat) (hi : i < l.length) (hl : l.length < 1000000) (ho : okR l) (R : Exit -> St -> Prop) : LoopOK X69 L69_2 (hj69 l i) R := by
 refine loop_ok (Xw_ok _ _) (H := fun _ _ => none) [3, 4, 5, 6, 7] (inj86 l i) (sj69 l i) (fun j => l.length - j) (ej69 l i) 100 fun (j : Nat) hj => ?_
 refine of_eq (q := (fun (o : Int) => (fun (n : Nat) => (fun (h : List Int) => (fun (f : Int) => (fun (e : Int) => (fun (m : Int) => (fun (d : Prop) => (fun (c : Int) => (fun (b : Int) => (fun (a : List Int) => (fun (k : Prop) => (fun (g : Prop) => d /\ d /\ d /\ d /\ (e < (a.length : Int) -> d /\ d /\ k /\ d /\ d /\ d /\ d /\ (g -> d /\ d /\ d /\ d /\ k /\ d /\ d /\ d /\ idxPre f a.length /\ d /\ d /\ k /\ d /\ d /\ inR .i64 m /\ d /\ ∃ (y : Nat), (inj86 l i y /\ n - y < n - j) /\ (d /\ c = c /\ f = f /\ b = b /\ m = (y : Int) /\ d) /\ a.set j (bXor .i64 (a.getD j o) (a.getD i o)) = clr h i y /\ d) /\ (¬g -> d /\ inR .i64 m /\ d /\ ∃ (y : Nat), (inj86 l i y /\ n - y < n - j) /\ (d /\ c = c /\ f = f /\ b = b /\ m = (y : Int) /\ d) /\ a = clr h i y /\ d)) /\ (¬e < (a.length : Int) -> ∃ (y : Unit), d /\ (d /\ c = c /\ f = f /\ d) /\ a = clr h i n /\ d)) (¬bAnd .i64 (a.getD j o) b = o)) (idxPre e a.length)) (clr h i j)) ((↑(lo (h.getD i o).toNat) : Int))) ((↑(rkI l i) : Int) + 1)) (True)) (e + 1)) ((j : Int))) ((i : Int))) (rwI l i)) (l.length)) ((0 : Int))) (by kernel_rfl) ?_
 simp only [zz]
 obtain ⟨j1, j2⟩ := hj
 have hlen := rwI_length l i
 have hok := rwI_ok ho i
 rw [clr_length, hlen]
 refine ⟨fun h => ?_, fun h => by rw [show j = l.length by omega]⟩
 rw [clr_self (k := j) (by omega) (by omega), clr_self (k := i) (by omega) (by omega)]
 obtain ⟨a, ha⟩ : ∃ a : Nat, (rwI l i).getD j 0 = a := ⟨((rwI l i).getD j 0).toNat, by have := hok j; omega⟩
 obtain ⟨b, hb⟩ : ∃ b : Nat, (rwI l i).getD i 0 = b := ⟨((rwI l i).getD i 0).toNat, by have := hok i; omega⟩
 have h1 := hok j
 have h2 := hok i
 have h3 := lo_le b
 have hh : hitR (rwI l i) i j = !Nat.beq (a &&& lo b) 0 := by unfold hitR; rw [ha, hb]; try rfl
 rw [ha] at h1
 rw [hb] at h2
 rw [ha, hb]
 simp only [Int.toNat_natCast]
 rw [bAnd_nat (by omega) (by omega), bXor_nat (by omega) (by omega)]
 have hn : ∀ z : List Int, z = clr (rwI l i) i (j + 1) -> inR .i64 ((j : Int) + 1) /\ ∃ y : Nat, (inj86 l i y /\ l.length - y < l.length - j) /\ (j : Int) + 1 = (y : Int) /\ z = clr (rwI l i) i y := fun z hz => ⟨by simp only [inR]; omega, j + 1, ⟨⟨by omega, by omega⟩, by omega⟩, by omega, hz⟩
 refine ⟨idx_nat (by omega), fun h0 => ⟨idx_nat (by omega), idx_nat (by omega), idx_nat (by omega), hn _ ?_⟩, fun h0 => hn _ ?_⟩
 · have := clr_hit (l := rwI l i) j1 (by omega) (by rw [hh]; cases hq : Nat.beq (a &&& lo b) 0 with
     | false => rfl
     | true => exact absurd (by have := Nat.eq_of_beq_eq_true hq; omega) h0)
   rw [ha, hb, Int.toNat_natCast, Int.toNat_natCast] at this
   exact this
 · refine (clr_miss ?_).symm
   rw [hh, show a &&& lo b = 0 by omega]; try rfl
theorem loop69 (l : List Int) (hl : l.length < 1000000) (ho : okR l) (R : Exit -> St -> Prop) : LoopOK X69 L69_0 (h69 l) R := by
 refine loop_ok (Xw_ok _ _) (H := fun i _ => some (hj69 l i)) [3, 4, 5] (inv86 l) (st69 l) (fun i => l.length - i) (ex69 l) 150 fun (i : Nat) hi => ?_
 have hL := fun h => loop69b l i h hl ho (bodyR X69.m0 (ex69 l) R)
 refine of_eq (q := (fun (j : Nat) => (fun (g : Int) => (fun (d : Prop) => (fun (c : Int) => (fun (e : Prop) => (fun (b : Int) => (fun (a : List Int) => (fun (h : Prop) => (fun (f : Int) => d /\ d /\ d /\ d /\ (c < (a.length : Int) -> d /\ d /\ h /\ d /\ d /\ (f = 0 -> d /\ e /\ d /\ ∃ (y : Nat), (inv86 l y /\ j - y < j - i) /\ (d /\ b = (↑(rkI l y) : Int) /\ c + g = (y : Int) /\ d) /\ a = rwI l y /\ d) /\ (¬f = 0 -> d /\ inR .i64 (b + g) /\ d /\ d /\ d /\ h /\ d /\ d /\ d /\ h /\ d /\ inR .i64 (-f) /\ d /\ d /\ d /\ e /\ d /\ LoopOK X69 L69_2 (hj69 l i) (bodyR X69.m0 (ex69 l) R) /\ (∃ (y : Nat), inj86 l i y /\ (d /\ b + g = b + g /\ c = c /\ bAnd .i64 f (-f) = (↑(lo (a.getD i (0 : Int)).toNat) : Int) /\ c + g = (y : Int) /\ d) /\ a = clr a i y /\ d) /\ (∀ (y : Unit), d -> d /\ e /\ d /\ ∃ (y : Nat), (inv86 l y /\ j - y < j - i) /\ (d /\ b + g = (↑(rkI l y) : Int) /\ c + g = (y : Int) /\ d) /\ clr a i j = rwI l y /\ d) /\ d)) /\ (¬c < (a.length : Int) -> ∃ (y : Unit), d /\ (b = (↑(rk l) : Int) /\ d) /\ d)) (a.getD i (0 : Int))) (idxPre c a.length)) (rwI l i)) ((↑(rkI l i) : Int))) (inR .i64 (c + g))) ((i : Int))) (True)) ((1 : Int))) (l.length)) (by kernel_rfl) ?_
 simp only [zz]
 have hi : i <= l.length := hi
 have hlen := rwI_length l i
 have hok := rwI_ok ho i i
 have hr := rkI_le l i
 rw [hlen]
 refine ⟨fun h => ⟨idx_nat (by omega), fun h0 => ⟨by simp only [inR]; omega, i + 1, ⟨by unfold inv86; omega, by omega⟩, ⟨by rw [rkI, if_pos h0], by omega⟩, by rw [rwI, if_pos h0]⟩, fun h0 => ⟨by simp only [inR]; omega, idx_nat (by omega), idx_nat (by omega), by simp only [inR]; omega, by simp only [inR]; omega, hL (by omega), ⟨i + 1, ⟨by omega, by omega⟩, ⟨?_, by omega⟩, clr_first.symm⟩, fun _ _ => ⟨by simp only [inR]; omega, i + 1, ⟨by unfold inv86; omega, by omega⟩, ⟨by rw [rkI, if_neg h0]; omega, by omega⟩, by rw [rwI, if_neg h0]⟩⟩⟩, fun h => by rw [show i = l.length by omega]; rfl⟩
 obtain ⟨b, hb⟩ : ∃ b : Nat, (rwI l i).getD i 0 = b := ⟨((rwI l i).getD i 0).toNat, by omega⟩
 rw [hb] at hok |-
 rw [<- Int.zero_sub, lo_i64 (by omega), Int.toNat_natCast]
theorem call69 (l : List Int) (h : (l.length < 1000000 /\ l ≠ []) /\ okR l) : GCall Try.prog gl 69 true [.sl I64 l] [] [.int .i64 (rk l)] [] := by
 refine gcall_of (X := X69) ((Xw_ok _ _)) (f := 69) (fn := Try.f69) (c := bodyOf Try.f69) (by kernel_rfl) (by kernel_rfl) (view := false) (rvs := [.tmp 2]) (by kernel_rfl) (H := (fun _ => some (h69 l))) 80 (by kernel_rfl) ?_
 have hL := loop69 l h.1.1 h.2
 refine of_eq (q := (fun (a : Prop) => a /\ a /\ a /\ a /\ (l ≠ [] /\ sumPre (0 : Nat) l.length (nat_lit 8)) /\ a /\ a /\ a /\ LoopOK X69 L69_0 (h69 l) (RetR X69 true false [ResultVar.tmp (2 : Tmp)] [AV.int .i64 (↑(rk l) : Int)] []) /\ (∃ (y : Nat), inv86 l y /\ (a /\ (0 : Int) = (↑(rkI l y) : Int) /\ (0 : Int) = (y : Int) /\ a) /\ l = rwI l y /\ a) /\ (∀ (y : Unit), a -> a /\ a /\ a /\ ((↑(rk l) : Int) = (↑(rk l) : Int) /\ a) /\ a) /\ a) (True)) (by kernel_rfl) ?_
 simp only [zz]
 exact ⟨⟨h.1.2, by unfold sumPre; omega⟩, hL _, ⟨0, Nat.zero_le _, ⟨rfl, rfl⟩, rfl⟩, fun _ _ => trivial⟩
def e69 : Entry Try.prog gl := entry1 69 ⟨Try.f69, by kernel_rfl, by kernel_rfl, by kernel_rfl⟩ SI (fun l => (l.length < 1000000 /\ l ≠ []) /\ okR l) true (fun l => [.int .i64 (rk l)]) (fun _ => []) (call69)
def st69N (_ : Unit) : St := ⟨dd 3 ++ nl :: .int .i64 0 :: .int .i64 0 :: dd 56, []⟩
def ex69N : List (List Nat × Ex) := [([4], ⟨0, Unit, fun _ => True, fun _ => ⟨dd 4 ++ .int .i64 0 :: dd 57, []⟩⟩)]
def h69N : Hint := ⟨chk 0 [3, 4, 5] (fun _ => True) st69N, ex69N.map (·.2)⟩
theorem loop69N (R : Exit -> St -> Prop) : LoopOK X69 L69_0 h69N R := by
 refine loop_ok (Xw_ok _ _) (H := fun _ _ => none) [3, 4, 5] (fun _ => True) st69N (fun _ => 0) ex69N 100 fun _ _ => ?_
 refine of_eq (q := True /\ True /\ True /\ True /\ ((0 : Int) < 0 -> True /\ True /\ False) /\ (¬(0 : Int) < 0 -> ∃ (y : Unit), True /\ ((0 : Int) = 0 /\ True) /\ True)) (by kernel_rfl) ?_
 simp only [zz]
 exact ⟨fun h => absurd h (by decide), fun _ => trivial⟩
theorem call69N (_ : Unit) (_ : True) : GCall Try.prog gl 69 true [nl] [] [.int .i64 0] [] := by
 refine gcall_of (X := X69) ((Xw_ok _ _)) (f := 69) (fn := Try.f69) (c := bodyOf Try.f69) (by kernel_rfl) (by kernel_rfl) (view := false) (rvs := [.tmp 2]) (by kernel_rfl) (H := (fun _ => some h69N)) 80 (by kernel_rfl) ?_
 have hL := loop69N
 refine of_eq (q := (fun (b : Int) => (fun (a : Prop) => a /\ a /\ a /\ a /\ sumPre (0 : Nat) (0 : Nat) (nat_lit 8) /\ a /\ a /\ a /\ LoopOK X69 L69_0 h69N (RetR X69 true false [ResultVar.tmp (2 : Tmp)] [AV.int .i64 b] []) /\ (∃ (y : Unit), a /\ (a /\ b = b /\ b = b /\ a) /\ a) /\ (∀ (y : Unit), a -> a /\ a /\ a /\ (b = b /\ a) /\ a) /\ a) (True)) ((0 : Int))) (by kernel_rfl) ?_
 simp only [zz]
 exact ⟨by unfold sumPre; decide, hL _, fun _ _ => trivial⟩
def e69N : Entry Try.prog gl := entryW 69 ⟨Try.f69, by kernel_rfl, by kernel_rfl, by kernel_rfl⟩ false getNl (fun _ => True) true (fun _ => [nl]) (fun _ => []) (fun _ => [.int .i64 0]) (fun _ => []) call69N
end Go.Am.Sh

/- Shells: the borders, as the reference finds them. -/
namespace Go.Am.Sh
open Go Go.Am Go.Proofs
noncomputable def L68_0 : Code := lp (bodyOf Try.f68) 0
noncomputable def L68_2 : Code := lp (bodyOf Try.f68) 2
def sz68 (l : List Int) (m : Int) (k : Nat) : St := ⟨.sl I64 l :: .int .i64 m :: dd 3 ++ nl :: .int .i64 k :: dd 42, []⟩
def st68 (l : List Int) (m : Int) (k : Nat) : St := ⟨.sl I64 l :: .int .i64 m :: dd 3 ++ .own 0 0 :: .int .i64 k :: dd 42, [.sc 0 3 I64 (brdK l m k)]⟩
def jz68 (l : List Int) (m : Int) (k v : Nat) : St := ⟨.sl I64 l :: .int .i64 m :: dd 3 ++ nl :: .int .i64 k :: .int .i64 (rowK (l.getD k 0).toNat v : Nat) :: .int .i64 v :: dd 40, []⟩
def jt68 (l : List Int) (m : Int) (k v : Nat) : St := ⟨.sl I64 l :: .int .i64 m :: dd 3 ++ .own 0 0 :: .int .i64 k :: .int .i64 (rowK (l.getD k 0).toNat v : Nat) :: .int .i64 v :: dd 40, [.sc 0 3 I64 (brdK l m k)]⟩
def ejz68 (l : List Int) (m : Int) (k : Nat) : List (List Nat × Ex) := [([0, 1, 5, 6, 7], ⟨2, Unit, fun _ => True, fun _ => ⟨.sl I64 l :: .int .i64 m :: dd 3 ++ nl :: .int .i64 k :: .int .i64 (row (l.getD k 0).toNat : Nat) :: dd 41, []⟩⟩)]
def ejt68 (l : List Int) (m : Int) (k : Nat) : List (List Nat × Ex) := [([0, 1, 5, 6, 7], ⟨2, Unit, fun _ => True, fun _ => ⟨.sl I64 l :: .int .i64 m :: dd 3 ++ .own 0 0 :: .int .i64 k :: .int .i64 (row (l.getD k 0).toNat : Nat) :: dd 41, [.sc 0 3 I64 (brdK l m k)]⟩⟩)]
def hz68 (l : List Int) (m : Int) (k : Nat) : Hint := ⟨chk 0 [0, 1, 5, 6, 7, 8] (fun v => v <= 6) (jz68 l m k), (ejz68 l m k).map (·.2)⟩
def ht68 (l : List Int) (m : Int) (k : Nat) : Hint := ⟨chk 0 [0, 1, 5, 6, 7, 8] (fun v => v <= 6) (jt68 l m k), (ejt68 l m k).map (·.2)⟩
def fm68 (l : List Int) (m : Int) : List Fam := [⟨Nat, fun k => k <= l.length /\ brdK l m k = [], sz68 l m, fun k => l.length - k, fun k _ => some (hz68 l m k)⟩, ⟨Nat, fun k => k <= l.length, st68 l m, fun k => l.length - k, fun k _ => some (ht68 l m k)⟩]
def ex68 (l : List Int) (m : Int) : List (List Nat × Ex) := [([5], ⟨0, Unit, fun _ => brdK l m l.length = [], fun _ => ⟨dd 5 ++ nl :: dd 43, []⟩⟩), ([5], ⟨0, Unit, fun _ => True, fun _ => ⟨dd 5 ++ .own 0 0 :: dd 43, [.sc 0 3 I64 (brdK l m l.length)]⟩⟩)]
def h68 (l : List Int) (m : Int) : Hint := ⟨chks 0 [0, 1, 5, 6] (fm68 l m), (ex68 l m).map (·.2)⟩
noncomputable abbrev X68 : Cy := X [e29]
theorem loop68z (l : List Int) (m : Int) (k : Nat) (ho : okL l) (hk : k < l.length) (hl : l.length <= 64) (R : Exit -> St -> Prop) : LoopOK X68 L68_2 (hz68 l m k) R := by
 refine loop_ok (X_ok _) (H := fun _ _ => none) [0, 1, 5, 6, 7, 8] (fun v => v <= 6) (jz68 l m k) (fun v => 6 - v) (ejz68 l m k) 100 fun (v : Nat) hv => ?_
 refine of_eq (q := (fun (n : Nat) => (fun (i : Int) => (fun (g : Int) => (fun (f : Prop) => (fun (e : Int) => (fun (d : Int) => (fun (p : Prop) => (fun (c : Int) => (fun (j : Prop) => (fun (b : Nat) => (fun (h : Int) => (fun (a : Int) => (fun (o : Int) => f /\ f /\ (c < 6 -> f /\ f /\ idxPre e l.length /\ f /\ f /\ j /\ ¬g = i /\ f /\ (p -> f /\ f /\ f /\ idxPre e l.length /\ f /\ f /\ (j /\ (-9223372036854775808 : Int) <= d * g ^ v /\ d * g ^ v <= 9223372036854775807) /\ f /\ ((i <= a /\ a < bitsOf .i64) /\ (-9223372036854775808 : Int) <= o /\ o <= 9223372036854775807) /\ f /\ f /\ f /\ inR .i64 (c + d) /\ f /\ ∃ (y : Nat), (y <= n /\ n - y < n - v) /\ (l = l /\ m = m /\ f /\ e = e /\ bOr .i64 h o = (↑(rowK b y) : Int) /\ c + d = (y : Int) /\ f) /\ f) /\ (¬p -> f /\ inR .i64 (c + d) /\ f /\ ∃ (y : Nat), (y <= n /\ n - y < n - v) /\ (l = l /\ m = m /\ f /\ e = e /\ h = (↑(rowK b y) : Int) /\ c + d = (y : Int) /\ f) /\ f)) /\ (¬c < 6 -> ∃ (y : Unit), f /\ (l = l /\ m = m /\ f /\ e = e /\ h = (↑(row b) : Int) /\ f) /\ f)) (d * g ^ a.toNat)) (bNot .i64 (l.getD k i) (d * g ^ v))) ((↑(rowK b v) : Int))) ((l.getD k i).toNat)) (i <= c /\ c < bitsOf .i64)) ((v : Int))) ((l.getD k i / g ^ v).tmod g = d)) ((1 : Int))) ((k : Int))) (True)) ((2 : Int))) ((0 : Int))) ((6 : Nat))) (by kernel_rfl) ?_
 simp only [zz]
 have hv : v <= 6 := hv
 have hf := okL_get ho k
 obtain ⟨s, hs⟩ : ∃ s : Nat, l.getD k 0 = s := ⟨(l.getD k 0).toNat, by omega⟩
 rw [hs] at hf |-
 simp only [Int.toNat_natCast]
 have hs64 : s < 64 := by omega
 refine ⟨fun h3 => ?_, fun h3 => by rw [show v = 6 by omega]; rfl⟩
 have hv6 : v < 6 := by omega
 have hR : rowK s (v + 1) = if s / 2 ^ v % 2 = 1 then rowK s v ||| 2 ^ mns s (2 ^ v) else rowK s v := rfl
 have hB := row_bit ⟨s, hs64⟩ ⟨v, hv6⟩
 simp only at hB
 have h2 : 2 ^ v < 64 := Nat.pow_lt_pow_right (a := 2) (by decide) hv6
 have e : (2 ^ v : Int) = ((2 ^ v : Nat) : Int) := by rw [Int.natCast_pow]; try rfl
 have e1 : ((s : Int) / 2 ^ v).tmod 2 = ((s / 2 ^ v % 2 : Nat) : Int) := bit_tmod
 rw [e1, e]
 generalize 2 ^ v = P at *
 have e3 : bNot .i64 (s : Int) (1 * (P : Int)) = ((mns s P : Nat) : Int) := by
   rw [Int.one_mul, bNot_nat (by omega) (by omega)]
 have hr := rowK_lt hs64 v (by omega)
 have hn : ∀ z : Int, z = (rowK s (v + 1) : Int) -> inR .i64 ((v : Int) + 1) /\ ∃ y : Nat, (y <= 6 /\ 6 - y < 6 - v) /\ z = (rowK s y : Int) /\ (v : Int) + 1 = (y : Int) := fun z hz => ⟨by simp only [inR]; omega, v + 1, by omega, hz, by omega⟩
 rw [e3]
 have hx : idxPre (k : Int) l.length := idx_nat hk
 have hb6 : 0 <= (v : Int) /\ (v : Int) < bitsOf .i64 := ⟨by omega, by simp only [bitsOf]; omega⟩
 refine ⟨hx, hb6, by decide, fun hb => ?_, fun hb => hn _ ?_⟩
 · have hb' : s / P % 2 = 1 := by omega
   have hm := hB hb'
   have hp : 2 ^ mns s P < 9223372036854775808 := Nat.pow_lt_pow_right (a := 2) (by decide) hm
   have e4 : (2 ^ mns s P : Int) = ((2 ^ mns s P : Nat) : Int) := by rw [Int.natCast_pow]; try rfl
   rw [Int.toNat_natCast, e4]
   rw [if_pos hb'] at hR
   generalize 2 ^ mns s P = Q at *
   rw [Int.one_mul, Int.one_mul, bOr_nat (by omega) (by omega)]
   exact ⟨hx, ⟨hb6, by omega, by omega⟩, ⟨⟨by omega, by simp only [bitsOf]; omega⟩, by omega, by omega⟩, hn _ (by rw [hR])⟩
 · rw [hR, if_neg (by omega)]
theorem loop68t (l : List Int) (m : Int) (k : Nat) (ho : okL l) (hk : k < l.length) (hl : l.length <= 64) (R : Exit -> St -> Prop) : LoopOK X68 L68_2 (ht68 l m k) R := by
 refine loop_ok (X_ok _) (H := fun _ _ => none) [0, 1, 5, 6, 7, 8] (fun v => v <= 6) (jt68 l m k) (fun v => 6 - v) (ejt68 l m k) 100 fun (v : Nat) hv => ?_
 refine of_eq (q := (fun (o : Nat) => (fun (j : Int) => (fun (h : Prop) => (fun (g : Int) => (fun (f : Int) => (fun (e : Int) => (fun (q : Prop) => (fun (d : Prop) => (fun (c : Int) => (fun (n : Prop) => (fun (b : Nat) => (fun (i : Int) => (fun (a : Int) => (fun (p : Int) => h /\ h /\ (c < 6 -> h /\ h /\ idxPre f l.length /\ h /\ h /\ n /\ ¬g = j /\ h /\ (q -> h /\ h /\ h /\ idxPre f l.length /\ h /\ h /\ (n /\ (-9223372036854775808 : Int) <= e * g ^ v /\ e * g ^ v <= 9223372036854775807) /\ h /\ ((j <= a /\ a < bitsOf .i64) /\ (-9223372036854775808 : Int) <= p /\ p <= 9223372036854775807) /\ h /\ h /\ h /\ inR .i64 (c + e) /\ h /\ ∃ (y : Nat), (y <= o /\ o - y < o - v) /\ (l = l /\ m = m /\ h /\ f = f /\ bOr .i64 i p = (↑(rowK b y) : Int) /\ c + e = (y : Int) /\ h) /\ d) /\ (¬q -> h /\ inR .i64 (c + e) /\ h /\ ∃ (y : Nat), (y <= o /\ o - y < o - v) /\ (l = l /\ m = m /\ h /\ f = f /\ i = (↑(rowK b y) : Int) /\ c + e = (y : Int) /\ h) /\ d)) /\ (¬c < 6 -> ∃ (y : Unit), h /\ (l = l /\ m = m /\ h /\ f = f /\ i = (↑(row b) : Int) /\ h) /\ d)) (e * g ^ a.toNat)) (bNot .i64 (l.getD k j) (e * g ^ v))) ((↑(rowK b v) : Int))) ((l.getD k j).toNat)) (j <= c /\ c < bitsOf .i64)) ((v : Int))) (brdK l m k = brdK l m k /\ h)) ((l.getD k j / g ^ v).tmod g = e)) ((1 : Int))) ((k : Int))) ((2 : Int))) (True)) ((0 : Int))) ((6 : Nat))) (by kernel_rfl) ?_
 simp only [zz]
 have hv : v <= 6 := hv
 have hf := okL_get ho k
 obtain ⟨s, hs⟩ : ∃ s : Nat, l.getD k 0 = s := ⟨(l.getD k 0).toNat, by omega⟩
 rw [hs] at hf |-
 simp only [Int.toNat_natCast]
 have hs64 : s < 64 := by omega
 refine ⟨fun h3 => ?_, fun h3 => by rw [show v = 6 by omega]; rfl⟩
 have hv6 : v < 6 := by omega
 have hR : rowK s (v + 1) = if s / 2 ^ v % 2 = 1 then rowK s v ||| 2 ^ mns s (2 ^ v) else rowK s v := rfl
 have hB := row_bit ⟨s, hs64⟩ ⟨v, hv6⟩
 simp only at hB
 have h2 : 2 ^ v < 64 := Nat.pow_lt_pow_right (a := 2) (by decide) hv6
 have e : (2 ^ v : Int) = ((2 ^ v : Nat) : Int) := by rw [Int.natCast_pow]; try rfl
 have e1 : ((s : Int) / 2 ^ v).tmod 2 = ((s / 2 ^ v % 2 : Nat) : Int) := bit_tmod
 rw [e1, e]
 generalize 2 ^ v = P at *
 have e3 : bNot .i64 (s : Int) (1 * (P : Int)) = ((mns s P : Nat) : Int) := by
   rw [Int.one_mul, bNot_nat (by omega) (by omega)]
 have hr := rowK_lt hs64 v (by omega)
 have hn : ∀ z : Int, z = (rowK s (v + 1) : Int) -> inR .i64 ((v : Int) + 1) /\ ∃ y : Nat, (y <= 6 /\ 6 - y < 6 - v) /\ z = (rowK s y : Int) /\ (v : Int) + 1 = (y : Int) := fun z hz => ⟨by simp only [inR]; omega, v + 1, by omega, hz, by omega⟩
 rw [e3]
 have hx : idxPre (k : Int) l.length := idx_nat hk
 have hb6 : 0 <= (v : Int) /\ (v : Int) < bitsOf .i64 := ⟨by omega, by simp only [bitsOf]; omega⟩
 refine ⟨hx, hb6, by decide, fun hb => ?_, fun hb => hn _ ?_⟩
 · have hb' : s / P % 2 = 1 := by omega
   have hm := hB hb'
   have hp : 2 ^ mns s P < 9223372036854775808 := Nat.pow_lt_pow_right (a := 2) (by decide) hm
   have e4 : (2 ^ mns s P : Int) = ((2 ^ mns s P : Nat) : Int) := by rw [Int.natCast_pow]; try rfl
   rw [Int.toNat_natCast, e4]
   rw [if_pos hb'] at hR
   generalize 2 ^ mns s P = Q at *
   rw [Int.one_mul, Int.one_mul, bOr_nat (by omega) (by omega)]
   exact ⟨hx, ⟨hb6, by omega, by omega⟩, ⟨⟨by omega, by simp only [bitsOf]; omega⟩, by omega, by omega⟩, hn _ (by rw [hR])⟩
 · rw [hR, if_neg (by omega)]
theorem loop68 (l : List Int) (m : Int) (ho : okL l) (hl : l.length <= 64) (R : Exit -> St -> Prop) : LoopOK X68 L68_0 (h68 l m) R := by
 refine loop_fams (X_ok _) [0, 1, 5, 6] (fm68 l m) (ex68 l m) 150 ⟨fun (k : Nat) hk => ?_, fun (k : Nat) hk => ?_, trivial⟩
 · have hL := fun h => loop68z l m k ho h hl (bodyR 0 (ex68 l m) R)
   refine of_eq (q := (fun (e : Int) => (fun (d : Int) => (fun (g : Int) => (fun (f : Prop) => (fun (c : Nat) => (fun (b : Prop) => (fun (a : Int) => b /\ b /\ b /\ b /\ (e < (l.length : Int) -> b /\ b /\ idxPre e l.length /\ b /\ ((d <= l.getD k d /\ l.getD k d < 64) /\ b) /\ b /\ b /\ (f -> b /\ inR .i64 a /\ b /\ ((∃ (y : Nat), ((y <= c /\ brdK l m y = []) /\ c - y < c - k) /\ (l = l /\ m = m /\ b /\ a = (y : Int) /\ b) /\ b) ∨ ∃ (y : Nat), (y <= c /\ c - y < c - k) /\ (l = l /\ m = m /\ False /\ a = (y : Int) /\ b) /\ False)) /\ (¬f -> b /\ b /\ LoopOK X68 L68_2 (hz68 l m k) (bodyR (0 : Nat) (ex68 l m) R) /\ (∃ (y : Nat), y <= 6 /\ (l = l /\ m = m /\ b /\ e = e /\ d = (↑(rowK (l.getD k d).toNat y) : Int) /\ d = (y : Int) /\ b) /\ b) /\ (∀ (y : Unit), b -> b /\ b /\ b /\ sumPre (0 : Nat) [g].length (nat_lit 8) /\ b /\ b /\ inR .i64 a /\ b /\ ((∃ (y : Nat), ((y <= c /\ brdK l m y = []) /\ c - y < c - k) /\ (l = l /\ m = m /\ False /\ a = (y : Int) /\ b) /\ b) ∨ ∃ (y : Nat), (y <= c /\ c - y < c - k) /\ (l = l /\ m = m /\ b /\ a = (y : Int) /\ b) /\ [g] = brdK l m y /\ b)) /\ b)) /\ (¬e < (l.length : Int) -> (∃ (y : Unit), brdK l m c = [] /\ (b /\ b) /\ b) ∨ ∃ (y : Unit), b /\ (False /\ b) /\ False)) (e + 1)) (True)) (l.length)) (¬(↑(pc (Int.toNat (l.getD k d))) : Int) = m)) ((↑(row (l.getD k d).toNat) : Int))) ((0 : Int))) ((k : Int))) (by kernel_rfl) ?_
   simp only [zz]
   obtain ⟨k1, k2⟩ := hk
   refine ⟨fun h => ⟨idx_nat (by omega), okL_get ho k, fun h2 => ⟨by simp only [inR]; omega, k + 1, ⟨⟨by omega, by rw [brdK, if_neg h2]; exact k2⟩, by omega⟩, by omega⟩, fun h2 => ⟨hL (by omega), ⟨0, by omega, rfl, rfl⟩, fun _ _ => ⟨by unfold sumPre; simp, by simp only [inR]; omega, k + 1, ⟨by omega, by omega⟩, by omega, by rw [brdK, if_pos (Classical.not_not.mp h2), k2] <;> rfl⟩⟩⟩, fun h => by rw [<- show k = l.length by omega]; exact k2⟩
 · have hL := fun h => loop68t l m k ho h hl (bodyR 0 (ex68 l m) R)
   refine of_eq (q := (fun (f : Int) => (fun (i : Int) => (fun (g : Prop) => (fun (e : Nat) => (fun (d : List Int) => (fun (c : Int) => (fun (h : Int) => (fun (b : Prop) => (fun (a : Prop) => b /\ b /\ b /\ b /\ (c < (l.length : Int) -> b /\ b /\ idxPre c l.length /\ b /\ ((f <= l.getD k f /\ l.getD k f < 64) /\ b) /\ b /\ b /\ (g -> b /\ inR .i64 h /\ b /\ (a ∨ ∃ (y : Nat), (y <= e /\ e - y < e - k) /\ (l = l /\ m = m /\ b /\ h = (y : Int) /\ b) /\ d = brdK l m y /\ b)) /\ (¬g -> b /\ b /\ LoopOK X68 L68_2 (ht68 l m k) (bodyR (0 : Nat) (ex68 l m) R) /\ (∃ (y : Nat), y <= 6 /\ (l = l /\ m = m /\ b /\ c = c /\ f = (↑(rowK (l.getD k f).toNat y) : Int) /\ f = (y : Int) /\ b) /\ d = d /\ b) /\ (∀ (y : Unit), b -> b /\ b /\ b /\ sumPre d.length [i].length (nat_lit 8) /\ b /\ b /\ inR .i64 h /\ b /\ (a ∨ ∃ (y : Nat), (y <= e /\ e - y < e - k) /\ (l = l /\ m = m /\ b /\ h = (y : Int) /\ b) /\ d ++ [i] = brdK l m y /\ b)) /\ b)) /\ (¬c < (l.length : Int) -> (∃ (y : Unit), brdK l m e = [] /\ (False /\ b) /\ b) ∨ ∃ (y : Unit), b /\ (b /\ b) /\ d = brdK l m e /\ b)) (∃ (y : Nat), ((y <= e /\ brdK l m y = []) /\ e - y < e - k) /\ (l = l /\ m = m /\ False /\ h = (y : Int) /\ b) /\ b)) (True)) (c + 1)) ((k : Int))) (brdK l m k)) (l.length)) (¬(↑(pc (Int.toNat (l.getD k f))) : Int) = m)) ((↑(row (l.getD k f).toNat) : Int))) ((0 : Int))) (by kernel_rfl) ?_
   simp only [zz]
   have hk : k <= l.length := hk
   have hle := brdK_len l m k
   refine ⟨fun h => ⟨idx_nat (by omega), okL_get ho k, fun h2 => ⟨by simp only [inR]; omega, k + 1, ⟨by omega, by omega⟩, by omega, by rw [brdK, if_neg h2]⟩, fun h2 => ⟨hL (by omega), ⟨0, by omega, rfl, rfl⟩, fun _ _ => ⟨by unfold sumPre; simp; omega, by simp only [inR]; omega, k + 1, ⟨by omega, by omega⟩, by omega, by rw [brdK, if_pos (Classical.not_not.mp h2)] <;> rfl⟩⟩⟩, fun h => by rw [show k = l.length by omega]⟩
theorem call68 (l : List Int) (m : Int) (h : okL l /\ l.length <= 64) : GCall Try.prog gl 68 true [.sl I64 l, .int .i64 m] [] [.sl I64 (brdK l m l.length)] [] := by
 refine gcall_of (X := X68) ((X_ok _)) (f := 68) (fn := Try.f68) (c := bodyOf Try.f68) (by kernel_rfl) (by kernel_rfl) (view := true) (rvs := [.tmp 4]) (by kernel_rfl) (H := (fun _ => some (h68 l m))) 80 (by kernel_rfl) ?_
 have hL := loop68 l m h.1 h.2
 refine of_eq (q := (fun (b : Prop) => (fun (a : List Int) => b /\ b /\ b /\ LoopOK X68 L68_0 (h68 l m) (RetR X68 true true [ResultVar.tmp (4 : Tmp)] [AV.sl I64 a] []) /\ ((∃ (y : Nat), (y <= l.length /\ brdK l m y = []) /\ (l = l /\ m = m /\ b /\ (0 : Int) = (y : Int) /\ b) /\ b) ∨ ∃ (y : Nat), y <= l.length /\ (l = l /\ m = m /\ False /\ (0 : Int) = (y : Int) /\ b) /\ False) /\ (∀ (y : Unit), a = [] -> b /\ b /\ b /\ (([] : List Int) = a /\ b) /\ b) /\ (∀ (y : Unit), b -> b /\ b /\ b /\ (a = a /\ b) /\ b) /\ b) (brdK l m l.length)) (True)) (by kernel_rfl) ?_
 simp only [zz]
 exact ⟨hL _, ⟨0, ⟨Nat.zero_le _, rfl⟩, rfl⟩, fun _ h => h.symm, fun _ _ => trivial⟩
def fm68N (l : List Int) (m : Int) : List Fam := [⟨Nat, fun k => k <= l.length, sz68 l m, fun k => l.length - k, fun k _ => some (hz68 l m k)⟩]
def ex68N : List (List Nat × Ex) := [([5], ⟨0, Unit, fun _ => True, fun _ => ⟨dd 5 ++ nl :: dd 43, []⟩⟩)]
def h68N (l : List Int) (m : Int) : Hint := ⟨chks 0 [0, 1, 5, 6] (fm68N l m), ex68N.map (·.2)⟩
theorem loop68N (l : List Int) (m : Int) (ho : okL l) (hl : l.length <= 64) (hN : brdK l m l.length = []) (R : Exit -> St -> Prop) : LoopOK X68 L68_0 (h68N l m) R := by
 refine loop_fams (X_ok _) [0, 1, 5, 6] (fm68N l m) ex68N 150 ⟨fun (k : Nat) hk => ?_, trivial⟩
 have hL := fun h => loop68z l m k ho h hl (bodyR 0 ex68N R)
 refine of_eq (q := (fun (e : Nat) => (fun (c : Int) => (fun (d : Prop) => (fun (b : Int) => (fun (f : Int) => (fun (a : Prop) => a /\ a /\ a /\ a /\ (b < (l.length : Int) -> a /\ a /\ idxPre b l.length /\ a /\ ((c <= l.getD k c /\ l.getD k c < 64) /\ a) /\ a /\ a /\ (d -> a /\ inR .i64 f /\ a /\ ∃ (y : Nat), (y <= e /\ e - y < e - k) /\ (l = l /\ m = m /\ a /\ f = (y : Int) /\ a) /\ a) /\ (¬d -> a /\ a /\ LoopOK X68 L68_2 (hz68 l m k) (bodyR (0 : Nat) ex68N R) /\ (∃ (y : Nat), y <= 6 /\ (l = l /\ m = m /\ a /\ b = b /\ c = (↑(rowK (l.getD k c).toNat y) : Int) /\ c = (y : Int) /\ a) /\ a) /\ (∀ (y : Unit), a -> a /\ a /\ a /\ sumPre (0 : Nat) [(↑(row (l.getD k c).toNat) : Int)].length (nat_lit 8) /\ a /\ a /\ inR .i64 f /\ a /\ ∃ (y : Nat), (y <= e /\ e - y < e - k) /\ (l = l /\ m = m /\ False /\ f = (y : Int) /\ a) /\ a) /\ a)) /\ (¬b < (l.length : Int) -> ∃ (y : Unit), a /\ (a /\ a) /\ a)) (True)) (b + 1)) ((k : Int))) (¬(↑(pc (Int.toNat (l.getD k c))) : Int) = m)) ((0 : Int))) (l.length)) (by kernel_rfl) ?_
 simp only [zz]
 have hk : k <= l.length := hk
 have hn := brdK_nil.mp hN k
 exact ⟨fun h => ⟨idx_nat (by omega), okL_get ho k, fun h2 => ⟨by simp only [inR]; omega, k + 1, ⟨by omega, by omega⟩, by omega⟩, fun h2 => absurd (Classical.not_not.mp h2) (hn (by omega))⟩, fun _ => trivial⟩
theorem call68N (l : List Int) (m : Int) (h : (okL l /\ l.length <= 64) /\ brdK l m l.length = []) : GCall Try.prog gl 68 true [.sl I64 l, .int .i64 m] [] [nl] [] := by
 refine gcall_of (X := X68) ((X_ok _)) (f := 68) (fn := Try.f68) (c := bodyOf Try.f68) (by kernel_rfl) (by kernel_rfl) (view := false) (rvs := [.tmp 4]) (by kernel_rfl) (H := (fun _ => some (h68N l m))) 80 (by kernel_rfl) ?_
 have hL := loop68N l m h.1.1 h.1.2 h.2
 refine of_eq (q := (fun (a : Prop) => a /\ a /\ a /\ LoopOK X68 L68_0 (h68N l m) (RetR X68 true false [ResultVar.tmp (4 : Tmp)] [nl] []) /\ (∃ (y : Nat), y <= l.length /\ (l = l /\ m = m /\ a /\ (0 : Int) = (y : Int) /\ a) /\ a) /\ (∀ (y : Unit), a -> a /\ a /\ a /\ (a /\ a) /\ a) /\ a) (True)) (by kernel_rfl) ?_
 simp only [zz]
 exact ⟨hL _, ⟨0, Nat.zero_le _, rfl⟩, fun _ _ => trivial⟩
def e68 : Entry Try.prog gl := entry2 68 ⟨Try.f68, by kernel_rfl, by kernel_rfl, by kernel_rfl⟩ SI I64 (fun l (_ : Int) => okL l /\ l.length <= 64) true (fun l (m : Int) => [.sl I64 (brdK l m l.length)]) (fun _ _ => []) (fun l (m : Int) h => call68 l m h)
def e68N : Entry Try.prog gl := entry2 68 ⟨Try.f68, by kernel_rfl, by kernel_rfl, by kernel_rfl⟩ SI I64 (fun l (m : Int) => (okL l /\ l.length <= 64) /\ brdK l m l.length = []) true (fun _ _ => [nl]) (fun _ _ => []) (fun l (m : Int) h => call68N l m h)
end Go.Am.Sh

/- Shells: the hollow numbers, as the reference finds them. -/
namespace Go.Am.Sh
open Go Go.Am Go.Proofs
theorem brdK_length {l : List Int} {m : Nat} : ∀ {k : Nat}, k <= l.length -> (brdK l m k).length = ((l.take k).filter fun s => pc s.toNat == m).length
 | 0, _ => by simp [brdK]
 | k + 1, h => by
   rw [take_getD (d := 0) (by omega), List.filter_append, List.length_append, <- brdK_length (by omega), brdK]
   by_cases e : pc (l.getD k 0).toNat = m
   · rw [if_pos (by omega), List.length_append, List.filter_cons_of_pos (by simp only [beq_iff_eq]; exact e)]; try rfl
   · rw [if_neg (by omega), List.filter_cons_of_neg (by simp only [beq_iff_eq]; exact e)]; try rfl
theorem brd_cnt {p : List Int} {m : Nat} (h : m <= (mxL p).toNat) : ((brd p m).length : Int) = (cnts p).getD m 0 := by
 unfold brd cnts
 rw [show fcs p = trueN (isF p) 64 from rfl, brdK_length (Nat.le_refl _)]
 unfold cntL
 rw [List.getD_eq_getElem?_getD, List.getElem?_map, List.getElem?_range (by omega)]
 rfl
theorem hoK_step {p : List Int} {k : Nat} (h : (k : Int) + 1 <= mxL p) : hoK p (k + 1) = hoK p k ++ [((brd p ((k : Int) + 1)).length : Int) - (rk (brd p ((k : Int) + 1)) : Int) - (rk (brd p ((k : Int) + 2)) : Int)] := by
 have e := brd_cnt (p := p) (m := k + 1) (by omega)
 rw [hoK, <- e, show (k : Int) + 1 + 1 = (k : Int) + 2 by omega]
 rfl
theorem hoK_one {p : List Int} (h : 1 <= mxL p) : hoK p 1 = [((brd p 1).length : Int) - (rk (brd p 1) : Int) - (rk (brd p 2) : Int)] := hoK_step (k := 0) (by omega)
noncomputable def L31_0 : Code := lp (bodyOf Try.f31) 0
def s31z (p : List Int) (_ : Unit) : St := ⟨dd 5 ++ .sl I64 (fcs p) :: .int .i64 (mxL p) :: nl :: .int .i64 0 :: dd 35, []⟩
def s31t (p : List Int) (k : Nat) : St := ⟨dd 5 ++ .sl I64 (fcs p) :: .int .i64 (mxL p) :: .own 0 0 :: .int .i64 k :: dd 35, [.sc 0 3 I64 (hoK p k)]⟩
def fm31 (p : List Int) : List Fam := [⟨Unit, fun _ => True, s31z p, fun _ => 10, fun _ _ => none⟩, ⟨Nat, fun k => 1 <= k /\ (k : Int) <= mxL p, s31t p, fun k => (mxL p).toNat - k, fun _ _ => none⟩]
def ex31 (p : List Int) : List (List Nat × Ex) := [([7], ⟨0, Unit, fun _ => True, fun _ => ⟨dd 7 ++ .own 0 0 :: dd 36, [.sc 0 3 I64 (hoL p)]⟩⟩)]
noncomputable def H31 (p : List Int) : Nat -> Option Hint := fun _ => some ⟨chks 0 [5, 6, 7, 8] (fm31 p), (ex31 p).map (·.2)⟩
noncomputable def XD0 (l : EL) (d : List (Nat × EL)) : Cy := mkD Try.prog tt gl l d 0 (fun _ => none)
theorem XD0_ok (l : EL) (d : List (Nat × EL)) : (XD0 l d).Ok := mkD_ok tt_ok l d 0 _
noncomputable abbrev X31 : Cy := XD0 [e35, e40, e68, e69] []
noncomputable abbrev X31e : Cy := XD0 [e35, e40, e68, e69] [(31, [e68N]), (39, [e69N])]
theorem loop31 (n : Int) (p : List Int) (h : cxOk n p) (R : Exit -> St -> Prop) : LoopOK X31 L31_0 ⟨chks 0 [5, 6, 7, 8] (fm31 p), (ex31 p).map (·.2)⟩ R := by
 have hlen : (fcs p).length <= 64 := fcs_len p
 have hoF := fcs_ok p
 obtain ⟨m1, m2⟩ := mxL_le p
 have eb : ∀ m, brdK (fcs p) m (fcs p).length = brd p m := fun _ => rfl
 refine loop_famsX [5, 6, 7, 8] (fm31 p) (ex31 p) 250 ⟨fun _ _ => ?_, fun (k : Nat) hk => ?_, trivial⟩
 · have m3 := mxL_pos h
   have hb := cnts_bdd p 1
   have hc := brd_cnt (p := p) (m := 1) (by omega)
   have hB1 : brd p 1 ≠ [] := brd_some h.ok (m := 1) (by decide) (by omega)
   have h1 := rk_le p 1
   have h2 := rk_le p 2
   have l1 := brd_len p 1
   have l2 := brd_len p 2
   by_cases hd : mxL p = 1
   · refine ⟨X31e, XD0_ok _ _, rfl, rfl, rfl, rfl, ?_⟩
     have hN := brd_none h.ok (m := 2) (by omega)
     refine of_eq (q := (fun (h : Int) => (fun (g : Int) => (fun (e : Prop) => (fun (d : Int) => (fun (b : List Int) => (fun (f : Prop) => (fun (a : List Int) => (fun (c : Int) => e /\ e /\ e /\ (g < d -> e /\ e /\ inR .i64 h /\ (f /\ e) /\ e /\ e /\ inR .i64 (2 : Int) /\ ((f /\ brdK b (2 : Int) b.length = []) /\ e) /\ e /\ e /\ e /\ e /\ e /\ e /\ (((a.length < 1000000 /\ ¬a = []) /\ okR a) /\ e) /\ inR .i64 c /\ e /\ ((e /\ (e /\ e) /\ e) /\ e) /\ inR .i64 (c - g) /\ e /\ sumPre (0 : Nat) [c - g].length (nat_lit 8) /\ e /\ e /\ inR .i64 h /\ e /\ ((∃ (y : Unit), (e /\ (10 : Nat) < 10) /\ (b = b /\ d = d /\ False /\ h = g /\ e) /\ e) ∨ ∃ (y : Nat), (((1 : Nat) <= y /\ (y : Int) <= d) /\ d.toNat - y < 10) /\ (b = b /\ d = d /\ e /\ h = (y : Int) /\ e) /\ [c - g] = hoK p y /\ e)) /\ (¬g < d -> ∃ (y : Unit), e /\ (False /\ e) /\ False)) ((a.length : Int) - (↑(rk a) : Int))) (brdK b h b.length)) (okL b /\ b.length <= 64)) (fcs p)) (mxL p)) (True)) ((0 : Int))) ((1 : Int))) (by kernel_rfl) ?_
     simp only [zz]
     simp only [eb, hoF, hlen, hN, brd_ok, hB1, and_true, true_and, not_false_eq_true]
     refine ⟨fun _ => ⟨by simp only [inR]; omega, by simp only [inR]; omega, by omega, by simp only [inR]; omega, by simp only [inR]; omega, by unfold sumPre; simp, by simp only [inR]; omega, 1, ⟨⟨by omega, by omega⟩, by omega⟩, rfl, ?_⟩, fun h => by omega⟩
     rw [hoK_one m3, hN, rk_nil]; try rfl
   · refine ⟨X31, XD0_ok _ _, rfl, rfl, rfl, rfl, ?_⟩
     have hB2 : brd p 2 ≠ [] := brd_some h.ok (m := 2) (by decide) (by omega)
     refine of_eq (q := (fun (i : Int) => (fun (f : Prop) => (fun (e : Int) => (fun (d : List Int) => (fun (g : Prop) => (fun (b : List Int) => (fun (a : List Int) => (fun (h : Int) => (fun (c : Int) => f /\ f /\ f /\ ((0 : Int) < e -> f /\ f /\ inR .i64 i /\ g /\ f /\ f /\ inR .i64 (2 : Int) /\ g /\ f /\ f /\ f /\ f /\ f /\ f /\ (((a.length < 1000000 /\ ¬a = []) /\ okR a) /\ f) /\ inR .i64 h /\ f /\ (((b.length < 1000000 /\ ¬b = []) /\ okR b) /\ f) /\ inR .i64 c /\ f /\ sumPre (0 : Nat) [c].length (nat_lit 8) /\ f /\ f /\ inR .i64 i /\ f /\ ((∃ (y : Unit), (f /\ (10 : Nat) < 10) /\ (d = d /\ e = e /\ False /\ i = 0 /\ f) /\ f) ∨ ∃ (y : Nat), (((1 : Nat) <= y /\ (y : Int) <= e) /\ e.toNat - y < 10) /\ (d = d /\ e = e /\ f /\ i = (y : Int) /\ f) /\ [c] = hoK p y /\ f)) /\ (¬(0 : Int) < e -> ∃ (y : Unit), f /\ (False /\ f) /\ False)) (h - (↑(rk b) : Int))) ((a.length : Int) - (↑(rk a) : Int))) (brdK d i d.length)) (brdK d (2 : Int) d.length)) ((okL d /\ d.length <= 64) /\ f)) (fcs p)) (mxL p)) (True)) ((1 : Int))) (by kernel_rfl) ?_
     simp only [zz]
     simp only [eb, hoF, hlen, brd_ok, hB1, hB2, and_true, true_and, not_false_eq_true]
     refine ⟨fun _ => ⟨by simp only [inR]; omega, by simp only [inR]; omega, by omega, by simp only [inR]; omega, by omega, by simp only [inR]; omega, by unfold sumPre; simp, by simp only [inR]; omega, 1, ⟨⟨by omega, by omega⟩, by omega⟩, rfl, (hoK_one m3).symm⟩, fun h => by omega⟩
 · obtain ⟨k1, k2⟩ := hk
   have hb := cnts_bdd p (k + 1)
   have h1 := rk_le p ((k : Int) + 1)
   have h2 := rk_le p ((k : Int) + 2)
   have l1 := brd_len p ((k : Int) + 1)
   have l2 := brd_len p ((k : Int) + 2)
   have hh := hoK_length p k
   have hB1 : (k : Int) < mxL p -> ¬ brd p ((k : Int) + 1) = [] := fun h3 => brd_some h.ok (m := k + 1) (by omega) (by omega)
   have hB2 : (k : Int) + 1 < mxL p -> ¬ brd p ((k : Int) + 2) = [] := fun h3 => brd_some h.ok (m := k + 2) (by omega) (by omega)
   by_cases hd : mxL p <= (k : Int) + 1
   · refine ⟨X31e, XD0_ok _ _, rfl, rfl, rfl, rfl, ?_⟩
     have hN := brd_none h.ok (m := (k : Int) + 2) (by omega)
     refine of_eq (q := (fun (g : Int) => (fun (f : Int) => (fun (e : Prop) => (fun (d : Int) => (fun (b : List Int) => (fun (h : Prop) => (fun (a : List Int) => (fun (c : Int) => e /\ e /\ e /\ (g < d -> e /\ e /\ inR .i64 f /\ (h /\ e) /\ e /\ e /\ inR .i64 (g + 2) /\ ((h /\ brdK b (g + 2) b.length = []) /\ e) /\ e /\ e /\ e /\ e /\ e /\ e /\ (((a.length < 1000000 /\ ¬a = []) /\ okR a) /\ e) /\ inR .i64 c /\ e /\ ((e /\ (e /\ e) /\ e) /\ e) /\ inR .i64 (c - 0) /\ e /\ sumPre (hoK p k).length [c - 0].length (nat_lit 8) /\ e /\ e /\ inR .i64 f /\ e /\ ((∃ (y : Unit), (e /\ (10 : Nat) < d.toNat - k) /\ (b = b /\ d = d /\ False /\ f = 0 /\ e) /\ e) ∨ ∃ (y : Nat), (((1 : Nat) <= y /\ (y : Int) <= d) /\ d.toNat - y < d.toNat - k) /\ (b = b /\ d = d /\ e /\ f = (y : Int) /\ e) /\ hoK p k ++ [c - 0] = hoK p y /\ e)) /\ (¬g < d -> ∃ (y : Unit), e /\ (e /\ e) /\ hoK p k = hoL p /\ e)) ((a.length : Int) - (↑(rk a) : Int))) (brdK b f b.length)) (okL b /\ b.length <= 64)) (fcs p)) (mxL p)) (True)) (g + 1)) ((k : Int))) (by kernel_rfl) ?_
     simp only [zz]
     simp only [eb, hoF, hlen, hN, brd_ok, and_true, true_and]
     refine ⟨fun h3 => ⟨by simp only [inR]; omega, by simp only [inR]; omega, ⟨by omega, hB1 h3⟩, by simp only [inR]; omega, by simp only [inR]; omega, by unfold sumPre; simp; omega, by simp only [inR]; omega, k + 1, ⟨⟨by omega, by omega⟩, by omega⟩, by omega, ?_⟩, fun h3 => by unfold hoL; rw [show (mxL p).toNat = k by omega]⟩
     rw [hoK_step (by omega), hN, rk_nil]; try rfl
   · refine ⟨X31, XD0_ok _ _, rfl, rfl, rfl, rfl, ?_⟩
     refine of_eq (q := (fun (j : Int) => (fun (g : Prop) => (fun (f : Int) => (fun (e : Int) => (fun (d : List Int) => (fun (h : Prop) => (fun (b : List Int) => (fun (a : List Int) => (fun (i : Int) => (fun (c : Int) => g /\ g /\ g /\ (j < e -> g /\ g /\ inR .i64 f /\ h /\ g /\ g /\ inR .i64 (j + 2) /\ h /\ g /\ g /\ g /\ g /\ g /\ g /\ (((a.length < 1000000 /\ ¬a = []) /\ okR a) /\ g) /\ inR .i64 i /\ g /\ (((b.length < 1000000 /\ ¬b = []) /\ okR b) /\ g) /\ inR .i64 c /\ g /\ sumPre (hoK p k).length [c].length (nat_lit 8) /\ g /\ g /\ inR .i64 f /\ g /\ ((∃ (y : Unit), (g /\ (10 : Nat) < e.toNat - k) /\ (d = d /\ e = e /\ False /\ f = 0 /\ g) /\ g) ∨ ∃ (y : Nat), (((1 : Nat) <= y /\ (y : Int) <= e) /\ e.toNat - y < e.toNat - k) /\ (d = d /\ e = e /\ g /\ f = (y : Int) /\ g) /\ hoK p k ++ [c] = hoK p y /\ g)) /\ (¬j < e -> ∃ (y : Unit), g /\ (g /\ g) /\ hoK p k = hoL p /\ g)) (i - (↑(rk b) : Int))) ((a.length : Int) - (↑(rk a) : Int))) (brdK d f d.length)) (brdK d (j + 2) d.length)) ((okL d /\ d.length <= 64) /\ g)) (fcs p)) (mxL p)) (j + 1)) (True)) ((k : Int))) (by kernel_rfl) ?_
     simp only [zz]
     simp only [eb, hoF, hlen, brd_ok, and_true, true_and]
     exact ⟨fun h3 => ⟨by simp only [inR]; omega, by simp only [inR]; omega, ⟨by omega, hB1 h3⟩, by simp only [inR]; omega, ⟨by omega, hB2 (by omega)⟩, by simp only [inR]; omega, by unfold sumPre; simp; omega, by simp only [inR]; omega, k + 1, ⟨⟨by omega, by omega⟩, by omega⟩, by omega, (hoK_step (by omega)).symm⟩, fun h3 => by unfold hoL; rw [show (mxL p).toNat = k by omega]⟩
theorem call31 (n : Int) (p : List Int) (h : cxOk n p) : GCall Try.prog gl 31 false [.int .i64 n, .sl I64 p] [] [.sl I64 (hoL p)] [] := by
 refine gcall_of (X := (X31)) ((XD0_ok _ _)) (f := 31) (fn := Try.f31) (c := bodyOf Try.f31) (by kernel_rfl) (by kernel_rfl) (view := true) (rvs := [.tmp 4]) (by kernel_rfl) (H := (H31 p)) 80 (by kernel_rfl) ?_
 have hL := loop31 n p h
 have hc := cnts_length p
 have hm := mxL_le p
 have hl := h.2.1.2
 refine of_eq (q := (fun (b : Prop) => (fun (a : Int) => b /\ b /\ b /\ ((numOk n /\ okL p /\ p.length < 1000000) /\ b) /\ b /\ b /\ b /\ ((numOk n /\ ((1 : Nat) <= p.length /\ p.length <= 10) /\ ∀ (k : Nat), k < p.length -> goodAt n p k) /\ b) /\ b /\ inR .i64 a /\ b /\ b /\ b /\ LoopOK X31 L31_0 { J := chks (0 : Nat) [(5 : Nat), (6 : Nat), (7 : Nat), (8 : Nat)] (fm31 p), exits := List.map (fun (x : List Nat × Ex) => x.snd) (ex31 p) } (RetR X31 false true [ResultVar.tmp (4 : Tmp)] [AV.sl I64 (hoL p)] []) /\ ((∃ (y : Unit), b /\ (facesL n p = fcs p /\ a = mxL p /\ b /\ (0 : Int) = 0 /\ b) /\ b) ∨ ∃ (y : Nat), ((1 : Nat) <= y /\ (y : Int) <= mxL p) /\ (facesL n p = fcs p /\ a = mxL p /\ False /\ (0 : Int) = (y : Int) /\ b) /\ False) /\ (∀ (y : Unit), b -> b /\ b /\ b /\ (hoL p = hoL p /\ b) /\ b) /\ b) ((↑(cnts p).length : Int) - 1)) (True)) (by kernel_rfl) ?_
 simp only [zz]
 exact ⟨⟨h.1, h.ok, by omega⟩, h, by simp only [inR]; omega, hL _, ⟨faces_fcs h, by omega⟩, fun _ _ => trivial⟩
end Go.Am.Sh

/- Shells: Link. -/
namespace Go.Am.Sh
open Go Go.Am Go.Proofs
end Go.Am.Sh

/- Shells: the reference's Link. -/
namespace Go.Am.Sh
open Go Go.Am Go.Proofs
end Go.Am.Sh

/- Shells: the reference's Dual. -/
namespace Go.Am.Sh
open Go Go.Am Go.Proofs
end Go.Am.Sh

/- Shells: links and duals, plain facts. -/
namespace Go.Am.Sh
open Go Go.Am Go.Proofs
theorem sub_iff {a b : Nat} : sub a b = true ↔ a &&& b = a := by
 unfold sub
 exact ⟨Nat.eq_of_beq_eq_true, fun h => by rw [h]; exact Nat.beq_refl a⟩
theorem sub_trans {a b c : Nat} (h1 : sub a b = true) (h2 : sub b c = true) : sub a c = true := by
 rw [sub_iff] at *
 rw [<- h1, Nat.and_assoc, h2]
theorem isF_sub {p : List Int} {a b : Nat} (h : sub a b = true) (hb : isF p b = true) : isF p a = true := by
 rw [isF_iff] at *
 obtain ⟨i, h1, h2⟩ := hb
 exact ⟨i, h1, sub_trans h h2⟩
end Go.Am.Sh

/- Shells: the new parts of a shelling and the h-list, plain facts. -/
namespace Go.Am.Sh
open Go Go.Am Go.Proofs
end Go.Am.Sh

/- Shells: the new parts of a shelling count as the h-list does. -/
namespace Go.Am.Sh
open Go Go.Am Go.Proofs
def cN (g : Nat -> Bool) : Nat -> Nat
 | 0 => 0
 | k + 1 => cN g k + if g k = true then 1 else 0
theorem cN_ext {f g : Nat -> Bool} : ∀ {m : Nat}, (∀ x, x < m -> f x = g x) -> cN f m = cN g m
 | 0, _ => rfl
 | m + 1, h => by rw [cN, cN, cN_ext fun x hx => h x (by omega), h m (by omega)]
theorem cN_add {f g h : Nat -> Bool} : ∀ {m : Nat}, (∀ x, x < m -> f x = (g x || h x) /\ (g x && h x) = false) -> cN f m = cN g m + cN h m
 | 0, _ => rfl
 | m + 1, hh => by
   have ih := cN_add (f := f) (g := g) (h := h) (m := m) fun x hx => hh x (by omega)
   obtain ⟨h1, h2⟩ := hh m (by omega)
   rw [cN, cN, cN, ih, h1]
   cases hg : g m <;> cases hk : h m <;> simp_all <;> omega
theorem filter_trueN (g q : Nat -> Bool) : ∀ k, ((trueN g k).filter fun s => q s.toNat).length = cN (fun x => g x && q x) k
 | 0 => rfl
 | k + 1 => by
   rw [trueN, cN, <- filter_trueN g q k]
   cases hg : g k with
   | false => simp
   | true =>
     rw [if_pos rfl, List.filter_append, List.length_append]
     cases hq : q k with
     | false => rw [List.filter_cons_of_neg (by rw [Int.toNat_natCast, hq]; simp)]; simp
     | true => rw [List.filter_cons_of_pos (by rw [Int.toNat_natCast, hq])]; simp
end Go.Am.Sh

/- Shells: McMullen's law. -/
namespace Go.Am.Sh
open Go Go.Am Go.Proofs
def s9 (p t : List Int) (i : Nat) : St := ⟨dd 10 ++ .sl I64 (hsL p) :: .dead :: .sl I64 t :: .dead :: .own 0 0 :: .int .i64 i :: dd 92, [.sc 0 3 I64 (cntL t (mxL p).toNat i)]⟩
def ex9 (p t : List Int) : List (List Nat × Ex) := [([10, 14], ⟨0, Unit, fun _ => True, fun _ => ⟨dd 10 ++ .sl I64 (hsL p) :: dd 3 ++ .own 0 0 :: dd 93, [.sc 0 3 I64 (cntL t (mxL p).toNat t.length)]⟩⟩)]
def h9 (p t : List Int) : Hint := ⟨chk 0 [10, 12, 14, 15] (fun i => i <= t.length) (s9 p t), (ex9 p t).map (·.2)⟩
structure ok9 (p t : List Int) : Prop where
 hl : t.length <= 10
 hh : (hsL p).length = (mxL p).toNat + 1
 ht : ∀ i, i < t.length -> (0 <= t.getD i 0 /\ t.getD i 0 < 64) /\ pc (t.getD i 0).toNat <= (mxL p).toNat
end Go.Am.Sh

/- Shells: the law of the hollows. -/
namespace Go.Am.Sh
open Go Go.Am Go.Proofs
def lnOk (p : List Int) (f : Int) : Prop := 0 <= f /\ f < 64 /\ isF p f.toNat = true
instance (p : List Int) (f : Int) : Decidable (lnOk p f) := by unfold lnOk; infer_instance
def e31 : Entry Try.prog gl := entry2 31 ⟨Try.f31, by kernel_rfl, by kernel_rfl, by kernel_rfl⟩ I64 SI (fun (n : Int) p => cxOk n p) false (fun _ p => [.sl I64 (hoL p)]) (fun _ _ => []) (fun (n : Int) p h => call31 n p h)
def s6 (n : Int) (p : List Int) (x : Int × Nat) : St := ⟨dd 2 ++ .int .i64 x.1 :: dd 4 ++ .int .i64 n :: .sl I64 p :: dd 2 ++ .int .i64 x.2 :: dd 140, []⟩
def in6 (x : Int × Nat) : Prop := x.2 <= 2
def ex6 (n : Int) (p : List Int) : List (List Nat × Ex) := [([7, 8], ⟨0, Unit, fun _ => True, fun _ => ⟨dd 7 ++ .int .i64 n :: .sl I64 p :: dd 143, []⟩⟩)]
def fm6 (n : Int) (p : List Int) : List Fam := [⟨Int × Nat, in6, s6 n p, fun x => 2 - x.2, fun _ _ => none⟩]
def h6 (n : Int) (p : List Int) : Hint := ⟨chks 0 [2, 7, 8, 11] (fm6 n p), (ex6 n p).map (·.2)⟩
end Go.Am.Sh

/- Shells: functions whose results are new memory. -/
namespace Go.Am.Sh
open Go Go.Am Go.Proofs
end Go.Am.Sh

/- Shells: own results are written over. -/
namespace Go.Am.Sh
open Go Go.Am Go.Proofs
end Go.Am.Sh

/- Shells: the law of the own results. -/
namespace Go.Am.Sh
open Go Go.Am Go.Proofs
theorem trueN_cN (g : Nat -> Bool) : ∀ k, (trueN g k).length = cN g k
 | 0 => rfl
 | k + 1 => by
   rw [trueN, cN, <- trueN_cN g k]
   cases hg : g k <;> simp
end Go.Am.Sh

/- Shells: what can be taken away; Left. -/
namespace Go.Am.Sh
open Go Go.Am Go.Proofs
/-- Two faces can be taken away. -/
def canN (g : Nat -> Bool) (a b k : Nat) : Prop := ∀ x, x < k -> g x = true -> sub a x = true -> x = a ∨ x = b
instance (g a b k) : Decidable (canN g a b k) := by unfold canN; infer_instance
def canP (g : Nat -> Bool) (a b : Int) : Prop := (1 <= a /\ a < 64) /\ (1 <= b /\ b < 64) /\ g a.toNat = true /\ g b.toNat = true /\ sub a.toNat b.toNat = true /\ pc b.toNat = pc a.toNat + 1 /\ canN g a.toNat b.toNat 64
instance (g a b) : Decidable (canP g a b) := by unfold canP; infer_instance
def canR (g : Nat -> Bool) (a b : Int) : Bool := decide (canP g a b)
theorem pc_le6 : ∀ x : Fin 64, pc x.val <= 6 := by decide +kernel
noncomputable def L79_0 : Code := lp (bodyOf Try.f79) 0
def pr (a b : Int) : AV := .agg [.int .i64 a, .int .i64 b]
def st79 (xs : List Bool) (a b : Int) (k : Nat) : St := ⟨dd 3 ++ .ptr 0 0 [] :: dd 53 ++ .ar .bool 64 xs :: .int .i64 k :: dd 24, [.bx (pr a b)]⟩
def in79 (xs : List Bool) (a b : Int) (k : Nat) : Prop := k <= 64 /\ canN (gB xs) a.toNat b.toNat k
def ex79 (xs : List Bool) (a b : Int) : List (List Nat × Ex) := [([], ⟨0, Unit, fun _ => canN (gB xs) a.toNat b.toNat 64, fun _ => ⟨dd 83, []⟩⟩)]
def h79 (xs : List Bool) (a b : Int) : Hint := ⟨chk 0 [3, 57, 58] (in79 xs a b) (st79 xs a b), (ex79 xs a b).map (·.2)⟩
noncomputable abbrev X79 : Cy := X [e64]
noncomputable def R79 (xs : List Bool) (a b : Int) : Exit -> St -> Prop := RetR X79 true false [.tmp 4] [.bool (canR (gB xs) a b)] []
structure ok79 (xs : List Bool) (a b : Int) : Prop where
 hl : xs.length = 64
 ha : 1 <= a /\ a < 64
 hb : 1 <= b /\ b < 64
 hga : gB xs a.toNat = true
 hgb : gB xs b.toNat = true
 hs : sub a.toNat b.toNat = true
 hp : pc b.toNat = pc a.toNat + 1
theorem loop79 (xs : List Bool) (a b : Int) (h : ok79 xs a b) : LoopOK X79 L79_0 (h79 xs a b) (R79 xs a b) := by
 refine loop_ok (X_ok _) (H := fun _ _ => none) [3, 57, 58] (in79 xs a b) (st79 xs a b) (fun k => 64 - k) (ex79 xs a b) 150 fun (k : Nat) hk => ?_
 refine of_eq (q := (fun (e : Int) => (fun (d : Prop) => (fun (c : Prop) => d /\ (e < 64 -> d /\ idxPre e (64 : Nat) /\ d /\ d /\ d /\ d /\ (xs.getD k false = true -> d /\ d /\ d /\ d /\ d /\ d /\ (¬e = a -> d /\ d /\ d /\ d /\ d /\ d /\ (¬e = b -> d /\ d /\ d /\ d /\ d /\ d /\ (bNot .i64 a e = 0 -> d /\ d /\ (false = canR (gB xs) a b /\ d) /\ d) /\ (¬bNot .i64 a e = 0 -> c)) /\ (¬¬e = b -> d /\ c)) /\ (¬¬e = a -> d /\ d /\ d /\ c)) /\ (xs.getD k false = false -> d /\ d /\ d /\ d /\ d /\ c)) /\ (¬e < 64 -> ∃ (y : Unit), canN (gB xs) a.toNat b.toNat (64 : Nat) /\ d /\ d)) (inR .i64 (e + 1) /\ d /\ ∃ (y : Nat), (in79 xs a b y /\ (64 : Nat) - y < 64 - k) /\ (d /\ xs = xs /\ e + 1 = (y : Int) /\ d) /\ (a = a /\ b = b /\ d) /\ d)) (True)) ((k : Int))) (by kernel_rfl) ?_
 simp only [zz]
 obtain ⟨k1, k2⟩ := hk
 have hla := h.ha
 have hlb := h.hb
 have hF : ∀ x : Nat, x < 64 -> (bNot .i64 a x = 0 ↔ sub a.toNat x = true) := fun x hx => by
   have h1 := sub_mns ⟨a.toNat, by omega⟩ ⟨x, hx⟩
   simp only at h1
   have h2 := bNot_nat (a := a.toNat) (b := x) (by omega) (by omega)
   rw [Int.toNat_of_nonneg (by omega)] at h2
   rw [h2, <- h1]; omega
 have hn : k < 64 -> (gB xs k = true -> sub a.toNat k = true -> k = a.toNat ∨ k = b.toNat) -> inR .i64 ((k : Int) + 1) /\ ∃ y : Nat, (in79 xs a b y /\ 64 - y < 64 - k) /\ (k : Int) + 1 = (y : Int) := fun hk hh => ⟨by simp only [inR]; omega, k + 1, ⟨⟨by omega, fun x hx => by
   by_cases e : x = k
   · subst e; exact hh
   · exact k2 x (by omega)⟩, by omega⟩, by omega⟩
 refine ⟨fun hk => ⟨by unfold idxPre; omega, fun hg => ⟨fun h1 => ⟨fun h2 => ⟨fun h3 => ?_, fun h3 => hn (by omega) fun _ hs => absurd ((hF k (by omega)).mpr hs) h3⟩, fun h2 => hn (by omega) fun _ _ => .inr (by omega)⟩, fun h1 => hn (by omega) fun _ _ => .inl (by omega)⟩, fun hg => hn (by omega) fun hg2 => ?_⟩, fun hk => by rwa [show k = 64 by omega] at k2⟩
 · refine (decide_eq_false fun hc => ?_).symm
   obtain ⟨_, _, _, _, _, _, h6⟩ := hc
   rcases h6 k (by omega) hg ((hF k (by omega)).mp h3) with h7 | h7 <;> omega
 · unfold gB at hg2; rw [hg] at hg2; cases hg2
theorem call79 (xs : List Bool) (a b : Int) (hl : xs.length = 64) : GCall Try.prog gl 79 true [.ar .bool 64 xs, pr a b] [] [.bool (canR (gB xs) a b)] [] := by
 have hL := fun h => loop79 xs a b h
 refine gcall_of (X := X79) ((X_ok _)) (f := 79) (fn := Try.f79) (c := bodyOf Try.f79) (by kernel_rfl) (by kernel_rfl) (view := false) (rvs := [.tmp 4]) (by kernel_rfl) (H := (fun _ => some (h79 xs a b))) 250 (by kernel_rfl) ?_
 refine of_eq (q := (fun (k : Int) => (fun (h : Prop) => (fun (g : Int) => (fun (f : Int) => (fun (j : Prop) => (fun (d : Prop) => (fun (c : Prop) => (fun (i : Prop) => (fun (e : Prop) => d /\ d /\ d /\ d /\ d /\ d /\ d /\ (a < k -> d /\ d /\ d /\ d /\ d /\ d /\ e) /\ (¬a < k -> d /\ d /\ d /\ d /\ d /\ (g <= a -> d /\ d /\ d /\ d /\ e) /\ (¬g <= a -> d /\ d /\ d /\ d /\ d /\ (g <= b -> d /\ d /\ e) /\ (¬g <= b -> d /\ d /\ d /\ d /\ d /\ (b < k -> e) /\ (¬b < k -> d /\ d /\ idxPre a (64 : Nat) /\ d /\ d /\ d /\ d /\ ((!xs.getD a.toNat false) = true -> d /\ d /\ i) /\ ((!xs.getD a.toNat false) = false -> d /\ d /\ idxPre b (64 : Nat) /\ d /\ d /\ d /\ d /\ ((!xs.getD b.toNat false) = true -> i) /\ ((!xs.getD b.toNat false) = false -> d /\ d /\ d /\ d /\ d /\ d /\ d /\ d /\ (h -> d /\ c) /\ (¬h -> d /\ d /\ ((0 : Int) <= b /\ b < g) /\ d /\ d /\ ((0 : Int) <= a /\ a < g) /\ inR .i64 f /\ d /\ d /\ (j -> c) /\ (¬j -> d /\ d /\ LoopOK X79 L79_0 (h79 xs a b) (R79 xs a b) /\ (∃ (y : Nat), in79 xs a b y /\ (d /\ xs = xs /\ (0 : Int) = (y : Int) /\ d) /\ (a = a /\ b = b /\ d) /\ d) /\ (∀ (y : Unit), canN (gB xs) a.toNat b.toNat (64 : Nat) -> d /\ d /\ (true = canR (gB xs) a b /\ d) /\ d) /\ d))))))))) (d /\ d /\ d /\ d /\ i)) (d /\ d /\ d /\ c)) (d /\ d /\ (false = canR (gB xs) a b /\ d) /\ d)) (True)) (¬(↑(pc b.toNat) : Int) = f)) ((↑(pc a.toNat) : Int) + k)) ((64 : Int))) (¬bNot .i64 a b = 0)) ((1 : Int))) (by kernel_rfl) ?_
 simp only [zz]
 have hno : ¬ canP (gB xs) a b -> false = canR (gB xs) a b := fun h => (decide_eq_false h).symm
 have hF : 1 <= a /\ a < 64 -> 1 <= b /\ b < 64 -> (bNot .i64 a b = 0 ↔ sub a.toNat b.toNat = true) := fun ha hb => by
   have h1 := sub_mns ⟨a.toNat, by omega⟩ ⟨b.toNat, by omega⟩
   simp only at h1
   have h2 := bNot_nat (a := a.toNat) (b := b.toNat) (by omega) (by omega)
   rw [Int.toNat_of_nonneg (by omega), Int.toNat_of_nonneg (by omega)] at h2
   rw [h2, <- h1]; omega
 have hg : ∀ x : Nat, gB xs x = xs.getD x false := fun _ => rfl
 refine ⟨fun h => hno fun hc => by have := hc.1; omega, fun h1 => ⟨fun h => hno fun hc => by have := hc.1; omega, fun h2 => ⟨fun h => hno fun hc => by have := hc.2.1; omega, fun h3 => ⟨fun h => hno fun hc => by have := hc.2.1; omega, fun h4 => ?_⟩⟩⟩⟩
 have hF := hF ⟨by omega, by omega⟩ ⟨by omega, by omega⟩
 refine ⟨by unfold idxPre; omega, fun h => hno fun hc => ?_, fun h5 => ⟨by unfold idxPre; omega, fun h => hno fun hc => ?_, fun h6 => ⟨fun h => hno fun hc => h (hF.mpr hc.2.2.2.2.1), fun h7 => ⟨by omega, by omega, ?_, fun h => hno fun hc => h (by have := hc.2.2.2.2.2.1; omega), fun h8 => ?_⟩⟩⟩⟩
 · have := hc.2.2.1; rw [hg] at this; rw [this] at h; cases h
 · have := hc.2.2.2.1; rw [hg] at this; rw [this] at h; cases h
 · have := pc_le6 ⟨a.toNat, by omega⟩
   simp only at this
   simp only [inR]; omega
 · have hok : ok79 xs a b := ⟨hl, ⟨by omega, by omega⟩, ⟨by omega, by omega⟩, by rw [hg]; simpa using h5, by rw [hg]; simpa using h6, hF.mp (Classical.not_not.mp h7), by have := Classical.not_not.mp h8; omega⟩
   exact ⟨hL hok, ⟨0, ⟨by omega, fun x hx => absurd hx (Nat.not_lt_zero _)⟩, rfl⟩, fun _ hc => (decide_eq_true ⟨hok.ha, hok.hb, hok.hga, hok.hgb, hok.hs, hok.hp, hc⟩).symm⟩
def get79 (xs : List AV) (_ : List Ob) : Option (List Bool × Int × Int) :=
 match xs with
 | [.ar e _ ys, .agg [.int .i64 a, .int .i64 b]] => (castL e .bool ys).map fun ys => (ys, a, b)
 | _ => none
def e79 : Entry Try.prog gl := entryW 79 ⟨Try.f79, by kernel_rfl, by kernel_rfl, by kernel_rfl⟩ false get79 (fun x => x.1.length = 64) true (fun x => [.ar .bool 64 x.1, pr x.2.1 x.2.2]) (fun _ => []) (fun x => [.bool (canR (gB x.1) x.2.1 x.2.2)]) (fun _ => []) (fun x h => call79 _ _ _ h)
end Go.Am.Sh

/- Shells: the search for collapses, as it lies. -/
namespace Go.Am.Sh
open Go Go.Am Go.Proofs
abbrev Fs := List Bool
abbrev LP := List (Int × Int)
abbrev MF := List (List Bool × Bool)
abbrev RC := Bool × Fs × LP × MF
def mgF (m : MF) (xs : Fs) : Bool := (mGet FA m xs).getD false
def mpF (m : MF) (xs : Fs) : MF := mPut FA m xs true
def tk (xs : Fs) (a b : Nat) : Fs := (xs.set a false).set b false
def pA (i : Nat) : Nat := i / 6
def pB (i : Nat) : Nat := i / 6 ||| 2 ^ (i % 6)
/-- Candidate i is a pair that can be taken away. -/
def cnd (xs : Fs) (i : Nat) : Bool := gB xs (pA i) && !decide (pB i = pA i) && canR (gB xs) (pA i) (pB i)
def prI (a b : Nat) : Int × Int := ((a : Int), (b : Int))
/-- The first candidates, until one comes to an end. -/
def lpC (xs : Fs) (f : Fs -> LP -> MF -> RC) (l : LP) (m : MF) : Nat -> RC
 | 0 => (false, xs, l, m)
 | i + 1 => if (lpC xs f l m i).1 = true ∨ cnd xs i = false then lpC xs f l m i else
     if (f (tk xs (pA i) (pB i)) (l ++ [prI (pA i) (pB i)]) (lpC xs f l m i).2.2.2).1 = true then f (tk xs (pA i) (pB i)) (l ++ [prI (pA i) (pB i)]) (lpC xs f l m i).2.2.2
     else (false, xs, l, (f (tk xs (pA i) (pB i)) (l ++ [prI (pA i) (pB i)]) (lpC xs f l m i).2.2.2).2.2.2)
def nC : Nat := 384
/-- The search, with fewer than 2 n faces. -/
def flK (K : Nat) : Nat -> Fs -> LP -> MF -> RC
 | 0, xs, l, m => (false, xs, l, m)
 | n + 1, xs, l, m => if (trueN (gB xs) 64).length = 2 then (true, xs, l, m) else if mgF m xs = true then (false, xs, l, m) else
     if (lpC xs (flK K n) l m K).1 = true then lpC xs (flK K n) l m K else (false, xs, l, mpF (lpC xs (flK K n) l m K).2.2.2 xs)
def fl : Nat -> Fs -> LP -> MF -> RC := flK nC
theorem lpC_stop {xs : Fs} {f : Fs -> LP -> MF -> RC} {l : LP} {m : MF} {k : Nat} (h : (lpC xs f l m k).1 = true) : ∀ j, lpC xs f l m (k + j) = lpC xs f l m k
 | 0 => rfl
 | j + 1 => by rw [show k + (j + 1) = k + j + 1 by omega, lpC, lpC_stop h j, if_pos (.inl h)]
theorem flK_list {K n : Nat} {xs : Fs} {l : LP} {m : MF} (h : (flK K n xs l m).1 = false) : (flK K n xs l m).2.1 = xs /\ (flK K n xs l m).2.2.1 = l := by
 cases n with
 | zero => exact ⟨rfl, rfl⟩
 | succ n =>
   rw [flK] at h |-
   split
   · exact ⟨rfl, rfl⟩
   · rename_i h1; rw [if_neg h1] at h
     split
     · exact ⟨rfl, rfl⟩
     · rename_i h2; rw [if_neg h2] at h
       split
       · rename_i h3; rw [if_pos h3, h3] at h; cases h
       · exact ⟨rfl, rfl⟩
theorem fl_list {n : Nat} {xs : Fs} {l : LP} {m : MF} (h : (fl n xs l m).1 = false) : (fl n xs l m).2.1 = xs /\ (fl n xs l m).2.2.1 = l := flK_list h
def clo75 (a b c d : Nat) : AV := .clo 75 [] [.ptr a 0 [], .ptr b 0 [], .ptr c 0 [], .ptr d 0 []]
def mF (m : MF) : Ob := .mo FA .bool m
def gC (v : Nat) (xs : Fs) (l : LP) (m : MF) : List Ob := [.bx (.ar .bool 64 xs), .bx (.mp 2), mF m, .bx (.own 4 v), .sc v 62 P2 l, .bx (clo75 0 1 3 5)]
def aC : List AV := [.ptr 0 0 [], .ptr 1 0 [], .ptr 3 0 [], .ptr 5 0 []]
structure pre75 (n : Nat) (xs : Fs) (l : LP) : Prop where
 hl : xs.length = 64
 hc : cN (gB xs) 64 < 2 * n
 hn : l.length + n <= 40
def GC (n : Nat) : Prop := ∀ (xs : Fs) (l : LP) (m : MF), pre75 n xs l -> GCall Try.prog gl 75 false aC (gC 0 xs l m) [.bool (fl n xs l m).1] (gC 1 (fl n xs l m).2.1 (fl n xs l m).2.2.1 (fl n xs l m).2.2.2)
def unMF : Ob -> Option MF
 | .mo k v m => (if h : k = FA /\ v = .bool then some (by obtain ⟨rfl, rfl⟩ := h; exact m) else none)
 | _ => none
def unLP : Ob -> Option LP
 | .sc _ _ e xs => castL e P2 xs
 | _ => none
abbrev G3 := Fs × LP × MF
def get75 (_ : List AV) (obs : List Ob) : Option G3 :=
 match unFa (obs.getD 0 .gone), unLP (obs.getD 4 .gone), unMF (obs.getD 2 .gone) with
 | some xs, some l, some m => some (xs, l, m)
 | _, _, _ => none
def e75S (n : Nat) (h : GC n) : Entry Try.prog gl := entryW 75 ⟨Try.f75, by kernel_rfl, by kernel_rfl, by kernel_rfl⟩ true get75 (fun x => pre75 n x.1 x.2.1) false (fun _ => aC) (fun x => gC 0 x.1 x.2.1 x.2.2) (fun x => [.bool (fl n x.1 x.2.1 x.2.2).1])
 (fun x => gC 1 (fl n x.1 x.2.1 x.2.2).2.1 (fl n x.1 x.2.1 x.2.2).2.2.1 (fl n x.1 x.2.1 x.2.2).2.2.2) (fun x hx => h _ _ x.2.2 hx)
noncomputable def C75 : RcC := rcC [0, 2, 3, 4] Try.f75
def rc75 : AV := .clo 0 [.ptr 1 0 [], .ptr 2 0 [], .ptr 4 0 [], .ptr 7 0 []] []
noncomputable def yC (v : Nat) (s : LoopState) (j : Option Code) (xs : Fs) (l : LP) (m : MF) (b : Bool) : List Ob := [.lp C75 s j rc75, .bx (.ar .bool 64 xs), .bx (.own 3 v), .sc v 62 P2 l, .bx (clo75 1 5 2 4), .bx (.mp 6), mF m, .bx (.bool b)]
def sC (b : Bool) : LoopState := if b then .done else .ready
def jC (b : Bool) : Option Code := if b then some .ret else none
def pC (b : Bool) {α : Type} (x y : α) : α := if b then x else y
structure preY (n : Nat) (xs : Fs) (l : LP) (a b : Nat) : Prop where
 hl : xs.length = 64
 hc : cN (gB xs) 64 < 2 * (n + 1)
 hn : l.length + (n + 1) <= 40
 hk : canR (gB xs) a b = true
def rY (n : Nat) (xs : Fs) (l : LP) (m : MF) (a b : Nat) : RC := fl n (tk xs a b) (l ++ [prI a b]) m
def YC (n : Nat) : Prop := ∀ (xs : Fs) (l : LP) (m : MF) (a b : Nat), preY n xs l a b -> GYield Try.prog gl false [.yld 0, pr a b] (yC 0 .ready none xs l m false) [.bool (!(rY n xs l m a b).1)]
 (yC 1 (sC (rY n xs l m a b).1) (jC (rY n xs l m a b).1) (pC (rY n xs l m a b).1 (rY n xs l m a b).2.1 xs) (pC (rY n xs l m a b).1 (rY n xs l m a b).2.2.1 l) (rY n xs l m a b).2.2.2 (rY n xs l m a b).1)
noncomputable def Xyb (l : EL) (yl : List (YEntry Try.prog gl)) (ro : Option Nat) (m0 : Nat) (bs : List Nat) (dr : Nat -> Option Nat) : Cy := { mkY Try.prog tt gl l yl ro m0 dr with bs := bs }
theorem Xyb_ok (l : EL) (yl : List (YEntry Try.prog gl)) (ro : Option Nat) (m0 : Nat) (bs : List Nat) (dr : Nat -> Option Nat) : (Xyb l yl ro m0 bs dr).Ok := (mkY_ok tt_ok l yl ro m0 dr).bump bs
theorem cN_off {g g' : Nat -> Bool} {a : Nat} (h : ∀ x, g' x = if x = a then false else g x) (hg : g a = true) : ∀ {m : Nat}, a < m -> cN g' m + 1 = cN g m
 | 0, ha => absurd ha (Nat.not_lt_zero _)
 | m + 1, ha => by
   rw [cN, cN]
   by_cases e : a = m
   · subst e
     rw [cN_ext (f := g') (g := g) fun x hx => by rw [h, if_neg (by omega)], h, if_pos rfl, hg]
     simp
   · have ih := cN_off h hg (m := m) (by omega)
     have hm : g' m = g m := by rw [h, if_neg (fun e2 => e e2.symm)]
     rw [hm, <- ih]
     omega
theorem gB_set {xs : Fs} {a x : Nat} (ha : a < xs.length) : gB (xs.set a false) x = if x = a then false else gB xs x := by
 unfold gB
 rw [List.getD_eq_getElem?_getD, List.getElem?_set]
 by_cases e : a = x
 · subst e; simp [ha]
 · rw [if_neg e, if_neg (fun e2 => e e2.symm)]; try rfl
theorem tk_cN {xs : Fs} {a b : Nat} (hl : xs.length = 64) (h : canR (gB xs) a b = true) : cN (gB (tk xs a b)) 64 + 2 = cN (gB xs) 64 /\ (a < 64 /\ b < 64) /\ (tk xs a b).length = 64 := by
 have hP : canP (gB xs) a b := of_decide_eq_true h
 obtain ⟨h1, h2, h3, h4, h5, h6, _⟩ := hP
 rw [Int.toNat_natCast] at h3 h5 h6
 rw [Int.toNat_natCast] at h4 h5 h6
 have hab : b ≠ a := fun e => by rw [e] at h6; omega
 have e1 := cN_off (fun x => gB_set (xs := xs) (a := a) (x := x) (by omega)) h3 (m := 64) (by omega)
 have e2 := cN_off (fun x => gB_set (xs := xs.set a false) (a := b) (x := x) (by rw [List.length_set]; omega)) (by rw [gB_set (by omega), if_neg hab]; exact h4) (m := 64) (by omega)
 refine ⟨by unfold tk; omega, ⟨by omega, by omega⟩, by unfold tk; rw [List.length_set, List.length_set]; exact hl⟩
noncomputable abbrev XyC (n : Nat) (h : GC n) : Cy := Xyb [e75S n h] [] (some 0) 8 [3] (drOf [(8, 1000000)])
theorem yC_of (n : Nat) (h : GC n) : YC n := by
 intro xs l m a b hp
 refine gyield_of (X := XyC n h) (Xyb_ok _ _ _ _ _ _) (C := C75) (j := none) (vs := [.ptr 1 0 [], .ptr 2 0 [], .ptr 4 0 [], .ptr 7 0 []]) (xs := [pr a b]) (view := false) (by kernel_rfl) (by kernel_rfl) (by kernel_rfl) (H := fun _ => none) 120 120 ?_
 refine of_eq (q := (fun (p : Int) => (fun (o : Int) => (fun (h : List Bool) => (fun (g : Prop) => (fun (f : RC) => (fun (r : Bool) => (fun (e : Prop) => (fun (s : Prop) => (fun (i : Prop) => (fun (w : Prop) => (fun (d : RC) => (fun (v : Prop) => (fun (k : Int) => (fun (t : Int) => (fun (c : Prop) => (fun (u : Prop) => (fun (q : Prop) => (fun (j : Prop) => e /\ e /\ e /\ e /\ e /\ ((e /\ (e /\ j /\ (g /\ (e /\ (e /\ c) /\ u) /\ (e /\ u) /\ e) /\ e) /\ (e /\ j /\ q) /\ e) /\ (e /\ (e /\ j /\ q) /\ (e /\ q) /\ e) /\ e) /\ e /\ e /\ e /\ e /\ e /\ e /\ e /\ sumPre (List.length l) [(p, o)].length (nat_lit 16) /\ e /\ e /\ ((pre75 n h (l ++ [(p, o)]) /\ i /\ h = h /\ e /\ m = m /\ e /\ l ++ [(p, o)] = l ++ [(p, o)] /\ w /\ e) /\ e /\ w) /\ (d.fst = true -> e /\ (false = !r /\ e) /\ (C75 = C75 /\ sC r = LoopState.done /\ jC r = some Code.ret /\ i /\ e) /\ d.snd.fst = pC r f.snd.fst xs /\ e /\ d.snd.snd.fst = pC r f.snd.snd.fst l /\ w /\ e /\ v /\ true = r /\ e) /\ (d.fst = false -> e /\ e /\ e /\ e /\ e /\ inR .i64 t /\ ((0 : Int) <= t /\ t <= k) /\ e /\ (true = !r /\ e) /\ (C75 = C75 /\ sC r = LoopState.ready /\ jC r = none /\ i /\ e) /\ xs = pC r f.snd.fst xs /\ e /\ List.take t.toNat d.snd.snd.fst = pC r f.snd.snd.fst l /\ w /\ e /\ v /\ false = r /\ e)) (e /\ (e /\ (g /\ c) /\ e) /\ (g /\ (e /\ c) /\ u) /\ e)) ((e /\ (e /\ (g /\ c) /\ e) /\ e) /\ e)) ((e /\ c) /\ e)) ((e /\ (idxPre o (64 : Nat) /\ (e /\ (e /\ e /\ e /\ e /\ e /\ e /\ s /\ xs = xs /\ s) /\ (C75 = C75 /\ LoopState.busy = LoopState.busy /\ (none : Option Code) = none /\ i /\ e) /\ h = h /\ e /\ l = l /\ w /\ e /\ m = m /\ false = false /\ s /\ xs = xs /\ e) /\ e) /\ e) /\ e)) (k - 1)) ((↑(List.length d.snd.snd.fst) : Int))) (d.snd.snd.snd = f.snd.snd.snd)) (fl n h (l ++ [(p, o)]) m)) (e /\ i)) (e /\ e /\ e /\ e /\ e)) (p = p /\ o = o /\ e)) (True)) (f.fst)) (rY n xs l m a b)) (idxPre p (64 : Nat))) ((List.set xs a false).set b false)) ((b : Int))) ((a : Int))) (by kernel_rfl) ?_
 simp only [zz]
 obtain ⟨hc, hab, hln⟩ := tk_cN hp.hl hp.hk
 have hn := hp.hn
 have hc2 := hp.hc
 have ha : idxPre (a : Int) 64 := by unfold idxPre; omega
 have hb : idxPre (b : Int) 64 := by unfold idxPre; omega
 have hpre : pre75 n (tk xs a b) (l ++ [prI a b]) := ⟨hln, by omega, by rw [List.length_append]; simp; omega⟩
 have hlist := fun h0 => fl_list (n := n) (xs := tk xs a b) (l := l ++ [prI a b]) (m := m) h0
 simp only [ha, hb, and_self, true_and]
 have key : ∀ r : RC, (r.1 = false -> r.2.2.1 = l ++ [prI a b]) -> (r.1 = true -> false = !r.1 /\ (sC r.1 = .done /\ jC r.1 = some .ret) /\ r.2.1 = pC r.1 r.2.1 xs /\ r.2.2.1 = pC r.1 r.2.2.1 l /\ r.2.2.2 = r.2.2.2 /\ true = r.1) /\
     (r.1 = false -> inR .i64 ((r.2.2.1.length : Int) - 1) /\ (0 <= (r.2.2.1.length : Int) - 1 /\ (r.2.2.1.length : Int) - 1 <= (r.2.2.1.length : Int)) /\ true = !r.1 /\ (sC r.1 = .ready /\ jC r.1 = none) /\ xs = pC r.1 r.2.1 xs /\ r.2.2.1.take ((r.2.2.1.length : Int) - 1).toNat = pC r.1 r.2.2.1 l /\ r.2.2.2 = r.2.2.2 /\ false = r.1) := fun r hr => by
   constructor
   · intro h0
     rw [h0]; simp [sC, jC, pC]
   · intro h0
     rw [h0, hr h0]
     refine ⟨by simp only [inR]; simp; omega, by simp; omega, ?_⟩
     simp [sC, jC, pC]
 exact ⟨by unfold sumPre; simp; omega, hpre, key _ fun h0 => (hlist h0).2⟩
end Go.Am.Sh

/- Shells: the pairs, one after the other. -/
namespace Go.Am.Sh
open Go Go.Am Go.Proofs
def getY75 (xs : List AV) (obs : List Ob) : Option (Int × Int × G3) :=
 match xs with
 | [_, .agg [.int .i64 a, .int .i64 b]] => (match unFa (obs.getD 1 .gone), unLP (obs.getD 3 .gone), unMF (obs.getD 6 .gone) with
   | some ys, some l, some m => some (a, b, ys, l, m)
   | _, _, _ => none)
 | _ => none
structure okY (n : Nat) (x : Int × Int × G3) : Prop where
 h : preY n x.2.2.1 x.2.2.2.1 x.1.toNat x.2.1.toNat
 a : 0 <= x.1
 b : 0 <= x.2.1
noncomputable def EYC (n : Nat) (h : YC n) : YEntry Try.prog gl := yentryW getY75 (okY n) false (fun x => [.yld 0, pr x.1 x.2.1]) (fun x => yC 0 .ready none x.2.2.1 x.2.2.2.1 x.2.2.2.2 false)
 (fun x => [.bool (!(rY n x.2.2.1 x.2.2.2.1 x.2.2.2.2 x.1.toNat x.2.1.toNat).1)])
 (fun x => yC 1 (sC (rY n x.2.2.1 x.2.2.2.1 x.2.2.2.2 x.1.toNat x.2.1.toNat).1) (jC (rY n x.2.2.1 x.2.2.2.1 x.2.2.2.2 x.1.toNat x.2.1.toNat).1) (pC (rY n x.2.2.1 x.2.2.2.1 x.2.2.2.2 x.1.toNat x.2.1.toNat).1 (rY n x.2.2.1 x.2.2.2.1 x.2.2.2.2 x.1.toNat x.2.1.toNat).2.1 x.2.2.1)
   (pC (rY n x.2.2.1 x.2.2.2.1 x.2.2.2.2 x.1.toNat x.2.1.toNat).1 (rY n x.2.2.1 x.2.2.2.1 x.2.2.2.2 x.1.toNat x.2.1.toNat).2.2.1 x.2.2.2.1) (rY n x.2.2.1 x.2.2.2.1 x.2.2.2.2 x.1.toNat x.2.1.toNat).2.2.2 (rY n x.2.2.1 x.2.2.2.1 x.2.2.2.2 x.1.toNat x.2.1.toNat).1) (by
   rintro ⟨a, b, xs, l, m⟩ ⟨h1, h2, h3⟩
   have := h xs l m a.toNat b.toNat h1
   simp only at h2 h3
   rw [Int.toNat_of_nonneg h2, Int.toNat_of_nonneg h3] at this
   exact this)
noncomputable abbrev X88 (n : Nat) (h : YC n) : Cy := Xyb [e79] [EYC n h] none 9 [3] (fun _ => none)
noncomputable def L88_0 : Code := lp (bodyOf Try.f88) 0
noncomputable def L88_2 : Code := lp (bodyOf Try.f88) 2
noncomputable def ob88 (w : Nat) (xs : Fs) (l : LP) (m : MF) : List Ob := yC w .ready none xs l m false ++ [.bx (.ar .bool 64 xs)]
def mI (n : Nat) (xs : Fs) (l : LP) (m : MF) (i : Nat) : MF := (lpC xs (fl n) l m i).2.2.2
noncomputable def si88 (w n : Nat) (xs : Fs) (l : LP) (m : MF) (s v : Nat) : St := ⟨.yld 0 :: .ptr 8 0 [] :: .dead :: .int .i64 s :: .bool (gB xs s) :: dd 2 ++ .ar .bool 64 xs :: .int .i64 s :: dd 3 ++ .int .i64 v :: dd 30, ob88 w xs l (mI n xs l m (6 * s + v))⟩
noncomputable def so88 (w n : Nat) (xs : Fs) (l : LP) (m : MF) (s : Nat) : St := ⟨.yld 0 :: .ptr 8 0 [] :: dd 5 ++ .ar .bool 64 xs :: .int .i64 s :: dd 34, ob88 w xs l (mI n xs l m (6 * s))⟩
def ii88 (n : Nat) (xs : Fs) (l : LP) (m : MF) (s v : Nat) : Prop := v <= 6 /\ (lpC xs (fl n) l m (6 * s + v)).1 = false
def io88 (n : Nat) (xs : Fs) (l : LP) (m : MF) (s : Nat) : Prop := s <= 64 /\ (lpC xs (fl n) l m (6 * s)).1 = false
noncomputable def fi88 (n : Nat) (xs : Fs) (l : LP) (m : MF) (s : Nat) : List Fam := [⟨Nat, ii88 n xs l m s, si88 0 n xs l m s, fun v => 6 - v, fun _ => nH⟩, ⟨Nat, ii88 n xs l m s, si88 1 n xs l m s, fun v => 6 - v, fun _ => nH⟩]
noncomputable def xi88 (n : Nat) (xs : Fs) (l : LP) (m : MF) (s : Nat) : List (List Nat × Ex) := [([0, 1, 7, 8], ⟨2, Unit, fun _ => (lpC xs (fl n) l m (6 * (s + 1))).1 = false, fun _ => ⟨.yld 0 :: .ptr 8 0 [] :: dd 5 ++ .ar .bool 64 xs :: .int .i64 s :: dd 34, ob88 0 xs l (mI n xs l m (6 * (s + 1)))⟩⟩), ([0, 1, 7, 8], ⟨2, Unit, fun _ => (lpC xs (fl n) l m (6 * (s + 1))).1 = false, fun _ => ⟨.yld 0 :: .ptr 8 0 [] :: dd 5 ++ .ar .bool 64 xs :: .int .i64 s :: dd 34, ob88 1 xs l (mI n xs l m (6 * (s + 1)))⟩⟩)]
noncomputable def hi88 (n : Nat) (xs : Fs) (l : LP) (m : MF) (s : Nat) : Hint := ⟨chks 9 [0, 1, 3, 4, 7, 8, 12] (fi88 n xs l m s), (xi88 n xs l m s).map (·.2)⟩
noncomputable def fo88 (n : Nat) (xs : Fs) (l : LP) (m : MF) : List Fam := [⟨Nat, io88 n xs l m, so88 0 n xs l m, fun s => 64 - s, fun s _ => some (hi88 n xs l m s)⟩, ⟨Nat, io88 n xs l m, so88 1 n xs l m, fun s => 64 - s, fun s _ => some (hi88 n xs l m s)⟩]
noncomputable def xo88 (n : Nat) (xs : Fs) (l : LP) (m : MF) : List (List Nat × Ex) := [([], ⟨0, Unit, fun _ => (lpC xs (fl n) l m nC).1 = false, fun _ => ⟨dd 43, ob88 0 xs l (mI n xs l m nC)⟩⟩), ([], ⟨0, Unit, fun _ => (lpC xs (fl n) l m nC).1 = false, fun _ => ⟨dd 43, ob88 1 xs l (mI n xs l m nC)⟩⟩)]
noncomputable def ho88 (n : Nat) (xs : Fs) (l : LP) (m : MF) : Hint := ⟨chks 9 [0, 1, 7, 8] (fo88 n xs l m), (xo88 n xs l m).map (·.2)⟩
/-- What is left behind the last candidate. -/
noncomputable def obZ (xs : Fs) (l : LP) (r : RC) : List Ob := yC 1 (sC r.1) (jC r.1) (pC r.1 r.2.1 xs) (pC r.1 r.2.2.1 l) r.2.2.2 r.1 ++ [.bx (.ar .bool 64 xs)]
noncomputable def R88 (n : Nat) (h : YC n) (xs : Fs) (l : LP) (m : MF) : Exit -> St -> Prop := RetR (X88 n h) false false [] [] (obZ xs l (lpC xs (fl n) l m nC))
structure pre88 (n : Nat) (xs : Fs) (l : LP) : Prop where
 hl : xs.length = 64
 hc : cN (gB xs) 64 < 2 * (n + 1)
 hn : l.length + (n + 1) <= 40
theorem lp_step {n : Nat} {xs : Fs} {l : LP} {m : MF} {s v : Nat} (hv : v < 6) (h0 : (lpC xs (fl n) l m (6 * s + v)).1 = false) : lpC xs (fl n) l m (6 * s + (v + 1)) = if gB xs s = true /\ ¬ s ||| 2 ^ v = s /\ canR (gB xs) s (s ||| 2 ^ v : Nat) = true then
   if (rY n xs l (mI n xs l m (6 * s + v)) s (s ||| 2 ^ v)).1 = true then rY n xs l (mI n xs l m (6 * s + v)) s (s ||| 2 ^ v) else (false, xs, l, (rY n xs l (mI n xs l m (6 * s + v)) s (s ||| 2 ^ v)).2.2.2) else lpC xs (fl n) l m (6 * s + v) := by
 have e1 : pA (6 * s + v) = s := by unfold pA; omega
 have e2 : pB (6 * s + v) = s ||| 2 ^ v := by unfold pB; rw [show (6 * s + v) / 6 = s by omega, show (6 * s + v) % 6 = v by omega]
 have ec : cnd xs (6 * s + v) = true ↔ gB xs s = true /\ ¬ s ||| 2 ^ v = s /\ canR (gB xs) s (s ||| 2 ^ v : Nat) = true := by
   unfold cnd
   rw [e1, e2, Bool.and_eq_true, Bool.and_eq_true, Bool.not_eq_true', decide_eq_false_iff_not, and_assoc]
 rw [<- Nat.add_assoc, lpC, h0]
 by_cases hc : gB xs s = true /\ ¬ s ||| 2 ^ v = s /\ canR (gB xs) s (s ||| 2 ^ v : Nat) = true
 · rw [if_pos hc, if_neg (by rw [ec.mpr hc]; simp), e1, e2]; try rfl
 · rw [if_neg hc, if_pos (.inr (by cases hq : cnd xs (6 * s + v); rfl; exact absurd (ec.mp hq) hc))]
theorem lp_end {n : Nat} {xs : Fs} {l : LP} {m : MF} {s v : Nat} (hs : s < 64) (hv : v < 6) (h : (lpC xs (fl n) l m (6 * s + (v + 1))).1 = true) : lpC xs (fl n) l m nC = lpC xs (fl n) l m (6 * s + (v + 1)) := by
 have := lpC_stop h (384 - (6 * s + (v + 1)))
 rw [show 6 * s + (v + 1) + (384 - (6 * s + (v + 1))) = 384 by omega] at this
 exact this
theorem loop88i (n : Nat) (h : YC n) (xs : Fs) (l : LP) (m : MF) (s : Nat) (hp : pre88 n xs l) (hs : s < 64) : LoopOK (X88 n h) L88_2 (hi88 n xs l m s) (bodyR 9 (xo88 n xs l m) (R88 n h xs l m)) := by
 refine loop_fams (Xyb_ok _ _ _ _ _ _) [0, 1, 3, 4, 7, 8, 12] (fi88 n xs l m s) (xi88 n xs l m s) 150 ⟨fun (v : Nat) hv => ?_, fun (v : Nat) hv => ?_, trivial⟩
 · refine of_eq (q := (fun (A : Int) => (fun (x : Int) => (fun (q : Int) => (fun (p : Prop) => (fun (o : Bool) => (fun (j : Nat) => (fun (t : Prop) => (fun (i : MF) => (fun (g : RC) => (fun (f : Int) => (fun (z : Prop) => (fun (e : Prop) => (fun (u : Prop) => (fun (h : Prop) => (fun (B : Prop) => (fun (r : Prop) => (fun (d : Int) => (fun (c : Prop) => (fun (b : Prop) => (fun (a : RC) => (fun (w : Bool) => (fun (C : Fs) => (fun (k : Prop) => e /\ (x < 6 -> e /\ e /\ e /\ e /\ e /\ inR .u64 x /\ (((0 : Int) <= x /\ x < bitsOf .i64) /\ (-9223372036854775808 : Int) <= A /\ A <= 9223372036854775807) /\ e /\ e /\ e /\ e /\ e /\ e /\ (o = true -> e /\ e /\ e /\ e /\ e /\ e /\ e /\ (¬(f, d) = (f, f) -> e /\ e /\ ((List.length xs = 64 /\ (p /\ (z /\ d = d /\ e) /\ e) /\ e) /\ e) /\ e /\ e /\ (canR (gB xs) f d = true -> e /\ e /\ ((okY n (f, d, xs, l, i) /\ (e /\ (z /\ d = d /\ e) /\ e) /\ c /\ p /\ e /\ l = l /\ B /\ e /\ i = i /\ false = false /\ e) /\ e /\ e /\ e /\ B) /\ e /\ e /\ ((!!w) = true -> e /\ e /\ (C75 = C75 /\ sC g.fst = sC w /\ jC g.fst = jC w /\ h /\ e) /\ C = pC g.fst g.snd.fst xs /\ e /\ pC w a.snd.snd.fst l = pC g.fst g.snd.snd.fst l /\ B /\ e /\ a.snd.snd.snd = g.snd.snd.snd /\ w = g.fst /\ p /\ e) /\ ((!!w) = false -> inR .i64 q /\ e /\ ((∃ (y : Nat), (ii88 n xs l m s y /\ j - y < j - v) /\ (e /\ e /\ z /\ o = o /\ p /\ z /\ q = (y : Int) /\ e) /\ k /\ C = xs /\ False /\ False /\ B /\ e /\ a.snd.snd.snd = mI n xs l m (j * s + y) /\ w = false /\ p /\ e) ∨ ∃ (y : Nat), (ii88 n xs l m s y /\ j - y < j - v) /\ (e /\ e /\ z /\ o = o /\ p /\ z /\ q = (y : Int) /\ e) /\ k /\ C = xs /\ e /\ pC w a.snd.snd.fst l = l /\ B /\ e /\ a.snd.snd.snd = mI n xs l m (j * s + y) /\ w = false /\ p /\ e))) /\ (canR (gB xs) f d = false -> b)) /\ (¬¬(f, d) = (f, f) -> e /\ e /\ b)) /\ (o = false -> e /\ e /\ e /\ e /\ b)) /\ (¬x < 6 -> (∃ (y : Unit), t /\ (e /\ e /\ p /\ z /\ e) /\ c /\ p /\ e /\ l = l /\ r) ∨ ∃ (y : Unit), t /\ (e /\ e /\ p /\ z /\ e) /\ c /\ p /\ False /\ False /\ r)) (C75 = C75 /\ LoopState.ready = sC w /\ (none : Option Code) = jC w /\ h /\ e)) (pC w a.snd.fst xs)) (a.fst)) (rY n xs l i s d.toNat)) (e /\ inR .i64 q /\ e /\ ((∃ (y : Nat), (ii88 n xs l m s y /\ j - y < j - v) /\ (e /\ e /\ z /\ o = o /\ p /\ z /\ q = (y : Int) /\ e) /\ c /\ p /\ e /\ l = l /\ B /\ e /\ i = mI n xs l m (j * s + y) /\ u) ∨ ∃ (y : Nat), (ii88 n xs l m s y /\ j - y < j - v) /\ (e /\ e /\ z /\ o = o /\ p /\ z /\ q = (y : Int) /\ e) /\ c /\ p /\ False /\ False /\ B /\ e /\ i = mI n xs l m (j * s + y) /\ u))) (C75 = C75 /\ LoopState.ready = LoopState.ready /\ (none : Option Code) = none /\ h /\ e)) (bOr .i64 f A)) (B /\ e /\ i = mI n xs l m (j * (s + 1)) /\ u)) (e /\ h)) (e /\ e /\ e /\ e /\ e)) (false = false /\ p /\ e)) (True)) (f = f)) ((s : Int))) (lpC xs (fl n) l m nC)) (mI n xs l m (j * s + v))) ((lpC xs (fl n) l m (j * (s + 1))).fst = false)) ((6 : Nat))) (gB xs s)) (xs = xs)) (x + 1)) ((v : Int))) ((1 : Int) * 2 ^ v)) (by kernel_rfl) ?_
   simp only [zz]
   obtain ⟨v1, v2⟩ := hv
   refine ⟨fun hv6 => ?_, fun hv6 => by rw [show v = 6 by omega] at v2 |-; exact ⟨v2, rfl⟩⟩
   have hv6 : v < 6 := by omega
   have hb := or_pow hs hv6
   have hst := lp_step hv6 v2
   have hend := lp_end (n := n) (xs := xs) (l := l) (m := m) hs hv6
   have h2 : 2 ^ v < 64 := Nat.pow_lt_pow_right (a := 2) (by decide) hv6
   have e : (2 ^ v : Int) = ((2 ^ v : Nat) : Int) := by rw [Int.natCast_pow]; try rfl
   have eb : ∀ P : Nat, P < 64 -> -9223372036854775808 <= 1 * (P : Int) /\ 1 * (P : Int) <= 9223372036854775807 := fun P h => by omega
   have hsh : (0 <= (v : Int) /\ (v : Int) < bitsOf .i64) /\ -9223372036854775808 <= 1 * (2 ^ v : Int) /\ 1 * (2 ^ v : Int) <= 9223372036854775807 := ⟨⟨by omega, by simp only [bitsOf]; omega⟩, by rw [e]; exact eb _ h2⟩
   simp only [hb.1, Int.toNat_natCast]
   have hskip : ¬ (gB xs s = true /\ ¬ s ||| 2 ^ v = s /\ canR (gB xs) s (s ||| 2 ^ v : Nat) = true) -> inR .i64 ((v : Int) + 1) /\ ∃ y : Nat, (ii88 n xs l m s y /\ 6 - y < 6 - v) /\ (v : Int) + 1 = (y : Int) /\ mI n xs l m (6 * s + v) = mI n xs l m (6 * s + y) := fun hc => by
     rw [if_neg hc] at hst
     exact ⟨by simp only [inR]; omega, v + 1, ⟨⟨by omega, by rw [hst]; exact v2⟩, by omega⟩, by omega, by unfold mI; rw [hst]⟩
   refine ⟨by simp only [inR]; omega, hsh, fun hg => ⟨fun hne => ⟨hp.hl, fun hcan => ?_, fun hcan => hskip fun hc => by rw [hc.2.2] at hcan; cases hcan⟩, fun he => hskip fun hc => he fun h3 => hc.2.1 (by injection h3 with _ h3; omega)⟩, fun hg => hskip fun hc => by rw [hc.1] at hg; cases hg⟩
   have hc : gB xs s = true /\ ¬ s ||| 2 ^ v = s /\ canR (gB xs) s (s ||| 2 ^ v : Nat) = true := ⟨hg, fun h3 => hne (by rw [h3]), hcan⟩
   rw [if_pos hc] at hst
   refine ⟨⟨⟨hp.hl, hp.hc, hp.hn, hcan⟩, Int.natCast_nonneg _, Int.natCast_nonneg _⟩, fun hr => ?_, fun hr => ?_⟩
   · have hr : (rY n xs l (mI n xs l m (6 * s + v)) s (s ||| 2 ^ v)).1 = true := by simpa using hr
     rw [if_pos hr] at hst
     have hz := hend (by rw [hst]; exact hr)
     rw [hst] at hz
     rw [hz]
     exact ⟨⟨rfl, rfl⟩, rfl, rfl, rfl, rfl⟩
   · have hr : (rY n xs l (mI n xs l m (6 * s + v)) s (s ||| 2 ^ v)).1 = false := by simpa using hr
     rw [if_neg (by rw [hr]; simp)] at hst
     refine ⟨by simp only [inR]; omega, v + 1, ⟨⟨by omega, by rw [hst]⟩, by omega⟩, by omega, ?_⟩
     rw [hr]
     exact ⟨⟨rfl, rfl⟩, rfl, rfl, by show _ = (lpC xs (fl n) l m (6 * s + (v + 1))).2.2.2; rw [hst], rfl⟩
 · refine of_eq (q := (fun (A : Int) => (fun (x : Int) => (fun (q : Int) => (fun (p : Prop) => (fun (o : Bool) => (fun (j : Nat) => (fun (t : Prop) => (fun (i : MF) => (fun (g : RC) => (fun (f : Int) => (fun (z : Prop) => (fun (e : Prop) => (fun (u : Prop) => (fun (h : Prop) => (fun (B : Prop) => (fun (r : Prop) => (fun (d : Int) => (fun (c : Prop) => (fun (b : Prop) => (fun (a : RC) => (fun (w : Bool) => (fun (C : Fs) => (fun (k : Prop) => e /\ (x < 6 -> e /\ e /\ e /\ e /\ e /\ inR .u64 x /\ (((0 : Int) <= x /\ x < bitsOf .i64) /\ (-9223372036854775808 : Int) <= A /\ A <= 9223372036854775807) /\ e /\ e /\ e /\ e /\ e /\ e /\ (o = true -> e /\ e /\ e /\ e /\ e /\ e /\ e /\ (¬(f, d) = (f, f) -> e /\ e /\ ((List.length xs = 64 /\ (p /\ (z /\ d = d /\ e) /\ e) /\ e) /\ e) /\ e /\ e /\ (canR (gB xs) f d = true -> e /\ e /\ ((okY n (f, d, xs, l, i) /\ (e /\ (z /\ d = d /\ e) /\ e) /\ c /\ p /\ e /\ l = l /\ B /\ e /\ i = i /\ false = false /\ e) /\ e /\ e /\ e /\ B) /\ e /\ e /\ ((!!w) = true -> e /\ e /\ (C75 = C75 /\ sC g.fst = sC w /\ jC g.fst = jC w /\ h /\ e) /\ C = pC g.fst g.snd.fst xs /\ e /\ pC w a.snd.snd.fst l = pC g.fst g.snd.snd.fst l /\ B /\ e /\ a.snd.snd.snd = g.snd.snd.snd /\ w = g.fst /\ p /\ e) /\ ((!!w) = false -> inR .i64 q /\ e /\ ((∃ (y : Nat), (ii88 n xs l m s y /\ j - y < j - v) /\ (e /\ e /\ z /\ o = o /\ p /\ z /\ q = (y : Int) /\ e) /\ k /\ C = xs /\ False /\ False /\ B /\ e /\ a.snd.snd.snd = mI n xs l m (j * s + y) /\ w = false /\ p /\ e) ∨ ∃ (y : Nat), (ii88 n xs l m s y /\ j - y < j - v) /\ (e /\ e /\ z /\ o = o /\ p /\ z /\ q = (y : Int) /\ e) /\ k /\ C = xs /\ e /\ pC w a.snd.snd.fst l = l /\ B /\ e /\ a.snd.snd.snd = mI n xs l m (j * s + y) /\ w = false /\ p /\ e))) /\ (canR (gB xs) f d = false -> b)) /\ (¬¬(f, d) = (f, f) -> e /\ e /\ b)) /\ (o = false -> e /\ e /\ e /\ e /\ b)) /\ (¬x < 6 -> (∃ (y : Unit), t /\ (e /\ e /\ p /\ z /\ e) /\ c /\ p /\ False /\ False /\ r) ∨ ∃ (y : Unit), t /\ (e /\ e /\ p /\ z /\ e) /\ c /\ p /\ e /\ l = l /\ r)) (C75 = C75 /\ LoopState.ready = sC w /\ (none : Option Code) = jC w /\ h /\ e)) (pC w a.snd.fst xs)) (a.fst)) (rY n xs l i s d.toNat)) (e /\ inR .i64 q /\ e /\ ((∃ (y : Nat), (ii88 n xs l m s y /\ j - y < j - v) /\ (e /\ e /\ z /\ o = o /\ p /\ z /\ q = (y : Int) /\ e) /\ c /\ p /\ False /\ False /\ B /\ e /\ i = mI n xs l m (j * s + y) /\ u) ∨ ∃ (y : Nat), (ii88 n xs l m s y /\ j - y < j - v) /\ (e /\ e /\ z /\ o = o /\ p /\ z /\ q = (y : Int) /\ e) /\ c /\ p /\ e /\ l = l /\ B /\ e /\ i = mI n xs l m (j * s + y) /\ u))) (C75 = C75 /\ LoopState.ready = LoopState.ready /\ (none : Option Code) = none /\ h /\ e)) (bOr .i64 f A)) (B /\ e /\ i = mI n xs l m (j * (s + 1)) /\ u)) (e /\ h)) (e /\ e /\ e /\ e /\ e)) (false = false /\ p /\ e)) (True)) (f = f)) ((s : Int))) (lpC xs (fl n) l m nC)) (mI n xs l m (j * s + v))) ((lpC xs (fl n) l m (j * (s + 1))).fst = false)) ((6 : Nat))) (gB xs s)) (xs = xs)) (x + 1)) ((v : Int))) ((1 : Int) * 2 ^ v)) (by kernel_rfl) ?_
   simp only [zz]
   obtain ⟨v1, v2⟩ := hv
   refine ⟨fun hv6 => ?_, fun hv6 => by rw [show v = 6 by omega] at v2 |-; exact ⟨v2, rfl⟩⟩
   have hv6 : v < 6 := by omega
   have hb := or_pow hs hv6
   have hst := lp_step hv6 v2
   have hend := lp_end (n := n) (xs := xs) (l := l) (m := m) hs hv6
   have h2 : 2 ^ v < 64 := Nat.pow_lt_pow_right (a := 2) (by decide) hv6
   have e : (2 ^ v : Int) = ((2 ^ v : Nat) : Int) := by rw [Int.natCast_pow]; try rfl
   have eb : ∀ P : Nat, P < 64 -> -9223372036854775808 <= 1 * (P : Int) /\ 1 * (P : Int) <= 9223372036854775807 := fun P h => by omega
   have hsh : (0 <= (v : Int) /\ (v : Int) < bitsOf .i64) /\ -9223372036854775808 <= 1 * (2 ^ v : Int) /\ 1 * (2 ^ v : Int) <= 9223372036854775807 := ⟨⟨by omega, by simp only [bitsOf]; omega⟩, by rw [e]; exact eb _ h2⟩
   simp only [hb.1, Int.toNat_natCast]
   have hskip : ¬ (gB xs s = true /\ ¬ s ||| 2 ^ v = s /\ canR (gB xs) s (s ||| 2 ^ v : Nat) = true) -> inR .i64 ((v : Int) + 1) /\ ∃ y : Nat, (ii88 n xs l m s y /\ 6 - y < 6 - v) /\ (v : Int) + 1 = (y : Int) /\ mI n xs l m (6 * s + v) = mI n xs l m (6 * s + y) := fun hc => by
     rw [if_neg hc] at hst
     exact ⟨by simp only [inR]; omega, v + 1, ⟨⟨by omega, by rw [hst]; exact v2⟩, by omega⟩, by omega, by unfold mI; rw [hst]⟩
   refine ⟨by simp only [inR]; omega, hsh, fun hg => ⟨fun hne => ⟨hp.hl, fun hcan => ?_, fun hcan => hskip fun hc => by rw [hc.2.2] at hcan; cases hcan⟩, fun he => hskip fun hc => he fun h3 => hc.2.1 (by injection h3 with _ h3; omega)⟩, fun hg => hskip fun hc => by rw [hc.1] at hg; cases hg⟩
   have hc : gB xs s = true /\ ¬ s ||| 2 ^ v = s /\ canR (gB xs) s (s ||| 2 ^ v : Nat) = true := ⟨hg, fun h3 => hne (by rw [h3]), hcan⟩
   rw [if_pos hc] at hst
   refine ⟨⟨⟨hp.hl, hp.hc, hp.hn, hcan⟩, Int.natCast_nonneg _, Int.natCast_nonneg _⟩, fun hr => ?_, fun hr => ?_⟩
   · have hr : (rY n xs l (mI n xs l m (6 * s + v)) s (s ||| 2 ^ v)).1 = true := by simpa using hr
     rw [if_pos hr] at hst
     have hz := hend (by rw [hst]; exact hr)
     rw [hst] at hz
     rw [hz]
     exact ⟨⟨rfl, rfl⟩, rfl, rfl, rfl, rfl⟩
   · have hr : (rY n xs l (mI n xs l m (6 * s + v)) s (s ||| 2 ^ v)).1 = false := by simpa using hr
     rw [if_neg (by rw [hr]; simp)] at hst
     refine ⟨by simp only [inR]; omega, v + 1, ⟨⟨by omega, by rw [hst]⟩, by omega⟩, by omega, ?_⟩
     rw [hr]
     exact ⟨⟨rfl, rfl⟩, rfl, rfl, by show _ = (lpC xs (fl n) l m (6 * s + (v + 1))).2.2.2; rw [hst], rfl⟩
theorem loop88o (n : Nat) (h : YC n) (xs : Fs) (l : LP) (m : MF) (hp : pre88 n xs l) : LoopOK (X88 n h) L88_0 (ho88 n xs l m) (R88 n h xs l m) := by
 refine loop_fams (Xyb_ok _ _ _ _ _ _) [0, 1, 7, 8] (fo88 n xs l m) (xo88 n xs l m) 150 ⟨fun (s : Nat) hs => ?_, fun (s : Nat) hs => ?_, trivial⟩
 · have hL := fun hh => loop88i n h xs l m s hp hh
   refine of_eq (q := (fun (u : Nat) => (fun (p : Nat) => (fun (t : Nat) => (fun (o : Prop) => (fun (k : Prop) => (fun (j : Prop) => (fun (i : MF) => (fun (g : Prop) => (fun (f : Int) => (fun (r : Int) => (fun (e : Prop) => (fun (d : Prop) => (fun (q : Prop) => (fun (a : Prop) => (fun (c : Prop) => (fun (b : Prop) => g /\ (f < 64 -> g /\ idxPre f u /\ g /\ g /\ g /\ LoopOK (X88 n h) L88_2 (hi88 n xs l m s) (bodyR (9 : Nat) (xo88 n xs l m) (R88 n h xs l m)) /\ ((∃ (y : Nat), ii88 n xs l m s y /\ (g /\ g /\ f = f /\ List.getD xs s false = gB xs s /\ k /\ f = f /\ (0 : Int) = (y : Int) /\ g) /\ a /\ k /\ g /\ l = l /\ d /\ g /\ i = mI n xs l m (p * s + y) /\ e) ∨ ∃ (y : Nat), ii88 n xs l m s y /\ (g /\ g /\ f = f /\ List.getD xs s false = gB xs s /\ k /\ f = f /\ (0 : Int) = (y : Int) /\ g) /\ a /\ k /\ False /\ False /\ d /\ g /\ i = mI n xs l m (p * s + y) /\ e) /\ (∀ (y : Unit), j -> inR .i64 r /\ g /\ (c ∨ b)) /\ (∀ (y : Unit), j -> inR .i64 r /\ g /\ (b ∨ c)) /\ g) /\ (¬f < 64 -> (∃ (y : Unit), o /\ g /\ a /\ k /\ g /\ l = l /\ q) ∨ ∃ (y : Unit), o /\ g /\ a /\ k /\ False /\ False /\ q)) (∃ (y : Nat), (io88 n xs l m y /\ u - y < u - s) /\ (g /\ g /\ k /\ r = (y : Int) /\ g) /\ a /\ k /\ False /\ False /\ d /\ g /\ mI n xs l m t = mI n xs l m (p * y) /\ e)) (∃ (y : Nat), (io88 n xs l m y /\ u - y < u - s) /\ (g /\ g /\ k /\ r = (y : Int) /\ g) /\ a /\ k /\ g /\ l = l /\ d /\ g /\ mI n xs l m t = mI n xs l m (p * y) /\ e)) (C75 = C75 /\ LoopState.ready = LoopState.ready /\ (none : Option Code) = none /\ (g /\ g /\ g /\ g /\ g) /\ g)) (d /\ g /\ i = mI n xs l m nC /\ e)) (g /\ g /\ g /\ g /\ g /\ g)) (false = false /\ k /\ g)) (f + 1)) ((s : Int))) (True)) (mI n xs l m (p * s))) ((lpC xs (fl n) l m t).fst = false)) (xs = xs)) ((lpC xs (fl n) l m nC).fst = false)) (p * (s + 1))) ((6 : Nat))) ((64 : Nat))) (by kernel_rfl) ?_
   simp only [zz]
   obtain ⟨s1, s2⟩ := hs
   have hn : ∀ _ : PUnit, (lpC xs (fl n) l m (6 * (s + 1))).1 = false -> s < 64 -> inR .i64 ((s : Int) + 1) /\ ∃ y : Nat, (io88 n xs l m y /\ 64 - y < 64 - s) /\ (s : Int) + 1 = (y : Int) /\ mI n xs l m (6 * (s + 1)) = mI n xs l m (6 * y) := fun _ h1 h2 => ⟨by simp only [inR]; omega, s + 1, ⟨⟨by omega, h1⟩, by omega⟩, by omega, rfl⟩
   refine ⟨fun h => ⟨by unfold idxPre; omega, hL (by omega), ⟨0, ⟨by omega, s2⟩, ⟨rfl, rfl⟩, rfl⟩, fun u h1 => hn u h1 (by omega), fun u h1 => hn u h1 (by omega)⟩, fun h => ?_⟩
   have e : s = 64 := by omega
   subst e
   exact ⟨s2, rfl⟩
 · have hL := fun hh => loop88i n h xs l m s hp hh
   refine of_eq (q := (fun (u : Nat) => (fun (p : Nat) => (fun (t : Nat) => (fun (o : Prop) => (fun (k : Prop) => (fun (j : Prop) => (fun (i : MF) => (fun (g : Prop) => (fun (f : Int) => (fun (r : Int) => (fun (e : Prop) => (fun (d : Prop) => (fun (q : Prop) => (fun (a : Prop) => (fun (c : Prop) => (fun (b : Prop) => g /\ (f < 64 -> g /\ idxPre f u /\ g /\ g /\ g /\ LoopOK (X88 n h) L88_2 (hi88 n xs l m s) (bodyR (9 : Nat) (xo88 n xs l m) (R88 n h xs l m)) /\ ((∃ (y : Nat), ii88 n xs l m s y /\ (g /\ g /\ f = f /\ List.getD xs s false = gB xs s /\ k /\ f = f /\ (0 : Int) = (y : Int) /\ g) /\ a /\ k /\ False /\ False /\ d /\ g /\ i = mI n xs l m (p * s + y) /\ e) ∨ ∃ (y : Nat), ii88 n xs l m s y /\ (g /\ g /\ f = f /\ List.getD xs s false = gB xs s /\ k /\ f = f /\ (0 : Int) = (y : Int) /\ g) /\ a /\ k /\ g /\ l = l /\ d /\ g /\ i = mI n xs l m (p * s + y) /\ e) /\ (∀ (y : Unit), j -> inR .i64 r /\ g /\ (c ∨ b)) /\ (∀ (y : Unit), j -> inR .i64 r /\ g /\ (b ∨ c)) /\ g) /\ (¬f < 64 -> (∃ (y : Unit), o /\ g /\ a /\ k /\ False /\ False /\ q) ∨ ∃ (y : Unit), o /\ g /\ a /\ k /\ g /\ l = l /\ q)) (∃ (y : Nat), (io88 n xs l m y /\ u - y < u - s) /\ (g /\ g /\ k /\ r = (y : Int) /\ g) /\ a /\ k /\ False /\ False /\ d /\ g /\ mI n xs l m t = mI n xs l m (p * y) /\ e)) (∃ (y : Nat), (io88 n xs l m y /\ u - y < u - s) /\ (g /\ g /\ k /\ r = (y : Int) /\ g) /\ a /\ k /\ g /\ l = l /\ d /\ g /\ mI n xs l m t = mI n xs l m (p * y) /\ e)) (C75 = C75 /\ LoopState.ready = LoopState.ready /\ (none : Option Code) = none /\ (g /\ g /\ g /\ g /\ g) /\ g)) (d /\ g /\ i = mI n xs l m nC /\ e)) (g /\ g /\ g /\ g /\ g /\ g)) (false = false /\ k /\ g)) (f + 1)) ((s : Int))) (True)) (mI n xs l m (p * s))) ((lpC xs (fl n) l m t).fst = false)) (xs = xs)) ((lpC xs (fl n) l m nC).fst = false)) (p * (s + 1))) ((6 : Nat))) ((64 : Nat))) (by kernel_rfl) ?_
   simp only [zz]
   obtain ⟨s1, s2⟩ := hs
   have hn : ∀ _ : PUnit, (lpC xs (fl n) l m (6 * (s + 1))).1 = false -> s < 64 -> inR .i64 ((s : Int) + 1) /\ ∃ y : Nat, (io88 n xs l m y /\ 64 - y < 64 - s) /\ (s : Int) + 1 = (y : Int) /\ mI n xs l m (6 * (s + 1)) = mI n xs l m (6 * y) := fun _ h1 h2 => ⟨by simp only [inR]; omega, s + 1, ⟨⟨by omega, h1⟩, by omega⟩, by omega, rfl⟩
   refine ⟨fun h => ⟨by unfold idxPre; omega, hL (by omega), ⟨0, ⟨by omega, s2⟩, ⟨rfl, rfl⟩, rfl⟩, fun u h1 => hn u h1 (by omega), fun u h1 => hn u h1 (by omega)⟩, fun h => ?_⟩
   have e : s = 64 := by omega
   subst e
   exact ⟨s2, rfl⟩
theorem call88 (n : Nat) (h : YC n) (xs : Fs) (l : LP) (m : MF) (hp : pre88 n xs l) : GCall Try.prog gl 88 false [.yld 0, .ptr 8 0 []] (ob88 0 xs l m) [] (obZ xs l (lpC xs (fl n) l m nC)) := by
 have hL := loop88o n h xs l m hp
 refine gcall_of (X := (X88 n h)) ((Xyb_ok _ _ _ _ _ _)) (f := 88) (fn := Try.f88) (c := bodyOf Try.f88) (by kernel_rfl) (by kernel_rfl) (view := false) (rvs := []) (by kernel_rfl) (H := (fun _ => some (ho88 n xs l m))) 150 (by kernel_rfl) ?_
 refine of_eq (q := (fun (f : Prop) => (fun (e : Prop) => (fun (g : Prop) => (fun (c : Prop) => (fun (d : Prop) => (fun (b : RC) => (fun (a : Prop) => e /\ e /\ LoopOK (X88 n h) L88_0 (ho88 n xs l m) (R88 n h xs l m) /\ ((∃ (y : Nat), io88 n xs l m y /\ (e /\ e /\ f /\ (0 : Int) = (y : Int) /\ e) /\ d /\ f /\ e /\ l = l /\ (e /\ c) /\ e /\ m = mI n xs l m ((6 : Nat) * y) /\ g) ∨ ∃ (y : Nat), io88 n xs l m y /\ (e /\ e /\ f /\ (0 : Int) = (y : Int) /\ e) /\ d /\ f /\ False /\ False /\ (e /\ c) /\ e /\ m = mI n xs l m ((6 : Nat) * y) /\ g) /\ a /\ a /\ e) (∀ (y : Unit), b.fst = false -> e /\ e /\ (C75 = C75 /\ sC b.fst = LoopState.ready /\ jC b.fst = none /\ c /\ e) /\ xs = pC b.fst b.snd.fst xs /\ e /\ l = pC b.fst b.snd.snd.fst l /\ (e /\ c) /\ e /\ mI n xs l m nC = b.snd.snd.snd /\ false = b.fst /\ f /\ e)) (lpC xs (fl n) l m nC)) (C75 = C75 /\ LoopState.ready = LoopState.ready /\ (none : Option Code) = none /\ c /\ e)) (e /\ e /\ e /\ e /\ e)) (false = false /\ f /\ e)) (True)) (xs = xs)) (by kernel_rfl) ?_
 simp only [zz]
 have hz : (lpC xs (fl n) l m nC).1 = false -> (sC (lpC xs (fl n) l m nC).1 = .ready /\ jC (lpC xs (fl n) l m nC).1 = none) /\ xs = pC (lpC xs (fl n) l m nC).1 (lpC xs (fl n) l m nC).2.1 xs /\ l = pC (lpC xs (fl n) l m nC).1 (lpC xs (fl n) l m nC).2.2.1 l /\ mI n xs l m nC = (lpC xs (fl n) l m nC).2.2.2 /\ false = (lpC xs (fl n) l m nC).1 := fun h0 => by
   rw [h0]; exact ⟨⟨rfl, rfl⟩, rfl, rfl, rfl, rfl⟩
 exact ⟨hL, ⟨0, ⟨Nat.zero_le _, rfl⟩, rfl, rfl⟩, fun _ h0 => hz h0, fun _ h0 => hz h0⟩
def get88 (_ : List AV) (obs : List Ob) : Option G3 :=
 match unFa (obs.getD 1 .gone), unLP (obs.getD 3 .gone), unMF (obs.getD 6 .gone) with
 | some ys, some l, some m => some (ys, l, m)
 | _, _, _ => none
noncomputable def e88S (n : Nat) (h : YC n) : Entry Try.prog gl := entryW 88 ⟨Try.f88, by kernel_rfl, by kernel_rfl, by kernel_rfl⟩ true get88 (fun x => pre88 n x.1 x.2.1) false (fun _ => [.yld 0, .ptr 8 0 []]) (fun x => ob88 0 x.1 x.2.1 x.2.2) (fun _ => []) (fun x => obZ x.1 x.2.1 (lpC x.1 (fl n) x.2.1 x.2.2 nC)) (fun x hx => call88 n h _ _ x.2.2 hx)
theorem call76 (xs : List Bool) (_ : True) : GCall Try.prog gl 76 true [.ar .bool 64 xs] [] [.clo 88 [] [.ptr 0 0 []]] [.bx (.ar .bool 64 xs)] := by
 refine gcall_of (X := X []) (X_ok []) (f := 76) (fn := Try.f76) (c := bodyOf Try.f76) (by kernel_rfl) (by kernel_rfl) (view := false) (rvs := [.tmp 2]) (by kernel_rfl) (H := fun _ => none) 80 (by kernel_rfl) ?_
 refine of_eq (q := True /\ True /\ True /\ True /\ True /\ ((True /\ True /\ True) /\ True) /\ xs = xs /\ True) (by kernel_rfl) ?_
 simp only [zz]
def e76 : Entry Try.prog gl := entry1 76 ⟨Try.f76, by kernel_rfl, by kernel_rfl, by kernel_rfl⟩ FA (fun _ => True) true (fun _ => [.clo 88 [] [.ptr 0 0 []]]) (fun xs => [.bx (.ar .bool 64 xs)]) call76
end Go.Am.Sh

/- Shells: the search for collapses. -/
namespace Go.Am.Sh
open Go Go.Am Go.Proofs
theorem fl_unf (n : Nat) (xs : Fs) (l : LP) (m : MF) : ∃ K, K = nC /\ fl (n + 1) xs l m = if (trueN (gB xs) 64).length = 2 then (true, xs, l, m) else if mgF m xs = true then (false, xs, l, m) else
   if (lpC xs (fl n) l m K).1 = true then lpC xs (fl n) l m K else (false, xs, l, mpF (lpC xs (fl n) l m K).2.2.2 xs) := by
 unfold fl
 generalize nC = K
 exact ⟨K, rfl, by rw [flK]⟩
noncomputable abbrev X75 (n : Nat) (h : YC n) : Cy := Xyb [e66, e76, e88S n h] [] none 6 [4] (fun _ => none)
theorem gC_zero : GC 0 := fun _ _ _ hp => absurd hp.hc (by omega)
theorem gC_step (n : Nat) (h : GC n) : GC (n + 1) := by
 intro xs l m hp
 refine gcall_of (X := (X75 n (yC_of n h))) ((Xyb_ok _ _ _ _ _ _)) (f := 75) (fn := Try.f75) (c := bodyOf Try.f75) (by kernel_rfl) (by kernel_rfl) (view := false) (rvs := [.cell 4 4]) (by kernel_rfl) (H := fun _ => none) 200 (by kernel_rfl) ?_
 have hK : fl (n + 1) xs l m = if (trueN (gB xs) 64).length = 2 then (true, xs, l, m) else if mgF m xs = true then (false, xs, l, m) else
   if (lpC xs (fl n) l m nC).1 = true then lpC xs (fl n) l m nC else (false, xs, l, mpF (lpC xs (fl n) l m nC).2.2.2 xs) := by
   obtain ⟨K, rfl, h⟩ := fl_unf n xs l m
   exact h
 refine of_eq (q := True /\ True /\ (List.length xs = 64 /\ True) /\ True /\ True /\ ((↑(trueN (gB xs) (64 : Nat)).length : Int) = 2 -> True /\ (True /\ True) /\ (true = (fl (n + 1) xs l m).fst /\ True) /\ xs = (fl (n + 1) xs l m).snd.fst /\ True /\ m = (fl (n + 1) xs l m).snd.snd.snd /\ True /\ l = (fl (n + 1) xs l m).snd.snd.fst /\ (True /\ True /\ True /\ True /\ True /\ True) /\ True) /\ (¬(↑(trueN (gB xs) (64 : Nat)).length : Int) = 2 -> True /\ True /\ True /\ ((mGet FA m xs).getD false = true -> True /\ (True /\ True) /\ (false = (fl (n + 1) xs l m).fst /\ True) /\ xs = (fl (n + 1) xs l m).snd.fst /\ True /\ m = (fl (n + 1) xs l m).snd.snd.snd /\ True /\ l = (fl (n + 1) xs l m).snd.snd.fst /\ (True /\ True /\ True /\ True /\ True /\ True) /\ True) /\ ((mGet FA m xs).getD false = false -> True /\ (True /\ True) /\ (((pre88 n xs l /\ (True /\ True /\ True) /\ (C75 = C75 /\ LoopState.ready = LoopState.ready /\ (none : Option Code) = none /\ (True /\ True /\ True /\ True /\ True) /\ True) /\ xs = xs /\ True /\ l = l /\ (True /\ True /\ True /\ True /\ True /\ True) /\ True /\ m = m /\ false = false /\ xs = xs /\ True) /\ True /\ True /\ True /\ True /\ True /\ True /\ True /\ True /\ True /\ True) /\ ¬sC (lpC xs (fl n) l m nC).fst = LoopState.busy) /\ (jC (lpC xs (fl n) l m nC).fst = none -> True /\ True /\ True /\ True /\ (True /\ True) /\ (false = (fl (n + 1) xs l m).fst /\ True) /\ pC (lpC xs (fl n) l m nC).fst (lpC xs (fl n) l m nC).snd.fst xs = (fl (n + 1) xs l m).snd.fst /\ True /\ mPut FA (lpC xs (fl n) l m nC).snd.snd.snd (pC (lpC xs (fl n) l m nC).fst (lpC xs (fl n) l m nC).snd.fst xs) true = (fl (n + 1) xs l m).snd.snd.snd /\ True /\ pC (lpC xs (fl n) l m nC).fst (lpC xs (fl n) l m nC).snd.snd.fst l = (fl (n + 1) xs l m).snd.snd.fst /\ (True /\ True /\ True /\ True /\ True /\ True) /\ True) /\ (jC (lpC xs (fl n) l m nC).fst = some Code.ret ∨ jC (lpC xs (fl n) l m nC).fst = none) /\ (jC (lpC xs (fl n) l m nC).fst = some Code.ret -> (True /\ True) /\ ((lpC xs (fl n) l m nC).fst = (fl (n + 1) xs l m).fst /\ True) /\ pC (lpC xs (fl n) l m nC).fst (lpC xs (fl n) l m nC).snd.fst xs = (fl (n + 1) xs l m).snd.fst /\ True /\ (lpC xs (fl n) l m nC).snd.snd.snd = (fl (n + 1) xs l m).snd.snd.snd /\ True /\ pC (lpC xs (fl n) l m nC).fst (lpC xs (fl n) l m nC).snd.snd.fst l = (fl (n + 1) xs l m).snd.snd.fst /\ (True /\ True /\ True /\ True /\ True /\ True) /\ True) /\ True))) (by kernel_rfl) ?_
 generalize lpC xs (fl n) l m nC = r at hK |-
 generalize fl (n + 1) xs l m = q at hK |-
 simp only [zz]
 refine ⟨hp.hl, fun h2 => ?_, fun h2 => ⟨fun hm => ?_, fun hm => ?_⟩⟩
 · rw [if_pos (by omega)] at hK
   rw [hK]
   exact ⟨rfl, rfl, rfl, rfl⟩
 · rw [if_neg (by omega), if_pos (show mgF m xs = true from hm)] at hK
   rw [hK]
   exact ⟨rfl, rfl, rfl, rfl⟩
 · have hm' : ¬ mgF m xs = true := by unfold mgF; rw [hm]; simp
   rw [if_neg (by omega), if_neg hm'] at hK
   have hpre : pre88 n xs l := ⟨hp.hl, by have := hp.hc; omega, hp.hn⟩
   have hb : ∀ b : Bool, ¬ sC b = .busy := fun b => by cases b <;> (intro h; cases h)
   refine ⟨⟨hpre, hb _⟩, ?_⟩
   cases hr : r.1
   · rw [if_neg (by rw [hr]; simp)] at hK
     rw [hK]
     exact ⟨fun _ => ⟨rfl, rfl, rfl, rfl⟩, .inr rfl, (fun h => by cases h)⟩
   · rw [if_pos hr] at hK
     rw [hK]
     exact ⟨(fun h => by cases h), .inl rfl, fun _ => ⟨hr.symm, rfl, rfl, rfl⟩⟩
theorem gC_all : ∀ n : Nat, GC n
 | 0 => gC_zero
 | n + 1 => gC_step n (gC_all n)
end Go.Am.Sh

/- Shells: the search for collapses, from no list. -/
namespace Go.Am.Sh
open Go Go.Am Go.Proofs
noncomputable def yN (s : LoopState) (j : Option Code) (xs : Fs) (m : MF) (b : Bool) : List Ob := [.lp C75 s j (.clo 0 [.ptr 1 0 [], .ptr 2 0 [], .ptr 3 0 [], .ptr 6 0 []] []), .bx (.ar .bool 64 xs), .bx nl, .bx (clo75 1 4 2 3), .bx (.mp 5), mF m, .bx (.bool b)]
noncomputable def yO (o : Nat) (s : LoopState) (j : Option Code) (xs : Fs) (m : MF) (b : Bool) : List Ob := [.lp C75 s j (.clo 0 [.ptr 1 0 [], .ptr 2 0 [], .ptr 3 0 [], .ptr 6 0 []] []), .bx (.ar .bool 64 xs), .bx (.own o 0), .bx (clo75 1 4 2 3), .bx (.mp 5), mF m, .bx (.bool b)]
noncomputable def yOs (s : LoopState) (j : Option Code) (xs : Fs) (l : LP) (m : MF) (b : Bool) : List Ob := yO 7 s j xs m b ++ [.sc 0 62 P2 l]
def YNo (n : Nat) : Prop := ∀ (xs : Fs) (m : MF) (a b : Nat), preY n xs [] a b -> GYield Try.prog gl false [.yld 0, pr a b] (yN .ready none xs m false) [.bool (!(rY n xs [] m a b).1)]
 (yOs (sC (rY n xs [] m a b).1) (jC (rY n xs [] m a b).1) (pC (rY n xs [] m a b).1 (rY n xs [] m a b).2.1 xs) (pC (rY n xs [] m a b).1 (rY n xs [] m a b).2.2.1 []) (rY n xs [] m a b).2.2.2 (rY n xs [] m a b).1)
noncomputable abbrev XyN (n : Nat) (h : GC n) : Cy := Xyb [e75S n h] [] (some 0) 7 [] (drOf [(8, 1000000)])
theorem yN_of (n : Nat) (h : GC n) : YNo n := by
 intro xs m a b hp
 refine gyield_of (X := XyN n h) (Xyb_ok _ _ _ _ _ _) (C := C75) (j := none) (vs := [.ptr 1 0 [], .ptr 2 0 [], .ptr 3 0 [], .ptr 6 0 []]) (xs := [pr a b]) (view := false) (by kernel_rfl) (by kernel_rfl) (by kernel_rfl) (H := fun _ => none) 120 120 ?_
 refine of_eq (q := (fun (o : Int) => (fun (l : Int) => (fun (h : List Bool) => (fun (g : Prop) => (fun (f : RC) => (fun (q : Bool) => (fun (e : Prop) => (fun (r : Prop) => (fun (i : Prop) => (fun (v : Prop) => (fun (d : RC) => (fun (u : Prop) => (fun (k : Int) => (fun (s : Int) => (fun (c : Prop) => (fun (t : Prop) => (fun (p : Prop) => (fun (j : Prop) => e /\ e /\ e /\ e /\ e /\ ((e /\ (e /\ j /\ (g /\ (e /\ (e /\ c) /\ t) /\ (e /\ t) /\ e) /\ e) /\ (e /\ j /\ p) /\ e) /\ (e /\ (e /\ j /\ p) /\ (e /\ p) /\ e) /\ e) /\ e /\ e /\ e /\ e /\ e /\ e /\ e /\ sumPre (0 : Nat) [(o, l)].length (nat_lit 16) /\ e /\ e /\ ((pre75 n h [(o, l)] /\ i /\ h = h /\ e /\ m = m /\ e /\ [(o, l)] = [(o, l)] /\ v /\ e) /\ e /\ v) /\ (d.fst = true -> e /\ (false = !q /\ e) /\ (C75 = C75 /\ sC q = LoopState.done /\ jC q = some Code.ret /\ i /\ e) /\ d.snd.fst = pC q f.snd.fst xs /\ e /\ v /\ e /\ u /\ true = q /\ d.snd.snd.fst = pC q f.snd.snd.fst [] /\ e) /\ (d.fst = false -> e /\ e /\ e /\ e /\ e /\ inR .i64 s /\ ((0 : Int) <= s /\ s <= k) /\ e /\ (true = !q /\ e) /\ (C75 = C75 /\ sC q = LoopState.ready /\ jC q = none /\ i /\ e) /\ xs = pC q f.snd.fst xs /\ e /\ v /\ e /\ u /\ false = q /\ List.take s.toNat d.snd.snd.fst = pC q f.snd.snd.fst [] /\ e)) (e /\ (e /\ (g /\ c) /\ e) /\ (g /\ (e /\ c) /\ t) /\ e)) ((e /\ (e /\ (g /\ c) /\ e) /\ e) /\ e)) ((e /\ c) /\ e)) ((e /\ (idxPre l (64 : Nat) /\ (e /\ (e /\ e /\ e /\ e /\ e /\ e /\ r /\ xs = xs /\ r) /\ (C75 = C75 /\ LoopState.busy = LoopState.busy /\ (none : Option Code) = none /\ i /\ e) /\ h = h /\ e /\ v /\ e /\ m = m /\ false = false /\ r /\ xs = xs /\ e) /\ e) /\ e) /\ e)) (k - 1)) ((↑(List.length d.snd.snd.fst) : Int))) (d.snd.snd.snd = f.snd.snd.snd)) (fl n h [(o, l)] m)) (e /\ i)) (e /\ e /\ e /\ e /\ e)) (o = o /\ l = l /\ e)) (True)) (f.fst)) (rY n xs [] m a b)) (idxPre o (64 : Nat))) ((List.set xs a false).set b false)) ((b : Int))) ((a : Int))) (by kernel_rfl) ?_
 simp only [zz]
 obtain ⟨hc, hab, hln⟩ := tk_cN hp.hl hp.hk
 have hn := hp.hn
 have hc2 := hp.hc
 have ha : idxPre (a : Int) 64 := by unfold idxPre; omega
 have hb : idxPre (b : Int) 64 := by unfold idxPre; omega
 have hpre : pre75 n (tk xs a b) ([] ++ [prI a b]) := ⟨hln, by omega, by simp at hn |-; omega⟩
 have hlist := fun h0 => fl_list (n := n) (xs := tk xs a b) (l := [] ++ [prI a b]) (m := m) h0
 simp only [ha, hb, and_self, true_and]
 have key : ∀ r : RC, (r.1 = false -> r.2.2.1 = [] ++ [prI a b]) -> (r.1 = true -> false = !r.1 /\ (sC r.1 = .done /\ jC r.1 = some .ret) /\ r.2.1 = pC r.1 r.2.1 xs /\ r.2.2.2 = r.2.2.2 /\ true = r.1 /\ r.2.2.1 = pC r.1 r.2.2.1 []) /\
     (r.1 = false -> inR .i64 ((r.2.2.1.length : Int) - 1) /\ (0 <= (r.2.2.1.length : Int) - 1 /\ (r.2.2.1.length : Int) - 1 <= (r.2.2.1.length : Int)) /\ true = !r.1 /\ (sC r.1 = .ready /\ jC r.1 = none) /\ xs = pC r.1 r.2.1 xs /\ r.2.2.2 = r.2.2.2 /\ false = r.1 /\ r.2.2.1.take ((r.2.2.1.length : Int) - 1).toNat = pC r.1 r.2.2.1 []) := fun r hr => by
   constructor
   · intro h0
     rw [h0]; simp [sC, jC, pC]
   · intro h0
     rw [h0, hr h0]
     refine ⟨by simp only [inR]; simp, by simp, ?_⟩
     simp [sC, jC, pC]
 exact ⟨by unfold sumPre; simp, hpre, key _ fun h0 => (hlist h0).2⟩
def getYN (xs : List AV) (obs : List Ob) : Option (Int × Int × Fs × MF) :=
 match xs with
 | [_, .agg [.int .i64 a, .int .i64 b]] => (match unFa (obs.getD 1 .gone), isNl (obs.getD 2 .gone), unMF (obs.getD 5 .gone) with
   | some ys, true, some m => some (a, b, ys, m)
   | _, _, _ => none)
 | _ => none
structure okYN (n : Nat) (x : Int × Int × Fs × MF) : Prop where
 h : preY n x.2.2.1 [] x.1.toNat x.2.1.toNat
 a : 0 <= x.1
 b : 0 <= x.2.1
noncomputable def EYN (n : Nat) (h : YNo n) : YEntry Try.prog gl := yentryW getYN (okYN n) false (fun x => [.yld 0, pr x.1 x.2.1]) (fun x => yN .ready none x.2.2.1 x.2.2.2 false)
 (fun x => [.bool (!(rY n x.2.2.1 [] x.2.2.2 x.1.toNat x.2.1.toNat).1)])
 (fun x => yOs (sC (rY n x.2.2.1 [] x.2.2.2 x.1.toNat x.2.1.toNat).1) (jC (rY n x.2.2.1 [] x.2.2.2 x.1.toNat x.2.1.toNat).1) (pC (rY n x.2.2.1 [] x.2.2.2 x.1.toNat x.2.1.toNat).1 (rY n x.2.2.1 [] x.2.2.2 x.1.toNat x.2.1.toNat).2.1 x.2.2.1)
   (pC (rY n x.2.2.1 [] x.2.2.2 x.1.toNat x.2.1.toNat).1 (rY n x.2.2.1 [] x.2.2.2 x.1.toNat x.2.1.toNat).2.2.1 []) (rY n x.2.2.1 [] x.2.2.2 x.1.toNat x.2.1.toNat).2.2.2 (rY n x.2.2.1 [] x.2.2.2 x.1.toNat x.2.1.toNat).1) (by
   rintro ⟨a, b, xs, m⟩ ⟨h1, h2, h3⟩
   have := h xs m a.toNat b.toNat h1
   simp only at h2 h3
   rw [Int.toNat_of_nonneg h2, Int.toNat_of_nonneg h3] at this
   exact this)
noncomputable abbrev X88N (n : Nat) (h : YC n) (h' : YNo n) : Cy := Xyb [e79] [EYN n h', EYC n h] none 8 [] (fun _ => none)
noncomputable def kbN (xs : Fs) (m : MF) : List Ob := yN .ready none xs m false ++ [.bx (.ar .bool 64 xs)]
noncomputable def kbO (s : LoopState) (j : Option Code) (xs0 xs : Fs) (l : LP) (m : MF) (b : Bool) : List Ob := yO 8 s j xs m b ++ [.bx (.ar .bool 64 xs0), .sc 0 62 P2 l]
def noC (xs : Fs) (k : Nat) : Prop := ∀ i, i < k -> cnd xs i = false
def soC (xs : Fs) (k : Nat) : Prop := ∃ i, i < k /\ cnd xs i = true
theorem lpC_no {xs : Fs} {f : Fs -> LP -> MF -> RC} {l : LP} {m : MF} : ∀ {k : Nat}, noC xs k -> lpC xs f l m k = (false, xs, l, m)
 | 0, _ => rfl
 | k + 1, h => by rw [lpC, if_pos (.inr (h k (Nat.lt_succ_self k))), lpC_no fun i hi => h i (by omega)]
noncomputable def siN (xs : Fs) (m : MF) (s v : Nat) : St := ⟨.yld 0 :: .ptr 7 0 [] :: .dead :: .int .i64 s :: .bool (gB xs s) :: dd 2 ++ .ar .bool 64 xs :: .int .i64 s :: dd 3 ++ .int .i64 v :: dd 30, kbN xs m⟩
noncomputable def siO (n : Nat) (xs : Fs) (m : MF) (s v : Nat) : St := ⟨.yld 0 :: .ptr 7 0 [] :: .dead :: .int .i64 s :: .bool (gB xs s) :: dd 2 ++ .ar .bool 64 xs :: .int .i64 s :: dd 3 ++ .int .i64 v :: dd 30, kbO .ready none xs xs [] (mI n xs [] m (6 * s + v)) false⟩
noncomputable def soN (xs : Fs) (m : MF) (s : Nat) : St := ⟨.yld 0 :: .ptr 7 0 [] :: dd 5 ++ .ar .bool 64 xs :: .int .i64 s :: dd 34, kbN xs m⟩
noncomputable def soO (n : Nat) (xs : Fs) (m : MF) (s : Nat) : St := ⟨.yld 0 :: .ptr 7 0 [] :: dd 5 ++ .ar .bool 64 xs :: .int .i64 s :: dd 34, kbO .ready none xs xs [] (mI n xs [] m (6 * s)) false⟩
def iiN (xs : Fs) (s v : Nat) : Prop := v <= 6 /\ noC xs (6 * s + v)
def iiO (n : Nat) (xs : Fs) (m : MF) (s v : Nat) : Prop := v <= 6 /\ (lpC xs (fl n) [] m (6 * s + v)).1 = false /\ soC xs (6 * s + v)
def ioN (xs : Fs) (s : Nat) : Prop := s <= 64 /\ noC xs (6 * s)
def ioO (n : Nat) (xs : Fs) (m : MF) (s : Nat) : Prop := s <= 64 /\ (lpC xs (fl n) [] m (6 * s)).1 = false /\ soC xs (6 * s)
noncomputable def fiN (n : Nat) (xs : Fs) (m : MF) (s : Nat) : List Fam := [⟨Nat, iiN xs s, siN xs m s, fun v => 6 - v, fun _ => nH⟩, ⟨Nat, iiO n xs m s, siO n xs m s, fun v => 6 - v, fun _ => nH⟩]
noncomputable def xiN (n : Nat) (xs : Fs) (m : MF) (s : Nat) : List (List Nat × Ex) := [([0, 1, 7, 8], ⟨2, Unit, fun _ => noC xs (6 * (s + 1)), fun _ => soN xs m s⟩), ([0, 1, 7, 8], ⟨2, Unit, fun _ => (lpC xs (fl n) [] m (6 * (s + 1))).1 = false /\ soC xs (6 * (s + 1)), fun _ => ⟨.yld 0 :: .ptr 7 0 [] :: dd 5 ++ .ar .bool 64 xs :: .int .i64 s :: dd 34, kbO .ready none xs xs [] (mI n xs [] m (6 * (s + 1))) false⟩⟩)]
noncomputable def hiN (n : Nat) (xs : Fs) (m : MF) (s : Nat) : Hint := ⟨chks 8 [0, 1, 3, 4, 7, 8, 12] (fiN n xs m s), (xiN n xs m s).map (·.2)⟩
noncomputable def foN (n : Nat) (xs : Fs) (m : MF) : List Fam := [⟨Nat, ioN xs, soN xs m, fun s => 64 - s, fun s _ => some (hiN n xs m s)⟩, ⟨Nat, ioO n xs m, soO n xs m, fun s => 64 - s, fun s _ => some (hiN n xs m s)⟩]
noncomputable def xoN (n : Nat) (xs : Fs) (m : MF) : List (List Nat × Ex) := [([], ⟨0, Unit, fun _ => noC xs nC, fun _ => ⟨dd 43, kbN xs m⟩⟩), ([], ⟨0, Unit, fun _ => (lpC xs (fl n) [] m nC).1 = false /\ soC xs nC, fun _ => ⟨dd 43, kbO .ready none xs xs [] (mI n xs [] m nC) false⟩⟩)]
noncomputable def hoN (n : Nat) (xs : Fs) (m : MF) : Hint := ⟨chks 8 [0, 1, 7, 8] (foN n xs m), (xoN n xs m).map (·.2)⟩
noncomputable def kbW (xs : Fs) (r : RC) : List Ob := kbO (sC r.1) (jC r.1) xs (pC r.1 r.2.1 xs) (pC r.1 r.2.2.1 []) r.2.2.2 r.1
noncomputable def R88N (n : Nat) (h : YC n) (h' : YNo n) (xs : Fs) (m : MF) : Exit -> St -> Prop := fun e st => soC xs nC /\ RetR (X88N n h h') false false [] [] (kbW xs (lpC xs (fl n) [] m nC)) e st
theorem cnd_iff {xs : Fs} {s v : Nat} (hv : v < 6) : cnd xs (6 * s + v) = true ↔ gB xs s = true /\ ¬ s ||| 2 ^ v = s /\ canR (gB xs) s (s ||| 2 ^ v : Nat) = true := by
 have e1 : pA (6 * s + v) = s := by unfold pA; omega
 have e2 : pB (6 * s + v) = s ||| 2 ^ v := by unfold pB; rw [show (6 * s + v) / 6 = s by omega, show (6 * s + v) % 6 = v by omega]
 unfold cnd
 rw [e1, e2, Bool.and_eq_true, Bool.and_eq_true, Bool.not_eq_true', decide_eq_false_iff_not, and_assoc]
theorem noC_next {xs : Fs} {k : Nat} (h : noC xs k) (hc : ¬ cnd xs k = true) : noC xs (k + 1) := fun i hi => by
 by_cases e : i = k
 · rw [e]; cases hq : cnd xs k; rfl; exact absurd hq hc
 · exact h i (by omega)
theorem loop88iN (n : Nat) (h : YC n) (h' : YNo n) (xs : Fs) (m : MF) (s : Nat) (hp : pre88 n xs []) (hs : s < 64) : LoopOK (X88N n h h') L88_2 (hiN n xs m s) (bodyR 8 (xoN n xs m) (R88N n h h' xs m)) := by
 have hfin : ∀ v, v < 6 -> cnd xs (6 * s + v) = true -> soC xs nC := fun v h1 h2 => ⟨_, show 6 * s + v < 384 by omega, h2⟩
 refine loop_fams (Xyb_ok _ _ _ _ _ _) [0, 1, 3, 4, 7, 8, 12] (fiN n xs m s) (xiN n xs m s) 150 ⟨fun (v : Nat) hv => ?_, fun (v : Nat) hv => ?_, trivial⟩
 · refine of_eq (q := (fun (x : Int) => (fun (t : Int) => (fun (p : Prop) => (fun (o : Nat) => (fun (u : Nat) => (fun (l : Int) => (fun (k : Bool) => (fun (j : Prop) => (fun (g : RC) => (fun (f : Int) => (fun (w : Prop) => (fun (e : Prop) => (fun (h : Prop) => (fun (z : Prop) => (fun (d : Int) => (fun (c : Prop) => (fun (r : Prop) => (fun (b : RC) => (fun (q : Bool) => (fun (A : Fs) => (fun (i : Prop) => (fun (a : Prop) => e /\ (t < 6 -> e /\ e /\ e /\ e /\ e /\ inR .u64 t /\ (((0 : Int) <= t /\ t < bitsOf .i64) /\ (-9223372036854775808 : Int) <= x /\ x <= 9223372036854775807) /\ e /\ e /\ e /\ e /\ e /\ e /\ (k = true -> e /\ e /\ e /\ e /\ e /\ e /\ e /\ (¬(f, d) = (f, f) -> e /\ e /\ ((List.length xs = 64 /\ (j /\ (w /\ d = d /\ e) /\ e) /\ e) /\ e) /\ e /\ e /\ (canR (gB xs) f d = true -> e /\ e /\ ((okYN n (f, d, xs, m) /\ (e /\ (w /\ d = d /\ e) /\ e) /\ c /\ j /\ e /\ z /\ e /\ m = m /\ p /\ e) /\ e /\ e /\ z) /\ e /\ e /\ ((!!q) = true -> soC xs nC /\ e /\ e /\ (C75 = C75 /\ sC g.fst = sC q /\ jC g.fst = jC q /\ h /\ e) /\ A = pC g.fst g.snd.fst xs /\ e /\ z /\ e /\ b.snd.snd.snd = g.snd.snd.snd /\ q = g.fst /\ j /\ pC q b.snd.snd.fst [] = pC g.fst g.snd.snd.fst [] /\ e) /\ ((!!q) = false -> inR .i64 l /\ e /\ ((∃ (y : Nat), (iiN xs s y /\ o - y < o - v) /\ (e /\ e /\ w /\ k = k /\ j /\ w /\ l = (y : Int) /\ e) /\ i /\ A = xs /\ False /\ z /\ e /\ b.snd.snd.snd = m /\ q = false /\ j /\ e) ∨ ∃ (y : Nat), (iiO n xs m s y /\ o - y < o - v) /\ (e /\ e /\ w /\ k = k /\ j /\ w /\ l = (y : Int) /\ e) /\ i /\ A = xs /\ e /\ z /\ e /\ b.snd.snd.snd = mI n xs [] m (o * s + y) /\ q = false /\ j /\ pC q b.snd.snd.fst [] = [] /\ e))) /\ (canR (gB xs) f d = false -> a)) /\ (¬¬(f, d) = (f, f) -> e /\ e /\ a)) /\ (k = false -> e /\ e /\ e /\ e /\ a)) /\ (¬t < 6 -> (∃ (y : Unit), noC xs u /\ (e /\ e /\ j /\ w /\ e) /\ r) ∨ ∃ (y : Unit), ((lpC xs (fl n) [] m u).fst = false /\ soC xs u) /\ (e /\ e /\ j /\ w /\ e) /\ c /\ j /\ False /\ z /\ e /\ m = mI n xs [] m u /\ p /\ j /\ False)) (e /\ inR .i64 l /\ e /\ ((∃ (y : Nat), (iiN xs s y /\ o - y < o - v) /\ (e /\ e /\ w /\ k = k /\ j /\ w /\ l = (y : Int) /\ e) /\ r) ∨ ∃ (y : Nat), (iiO n xs m s y /\ o - y < o - v) /\ (e /\ e /\ w /\ k = k /\ j /\ w /\ l = (y : Int) /\ e) /\ c /\ j /\ False /\ z /\ e /\ m = mI n xs [] m (o * s + y) /\ p /\ j /\ False))) (C75 = C75 /\ LoopState.ready = sC q /\ (none : Option Code) = jC q /\ h /\ e)) (pC q b.snd.fst xs)) (b.fst)) (rY n xs [] m s d.toNat)) (c /\ j /\ e /\ z /\ e /\ m = m /\ p /\ j /\ e)) (C75 = C75 /\ LoopState.ready = LoopState.ready /\ (none : Option Code) = none /\ h /\ e)) (bOr .i64 f x)) (e /\ h)) (e /\ e /\ e /\ e /\ e)) (True)) (f = f)) ((s : Int))) (lpC xs (fl n) [] m nC)) (xs = xs)) (gB xs s)) (t + 1)) (o * (s + 1))) ((6 : Nat))) (false = false)) ((v : Int))) ((1 : Int) * 2 ^ v)) (by kernel_rfl) ?_
   simp only [zz]
   obtain ⟨v1, v2⟩ := hv
   refine ⟨fun hv6 => ?_, fun hv6 => by rw [show v = 6 by omega] at v2; exact v2⟩
   have hv6 : v < 6 := by omega
   have hb := or_pow hs hv6
   have hcn := cnd_iff (xs := xs) (s := s) hv6
   have h2 : 2 ^ v < 64 := Nat.pow_lt_pow_right (a := 2) (by decide) hv6
   have e : (2 ^ v : Int) = ((2 ^ v : Nat) : Int) := by rw [Int.natCast_pow]; try rfl
   have eb : ∀ P : Nat, P < 64 -> -9223372036854775808 <= 1 * (P : Int) /\ 1 * (P : Int) <= 9223372036854775807 := fun P h => by omega
   have hsh : (0 <= (v : Int) /\ (v : Int) < bitsOf .i64) /\ -9223372036854775808 <= 1 * (2 ^ v : Int) /\ 1 * (2 ^ v : Int) <= 9223372036854775807 := ⟨⟨by omega, by simp only [bitsOf]; omega⟩, by rw [e]; exact eb _ h2⟩
   simp only [hb.1, Int.toNat_natCast]
   have hno : lpC xs (fl n) [] m (6 * s + v) = (false, xs, [], m) := lpC_no v2
   have hst := lp_step (n := n) (l := []) (m := m) hv6 (by rw [hno])
   have hmi : mI n xs [] m (6 * s + v) = m := by unfold mI; rw [hno]
   rw [hmi] at hst
   have hend := lp_end (n := n) (xs := xs) (l := []) (m := m) hs hv6
   have hskip : ¬ (gB xs s = true /\ ¬ s ||| 2 ^ v = s /\ canR (gB xs) s (s ||| 2 ^ v : Nat) = true) -> inR .i64 ((v : Int) + 1) /\ ∃ y : Nat, (iiN xs s y /\ 6 - y < 6 - v) /\ (v : Int) + 1 = (y : Int) := fun hc =>
     ⟨by simp only [inR]; omega, v + 1, ⟨⟨by omega, noC_next v2 fun h3 => hc (hcn.mp h3)⟩, by omega⟩, by omega⟩
   refine ⟨by simp only [inR]; omega, hsh, fun hg => ⟨fun hne => ⟨hp.hl, fun hcan => ?_, fun hcan => hskip fun hc => by rw [hc.2.2] at hcan; cases hcan⟩, fun he => hskip fun hc => he fun h3 => hc.2.1 (by injection h3 with _ h3; omega)⟩, fun hg => hskip fun hc => by rw [hc.1] at hg; cases hg⟩
   have hc : gB xs s = true /\ ¬ s ||| 2 ^ v = s /\ canR (gB xs) s (s ||| 2 ^ v : Nat) = true := ⟨hg, fun h3 => hne (by rw [h3]), hcan⟩
   rw [if_pos hc] at hst
   refine ⟨⟨⟨hp.hl, hp.hc, hp.hn, hcan⟩, Int.natCast_nonneg _, Int.natCast_nonneg _⟩, fun hr => ?_, fun hr => ?_⟩
   · have hr : (rY n xs [] m s (s ||| 2 ^ v)).1 = true := by simpa using hr
     rw [if_pos hr] at hst
     have hz := hend (by rw [hst]; exact hr)
     rw [hst] at hz
     rw [hz]
     exact ⟨hfin v hv6 (hcn.mpr hc), ⟨rfl, rfl⟩, rfl, rfl, rfl, rfl⟩
   · have hr : (rY n xs [] m s (s ||| 2 ^ v)).1 = false := by simpa using hr
     rw [if_neg (by rw [hr]; simp)] at hst
     refine ⟨by simp only [inR]; omega, v + 1, ⟨⟨by omega, by rw [hst], _, Nat.lt_succ_self _, hcn.mpr hc⟩, by omega⟩, by omega, ?_⟩
     rw [hr]
     exact ⟨⟨rfl, rfl⟩, rfl, by show _ = (lpC xs (fl n) [] m (6 * s + (v + 1))).2.2.2; rw [hst], rfl, rfl⟩
 · refine of_eq (q := (fun (B : Prop) => (fun (z : Int) => (fun (u : Int) => (fun (p : Nat) => (fun (w : Nat) => (fun (o : Int) => (fun (l : Bool) => (fun (k : Prop) => (fun (i : MF) => (fun (g : RC) => (fun (f : Int) => (fun (x : Prop) => (fun (e : Prop) => (fun (r : Prop) => (fun (h : Prop) => (fun (A : Prop) => (fun (d : Int) => (fun (c : Prop) => (fun (q : Prop) => (fun (b : Prop) => (fun (a : RC) => (fun (t : Bool) => (fun (C : Fs) => (fun (j : Prop) => e /\ (u < 6 -> e /\ e /\ e /\ e /\ e /\ inR .u64 u /\ (((0 : Int) <= u /\ u < bitsOf .i64) /\ (-9223372036854775808 : Int) <= z /\ z <= 9223372036854775807) /\ e /\ e /\ e /\ e /\ e /\ e /\ (l = true -> e /\ e /\ e /\ e /\ e /\ e /\ e /\ (¬(f, d) = (f, f) -> e /\ e /\ ((List.length xs = 64 /\ (k /\ (x /\ d = d /\ e) /\ e) /\ e) /\ e) /\ e /\ e /\ (canR (gB xs) f d = true -> e /\ e /\ ((okY n (f, d, xs, [], i) /\ (e /\ (x /\ d = d /\ e) /\ e) /\ c /\ k /\ e /\ ([] : List (Int × Int)) = [] /\ A /\ e /\ i = i /\ B /\ e) /\ e /\ e /\ e /\ A) /\ e /\ e /\ ((!!t) = true -> soC xs nC /\ e /\ e /\ (C75 = C75 /\ sC g.fst = sC t /\ jC g.fst = jC t /\ h /\ e) /\ C = pC g.fst g.snd.fst xs /\ e /\ A /\ e /\ a.snd.snd.snd = g.snd.snd.snd /\ t = g.fst /\ k /\ pC t a.snd.snd.fst [] = pC g.fst g.snd.snd.fst [] /\ e) /\ ((!!t) = false -> inR .i64 o /\ e /\ ((∃ (y : Nat), (iiN xs s y /\ p - y < p - v) /\ (e /\ e /\ x /\ l = l /\ k /\ x /\ o = (y : Int) /\ e) /\ j /\ C = xs /\ False /\ A /\ e /\ a.snd.snd.snd = m /\ t = false /\ k /\ e) ∨ ∃ (y : Nat), (iiO n xs m s y /\ p - y < p - v) /\ (e /\ e /\ x /\ l = l /\ k /\ x /\ o = (y : Int) /\ e) /\ j /\ C = xs /\ e /\ A /\ e /\ a.snd.snd.snd = mI n xs [] m (p * s + y) /\ t = false /\ k /\ pC t a.snd.snd.fst [] = [] /\ e))) /\ (canR (gB xs) f d = false -> b)) /\ (¬¬(f, d) = (f, f) -> e /\ e /\ b)) /\ (l = false -> e /\ e /\ e /\ e /\ b)) /\ (¬u < 6 -> (∃ (y : Unit), noC xs w /\ (e /\ e /\ k /\ x /\ e) /\ q) ∨ ∃ (y : Unit), ((lpC xs (fl n) [] m w).fst = false /\ soC xs w) /\ (e /\ e /\ k /\ x /\ e) /\ c /\ k /\ e /\ A /\ e /\ i = mI n xs [] m w /\ r)) (C75 = C75 /\ LoopState.ready = sC t /\ (none : Option Code) = jC t /\ h /\ e)) (pC t a.snd.fst xs)) (a.fst)) (rY n xs [] i s d.toNat)) (e /\ inR .i64 o /\ e /\ ((∃ (y : Nat), (iiN xs s y /\ p - y < p - v) /\ (e /\ e /\ x /\ l = l /\ k /\ x /\ o = (y : Int) /\ e) /\ q) ∨ ∃ (y : Nat), (iiO n xs m s y /\ p - y < p - v) /\ (e /\ e /\ x /\ l = l /\ k /\ x /\ o = (y : Int) /\ e) /\ c /\ k /\ e /\ A /\ e /\ i = mI n xs [] m (p * s + y) /\ r))) (c /\ k /\ False /\ A /\ e /\ i = m /\ B /\ k /\ e)) (C75 = C75 /\ LoopState.ready = LoopState.ready /\ (none : Option Code) = none /\ h /\ e)) (bOr .i64 f z)) (e /\ h)) (e /\ e /\ e /\ e /\ e)) (B /\ k /\ ([] : List (Int × Int)) = [] /\ e)) (True)) (f = f)) ((s : Int))) (lpC xs (fl n) [] m nC)) (mI n xs [] m (p * s + v))) (xs = xs)) (gB xs s)) (u + 1)) (p * (s + 1))) ((6 : Nat))) ((v : Int))) ((1 : Int) * 2 ^ v)) (false = false)) (by kernel_rfl) ?_
   simp only [zz]
   obtain ⟨v1, v2, i0, hi0, hi1⟩ := hv
   refine ⟨fun hv6 => ?_, fun hv6 => by rw [show v = 6 by omega] at v2 hi0 |-; exact ⟨⟨v2, i0, hi0, hi1⟩, rfl⟩⟩
   have hv6 : v < 6 := by omega
   have hb := or_pow hs hv6
   have hcn := cnd_iff (xs := xs) (s := s) hv6
   have h2 : 2 ^ v < 64 := Nat.pow_lt_pow_right (a := 2) (by decide) hv6
   have e : (2 ^ v : Int) = ((2 ^ v : Nat) : Int) := by rw [Int.natCast_pow]; try rfl
   have eb : ∀ P : Nat, P < 64 -> -9223372036854775808 <= 1 * (P : Int) /\ 1 * (P : Int) <= 9223372036854775807 := fun P h => by omega
   have hsh : (0 <= (v : Int) /\ (v : Int) < bitsOf .i64) /\ -9223372036854775808 <= 1 * (2 ^ v : Int) /\ 1 * (2 ^ v : Int) <= 9223372036854775807 := ⟨⟨by omega, by simp only [bitsOf]; omega⟩, by rw [e]; exact eb _ h2⟩
   simp only [hb.1, Int.toNat_natCast]
   have hst := lp_step (n := n) (l := []) (m := m) hv6 v2
   have hend := lp_end (n := n) (xs := xs) (l := []) (m := m) hs hv6
   have hskip : ¬ (gB xs s = true /\ ¬ s ||| 2 ^ v = s /\ canR (gB xs) s (s ||| 2 ^ v : Nat) = true) -> inR .i64 ((v : Int) + 1) /\ ∃ y : Nat, (iiO n xs m s y /\ 6 - y < 6 - v) /\ (v : Int) + 1 = (y : Int) /\ mI n xs [] m (6 * s + v) = mI n xs [] m (6 * s + y) := fun hc => by
     rw [if_neg hc] at hst
     exact ⟨by simp only [inR]; omega, v + 1, ⟨⟨by omega, by rw [hst]; exact v2, i0, by omega, hi1⟩, by omega⟩, by omega, by unfold mI; rw [hst]⟩
   refine ⟨by simp only [inR]; omega, hsh, fun hg => ⟨fun hne => ⟨hp.hl, fun hcan => ?_, fun hcan => hskip fun hc => by rw [hc.2.2] at hcan; cases hcan⟩, fun he => hskip fun hc => he fun h3 => hc.2.1 (by injection h3 with _ h3; omega)⟩, fun hg => hskip fun hc => by rw [hc.1] at hg; cases hg⟩
   have hc : gB xs s = true /\ ¬ s ||| 2 ^ v = s /\ canR (gB xs) s (s ||| 2 ^ v : Nat) = true := ⟨hg, fun h3 => hne (by rw [h3]), hcan⟩
   rw [if_pos hc] at hst
   refine ⟨⟨⟨hp.hl, hp.hc, hp.hn, hcan⟩, Int.natCast_nonneg _, Int.natCast_nonneg _⟩, fun hr => ?_, fun hr => ?_⟩
   · have hr : (rY n xs [] (mI n xs [] m (6 * s + v)) s (s ||| 2 ^ v)).1 = true := by simpa using hr
     rw [if_pos hr] at hst
     have hz := hend (by rw [hst]; exact hr)
     rw [hst] at hz
     rw [hz]
     exact ⟨hfin v hv6 (hcn.mpr hc), ⟨rfl, rfl⟩, rfl, rfl, rfl, rfl⟩
   · have hr : (rY n xs [] (mI n xs [] m (6 * s + v)) s (s ||| 2 ^ v)).1 = false := by simpa using hr
     rw [if_neg (by rw [hr]; simp)] at hst
     refine ⟨by simp only [inR]; omega, v + 1, ⟨⟨by omega, by rw [hst], i0, by omega, hi1⟩, by omega⟩, by omega, ?_⟩
     rw [hr]
     exact ⟨⟨rfl, rfl⟩, rfl, by show _ = (lpC xs (fl n) [] m (6 * s + (v + 1))).2.2.2; rw [hst], rfl, rfl⟩
theorem loop88oN (n : Nat) (h : YC n) (h' : YNo n) (xs : Fs) (m : MF) (hp : pre88 n xs []) : LoopOK (X88N n h h') L88_0 (hoN n xs m) (R88N n h h' xs m) := by
 refine loop_fams (Xyb_ok _ _ _ _ _ _) [0, 1, 7, 8] (foN n xs m) (xoN n xs m) 150 ⟨fun (s : Nat) hs => ?_, fun (s : Nat) hs => ?_, trivial⟩
 · have hL := fun hh => loop88iN n h h' xs m s hp hh
   refine of_eq (q := (fun (j : Nat) => (fun (i : Nat) => (fun (g : Prop) => (fun (f : Prop) => (fun (l : Prop) => (fun (e : Prop) => (fun (c : Int) => (fun (k : Int) => (fun (b : Prop) => (fun (a : Prop) => (fun (d : Prop) => e /\ (c < 64 -> e /\ idxPre c j /\ e /\ e /\ e /\ LoopOK (X88N n h h') L88_2 (hiN n xs m s) (bodyR (8 : Nat) (xoN n xs m) (R88N n h h' xs m)) /\ ((∃ (y : Nat), iiN xs s y /\ (e /\ e /\ c = c /\ List.getD xs s false = gB xs s /\ f /\ c = c /\ (0 : Int) = (y : Int) /\ e) /\ d) ∨ ∃ (y : Nat), iiO n xs m s y /\ (e /\ e /\ c = c /\ List.getD xs s false = gB xs s /\ f /\ c = c /\ (0 : Int) = (y : Int) /\ e) /\ a /\ f /\ False /\ b /\ e /\ m = mI n xs [] m ((6 : Nat) * s + y) /\ l) /\ (∀ (y : Unit), noC xs i -> inR .i64 k /\ e /\ ((∃ (y : Nat), (ioN xs y /\ j - y < j - s) /\ (e /\ e /\ f /\ k = (y : Int) /\ e) /\ d) ∨ ∃ (y : Nat), (ioO n xs m y /\ j - y < j - s) /\ (e /\ e /\ f /\ k = (y : Int) /\ e) /\ a /\ f /\ False /\ b /\ e /\ m = mI n xs [] m ((6 : Nat) * y) /\ l)) /\ (∀ (y : Unit), (lpC xs (fl n) [] m i).fst = false /\ soC xs i -> inR .i64 k /\ e /\ ((∃ (y : Nat), (ioN xs y /\ j - y < j - s) /\ (e /\ e /\ f /\ k = (y : Int) /\ e) /\ a /\ f /\ False /\ b /\ e /\ mI n xs [] m i = m /\ g /\ f /\ e) ∨ ∃ (y : Nat), (ioO n xs m y /\ j - y < j - s) /\ (e /\ e /\ f /\ k = (y : Int) /\ e) /\ a /\ f /\ e /\ b /\ e /\ mI n xs [] m i = mI n xs [] m ((6 : Nat) * y) /\ g /\ f /\ ([] : List (Int × Int)) = [] /\ e)) /\ e) /\ (¬c < 64 -> (∃ (y : Unit), noC xs nC /\ e /\ d) ∨ ∃ (y : Unit), ((lpC xs (fl n) [] m nC).fst = false /\ soC xs nC) /\ e /\ a /\ f /\ False /\ b /\ e /\ m = mI n xs [] m nC /\ l)) (a /\ f /\ e /\ b /\ e /\ m = m /\ g /\ f /\ e)) (C75 = C75 /\ LoopState.ready = LoopState.ready /\ (none : Option Code) = none /\ (e /\ e /\ e /\ e /\ e) /\ e)) (e /\ e /\ e /\ e /\ e /\ e)) (c + 1)) ((s : Int))) (True)) (g /\ f /\ False)) (xs = xs)) (false = false)) ((6 : Nat) * (s + 1))) ((64 : Nat))) (by kernel_rfl) ?_
   simp only [zz]
   obtain ⟨s1, s2⟩ := hs
   have hn1 : ∀ _ : PUnit, noC xs (6 * (s + 1)) -> s < 64 -> inR .i64 ((s : Int) + 1) /\ ∃ y : Nat, (ioN xs y /\ 64 - y < 64 - s) /\ (s : Int) + 1 = (y : Int) := fun _ h1 h2 => ⟨by simp only [inR]; omega, s + 1, ⟨⟨by omega, h1⟩, by omega⟩, by omega⟩
   have hn2 : ∀ _ : PUnit, (lpC xs (fl n) [] m (6 * (s + 1))).1 = false /\ soC xs (6 * (s + 1)) -> s < 64 -> inR .i64 ((s : Int) + 1) /\ ∃ y : Nat, (ioO n xs m y /\ 64 - y < 64 - s) /\ (s : Int) + 1 = (y : Int) /\ mI n xs [] m (6 * (s + 1)) = mI n xs [] m (6 * y) := fun _ h1 h2 => ⟨by simp only [inR]; omega, s + 1, ⟨⟨by omega, h1⟩, by omega⟩, by omega, rfl⟩
   refine ⟨fun h => ⟨by unfold idxPre; omega, hL (by omega), ⟨0, ⟨by omega, s2⟩, rfl, rfl⟩, fun u h1 => hn1 u h1 (by omega), fun u h1 => hn2 u h1 (by omega)⟩, fun h => ?_⟩
   have e : s = 64 := by omega
   subst e
   exact s2
 · have hL := fun hh => loop88iN n h h' xs m s hp hh
   refine of_eq (q := (fun (p : Nat) => (fun (k : Nat) => (fun (i : MF) => (fun (g : Nat) => (fun (f : Prop) => (fun (e : Prop) => (fun (d : Prop) => (fun (j : Prop) => (fun (c : Int) => (fun (l : Int) => (fun (b : Prop) => (fun (a : Prop) => (fun (o : Prop) => d /\ (c < 64 -> d /\ idxPre c k /\ d /\ d /\ d /\ LoopOK (X88N n h h') L88_2 (hiN n xs m s) (bodyR (8 : Nat) (xoN n xs m) (R88N n h h' xs m)) /\ ((∃ (y : Nat), iiN xs s y /\ (d /\ d /\ c = c /\ List.getD xs s false = gB xs s /\ f /\ c = c /\ (0 : Int) = (y : Int) /\ d) /\ o) ∨ ∃ (y : Nat), iiO n xs m s y /\ (d /\ d /\ c = c /\ List.getD xs s false = gB xs s /\ f /\ c = c /\ (0 : Int) = (y : Int) /\ d) /\ a /\ f /\ d /\ b /\ d /\ i = mI n xs [] m (p * s + y) /\ j) /\ (∀ (y : Unit), noC xs g -> inR .i64 l /\ d /\ ((∃ (y : Nat), (ioN xs y /\ k - y < k - s) /\ (d /\ d /\ f /\ l = (y : Int) /\ d) /\ a /\ f /\ d /\ b /\ d /\ m = m /\ e /\ f /\ d) ∨ ∃ (y : Nat), (ioO n xs m y /\ k - y < k - s) /\ (d /\ d /\ f /\ l = (y : Int) /\ d) /\ a /\ f /\ False /\ b /\ d /\ m = mI n xs [] m (p * y) /\ e /\ f /\ False)) /\ (∀ (y : Unit), (lpC xs (fl n) [] m g).fst = false /\ soC xs g -> inR .i64 l /\ d /\ ((∃ (y : Nat), (ioN xs y /\ k - y < k - s) /\ (d /\ d /\ f /\ l = (y : Int) /\ d) /\ a /\ f /\ False /\ b /\ d /\ mI n xs [] m g = m /\ e /\ f /\ d) ∨ ∃ (y : Nat), (ioO n xs m y /\ k - y < k - s) /\ (d /\ d /\ f /\ l = (y : Int) /\ d) /\ a /\ f /\ d /\ b /\ d /\ mI n xs [] m g = mI n xs [] m (p * y) /\ j)) /\ d) /\ (¬c < 64 -> (∃ (y : Unit), noC xs nC /\ d /\ o) ∨ ∃ (y : Unit), ((lpC xs (fl n) [] m nC).fst = false /\ soC xs nC) /\ d /\ a /\ f /\ d /\ b /\ d /\ i = mI n xs [] m nC /\ j)) (a /\ f /\ False /\ b /\ d /\ i = m /\ e /\ f /\ d)) (C75 = C75 /\ LoopState.ready = LoopState.ready /\ (none : Option Code) = none /\ (d /\ d /\ d /\ d /\ d) /\ d)) (d /\ d /\ d /\ d /\ d /\ d)) (c + 1)) ((s : Int))) (e /\ f /\ ([] : List (Int × Int)) = [] /\ d)) (True)) (false = false)) (xs = xs)) (p * (s + 1))) (mI n xs [] m (p * s))) ((64 : Nat))) ((6 : Nat))) (by kernel_rfl) ?_
   simp only [zz]
   obtain ⟨s1, s2⟩ := hs
   have hn1 : ∀ _ : PUnit, noC xs (6 * (s + 1)) -> s < 64 -> inR .i64 ((s : Int) + 1) /\ ∃ y : Nat, (ioN xs y /\ 64 - y < 64 - s) /\ (s : Int) + 1 = (y : Int) := fun _ h1 h2 => ⟨by simp only [inR]; omega, s + 1, ⟨⟨by omega, h1⟩, by omega⟩, by omega⟩
   have hn2 : ∀ _ : PUnit, (lpC xs (fl n) [] m (6 * (s + 1))).1 = false /\ soC xs (6 * (s + 1)) -> s < 64 -> inR .i64 ((s : Int) + 1) /\ ∃ y : Nat, (ioO n xs m y /\ 64 - y < 64 - s) /\ (s : Int) + 1 = (y : Int) /\ mI n xs [] m (6 * (s + 1)) = mI n xs [] m (6 * y) := fun _ h1 h2 => ⟨by simp only [inR]; omega, s + 1, ⟨⟨by omega, h1⟩, by omega⟩, by omega, rfl⟩
   refine ⟨fun h => ⟨by unfold idxPre; omega, hL (by omega), ⟨0, ⟨by omega, s2⟩, ⟨rfl, rfl⟩, rfl⟩, fun u h1 => hn1 u h1 (by omega), fun u h1 => hn2 u h1 (by omega)⟩, fun h => ?_⟩
   have e : s = 64 := by omega
   subst e
   exact ⟨s2, rfl⟩
theorem not_so {xs : Fs} {k : Nat} (h : noC xs k) : ¬ soC xs k := fun ⟨i, h1, h2⟩ => by rw [h i h1] at h2; cases h2
theorem call88N (n : Nat) (h : YC n) (h' : YNo n) (xs : Fs) (m : MF) (hp : pre88 n xs []) (hc : noC xs nC) : GCall Try.prog gl 88 false [.yld 0, .ptr 7 0 []] (kbN xs m) [] (kbN xs m) := by
 have hL := LoopOK.mono (R' := RetR (X88N n h h') false false [] [] (kbN xs m)) (loop88oN n h h' xs m hp) fun st hr => absurd hr.1 (not_so hc)
 refine gcall_of (X := (X88N n h h')) ((Xyb_ok _ _ _ _ _ _)) (f := 88) (fn := Try.f88) (c := bodyOf Try.f88) (by kernel_rfl) (by kernel_rfl) (view := false) (rvs := []) (by kernel_rfl) (H := (fun _ => some (hoN n xs m))) 150 (by kernel_rfl) ?_
 refine of_eq (q := (fun (f : Prop) => (fun (e : Prop) => (fun (d : Prop) => (fun (b : Prop) => (fun (a : Prop) => (fun (c : Prop) => d /\ d /\ LoopOK (X88N n h h') L88_0 (hoN n xs m) (RetR (X88N n h h') false false [] [] (kbN xs m)) /\ ((∃ (y : Nat), ioN xs y /\ (d /\ d /\ e /\ (0 : Int) = (y : Int) /\ d) /\ c) ∨ ∃ (y : Nat), ioO n xs m y /\ (d /\ d /\ e /\ (0 : Int) = (y : Int) /\ d) /\ a /\ e /\ False /\ (d /\ b) /\ d /\ m = mI n xs [] m ((6 : Nat) * y) /\ f /\ e /\ False) /\ (∀ (y : Unit), noC xs nC -> d /\ d /\ c) /\ (∀ (y : Unit), (lpC xs (fl n) [] m nC).fst = false /\ soC xs nC -> d /\ d /\ a /\ e /\ False /\ (d /\ b) /\ d /\ mI n xs [] m nC = m /\ f /\ e /\ d) /\ d) (a /\ e /\ d /\ (d /\ b) /\ d /\ m = m /\ f /\ e /\ d)) (C75 = C75 /\ LoopState.ready = LoopState.ready /\ (none : Option Code) = none /\ b /\ d)) (d /\ d /\ d /\ d /\ d)) (True)) (xs = xs)) (false = false)) (by kernel_rfl) ?_
 simp only [zz]
 exact ⟨hL, ⟨0, ⟨Nat.zero_le _, fun i hi => absurd hi (Nat.not_lt_zero _)⟩, rfl⟩, fun _ _ => trivial, fun _ h1 => not_so hc h1.2⟩
theorem call88O (n : Nat) (h : YC n) (h' : YNo n) (xs : Fs) (m : MF) (hp : pre88 n xs []) (hc : soC xs nC) : GCall Try.prog gl 88 false [.yld 0, .ptr 7 0 []] (kbN xs m) [] (kbW xs (lpC xs (fl n) [] m nC)) := by
 have hL := LoopOK.mono (R' := RetR (X88N n h h') false false [] [] (kbW xs (lpC xs (fl n) [] m nC))) (loop88oN n h h' xs m hp) fun st hr => hr.2
 refine gcall_of (X := (X88N n h h')) ((Xyb_ok _ _ _ _ _ _)) (f := 88) (fn := Try.f88) (c := bodyOf Try.f88) (by kernel_rfl) (by kernel_rfl) (view := false) (rvs := []) (by kernel_rfl) (H := (fun _ => some (hoN n xs m))) 150 (by kernel_rfl) ?_
 refine of_eq (q := (fun (f : Prop) => (fun (e : Prop) => (fun (b : Prop) => (fun (c : Prop) => (fun (a : RC) => (fun (g : Bool) => (fun (d : Prop) => e /\ e /\ LoopOK (X88N n h h') L88_0 (hoN n xs m) (RetR (X88N n h h') false false [] [] (kbW xs a)) /\ ((∃ (y : Nat), ioN xs y /\ (e /\ e /\ f /\ (0 : Int) = (y : Int) /\ e) /\ c /\ f /\ e /\ (e /\ b) /\ e /\ m = m /\ false = false /\ f /\ e) ∨ ∃ (y : Nat), ioO n xs m y /\ (e /\ e /\ f /\ (0 : Int) = (y : Int) /\ e) /\ c /\ f /\ False /\ (e /\ b) /\ e /\ m = mI n xs [] m ((6 : Nat) * y) /\ false = false /\ f /\ False) /\ (∀ (y : Unit), noC xs nC -> e /\ e /\ d /\ xs = pC g a.snd.fst xs /\ False /\ (e /\ b) /\ e /\ m = a.snd.snd.snd /\ false = g /\ f /\ False) /\ (∀ (y : Unit), g = false /\ soC xs nC -> e /\ e /\ d /\ xs = pC g a.snd.fst xs /\ e /\ (e /\ b) /\ e /\ mI n xs [] m nC = a.snd.snd.snd /\ false = g /\ f /\ ([] : List (Int × Int)) = pC g a.snd.snd.fst [] /\ e) /\ e) (C75 = C75 /\ sC g = LoopState.ready /\ jC g = none /\ b /\ e)) (a.fst)) (lpC xs (fl n) [] m nC)) (C75 = C75 /\ LoopState.ready = LoopState.ready /\ (none : Option Code) = none /\ b /\ e)) (e /\ e /\ e /\ e /\ e)) (True)) (xs = xs)) (by kernel_rfl) ?_
 simp only [zz]
 generalize hq : lpC xs (fl n) [] m nC = q at hL |-
 have hmi : mI n xs [] m nC = q.2.2.2 := by rw [<- hq]; try rfl
 refine ⟨hL, ⟨0, ⟨Nat.zero_le _, fun i hi => absurd hi (Nat.not_lt_zero _)⟩, rfl⟩, fun _ h1 => not_so h1 hc, fun _ h1 => ?_⟩
 rw [h1.1, hmi]
 exact ⟨⟨rfl, rfl⟩, rfl, rfl, rfl, rfl⟩
end Go.Am.Sh

/- Shells: the search for collapses, from its start. -/
namespace Go.Am.Sh
open Go Go.Am Go.Proofs
def get88N (_ : List AV) (obs : List Ob) : Option (Fs × MF) :=
 match unFa (obs.getD 1 .gone), isNl (obs.getD 2 .gone), unMF (obs.getD 5 .gone) with
 | some ys, true, some m => some (ys, m)
 | _, _, _ => none
theorem en88 : Enters Try.prog 88 := ⟨Try.f88, by kernel_rfl, by kernel_rfl, by kernel_rfl⟩
noncomputable def e88N (n : Nat) (h : YC n) (h' : YNo n) : Entry Try.prog gl := entryW 88 en88 true get88N (fun x => pre88 n x.1 [] /\ noC x.1 nC) false (fun _ => [.yld 0, .ptr 7 0 []]) (fun x => kbN x.1 x.2) (fun _ => []) (fun x => kbN x.1 x.2) (fun x hx => call88N n h h' _ x.2 hx.1 hx.2)
noncomputable def e88O (n : Nat) (h : YC n) (h' : YNo n) : Entry Try.prog gl := entryW 88 en88 true get88N (fun x => pre88 n x.1 [] /\ soC x.1 nC) false (fun _ => [.yld 0, .ptr 7 0 []]) (fun x => kbN x.1 x.2) (fun _ => []) (fun x => kbW x.1 (lpC x.1 (fl n) [] x.2 nC)) (fun x hx => call88O n h h' _ x.2 hx.1 hx.2)
def k5N (xs : Fs) (m : MF) : List Ob := [.bx (.ar .bool 64 xs), .bx (.mp 2), mF m, .bx nl, .bx (clo75 0 1 3 4)]
def k5O (xs : Fs) (l : LP) (m : MF) : List Ob := [.bx (.ar .bool 64 xs), .bx (.mp 2), mF m, .bx (.own 5 0), .bx (clo75 0 1 3 4), .sc 0 62 P2 l]
def a5 : List AV := [.ptr 0 0 [], .ptr 1 0 [], .ptr 3 0 [], .ptr 4 0 []]
/-- Nothing is taken. -/
def quiet (xs : Fs) : Prop := (trueN (gB xs) 64).length = 2 ∨ noC xs nC
theorem call75N (n : Nat) (xs : Fs) (hp : pre75 (n + 1) xs []) (hc : quiet xs) : GCall Try.prog gl 75 false a5 (k5N xs []) [.bool (fl (n + 1) xs [] []).1] (k5N xs (fl (n + 1) xs [] []).2.2.2) := by
 have hG := gC_all n
 have hK : fl (n + 1) xs [] [] = if (trueN (gB xs) 64).length = 2 then (true, xs, [], []) else if mgF [] xs = true then (false, xs, [], []) else
   if (lpC xs (fl n) [] [] nC).1 = true then lpC xs (fl n) [] [] nC else (false, xs, [], mpF (lpC xs (fl n) [] [] nC).2.2.2 xs) := by
   obtain ⟨K, rfl, h⟩ := fl_unf n xs [] []
   exact h
 refine gcall_of (X := (Xyb [e66, e76, e88N n (yC_of n hG) (yN_of n hG)] [] none 5 [] (fun _ => none))) ((Xyb_ok _ _ _ _ _ _)) (f := 75) (fn := Try.f75) (c := bodyOf Try.f75) (by kernel_rfl) (by kernel_rfl) (view := false) (rvs := [.cell 4 4]) (by kernel_rfl) (H := fun _ => none) 200 (by kernel_rfl) ?_
 refine of_eq (q := True /\ True /\ (List.length xs = 64 /\ True) /\ True /\ True /\ ((↑(trueN (gB xs) (64 : Nat)).length : Int) = 2 -> True /\ (True /\ True) /\ (true = (fl (n + 1) xs [] []).fst /\ True) /\ xs = xs /\ True /\ ([] : List (List Bool × Bool)) = (fl (n + 1) xs [] []).snd.snd.snd /\ True /\ (True /\ True /\ True /\ True /\ True /\ True) /\ True) /\ (¬(↑(trueN (gB xs) (64 : Nat)).length : Int) = 2 -> True /\ True /\ True /\ (false = true -> True /\ (True /\ True) /\ (false = (fl (n + 1) xs [] []).fst /\ True) /\ xs = xs /\ True /\ ([] : List (List Bool × Bool)) = (fl (n + 1) xs [] []).snd.snd.snd /\ True /\ (True /\ True /\ True /\ True /\ True /\ True) /\ True) /\ (false = false -> True /\ (True /\ True) /\ ((((pre88 n xs [] /\ noC xs nC) /\ (True /\ True /\ True) /\ (C75 = C75 /\ LoopState.ready = LoopState.ready /\ (none : Option Code) = none /\ (True /\ True /\ True /\ True /\ True) /\ True) /\ xs = xs /\ True /\ (True /\ True /\ True /\ True /\ True /\ True) /\ True /\ ([] : List (List Bool × Bool)) = [] /\ false = false /\ xs = xs /\ True) /\ True /\ True /\ True /\ True /\ True /\ True /\ True /\ True /\ True) /\ ¬LoopState.ready = LoopState.busy) /\ ((none : Option Code) = none -> True /\ True /\ True /\ True /\ (True /\ True) /\ (false = (fl (n + 1) xs [] []).fst /\ True) /\ xs = xs /\ True /\ mPut FA [] xs true = (fl (n + 1) xs [] []).snd.snd.snd /\ True /\ (True /\ True /\ True /\ True /\ True /\ True) /\ True) /\ ((none : Option Code) = some Code.ret ∨ (none : Option Code) = none) /\ ((none : Option Code) = some Code.ret -> (True /\ True) /\ (false = (fl (n + 1) xs [] []).fst /\ True) /\ xs = xs /\ True /\ ([] : List (List Bool × Bool)) = (fl (n + 1) xs [] []).snd.snd.snd /\ True /\ (True /\ True /\ True /\ True /\ True /\ True) /\ True) /\ True))) (by kernel_rfl) ?_
 generalize fl (n + 1) xs [] [] = q at hK |-
 simp only [zz]
 refine ⟨hp.hl, fun h2 => ?_, fun h2 => ⟨(fun h3 => by cases h3), fun _ => ?_⟩⟩
 · rw [if_pos (by omega)] at hK
   rw [hK]
   exact ⟨rfl, rfl⟩
 · have hno : noC xs nC := hc.resolve_left (by omega)
   rw [if_neg (by omega), if_neg (by simp [mgF, mGet]), lpC_no hno, if_neg (by simp)] at hK
   rw [hK]
   have hpre : pre88 n xs [] := ⟨hp.hl, by have := hp.hc; omega, hp.hn⟩
   exact ⟨⟨⟨hpre, hno⟩, by intro h; cases h⟩, fun _ => ⟨rfl, rfl⟩, .inr trivial, (fun h => by cases h)⟩
theorem call75O (n : Nat) (xs : Fs) (hp : pre75 (n + 1) xs []) (hc : ¬ quiet xs) : GCall Try.prog gl 75 false a5 (k5N xs []) [.bool (fl (n + 1) xs [] []).1] (k5O (fl (n + 1) xs [] []).2.1 (fl (n + 1) xs [] []).2.2.1 (fl (n + 1) xs [] []).2.2.2) := by
 have hG := gC_all n
 have hK : fl (n + 1) xs [] [] = if (trueN (gB xs) 64).length = 2 then (true, xs, [], []) else if mgF [] xs = true then (false, xs, [], []) else
   if (lpC xs (fl n) [] [] nC).1 = true then lpC xs (fl n) [] [] nC else (false, xs, [], mpF (lpC xs (fl n) [] [] nC).2.2.2 xs) := by
   obtain ⟨K, rfl, h⟩ := fl_unf n xs [] []
   exact h
 refine gcall_of (X := (Xyb [e66, e76, e88O n (yC_of n hG) (yN_of n hG)] [] none 5 [] (fun _ => none))) ((Xyb_ok _ _ _ _ _ _)) (f := 75) (fn := Try.f75) (c := bodyOf Try.f75) (by kernel_rfl) (by kernel_rfl) (view := false) (rvs := [.cell 4 4]) (by kernel_rfl) (H := fun _ => none) 200 (by kernel_rfl) ?_
 refine of_eq (q := True /\ True /\ (List.length xs = 64 /\ True) /\ True /\ True /\ ((↑(trueN (gB xs) (64 : Nat)).length : Int) = 2 -> True /\ (True /\ True) /\ (true = (fl (n + 1) xs [] []).fst /\ True) /\ xs = (fl (n + 1) xs [] []).snd.fst /\ True /\ ([] : List (List Bool × Bool)) = (fl (n + 1) xs [] []).snd.snd.snd /\ False /\ (True /\ True /\ True /\ True /\ True /\ True) /\ False) /\ (¬(↑(trueN (gB xs) (64 : Nat)).length : Int) = 2 -> True /\ True /\ True /\ (false = true -> True /\ (True /\ True) /\ (false = (fl (n + 1) xs [] []).fst /\ True) /\ xs = (fl (n + 1) xs [] []).snd.fst /\ True /\ ([] : List (List Bool × Bool)) = (fl (n + 1) xs [] []).snd.snd.snd /\ False /\ (True /\ True /\ True /\ True /\ True /\ True) /\ False) /\ (false = false -> True /\ (True /\ True) /\ ((((pre88 n xs [] /\ soC xs nC) /\ (True /\ True /\ True) /\ (C75 = C75 /\ LoopState.ready = LoopState.ready /\ (none : Option Code) = none /\ (True /\ True /\ True /\ True /\ True) /\ True) /\ xs = xs /\ True /\ (True /\ True /\ True /\ True /\ True /\ True) /\ True /\ ([] : List (List Bool × Bool)) = [] /\ false = false /\ xs = xs /\ True) /\ True /\ True /\ True /\ True /\ True /\ True /\ True /\ True /\ True) /\ ¬sC (lpC xs (fl n) [] [] nC).fst = LoopState.busy) /\ (jC (lpC xs (fl n) [] [] nC).fst = none -> True /\ True /\ True /\ True /\ (True /\ True) /\ (false = (fl (n + 1) xs [] []).fst /\ True) /\ pC (lpC xs (fl n) [] [] nC).fst (lpC xs (fl n) [] [] nC).snd.fst xs = (fl (n + 1) xs [] []).snd.fst /\ True /\ mPut FA (lpC xs (fl n) [] [] nC).snd.snd.snd (pC (lpC xs (fl n) [] [] nC).fst (lpC xs (fl n) [] [] nC).snd.fst xs) true = (fl (n + 1) xs [] []).snd.snd.snd /\ True /\ (True /\ True /\ True /\ True /\ True /\ True) /\ pC (lpC xs (fl n) [] [] nC).fst (lpC xs (fl n) [] [] nC).snd.snd.fst [] = (fl (n + 1) xs [] []).snd.snd.fst /\ True) /\ (jC (lpC xs (fl n) [] [] nC).fst = some Code.ret ∨ jC (lpC xs (fl n) [] [] nC).fst = none) /\ (jC (lpC xs (fl n) [] [] nC).fst = some Code.ret -> (True /\ True) /\ ((lpC xs (fl n) [] [] nC).fst = (fl (n + 1) xs [] []).fst /\ True) /\ pC (lpC xs (fl n) [] [] nC).fst (lpC xs (fl n) [] [] nC).snd.fst xs = (fl (n + 1) xs [] []).snd.fst /\ True /\ (lpC xs (fl n) [] [] nC).snd.snd.snd = (fl (n + 1) xs [] []).snd.snd.snd /\ True /\ (True /\ True /\ True /\ True /\ True /\ True) /\ pC (lpC xs (fl n) [] [] nC).fst (lpC xs (fl n) [] [] nC).snd.snd.fst [] = (fl (n + 1) xs [] []).snd.snd.fst /\ True) /\ True))) (by kernel_rfl) ?_
 generalize lpC xs (fl n) [] [] nC = r at hK |-
 generalize fl (n + 1) xs [] [] = q at hK |-
 simp only [zz]
 have hc1 : ¬ (trueN (gB xs) 64).length = 2 := fun h => hc (.inl h)
 have hc2 : soC xs nC := Classical.byContradiction fun h => hc (.inr fun i hi => by
   cases hq : cnd xs i with
   | false => rfl
   | true => exact absurd ⟨i, hi, hq⟩ h)
 have hpre : pre88 n xs [] := ⟨hp.hl, by have := hp.hc; omega, hp.hn⟩
 have hb : ∀ b : Bool, ¬ sC b = .busy := fun b => by cases b <;> (intro h; cases h)
 rw [if_neg hc1, if_neg (by simp [mgF, mGet])] at hK
 refine ⟨hp.hl, fun h2 => absurd h2 (by omega), fun h2 => ⟨(fun h3 => by cases h3), fun _ => ⟨⟨⟨hpre, hc2⟩, hb _⟩, ?_⟩⟩⟩
 cases hr : r.1
 · rw [if_neg (by rw [hr]; simp)] at hK
   rw [hK]
   exact ⟨fun _ => ⟨rfl, rfl, rfl, rfl⟩, .inr rfl, (fun h => by cases h)⟩
 · rw [if_pos hr] at hK
   rw [hK]
   exact ⟨(fun h => by cases h), .inl rfl, fun _ => ⟨hr.symm, rfl, rfl, rfl⟩⟩
end Go.Am.Sh

/- Shells: Collapse. -/
namespace Go.Am.Sh
open Go Go.Am Go.Proofs
def posQ (x : Int) : Bool := decide (0 < x)
theorem call77 (x : Int) (_ : True) : GCall Try.prog gl 77 true [.int .i64 x] [] [.bool (posQ x)] [] := by
 refine gcall_of (X := X []) (X_ok []) (f := 77) (fn := Try.f77) (c := bodyOf Try.f77) (by kernel_rfl) (by kernel_rfl) (view := false) (rvs := [.tmp 2]) (by kernel_rfl) (H := fun _ => none) 80 (by kernel_rfl) ?_
 refine of_eq (q := True /\ True /\ True /\ True /\ True /\ (decide ((0 : Int) < x) = posQ x /\ True) /\ True) (by kernel_rfl) ?_
 simp only [zz]
 rfl
def e77 : Entry Try.prog gl := entry1 77 ⟨Try.f77, by kernel_rfl, by kernel_rfl, by kernel_rfl⟩ I64 (fun (_ : Int) => True) true (fun x => [.bool (posQ x)]) (fun _ => []) (call77)
def psX (p : List Int) : Int := if ∃ s ∈ p, posQ s = true then ((p.findIdx posQ : Nat) : Int) else -1
def ic83 (p : List Int) (k : Nat) : Prop := k <= p.length /\ ∀ q ∈ p.take k, posQ q = false
def sc83 (p : List Int) (k : Nat) : St := ⟨.sl I64 p :: .clo 77 [] [] :: dd 5 ++ .int .i64 p.length :: .int .i64 k :: dd 10, []⟩
def ec83 (p : List Int) : List (List Nat × Ex) := [([], ⟨0, Unit, fun _ => ∀ q ∈ p, posQ q = false, fun _ => ⟨dd 19, []⟩⟩)]
noncomputable def Hc83 (p : List Int) : Nat -> Option Hint := fun _ => some ⟨chk 0 [0, 1, 7, 8] (ic83 p) (sc83 p), (ec83 p).map (·.2)⟩
theorem loop83c (p : List Int) (hl : p.length <= 64) : LoopOK (X [e77]) L83_0 ⟨chk 0 [0, 1, 7, 8] (ic83 p) (sc83 p), (ec83 p).map (·.2)⟩ (RetR (X [e77]) true false [.tmp 4] [.int .i64 (psX p)] []) := by
 refine loop_ok (X_ok _) (H := fun _ _ => none) [0, 1, 7, 8] (ic83 p) (sc83 p) (fun k => p.length - k) (ec83 p) 90 fun (k : Nat) hk => ?_
 refine of_eq (q := (fun (c : Int) => (fun (b : Prop) => (fun (a : Int) => b /\ (a < c -> b /\ b /\ b /\ b /\ b /\ idxPre a p.length /\ b /\ (b /\ b) /\ (posQ (p.getD k (0 : Int)) = true -> b /\ b /\ b /\ (a = psX p /\ b) /\ b) /\ (posQ (p.getD k (0 : Int)) = false -> inR .i64 (a + 1) /\ b /\ ∃ (y : Nat), (ic83 p y /\ p.length - y < p.length - k) /\ (p = p /\ (b /\ b) /\ c = c /\ a + 1 = (y : Int) /\ b) /\ b)) /\ (¬a < c -> ∃ (y : Unit), (∀ (q : Int), q ∈ p -> posQ q = false) /\ b /\ b)) ((k : Int))) (True)) ((p.length : Int))) (by kernel_rfl) ?_
 simp only [zz]
 obtain ⟨h1, h2⟩ := hk
 refine ⟨fun hk => ?_, fun hk => ?_⟩
 · have hk : k < p.length := by omega
   refine ⟨idx_nat hk, fun hx => ?_, fun hx => ⟨by simp only [inR]; omega, k + 1, ⟨⟨by omega, (all_take (d := 0) hk).mpr ⟨h2, hx⟩⟩, by omega⟩, by omega⟩⟩
   unfold psX
   rw [if_pos ⟨_, mem_getD hk, hx⟩, find_at hk h2 hx]
 · rwa [List.take_of_length_le (by omega)] at h2
theorem call83c (p : List Int) (hl : p.length <= 64) : GCall Try.prog gl 83 true [.sl I64 p, .clo 77 [] []] [] [.int .i64 (psX p)] [] := by
 refine gcall_of (X := X [e77]) (X_ok [e77]) (f := 83) (fn := Try.f83) (c := bodyOf Try.f83) (by kernel_rfl) (by kernel_rfl) (view := false) (rvs := [.tmp 4]) (by kernel_rfl) (H := (Hc83 p)) 80 (by kernel_rfl) ?_
 have hL := loop83c p hl
 refine of_eq (q := (fun (a : Prop) => a /\ a /\ a /\ a /\ LoopOK (X [e77]) L83_0 { J := chk (0 : Nat) [(0 : Nat), (1 : Nat), (7 : Nat), (8 : Nat)] (ic83 p) (sc83 p), exits := List.map (fun (x : List Nat × Ex) => x.snd) (ec83 p) } (RetR (X [e77]) true false [ResultVar.tmp (4 : Tmp)] [AV.int .i64 (psX p)] []) /\ (∃ (y : Nat), ic83 p y /\ (p = p /\ (a /\ a) /\ (p.length : Int) = (p.length : Int) /\ (0 : Int) = (y : Int) /\ a) /\ a) /\ (∀ (y : Unit), (∀ (q : Int), q ∈ p -> posQ q = false) -> a /\ a /\ ((-1 : Int) = psX p /\ a) /\ a) /\ a) (True)) (by kernel_rfl) ?_
 simp only [zz]
 refine ⟨hL, ⟨0, ⟨by omega, by simp⟩, rfl⟩, fun _ h => ?_⟩
 unfold psX; rw [if_neg]
 rintro ⟨q, h1, h2⟩
 rw [h q h1] at h2; cases h2
def get83c (xs : List AV) (_ : List Ob) : Option (List Int) :=
 match xs with
 | [.sl e l, _] => castL e I64 l
 | _ => none
def e83c : Entry Try.prog gl := entryW 83 ⟨Try.f83, by kernel_rfl, by kernel_rfl, by kernel_rfl⟩ false get83c (fun p => p.length <= 64) true (fun x => [.sl I64 x, .clo 77 [] []]) (fun _ => []) (fun x => [.int .i64 (psX x)]) (fun _ => []) (fun x h => call83c _ h)
def posL (p : List Int) : Bool := p.any posQ
theorem psX_iff {p : List Int} : 0 <= psX p ↔ posL p = true := by
 unfold psX posL
 rw [List.any_eq_true]
 constructor
 · intro h
   refine Classical.byContradiction fun h2 => ?_
   rw [if_neg h2] at h
   omega
 · intro h
   rw [if_pos h]; omega
theorem call59c (p : List Int) (hl : p.length <= 64) : GCall Try.prog gl 59 true [.sl I64 p, .clo 77 [] []] [] [.bool (posL p)] [] := by
 refine gcall_of (X := X [e83c]) (X_ok [e83c]) (f := 59) (fn := Try.f59) (c := bodyOf Try.f59) (by kernel_rfl) (by kernel_rfl) (view := false) (rvs := [.tmp 4]) (by kernel_rfl) (H := fun _ => none) 80 (by kernel_rfl) ?_
 refine of_eq (q := (fun (a : Prop) => a /\ a /\ a /\ ((p.length <= 64 /\ (p = p /\ (a /\ a) /\ a) /\ a) /\ a) /\ a /\ a /\ a /\ (decide ((0 : Int) <= psX p) = posL p /\ a) /\ a) (True)) (by kernel_rfl) ?_
 simp only [zz]
 refine ⟨hl, ?_⟩
 have := psX_iff (p := p)
 cases h : posL p <;> simp [h] at this |- <;> omega
def e59c : Entry Try.prog gl := entryW 59 ⟨Try.f59, by kernel_rfl, by kernel_rfl, by kernel_rfl⟩ false get83c (fun p => p.length <= 64) true (fun x => [.sl I64 x, .clo 77 [] []]) (fun _ => []) (fun x => [.bool (posL x)]) (fun _ => []) (fun x h => call59c _ h)
def get75N (_ : List AV) (obs : List Ob) : Option (Fs × MF) :=
 match unFa (obs.getD 0 .gone), unMF (obs.getD 2 .gone), isNl (obs.getD 3 .gone) with
 | some xs, some m, true => some (xs, m)
 | _, _, _ => none
structure okN75 (N : Nat) (q : Prop) (x : Fs × MF) : Prop where
 h : pre75 N x.1 []
 m : x.2 = []
 q : q
theorem en75 : Enters Try.prog 75 := ⟨Try.f75, by kernel_rfl, by kernel_rfl, by kernel_rfl⟩
noncomputable def e75N (N : Nat) : Entry Try.prog gl := entryW 75 en75 true get75N (fun x => okN75 N (quiet x.1) x) false (fun _ => a5) (fun x => k5N x.1 x.2) (fun x => [.bool (fl N x.1 [] []).1]) (fun x => k5N x.1 (fl N x.1 [] []).2.2.2) (by
 rintro ⟨xs, m⟩ ⟨h1, h2, h3⟩
 simp only at h1 h2 h3
 subst h2
 cases N with
 | zero => exact absurd h1.hc (by omega)
 | succ n => exact call75N n xs h1 h3)
noncomputable def e75O (N : Nat) : Entry Try.prog gl := entryW 75 en75 true get75N (fun x => okN75 N (¬ quiet x.1) x) false (fun _ => a5) (fun x => k5N x.1 x.2) (fun x => [.bool (fl N x.1 [] []).1]) (fun x => k5O (fl N x.1 [] []).2.1 (fl N x.1 [] []).2.2.1 (fl N x.1 [] []).2.2.2) (by
 rintro ⟨xs, m⟩ ⟨h1, h2, h3⟩
 simp only at h1 h2 h3
 subst h2
 cases N with
 | zero => exact absurd h1.hc (by omega)
 | succ n => exact call75O n xs h1 h3)
def colB (N : Nat) (p : List Int) : Bool := !posL (hoL p) && (fl N (mk (isF p)) [] []).1
def colL (N : Nat) (p : List Int) : LP := if colB N p = true then (fl N (mk (isF p)) [] []).2.2.1 else []
theorem fl_quiet {N : Nat} {xs : Fs} (hq : quiet xs) : (fl N xs [] []).2.2.1 = [] := by
 cases N with
 | zero => rfl
 | succ n =>
   obtain ⟨K, rfl, h⟩ := fl_unf n xs [] []
   rw [h]
   by_cases h1 : (trueN (gB xs) 64).length = 2
   · rw [if_pos h1]
   · rw [if_neg h1, if_neg (by simp [mgF, mGet]), lpC_no (hq.resolve_left h1), if_neg (by simp)]
theorem cN_top (f : Nat -> Bool) : ∀ m : Nat, cN f m <= m
 | 0 => by rw [cN]; omega
 | m + 1 => by
   have := cN_top f m
   rw [cN]; split <;> omega
theorem pre33 {N : Nat} (hN : N = 33) (p : List Int) : pre75 N (mk (isF p)) [] := by
 subst hN
 have := cN_top (gB (mk (isF p))) 64
 exact ⟨mk_length _, by omega, by simp⟩
theorem hoL_le {n : Int} {p : List Int} (_ : cxOk n p) : (hoL p).length <= 64 := by
 unfold hoL
 rw [hoK_length]
 have := mxL_le p
 omega
theorem call46N (N : Nat) (n : Int) (p : List Int) (hN : N = 33) (h : cxOk n p) (hq : quiet (mk (isF p))) : GCall Try.prog gl 46 true [.int .i64 n, .sl I64 p] [] [.sl P2 (colL N p), .bool (colB N p), .int .i64 0] [] := by
 refine gcall_of (X := X [e53, e67, e59c, e75N N]) (X_ok [e53, e67, e59c, e75N N]) (f := 46) (fn := Try.f46) (c := bodyOf Try.f46) (by kernel_rfl) (by kernel_rfl) (view := true) (rvs := [.tmp 4, .tmp 5, .tmp 6]) (by kernel_rfl) (H := fun _ => none) 150 (by kernel_rfl) ?_
 refine of_eq (q := (fun (f : Prop) => (fun (d : Prop) => (fun (c : List Bool) => (fun (g : Bool) => (fun (b : Prop) => (fun (e : Prop) => (fun (a : Prop) => b /\ b /\ b /\ b /\ b /\ (CxP n p /\ b) /\ b /\ b /\ b /\ b /\ b /\ b /\ b /\ (¬d -> b /\ a) /\ (¬¬d -> b /\ b /\ b /\ b /\ b /\ b /\ b /\ b /\ b /\ b /\ b /\ b /\ b /\ b /\ ((okC (n, p, c) /\ (b /\ b) /\ (n = n /\ p = p /\ c = c /\ b) /\ b) /\ b /\ b) /\ (((hoL p).length <= 64 /\ (hoL p = hoL p /\ (b /\ b) /\ b) /\ b) /\ b) /\ b /\ (posL (hoL p) = true -> b /\ a) /\ (posL (hoL p) = false -> b /\ ((okN75 N (quiet c) (c, []) /\ e /\ c = c /\ b /\ ([] : List (List Bool × Bool)) = [] /\ b /\ (b /\ e) /\ b) /\ b /\ e) /\ b /\ b /\ (g = true -> a) /\ (g = false -> b /\ b /\ b /\ b /\ b /\ (f /\ true = colB N p /\ d /\ b) /\ b)))) (b /\ b /\ b /\ b /\ (f /\ false = colB N p /\ d /\ b) /\ b)) (b /\ b /\ b /\ b /\ b)) (True)) (!(fl N c [] []).fst)) (mk (isF p))) ((0 : Int) = 0)) (([] : List (Int × Int)) = colL N p)) (by kernel_rfl) ?_
 simp only [zz]
 have hho : (hoL p).length <= 64 := hoL_le h
 refine ⟨⟨h⟩, fun hx => absurd trivial hx, fun _ => ⟨⟨h, rfl⟩, hho, fun h1 => ?_, fun h1 => ⟨⟨pre33 hN p, rfl, hq⟩, fun h2 => ?_, fun h2 => ?_⟩⟩⟩
 · simp [colL, colB, h1]
 · have h2 : (fl N (mk (isF p)) [] []).1 = false := by simpa using h2
   simp [colL, colB, h1, h2]
 · have h2 : (fl N (mk (isF p)) [] []).1 = true := by simpa using h2
   simp [colL, colB, h1, h2, fl_quiet hq]
theorem call46O (N : Nat) (n : Int) (p : List Int) (hN : N = 33) (h : cxOk n p) (hq : ¬ quiet (mk (isF p))) : GCall Try.prog gl 46 true [.int .i64 n, .sl I64 p] [] [.sl P2 (colL N p), .bool (colB N p), .int .i64 0] [] := by
 refine gcall_of (X := X [e53, e67, e59c, e75O N]) (X_ok [e53, e67, e59c, e75O N]) (f := 46) (fn := Try.f46) (c := bodyOf Try.f46) (by kernel_rfl) (by kernel_rfl) (view := true) (rvs := [.tmp 4, .tmp 5, .tmp 6]) (by kernel_rfl) (H := fun _ => none) 150 (by kernel_rfl) ?_
 refine of_eq (q := (fun (d : Prop) => (fun (c : Prop) => (fun (e : Prop) => (fun (b : List Bool) => (fun (f : RC) => (fun (a : Prop) => c /\ c /\ c /\ c /\ c /\ (CxP n p /\ c) /\ c /\ c /\ c /\ c /\ c /\ c /\ c /\ (¬d -> c /\ a) /\ (¬¬d -> c /\ c /\ c /\ c /\ c /\ c /\ c /\ c /\ c /\ c /\ c /\ c /\ c /\ c /\ ((okC (n, p, b) /\ (c /\ c) /\ (n = n /\ p = p /\ b = b /\ c) /\ c) /\ c /\ c) /\ (((hoL p).length <= 64 /\ (hoL p = hoL p /\ (c /\ c) /\ c) /\ c) /\ c) /\ c /\ (posL (hoL p) = true -> c /\ a) /\ (posL (hoL p) = false -> c /\ ((okN75 N (¬quiet b) (b, []) /\ e /\ b = b /\ c /\ ([] : List (List Bool × Bool)) = [] /\ c /\ (c /\ e) /\ c) /\ c /\ e) /\ c /\ c /\ ((!f.fst) = true -> a) /\ ((!f.fst) = false -> c /\ c /\ c /\ c /\ c /\ (f.snd.snd.fst = colL N p /\ true = colB N p /\ d /\ c) /\ c)))) (c /\ c /\ c /\ c /\ (([] : List (Int × Int)) = colL N p /\ false = colB N p /\ d /\ c) /\ c)) (fl N b [] [])) (mk (isF p))) (c /\ c /\ c /\ c /\ c)) (True)) ((0 : Int) = 0)) (by kernel_rfl) ?_
 simp only [zz]
 have hho : (hoL p).length <= 64 := hoL_le h
 refine ⟨⟨h⟩, fun hx => absurd trivial hx, fun _ => ⟨⟨h, rfl⟩, hho, fun h1 => ?_, fun h1 => ⟨⟨pre33 hN p, rfl, hq⟩, fun h2 => ?_, fun h2 => ?_⟩⟩⟩
 · simp [colL, colB, h1]
 · have h2 : (fl N (mk (isF p)) [] []).1 = false := by simpa using h2
   simp [colL, colB, h1, h2]
 · have h2 : (fl N (mk (isF p)) [] []).1 = true := by simpa using h2
   simp [colL, colB, h1, h2]
def colR (p : List Int) : Bool := colB 33 p
def colP (p : List Int) : LP := colL 33 p
theorem call46 (n : Int) (p : List Int) (h : cxOk n p) : GCall Try.prog gl 46 true [.int .i64 n, .sl I64 p] [] [.sl P2 (colP p), .bool (colR p), .int .i64 0] [] := by
 by_cases hq : quiet (mk (isF p))
 · exact call46N 33 n p rfl h hq
 · exact call46O 33 n p rfl h hq
end Go.Am.Sh

/- Shells: what is left; News of no complex. -/
namespace Go.Am.Sh
open Go Go.Am Go.Proofs
def tkI (xs : Fs) (q : Int × Int) : Fs := (xs.set q.1.toNat false).set q.2.toNat false
def lfA (xs : Fs) (l : LP) : Nat -> Fs
 | 0 => xs
 | k + 1 => tkI (lfA xs l k) (l.getD k (0, 0))
def lfC (xs : Fs) (l : LP) (k : Nat) : Bool := canR (gB (lfA xs l k)) (l.getD k (0, 0)).1 (l.getD k (0, 0)).2
def lfB (xs : Fs) (l : LP) : Bool := decide (∀ i, i < l.length -> lfC xs l i = true)
def lfR (xs : Fs) (l : LP) : List Int := if lfB xs l = true then trueN (gB (lfA xs l l.length)) 64 else []
theorem lfA_len {xs : Fs} {l : LP} : ∀ {k : Nat}, (lfA xs l k).length = xs.length
 | 0 => rfl
 | k + 1 => by rw [lfA, tkI, List.length_set, List.length_set, lfA_len]
noncomputable def L50_0 : Code := lp (bodyOf Try.f50) 0
def st50 (xs : Fs) (l : LP) (k : Nat) : St := ⟨dd 11 ++ .ptr 0 0 [] :: dd 16 ++ .sl P2 l :: .int .i64 l.length :: .int .i64 k :: dd 21, [.bx (.ar .bool 64 (lfA xs l k))]⟩
def in50 (xs : Fs) (l : LP) (k : Nat) : Prop := k <= l.length /\ ∀ i, i < k -> lfC xs l i = true
def ex50 (xs : Fs) (l : LP) : List (List Nat × Ex) := [([11], ⟨0, Unit, fun _ => lfB xs l = true, fun _ => ⟨dd 11 ++ .ptr 0 0 [] :: dd 40, [.bx (.ar .bool 64 (lfA xs l l.length))]⟩⟩)]
def h50 (xs : Fs) (l : LP) : Hint := ⟨chk 0 [11, 28, 29, 30] (in50 xs l) (st50 xs l), (ex50 xs l).map (·.2)⟩
noncomputable abbrev X50 : Cy := Xm [e53, e66, e79] 0 (drOf [(11, 1000000)])
noncomputable def R50 (xs : Fs) (l : LP) : Exit -> St -> Prop := RetR X50 false true [.tmp 6, .tmp 7, .tmp 8] [.sl I64 (lfR xs l), .bool (lfB xs l), .int .i64 0] []
theorem loop50 (xs : Fs) (l : LP) (hx : xs.length = 64) (hl : l.length < 1000000000000000) : LoopOK X50 L50_0 (h50 xs l) (R50 xs l) := by
 refine loop_ok (Xm_ok _ _ _) (H := fun _ _ => none) [11, 28, 29, 30] (in50 xs l) (st50 xs l) (fun k => l.length - k) (ex50 xs l) 400 fun (k : Nat) hk => ?_
 refine of_eq (q := (fun (r : Int) => (fun (m : Int) => (fun (i : Int) => (fun (e : Fs) => (fun (d : Prop) => (fun (b : Int × Int) => (fun (o : Int) => (fun (n : Int) => (fun (p : Prop) => (fun (j : Bool) => (fun (h : List Bool) => (fun (f : Prop) => (fun (a : Prop) => (fun (s : Prop) => (fun (g : Prop) => (fun (q : Prop) => (fun (c : Prop) => d /\ (m < i -> idxPre m (List.length l) /\ d /\ d /\ d /\ idxPre r (2 : Nat) /\ d /\ idxPre (1 : Int) (2 : Nat) /\ d /\ d /\ d /\ d /\ d /\ d /\ ((List.length e = 64 /\ (e = e /\ f /\ d) /\ d) /\ d) /\ d /\ ((!j) = true -> d /\ d /\ d /\ d /\ (([] : List Int) = lfR xs l /\ false = lfB xs l /\ r = r /\ d) /\ d) /\ ((!j) = false -> ((d /\ (d /\ c /\ (p /\ (d /\ (d /\ a) /\ s) /\ (d /\ s) /\ d) /\ d) /\ (d /\ c /\ q) /\ d) /\ (d /\ (d /\ c /\ q) /\ (d /\ q) /\ d) /\ d) /\ inR .i64 (m + 1) /\ d /\ ∃ (y : Nat), (in50 xs l y /\ List.length l - y < List.length l - k) /\ (d /\ l = l /\ i = i /\ m + 1 = (y : Int) /\ d) /\ h = lfA xs l y /\ d)) /\ (¬m < i -> ∃ (y : Unit), lfB xs l = true /\ (d /\ d) /\ e = lfA xs l (List.length l) /\ d)) (d /\ g /\ (p /\ (d /\ a) /\ s) /\ d)) ((d /\ g /\ d) /\ d)) (d /\ (p /\ a) /\ d)) ((d /\ a) /\ d)) ((d /\ (idxPre o (64 : Nat) /\ (d /\ (d /\ d /\ d /\ l = l /\ i = i /\ m = m /\ true = true /\ [n, o] = [n, o] /\ n = n /\ o = o /\ f /\ e = e /\ f /\ j = j /\ false = false /\ f) /\ h = h /\ [n, o] = [n, o] /\ f /\ d) /\ d) /\ d) /\ d)) (n = n /\ o = o /\ d)) ((List.set e n.toNat false).set o.toNat false)) (canR (gB e) n o)) (idxPre n (64 : Nat))) (b.fst)) (b.snd)) (List.getD l k (r, r))) (True)) (lfA xs l k)) ((↑(List.length l) : Int))) ((k : Int))) ((0 : Int))) (by kernel_rfl) ?_
 simp only [zz]
 obtain ⟨k1, k2⟩ := hk
 refine ⟨fun hk => ?_, fun hk => ?_⟩
 · have hk : k < l.length := by omega
   refine ⟨idx_nat hk, by unfold idxPre; omega, by unfold idxPre; omega, by rw [lfA_len, hx], fun hc => ?_, fun hc => ?_⟩
   · have hc : lfC xs l k = false := by unfold lfC; simpa using hc
     have hb : lfB xs l = false := decide_eq_false fun h => by rw [h k hk] at hc; cases hc
     unfold lfR
     rw [hb]
     exact ⟨rfl, rfl⟩
   · have hc : lfC xs l k = true := by unfold lfC; simpa using hc
     obtain ⟨⟨a1, a2⟩, ⟨b1, b2⟩, _⟩ : canP (gB (lfA xs l k)) (l.getD k (0, 0)).1 (l.getD k (0, 0)).2 := of_decide_eq_true hc
     have ha : idxPre (l.getD k (0, 0)).1 64 := by unfold idxPre; omega
     have hb : idxPre (l.getD k (0, 0)).2 64 := by unfold idxPre; omega
     simp only [ha, hb, and_self, true_and]
     refine ⟨by simp only [inR]; omega, k + 1, ⟨⟨by omega, fun i hi => ?_⟩, by omega⟩, by omega, rfl⟩
     by_cases e : i = k
     · rw [e]; exact hc
     · exact k2 i (by omega)
 · have e : k = l.length := by omega
   subst e
   exact ⟨decide_eq_true k2, rfl⟩
theorem call50 (n : Int) (p : List Int) (l : LP) (h : cxOk n p /\ l.length < 1000000000000000) : GCall Try.prog gl 50 false [.int .i64 n, .sl I64 p, .sl P2 l] [] [.sl I64 (lfR (mk (isF p)) l), .bool (lfB (mk (isF p)) l), .int .i64 0] [] := by
 have hL := loop50 (mk (isF p)) l (mk_length _) h.2
 refine gcall_of (X := X50) ((Xm_ok _ _ _)) (f := 50) (fn := Try.f50) (c := bodyOf Try.f50) (by kernel_rfl) (by kernel_rfl) (view := true) (rvs := [.tmp 6, .tmp 7, .tmp 8]) (by kernel_rfl) (H := (fun _ => some (h50 (mk (isF p)) l))) 150 (by kernel_rfl) ?_
 refine of_eq (q := (fun (c : Int) => (fun (b : Prop) => (fun (a : List Bool) => b /\ b /\ b /\ b /\ b /\ (CxP n p /\ b) /\ b /\ b /\ b /\ b /\ b /\ b /\ b /\ (¬c = c -> b /\ b /\ b /\ b /\ b /\ (([] : List Int) = lfR a l /\ false = lfB a l /\ c = c /\ b) /\ b) /\ (¬¬c = c -> b /\ b /\ b /\ b /\ b /\ b /\ b /\ b /\ b /\ LoopOK X50 L50_0 (h50 a l) (R50 a l) /\ (∃ (y : Nat), in50 a l y /\ (b /\ l = l /\ (↑(List.length l) : Int) = (↑(List.length l) : Int) /\ c = (y : Int) /\ b) /\ a = lfA a l y /\ b) /\ (∀ (y : Unit), lfB a l = true -> b /\ (List.length (lfA a l (List.length l)) = 64 /\ b) /\ b /\ b /\ b /\ b /\ (trueN (gB (lfA a l (List.length l))) (64 : Nat) = lfR a l /\ true = lfB a l /\ c = c /\ b) /\ b) /\ b)) (mk (isF p))) (True)) ((0 : Int))) (by kernel_rfl) ?_
 simp only [zz]
 refine ⟨⟨h.1⟩, fun hx => absurd trivial hx, fun _ => ⟨hL, ⟨0, ⟨Nat.zero_le _, fun i hi => absurd hi (Nat.not_lt_zero _)⟩, rfl, rfl⟩, fun _ h1 => ⟨by rw [lfA_len, mk_length], ?_, h1.symm⟩⟩⟩
 unfold lfR
 rw [if_pos h1]
end Go.Am.Sh

/- Shells: the law of the checks. -/
namespace Go.Am.Sh
open Go Go.Am Go.Proofs
def g50 : Entry Try.prog gl := entry3 50 ⟨Try.f50, by kernel_rfl, by kernel_rfl, by kernel_rfl⟩ I64 SI (.sl P2) (fun (n : Int) p l => cxOk n p /\ (l : LP).length < 1000000000000000) false (fun _ p l => [.sl I64 (lfR (mk (isF p)) l), .bool (lfB (mk (isF p)) l), .int .i64 0]) (fun _ _ _ => []) (fun n p l h => call50 n p l h)
end Go.Am.Sh

/- Shells: the boundary of a boundary. -/
namespace Go.Am.Sh
open Go Go.Am Go.Proofs
/-- The sum of the rows of the faces that are bits of v. -/
def bd (v : Nat) : Nat -> Nat
 | 0 => 0
 | k + 1 => if v.testBit k then bd v k ^^^ row k else bd v k
theorem bd_bd : ∀ x : Fin 64, bd (row x.val) 64 = 0 := by decide +kernel
theorem xlc (a b c : Nat) : a ^^^ (b ^^^ c) = b ^^^ (a ^^^ c) := by rw [<- Nat.xor_assoc, <- Nat.xor_assoc, Nat.xor_comm a b]
theorem bd_xor (u v : Nat) : ∀ k, bd (u ^^^ v) k = bd u k ^^^ bd v k
 | 0 => by simp [bd]
 | k + 1 => by
   rw [bd, bd, bd, bd_xor u v k, Nat.testBit_xor]
   cases hu : u.testBit k <;> cases hv : v.testBit k
   · simp
   · simp [Nat.xor_assoc]
   · simp only [Bool.xor_false, if_true, Bool.false_eq_true, if_false]; rw [Nat.xor_assoc, Nat.xor_assoc, Nat.xor_comm (row k)]
   · simp only [Bool.xor_self, if_true, Bool.false_eq_true, if_false]; rw [Nat.xor_assoc, xlc (row k), Nat.xor_self, Nat.xor_zero]
end Go.Am.Sh

/- Shells: the reference's collapses: sizes of any numbers. -/
namespace Go.Am.Sh
open Go Go.Am Go.Proofs
theorem pcK_past (x : Nat) {k : Nat} (h : x / 2 ^ k = 0) : ∀ j, pcK x (k + j) = pcK x k
 | 0 => rfl
 | j + 1 => by
   rw [<- Nat.add_assoc, pcK, pcK_past x h j]
   have : x / 2 ^ (k + j) = 0 := by rw [Nat.pow_add, <- Nat.div_div_eq_div_mul, h, Nat.zero_div]
   rw [this, Nat.zero_mod, Nat.add_zero]
def szI (x : Int) : Nat := pcK x.toNat 63
def inv29b (k : Nat) : Prop := k <= 63
def ex29b (x : Int) : List (List Nat × Ex) := [([3], ⟨0, Unit, fun _ => True, fun _ => ⟨.dead :: .dead :: .dead :: .int .i64 (szI x) :: dd 14, []⟩⟩)]
noncomputable def H29b (x : Int) : Nat -> Option Hint := fun _ => some ⟨chk 0 [0, 3, 4] (inv29b) (st29 x), (ex29b x).map (·.2)⟩
theorem loop29b (x : Int) (h : inR .i64 x) (R : Exit -> St -> Prop) : LoopOK (X []) L29_0 ⟨chk 0 [0, 3, 4] (inv29b) (st29 x), (ex29b x).map (·.2)⟩ R := by
 refine loop_ok (X_ok []) (H := fun _ _ => none) [0, 3, 4] (inv29b) (st29 x) (fun k => 63 - k) (ex29b x) 80 fun (k : Nat) hk => ?_
 refine of_eq (q := (fun (d : Int) => (fun (c : Prop) => (fun (b : Prop) => (fun (a : Int) => c /\ c /\ b /\ c /\ ((0 : Int) < d -> c /\ c /\ c /\ b /\ ¬(2 : Int) = 0 /\ inR .i64 a /\ c /\ c /\ inR .i64 ((k : Int) + 1) /\ c /\ ∃ (y : Nat), (inv29b y /\ (63 : Nat) - y < 63 - k) /\ (x = x /\ a = (↑(pcK x.toNat y) : Int) /\ (k : Int) + 1 = (y : Int) /\ c) /\ c) /\ (¬(0 : Int) < d -> ∃ (y : Unit), c /\ ((↑(pcK x.toNat k) : Int) = (↑(szI x) : Int) /\ c) /\ c)) ((↑(pcK x.toNat k) : Int) + d.tmod (2 : Int))) ((0 : Int) <= (k : Int) /\ (k : Int) < bitsOf .i64)) (True)) (x / (2 : Int) ^ k)) (by kernel_rfl) ?_
 simp only [zz]
 have hk : k <= 63 := hk
 simp only [inR] at h
 by_cases hx : 0 <= x
 · obtain ⟨n, rfl⟩ : ∃ n : Nat, x = n := ⟨x.toNat, by omega⟩
   have hn : n < 2 ^ 63 := by omega
   simp only [Int.toNat_natCast, szI]
   have e : (n : Int) / 2 ^ k = ((n / 2 ^ k : Nat) : Int) := by rw [Int.natCast_ediv, Int.natCast_pow]; try rfl
   have ha := pcK_past n (k := k)
   have hp := pcK_le n k
   have h3 : k = 63 -> n / 2 ^ k = 0 := fun e => by rw [e]; exact Nat.div_eq_of_lt hn
   generalize hd : n / 2 ^ k = d at *
   rw [e, Int.tmod_eq_emod_of_nonneg (by omega)]
   have h2 : d % 2 < 2 := Nat.mod_lt _ (by decide)
   refine ⟨by simp only [bitsOf]; omega, fun h0 => ⟨by simp only [bitsOf]; omega, by decide, by simp only [inR]; omega, by simp only [inR]; omega, k + 1, ⟨?_, by omega⟩, by rw [pcK, hd]; omega, by omega⟩, fun h0 => ?_⟩
   · unfold inv29b; omega
   · have := ha (by omega) (63 - k)
     rw [show k + (63 - k) = 63 by omega] at this
     rw [this]
 · have hz : x.toNat = 0 := by omega
   have h0 : ¬ 0 < x / 2 ^ k := by
     have : x / 2 ^ k < 0 := Int.ediv_neg_of_neg_of_pos (by omega) (Int.pow_pos (by decide))
     omega
   refine ⟨by simp only [bitsOf]; omega, fun h1 => absurd h1 h0, fun _ => ?_⟩
   have h9 : ∀ j, pcK 0 j = 0 := fun j => by have := pcK_past 0 (k := 0) rfl j; rw [Nat.zero_add] at this; rw [this]; try rfl
   rw [szI, hz, h9, h9]
theorem call29b (x : Int) (h : inR .i64 x) : GCall Try.prog gl 29 true [.int .i64 x] [] [.int .i64 (szI x)] [] := by
 refine gcall_of (X := X []) (X_ok []) (f := 29) (fn := Try.f29) (c := bodyOf Try.f29) (by kernel_rfl) (by kernel_rfl) (view := false) (rvs := [.tmp 2]) (by kernel_rfl) (H := (H29b x)) 80 (by kernel_rfl) ?_
 have hL := loop29b x h
 refine of_eq (q := (fun (a : Prop) => a /\ a /\ a /\ LoopOK (X []) L29_0 { J := chk (0 : Nat) [(0 : Nat), (3 : Nat), (4 : Nat)] inv29b (st29 x), exits := List.map (fun (x : List Nat × Ex) => x.snd) (ex29b x) } (RetR (X []) true false [ResultVar.tmp (2 : Tmp)] [AV.int .i64 (↑(szI x) : Int)] []) /\ (∃ (y : Nat), inv29b y /\ (x = x /\ (0 : Int) = (↑(pcK x.toNat y) : Int) /\ (0 : Int) = (y : Int) /\ a) /\ a) /\ (∀ (y : Unit), a -> a /\ a /\ a /\ ((↑(szI x) : Int) = (↑(szI x) : Int) /\ a) /\ a) /\ a) (True)) (by kernel_rfl) ?_
 simp only [zz]
 exact ⟨hL _, ⟨0, Nat.zero_le _, rfl, rfl⟩, fun _ _ => trivial⟩
def b29 : Entry Try.prog gl := entry1 29 ⟨Try.f29, by kernel_rfl, by kernel_rfl, by kernel_rfl⟩ I64 (fun (x : Int) => inR .i64 x) true (fun (x : Int) => [.int .i64 (szI x)]) (fun _ => []) call29b
def ptI (x y : Int) : Bool := decide (bNot .i64 x y = 0)
theorem call63b (x y : Int) (_ : True) : GCall Try.prog gl 63 true [.int .i64 x, .int .i64 y] [] [.bool (ptI x y)] [] := by
 refine gcall_of (X := X []) (X_ok []) (f := 63) (fn := Try.f63) (c := bodyOf Try.f63) (by kernel_rfl) (by kernel_rfl) (view := false) (rvs := [.tmp 4]) (by kernel_rfl) (H := fun _ => none) 80 (by kernel_rfl) ?_
 refine of_eq (q := True /\ True /\ True /\ True /\ True /\ True /\ True /\ (decide (bNot .i64 x y = 0) = ptI x y /\ True) /\ True) (by kernel_rfl) ?_
 simp only [zz]
 rfl
def b63 : Entry Try.prog gl := entry2 63 ⟨Try.f63, by kernel_rfl, by kernel_rfl, by kernel_rfl⟩ I64 I64 (fun _ _ => True) true (fun (x y : Int) => [.bool (ptI x y)]) (fun _ _ => []) call63b
def oneB (l : List Int) : Bool := decide (l.length = 2 /\ l.getD 0 0 = 0 /\ pc (l.getD 1 0).toNat = 1)
theorem call49 (l : List Int) (h : okL l) : GCall Try.prog gl 49 true [.sl I64 l] [] [.bool (oneB l)] [] := by
 refine gcall_of (X := X [e29]) (X_ok [e29]) (f := 49) (fn := Try.f49) (c := bodyOf Try.f49) (by kernel_rfl) (by kernel_rfl) (view := false) (rvs := [.tmp 2]) (by kernel_rfl) (H := fun _ => none) 80 (by kernel_rfl) ?_
 refine of_eq (q := (fun (b : Int) => (fun (d : Int) => (fun (a : Prop) => (fun (c : Prop) => a /\ a /\ a /\ a /\ a /\ ((l.length : Int) = 2 -> a /\ idxPre b l.length /\ a /\ a /\ a /\ a /\ (l.getD (0 : Nat) b = b -> a /\ idxPre (1 : Int) l.length /\ a /\ ((b <= d /\ d < 64) /\ a) /\ a /\ a /\ a /\ a /\ (decide ((↑(pc d.toNat) : Int) = 1) = oneB l /\ a) /\ a) /\ (¬l.getD (0 : Nat) b = b -> c)) /\ (¬(l.length : Int) = 2 -> a /\ a /\ c)) (a /\ a /\ a /\ (false = oneB l /\ a) /\ a)) (True)) (l.getD (1 : Nat) b)) ((0 : Int))) (by kernel_rfl) ?_
 simp only [zz]
 have := okL_get h 1
 unfold oneB
 refine ⟨fun h2 => ⟨by unfold idxPre; omega, fun h3 => ⟨by unfold idxPre; omega, this, ?_⟩, fun h3 => (decide_eq_false fun h4 => h3 h4.2.1).symm⟩, fun h2 => (decide_eq_false fun h4 => h2 (by rw [h4.1]; rfl)).symm⟩
 refine decide_eq_decide.mpr ⟨fun h4 => ⟨by omega, h3, by omega⟩, fun h4 => by rw [h4.2.2]; rfl⟩
def e49 : Entry Try.prog gl := entry1 49 ⟨Try.f49, by kernel_rfl, by kernel_rfl, by kernel_rfl⟩ SI (fun l => okL l) true (fun l => [.bool (oneB l)]) (fun _ => []) (call49)
def cpre (f e : Int) : Prop := 0 < f /\ ptI f e = true /\ szI e = szI f + 1
instance (f e : Int) : Decidable (cpre f e) := by unfold cpre; infer_instance
def ndC (f e x : Int) : Bool := decide (x = f ∨ x = e)
def gdK (l : List Int) (f e : Int) (k : Nat) : Prop := ∀ x ∈ l.take k, ndC f e x = false -> ptI f x = false
instance (l f e k) : Decidable (gdK l f e k) := by unfold gdK; infer_instance
def kpK (l : List Int) (f e : Int) (k : Nat) : List Int := (l.take k).filter fun x => !ndC f e x
def mtK (l : List Int) (f e : Int) (k : Nat) : Nat := ((l.take k).filter (ndC f e)).length
def clOk (l : List Int) (f e : Int) : Prop := cpre f e /\ gdK l f e l.length
instance (l f e) : Decidable (clOk l f e) := by unfold clOk; infer_instance
def clR (l : List Int) (f e : Int) : List Int := if clOk l f e then kpK l f e l.length else []
def clB (l : List Int) (f e : Int) : Bool := decide (clOk l f e /\ mtK l f e l.length = 2)
theorem kpK_len (l : List Int) (f e : Int) (k : Nat) : (kpK l f e k).length <= k := Nat.le_trans (List.length_filter_le _ _) (by rw [List.length_take]; omega)
theorem mtK_len (l : List Int) (f e : Int) (k : Nat) : mtK l f e k <= k := Nat.le_trans (List.length_filter_le _ _) (by rw [List.length_take]; omega)
theorem mt_hit {l : List Int} {f e : Int} {k : Nat} (h : k < l.length) (hn : ndC f e (l.getD k 0) = true) : mtK l f e (k + 1) = mtK l f e k + 1 /\ kpK l f e (k + 1) = kpK l f e k /\ (gdK l f e k -> gdK l f e (k + 1)) := by
 unfold mtK kpK gdK
 rw [take_getD (d := 0) h, List.filter_append, List.filter_append, List.filter_cons_of_pos hn, List.filter_cons_of_neg (by rw [hn]; decide)]
 refine ⟨by simp, by simp, fun h1 x hx hx2 => ?_⟩
 rcases List.mem_append.mp hx with h2 | h2
 · exact h1 x h2 hx2
 · rw [List.mem_singleton.mp h2, hn] at hx2; cases hx2
theorem mt_miss {l : List Int} {f e : Int} {k : Nat} (h : k < l.length) (hn : ndC f e (l.getD k 0) = false) (hp : ptI f (l.getD k 0) = false) : mtK l f e (k + 1) = mtK l f e k /\ kpK l f e (k + 1) = kpK l f e k ++ [l.getD k 0] /\ (gdK l f e k -> gdK l f e (k + 1)) := by
 unfold mtK kpK gdK
 rw [take_getD (d := 0) h, List.filter_append, List.filter_append, List.filter_cons_of_neg (by rw [hn]; decide), List.filter_cons_of_pos (by rw [hn]; decide)]
 refine ⟨by simp, by simp, fun h1 x hx hx2 => ?_⟩
 rcases List.mem_append.mp hx with h2 | h2
 · exact h1 x h2 hx2
 · rw [List.mem_singleton.mp h2]; exact hp
theorem gd_bad {l : List Int} {f e : Int} {k : Nat} (h : k < l.length) (hn : ndC f e (l.getD k 0) = false) (hp : ptI f (l.getD k 0) = true) : clR l f e = [] /\ clB l f e = false := by
 have hc : ¬ clOk l f e := fun ⟨_, h2⟩ => by
   have := h2 (l.getD k 0) (by rw [List.take_length]; exact mem_getD h) hn
   rw [hp] at this; cases this
 exact ⟨if_neg hc, decide_eq_false fun h2 => hc h2.1⟩
noncomputable def L51_0 : Code := lp (bodyOf Try.f51) 0
def sz51 (l : List Int) (f e : Int) (k : Nat) : St := ⟨.sl I64 l :: dd 5 ++ .int .i64 f :: .int .i64 e :: nl :: .int .i64 (mtK l f e k) :: .int .i64 k :: dd 51, []⟩
def st51 (l : List Int) (f e : Int) (k : Nat) : St := ⟨.sl I64 l :: dd 5 ++ .int .i64 f :: .int .i64 e :: .own 0 0 :: .int .i64 (mtK l f e k) :: .int .i64 k :: dd 51, [.sc 0 3 I64 (kpK l f e k)]⟩
def fm51 (l : List Int) (f e : Int) : List Fam := [⟨Nat, fun k => (k <= l.length /\ gdK l f e k) /\ kpK l f e k = [], sz51 l f e, fun k => l.length - k, fun _ _ => none⟩, ⟨Nat, fun k => k <= l.length /\ gdK l f e k, st51 l f e, fun k => l.length - k, fun _ _ => none⟩]
def ex51 (l : List Int) (f e : Int) : List (List Nat × Ex) := [([8, 9], ⟨0, Unit, fun _ => gdK l f e l.length /\ kpK l f e l.length = [], fun _ => ⟨dd 8 ++ nl :: .int .i64 (mtK l f e l.length) :: dd 52, []⟩⟩), ([8, 9], ⟨0, Unit, fun _ => gdK l f e l.length, fun _ => ⟨dd 8 ++ .own 0 0 :: .int .i64 (mtK l f e l.length) :: dd 52, [.sc 0 3 I64 (kpK l f e l.length)]⟩⟩)]
def h51 (l : List Int) (f e : Int) : Hint := ⟨chks 0 [0, 6, 7, 8, 9, 10] (fm51 l f e), (ex51 l f e).map (·.2)⟩
noncomputable abbrev X51 : Cy := X [b29, b63]
noncomputable def R51 (l : List Int) (f e : Int) : Exit -> St -> Prop := RetR X51 false true [.tmp 4, .tmp 5] [.sl I64 (clR l f e), .bool (clB l f e)] []
theorem loop51 (l : List Int) (f e : Int) (hl : l.length < 1000000) : LoopOK X51 L51_0 (h51 l f e) (R51 l f e) := by
 refine loop_fams (X_ok _) [0, 6, 7, 8, 9, 10] (fm51 l f e) (ex51 l f e) 150 ⟨fun (k : Nat) hk => ?_, fun (k : Nat) hk => ?_, trivial⟩
 · refine of_eq (q := (fun (h : Int) => (fun (g : Int) => (fun (d : Nat) => (fun (c : Prop) => (fun (b : Int) => (fun (i : Prop) => (fun (a : Prop) => c /\ c /\ c /\ c /\ ((k : Int) < (l.length : Int) -> c /\ c /\ idxPre (k : Int) l.length /\ c /\ c /\ c /\ c /\ c /\ c /\ (g = f -> c /\ a) /\ (¬g = f -> c /\ c /\ c /\ c /\ (g = e -> a) /\ (¬g = e -> c /\ c /\ (c /\ c) /\ (ptI f g = true -> c /\ c /\ c /\ (([] : List Int) = clR l f e /\ false = clB l f e /\ c) /\ c) /\ (ptI f g = false -> c /\ c /\ c /\ sumPre (0 : Nat) [g].length (nat_lit 8) /\ c /\ c /\ inR .i64 h /\ c /\ ((∃ (y : Nat), (((y <= d /\ gdK l f e y) /\ kpK l f e y = []) /\ d - y < d - k) /\ (l = l /\ f = f /\ e = e /\ False /\ b = (↑(mtK l f e y) : Int) /\ h = (y : Int) /\ c) /\ c) ∨ ∃ (y : Nat), ((y <= d /\ gdK l f e y) /\ d - y < d - k) /\ (l = l /\ f = f /\ e = e /\ c /\ b = (↑(mtK l f e y) : Int) /\ h = (y : Int) /\ c) /\ [g] = kpK l f e y /\ c))))) /\ (¬(k : Int) < (l.length : Int) -> (∃ (y : Unit), (gdK l f e d /\ kpK l f e d = []) /\ (c /\ i) /\ c) ∨ ∃ (y : Unit), gdK l f e d /\ (False /\ i) /\ False)) (c /\ inR .i64 (b + 1) /\ c /\ c /\ inR .i64 h /\ c /\ ((∃ (y : Nat), (((y <= d /\ gdK l f e y) /\ kpK l f e y = []) /\ d - y < d - k) /\ (l = l /\ f = f /\ e = e /\ c /\ b + 1 = (↑(mtK l f e y) : Int) /\ h = (y : Int) /\ c) /\ c) ∨ ∃ (y : Nat), ((y <= d /\ gdK l f e y) /\ d - y < d - k) /\ (l = l /\ f = f /\ e = e /\ False /\ b + 1 = (↑(mtK l f e y) : Int) /\ h = (y : Int) /\ c) /\ False))) (b = (↑(mtK l f e d) : Int) /\ c)) ((↑(mtK l f e k) : Int))) (True)) (l.length)) (l.getD k (0 : Int))) ((k : Int) + 1)) (by kernel_rfl) ?_
   simp only [zz]
   obtain ⟨⟨k1, k2⟩, k3⟩ := hk
   have m1 := mtK_len l f e k
   refine ⟨fun hk => ?_, fun hk => ?_⟩
   · have hk : k < l.length := by omega
     have hit : ndC f e (l.getD k 0) = true -> inR .i64 ((mtK l f e k : Int) + 1) /\ inR .i64 ((k : Int) + 1) /\ ∃ y : Nat, (((y <= l.length /\ gdK l f e y) /\ kpK l f e y = []) /\ l.length - y < l.length - k) /\ (mtK l f e k : Int) + 1 = (mtK l f e y : Int) /\ (k : Int) + 1 = (y : Int) := fun hn => by
       obtain ⟨a1, a2, a3⟩ := mt_hit hk hn
       exact ⟨by simp only [inR]; omega, by simp only [inR]; omega, k + 1, ⟨⟨⟨by omega, a3 k2⟩, by rw [a2]; exact k3⟩, by omega⟩, by omega, by omega⟩
     refine ⟨idx_nat hk, fun h1 => hit (decide_eq_true (.inl h1)), fun h1 => ⟨fun h2 => hit (decide_eq_true (.inr h2)), fun h2 => ?_⟩⟩
     have hn : ndC f e (l.getD k 0) = false := decide_eq_false fun h => h.elim h1 h2
     refine ⟨fun h3 => ?_, fun h3 => ?_⟩
     · obtain ⟨a1, a2⟩ := gd_bad hk hn h3
       exact ⟨a1.symm, a2.symm⟩
     · obtain ⟨a1, a2, a3⟩ := mt_miss hk hn h3
       exact ⟨by unfold sumPre; simp, by simp only [inR]; omega, k + 1, ⟨⟨by omega, a3 k2⟩, by omega⟩, ⟨by omega, by omega⟩, by rw [a2, k3]; rfl⟩
   · have e1 : k = l.length := by omega
     subst e1
     exact ⟨⟨k2, k3⟩, rfl⟩
 · refine of_eq (q := (fun (i : List Int) => (fun (h : Int) => (fun (g : Int) => (fun (d : Nat) => (fun (c : Prop) => (fun (b : Int) => (fun (j : Prop) => (fun (a : Prop) => c /\ c /\ c /\ c /\ ((k : Int) < (l.length : Int) -> c /\ c /\ idxPre (k : Int) l.length /\ c /\ c /\ c /\ c /\ c /\ c /\ (g = f -> c /\ a) /\ (¬g = f -> c /\ c /\ c /\ c /\ (g = e -> a) /\ (¬g = e -> c /\ c /\ (c /\ c) /\ (ptI f g = true -> c /\ c /\ c /\ (([] : List Int) = clR l f e /\ false = clB l f e /\ c) /\ c) /\ (ptI f g = false -> c /\ c /\ c /\ sumPre i.length [g].length (nat_lit 8) /\ c /\ c /\ inR .i64 h /\ c /\ ((∃ (y : Nat), (((y <= d /\ gdK l f e y) /\ kpK l f e y = []) /\ d - y < d - k) /\ (l = l /\ f = f /\ e = e /\ False /\ b = (↑(mtK l f e y) : Int) /\ h = (y : Int) /\ c) /\ c) ∨ ∃ (y : Nat), ((y <= d /\ gdK l f e y) /\ d - y < d - k) /\ (l = l /\ f = f /\ e = e /\ c /\ b = (↑(mtK l f e y) : Int) /\ h = (y : Int) /\ c) /\ i ++ [g] = kpK l f e y /\ c))))) /\ (¬(k : Int) < (l.length : Int) -> (∃ (y : Unit), (gdK l f e d /\ kpK l f e d = []) /\ (False /\ j) /\ c) ∨ ∃ (y : Unit), gdK l f e d /\ (c /\ j) /\ i = kpK l f e d /\ c)) (c /\ inR .i64 (b + 1) /\ c /\ c /\ inR .i64 h /\ c /\ ((∃ (y : Nat), (((y <= d /\ gdK l f e y) /\ kpK l f e y = []) /\ d - y < d - k) /\ (l = l /\ f = f /\ e = e /\ False /\ b + 1 = (↑(mtK l f e y) : Int) /\ h = (y : Int) /\ c) /\ c) ∨ ∃ (y : Nat), ((y <= d /\ gdK l f e y) /\ d - y < d - k) /\ (l = l /\ f = f /\ e = e /\ c /\ b + 1 = (↑(mtK l f e y) : Int) /\ h = (y : Int) /\ c) /\ i = kpK l f e y /\ c))) (b = (↑(mtK l f e d) : Int) /\ c)) ((↑(mtK l f e k) : Int))) (True)) (l.length)) (l.getD k (0 : Int))) ((k : Int) + 1)) (kpK l f e k)) (by kernel_rfl) ?_
   simp only [zz]
   obtain ⟨k1, k2⟩ := hk
   have m1 := mtK_len l f e k
   have m2 := kpK_len l f e k
   refine ⟨fun hk => ?_, fun hk => ?_⟩
   · have hk : k < l.length := by omega
     have hit : ndC f e (l.getD k 0) = true -> inR .i64 ((mtK l f e k : Int) + 1) /\ inR .i64 ((k : Int) + 1) /\ ∃ y : Nat, ((y <= l.length /\ gdK l f e y) /\ l.length - y < l.length - k) /\ ((mtK l f e k : Int) + 1 = (mtK l f e y : Int) /\ (k : Int) + 1 = (y : Int)) /\ kpK l f e k = kpK l f e y := fun hn => by
       obtain ⟨a1, a2, a3⟩ := mt_hit hk hn
       exact ⟨by simp only [inR]; omega, by simp only [inR]; omega, k + 1, ⟨⟨by omega, a3 k2⟩, by omega⟩, ⟨by omega, by omega⟩, a2.symm⟩
     refine ⟨idx_nat hk, fun h1 => hit (decide_eq_true (.inl h1)), fun h1 => ⟨fun h2 => hit (decide_eq_true (.inr h2)), fun h2 => ?_⟩⟩
     have hn : ndC f e (l.getD k 0) = false := decide_eq_false fun h => h.elim h1 h2
     refine ⟨fun h3 => ?_, fun h3 => ?_⟩
     · obtain ⟨a1, a2⟩ := gd_bad hk hn h3
       exact ⟨a1.symm, a2.symm⟩
     · obtain ⟨a1, a2, a3⟩ := mt_miss hk hn h3
       exact ⟨by unfold sumPre; simp; omega, by simp only [inR]; omega, k + 1, ⟨⟨by omega, a3 k2⟩, by omega⟩, ⟨by omega, by omega⟩, a2.symm⟩
   · have e1 : k = l.length := by omega
     subst e1
     exact ⟨k2, rfl, rfl⟩
def ar2 (f e : Int) : AV := .ar I64 2 [f, e]
theorem call51 (l : List Int) (f e : Int) (h : l.length < 1000000 /\ inR .i64 f /\ inR .i64 e) : GCall Try.prog gl 51 false [.sl I64 l, ar2 f e] [] [.sl I64 (clR l f e), .bool (clB l f e)] [] := by
 have hL := loop51 l f e h.1
 refine gcall_of (X := X51) ((X_ok _)) (f := 51) (fn := Try.f51) (c := bodyOf Try.f51) (by kernel_rfl) (by kernel_rfl) (view := true) (rvs := [.tmp 4, .tmp 5]) (by kernel_rfl) (H := (fun _ => some (h51 l f e))) 150 (by kernel_rfl) ?_
 refine of_eq (q := (fun (h : Int) => (fun (g : Nat) => (fun (d : Int) => (fun (b : Prop) => (fun (c : Prop) => (fun (a : Prop) => b /\ b /\ b /\ idxPre h (2 : Nat) /\ b /\ idxPre (1 : Int) (2 : Nat) /\ b /\ b /\ b /\ b /\ b /\ b /\ (f <= h -> b /\ b /\ b /\ a) /\ (¬f <= h -> b /\ b /\ (b /\ b) /\ b /\ b /\ b /\ ((!ptI f e) = true -> b /\ a) /\ ((!ptI f e) = false -> b /\ (((-9223372036854775808 : Int) <= e /\ e <= 9223372036854775807) /\ b) /\ b /\ (((-9223372036854775808 : Int) <= f /\ f <= 9223372036854775807) /\ b) /\ inR .i64 d /\ b /\ b /\ (¬(↑(szI e) : Int) = d -> a) /\ (¬¬(↑(szI e) : Int) = d -> b /\ b /\ b /\ LoopOK X51 L51_0 (h51 l f e) (R51 l f e) /\ ((∃ (y : Nat), ((y <= g /\ gdK l f e y) /\ kpK l f e y = []) /\ (l = l /\ f = f /\ e = e /\ b /\ h = (↑(mtK l f e y) : Int) /\ h = (y : Int) /\ b) /\ b) ∨ ∃ (y : Nat), (y <= g /\ gdK l f e y) /\ (l = l /\ f = f /\ e = e /\ False /\ h = (↑(mtK l f e y) : Int) /\ h = (y : Int) /\ b) /\ False) /\ (∀ (y : Unit), gdK l f e g /\ kpK l f e g = [] -> b /\ b /\ b /\ b /\ b /\ b /\ (([] : List Int) = clR l f e /\ c) /\ b) /\ (∀ (y : Unit), gdK l f e g -> b /\ b /\ b /\ b /\ b /\ b /\ (kpK l f e g = clR l f e /\ c) /\ b) /\ b)))) (b /\ b /\ b /\ (([] : List Int) = clR l f e /\ false = clB l f e /\ b) /\ b)) (decide ((↑(mtK l f e g) : Int) = 2) = clB l f e /\ b)) (True)) ((↑(szI f) : Int) + 1)) (l.length)) ((0 : Int))) (by kernel_rfl) ?_
 simp only [zz]
 obtain ⟨h1, h2, h3⟩ := h
 have hno : ¬ cpre f e -> [] = clR l f e /\ false = clB l f e := fun hc => ⟨(if_neg fun h4 => hc h4.1).symm, (decide_eq_false fun h4 => hc h4.1.1).symm⟩
 refine ⟨by unfold idxPre; omega, by unfold idxPre; omega, fun h4 => hno fun hc => by have := hc.1; omega, fun h4 => ⟨fun h5 => hno fun hc => ?_, fun h5 => ⟨h3, h2, ?_, fun h6 => hno fun hc => h6 (by have := hc.2.2; omega), fun h6 => ?_⟩⟩⟩
 · have := hc.2.1
   rw [this] at h5; cases h5
 · have := pcK_le f.toNat 63
   have e1 : szI f = pcK f.toNat 63 := rfl
   simp only [inR]; omega
 · have hc : cpre f e := ⟨by omega, by simpa using h5, by omega⟩
   have ht : gdK l f e l.length -> decide ((mtK l f e l.length : Int) = 2) = clB l f e := fun hg => decide_eq_decide.mpr ⟨fun h7 => ⟨⟨hc, hg⟩, by omega⟩, fun h7 => by omega⟩
   refine ⟨hL, ⟨0, ⟨⟨Nat.zero_le _, fun x hx => by rw [List.take_zero] at hx; cases hx⟩, rfl⟩, rfl, rfl⟩, fun _ ⟨hg, hk⟩ => ⟨?_, ht hg⟩, fun _ hg => ⟨?_, ht hg⟩⟩
   · unfold clR; rw [if_pos ⟨hc, hg⟩]; exact hk.symm
   · unfold clR; rw [if_pos ⟨hc, hg⟩]
def e51 : Entry Try.prog gl := entry2 51 ⟨Try.f51, by kernel_rfl, by kernel_rfl, by kernel_rfl⟩ SI P2 (fun l q => (l : List Int).length < 1000000 /\ inR .i64 q.1 /\ inR .i64 q.2) false (fun l q => [.sl I64 (clR l q.1 q.2), .bool (clB l q.1 q.2)]) (fun _ _ => []) (fun l q h => call51 l q.1 q.2 h)
/-- The faces behind the first collapses, and whether all were. -/
def rlA (l : List Int) (c : LP) : Nat -> List Int
 | 0 => l
 | k + 1 => clR (rlA l c k) (c.getD k (0, 0)).1 (c.getD k (0, 0)).2
def rlC (l : List Int) (c : LP) (k : Nat) : Bool := clB (rlA l c k) (c.getD k (0, 0)).1 (c.getD k (0, 0)).2
def rlB (l : List Int) (c : LP) : Bool := decide (∀ i, i < c.length -> rlC l c i = true)
def rlR (l : List Int) (c : LP) : List Int := if rlB l c = true then rlA l c c.length else []
theorem clR_len (l : List Int) (f e : Int) : (clR l f e).length <= l.length := by
 unfold clR; split
 · exact kpK_len _ _ _ _
 · exact Nat.zero_le _
theorem rlA_len (l : List Int) (c : LP) : ∀ k, (rlA l c k).length <= l.length
 | 0 => Nat.le_refl _
 | k + 1 => Nat.le_trans (clR_len _ _ _) (rlA_len l c k)
def okP (c : LP) : Prop := ∀ i, inR .i64 (c.getD i (0, 0)).1 /\ inR .i64 (c.getD i (0, 0)).2
noncomputable def L48_0 : Code := lp (bodyOf Try.f48) 0
def st48 (l : List Int) (c : LP) (k : Nat) : St := ⟨.sl I64 (rlA l c k) :: .sl P2 c :: dd 4 ++ .int .i64 k :: dd 21, []⟩
def in48 (l : List Int) (c : LP) (k : Nat) : Prop := k <= c.length /\ ∀ i, i < k -> rlC l c i = true
def ex48 (l : List Int) (c : LP) : List (List Nat × Ex) := [([0], ⟨0, Unit, fun _ => rlB l c = true, fun _ => ⟨.sl I64 (rlA l c c.length) :: dd 27, []⟩⟩)]
def h48 (l : List Int) (c : LP) : Hint := ⟨chk 0 [0, 1, 6] (in48 l c) (st48 l c), (ex48 l c).map (·.2)⟩
noncomputable abbrev X48 : Cy := X [e51]
noncomputable def R48 (l : List Int) (c : LP) : Exit -> St -> Prop := RetR X48 false false [.tmp 4, .tmp 5] [.sl I64 (rlR l c), .bool (rlB l c)] []
theorem loop48 (l : List Int) (c : LP) (hl : l.length < 1000000) (hc : okP c) (hc2 : c.length < 1000000000000000) : LoopOK X48 L48_0 (h48 l c) (R48 l c) := by
 refine loop_ok (X_ok _) (H := fun _ _ => none) [0, 1, 6] (in48 l c) (st48 l c) (fun k => c.length - k) (ex48 l c) 150 fun (k : Nat) hk => ?_
 refine of_eq (q := (fun (e : Int) => (fun (d : List Int) => (fun (b : Prop) => (fun (a : Int × Int) => b /\ b /\ b /\ b /\ (e < (↑(List.length c) : Int) -> b /\ b /\ b /\ idxPre e (List.length c) /\ b /\ ((d.length < 1000000 /\ inR .i64 a.fst /\ inR .i64 a.snd) /\ b) /\ b /\ b /\ b /\ b /\ b /\ b /\ b /\ ((!clB d a.fst a.snd) = true -> b /\ b /\ b /\ (([] : List Int) = rlR l c /\ false = rlB l c /\ b) /\ b) /\ ((!clB d a.fst a.snd) = false -> b /\ b /\ b /\ inR .i64 (e + 1) /\ b /\ ∃ (y : Nat), (in48 l c y /\ List.length c - y < List.length c - k) /\ (clR d a.fst a.snd = rlA l c y /\ c = c /\ e + 1 = (y : Int) /\ b) /\ b)) /\ (¬e < (↑(List.length c) : Int) -> ∃ (y : Unit), rlB l c = true /\ (d = rlA l c (List.length c) /\ b) /\ b)) (List.getD c k ((0 : Int), (0 : Int)))) (True)) (rlA l c k)) ((k : Int))) (by kernel_rfl) ?_
 simp only [zz]
 obtain ⟨k1, k2⟩ := hk
 have hlen := rlA_len l c k
 refine ⟨fun h => ⟨idx_nat (by omega), ⟨by omega, hc k⟩, fun h2 => ?_, fun h2 => ⟨by simp only [inR]; omega, k + 1, ⟨⟨by omega, fun i hi => ?_⟩, by omega⟩, rfl, by omega⟩⟩, fun h => ?_⟩
 · have hb : rlB l c = false := decide_eq_false fun h3 => by
     have := h3 k (by omega)
     unfold rlC at this
     rw [this] at h2; cases h2
   unfold rlR
   rw [hb]; exact ⟨rfl, rfl⟩
 · by_cases e : i = k
   · subst e; unfold rlC; simpa using h2
   · exact k2 i (by omega)
 · have e : k = c.length := by omega
   subst e
   exact ⟨decide_eq_true k2, rfl⟩
theorem call48 (l : List Int) (c : LP) (h : (l.length < 1000000 /\ okP c) /\ c.length < 1000000000000000) : GCall Try.prog gl 48 false [.sl I64 l, .sl P2 c] [] [.sl I64 (rlR l c), .bool (rlB l c)] [] := by
 have hL := loop48 l c h.1.1 h.1.2 h.2
 refine gcall_of (X := X48) ((X_ok _)) (f := 48) (fn := Try.f48) (c := bodyOf Try.f48) (by kernel_rfl) (by kernel_rfl) (view := false) (rvs := [.tmp 4, .tmp 5]) (by kernel_rfl) (H := (fun _ => some (h48 l c))) 80 (by kernel_rfl) ?_
 refine of_eq (q := (fun (a : Prop) => a /\ a /\ a /\ LoopOK X48 L48_0 (h48 l c) (R48 l c) /\ (∃ (y : Nat), in48 l c y /\ (l = rlA l c y /\ c = c /\ (0 : Int) = (y : Int) /\ a) /\ a) /\ (∀ (y : Unit), rlB l c = true -> a /\ a /\ a /\ a /\ (rlA l c (List.length c) = rlR l c /\ true = rlB l c /\ a) /\ a) /\ a) (True)) (by kernel_rfl) ?_
 simp only [zz]
 refine ⟨hL, ⟨0, ⟨Nat.zero_le _, fun i hi => absurd hi (Nat.not_lt_zero _)⟩, rfl, rfl⟩, fun _ hb => ⟨?_, hb.symm⟩⟩
 unfold rlR; rw [if_pos hb]
def e48 : Entry Try.prog gl := entry2 48 ⟨Try.f48, by kernel_rfl, by kernel_rfl, by kernel_rfl⟩ SI (.sl P2) (fun l c => ((l : List Int).length < 1000000 /\ okP c) /\ (c : LP).length < 1000000000000000) false (fun l c => [.sl I64 (rlR l c), .bool (rlB l c)]) (fun _ _ => []) (fun l c h => call48 l c h)
end Go.Am.Sh

/- Shells: the reference's search for collapses. -/
namespace Go.Am.Sh
open Go Go.Am Go.Proofs
abbrev MJ := List (Int × Bool)
def giI (m : MJ) (k : Int) : Bool := (mGet I64 m k).getD false
def piI (m : MJ) (k : Int) : MJ := mPut I64 m k true
def kyK (l : List Int) : Nat -> Int
 | 0 => 0
 | k + 1 => bOr .i64 (kyK l k) (modU .i64 (1 * 2 ^ (l.getD k 0).toNat))
def kyI (l : List Int) : Int := kyK l l.length
abbrev RM := Bool × MJ
/-- The first pairs of faces, until one leads to a corner. -/
def rlK (l : List Int) (F : List Int -> MJ -> RM) (m : MJ) : Nat -> RM
 | 0 => (false, m)
 | q + 1 => if (rlK l F m q).1 = true then rlK l F m q else
     if clB l (l.getD (q / l.length) 0) (l.getD (q % l.length) 0) = true then F (clR l (l.getD (q / l.length) 0) (l.getD (q % l.length) 0)) (rlK l F m q).2 else rlK l F m q
def rf : Nat -> List Int -> MJ -> RM
 | 0, _, m => (false, m)
 | n + 1, l, m => if oneB l = true then (true, m) else if giI m (kyI l) = true then (false, m) else
     if (rlK l (rf n) m (l.length * l.length)).1 = true then rlK l (rf n) m (l.length * l.length) else (false, piI (rlK l (rf n) m (l.length * l.length)).2 (kyI l))
theorem rlK_stop {l : List Int} {F : List Int -> MJ -> RM} {m : MJ} {q : Nat} (h : (rlK l F m q).1 = true) : ∀ j, rlK l F m (q + j) = rlK l F m q
 | 0 => rfl
 | j + 1 => by rw [<- Nat.add_assoc, rlK, rlK_stop h j, if_pos h]
def moJ (m : MJ) : Ob := .mo I64 .bool m
def RQ (n : Nat) : Prop := ∀ (l : List Int) (m : MJ), okL l /\ l.length < 2 * n /\ l.length < 1000000 -> GCall Try.prog gl 78 false [.sl I64 l, .mp 0] [moJ m] [.bool (rf n l m).1] [moJ (rf n l m).2]
def unMJ : Ob -> Option MJ
 | .mo k v m => (if h : k = I64 /\ v = .bool then some (by obtain ⟨rfl, rfl⟩ := h; exact m) else none)
 | _ => none
def gt78 (xs : List AV) (obs : List Ob) : Option (List Int × MJ) :=
 match xs with
 | [.sl e l, _] => (match castL e I64 l, unMJ (obs.getD 0 .gone) with
   | some l, some m => some (l, m)
   | _, _ => none)
 | _ => none
def e78S (n : Nat) (h : RQ n) : Entry Try.prog gl := entryW 78 ⟨Try.f78, by kernel_rfl, by kernel_rfl, by kernel_rfl⟩ true gt78 (fun x => okL x.1 /\ x.1.length < 2 * n /\ x.1.length < 1000000) false (fun x => [.sl I64 x.1, .mp 0]) (fun x => [moJ x.2]) (fun x => [.bool (rf n x.1 x.2).1])
 (fun x => [moJ (rf n x.1 x.2).2]) (fun x hx => h x.1 x.2 hx)
noncomputable def Xmw (l : EL) (m0 : Nat) (hs : Nat -> Bool) : Cy := { mkX Try.prog tt gl l m0 (fun _ => none) with hs := hs }
theorem Xmw_ok (l : EL) (m0 : Nat) (hs : Nat -> Bool) : (Xmw l m0 hs).Ok := have h := mkX_ok tt_ok l m0 (fun _ => none); { tt := h.tt, Γ := h.Γ, Γd := h.Γd, Yl := h.Yl }
noncomputable abbrev X78 (n : Nat) (h : RQ n) : Cy := Xmw [e49, e51, e78S n h] 1 (fun t => Nat.beq t 24)
noncomputable def L78_0 : Code := lp (bodyOf Try.f78) 0
noncomputable def L78_2 : Code := lp (bodyOf Try.f78) 2
noncomputable def L78_4 : Code := lp (bodyOf Try.f78) 4
def sk78 (l : List Int) (m : MJ) (k : Nat) : St := ⟨.sl I64 l :: .mp 0 :: dd 3 ++ .int .i64 (kyK l k) :: .int .i64 k :: dd 54, [moJ m]⟩
def ik78 (l : List Int) (k : Nat) : Prop := k <= l.length
def xk78 (l : List Int) (m : MJ) : List (List Nat × Ex) := [([0, 1, 5], ⟨0, Unit, fun _ => True, fun _ => ⟨.sl I64 l :: .mp 0 :: dd 3 ++ .int .i64 (kyI l) :: dd 55, [moJ m]⟩⟩)]
def hk78 (l : List Int) (m : MJ) : Hint := ⟨chk 1 [0, 1, 5, 6] (ik78 l) (sk78 l m), (xk78 l m).map (·.2)⟩
theorem loop78k (n : Nat) (h : RQ n) (l : List Int) (m : MJ) (hl : l.length < 1000000) (ho : okL l) (R : Exit -> St -> Prop) : LoopOK (X78 n h) L78_0 (hk78 l m) R := by
 refine loop_ok (Xmw_ok _ _ _) (H := fun _ _ => none) [0, 1, 5, 6] (ik78 l) (sk78 l m) (fun k => l.length - k) (xk78 l m) 100 fun (k : Nat) hk => ?_
 refine of_eq (q := (fun (c : Int) => (fun (b : Int) => (fun (a : Prop) => a /\ a /\ a /\ a /\ (b < (l.length : Int) -> a /\ a /\ a /\ idxPre b l.length /\ a /\ (((0 : Int) <= c /\ c < bitsOf .i64) /\ a) /\ a /\ a /\ a /\ inR .i64 (b + 1) /\ a /\ ∃ (y : Nat), (ik78 l y /\ l.length - y < l.length - k) /\ (l = l /\ a /\ bOr .i64 (kyK l k) (modU .i64 ((1 : Int) * 2 ^ c.toNat)) = kyK l y /\ b + 1 = (y : Int) /\ a) /\ m = m /\ a) /\ (¬b < (l.length : Int) -> ∃ (y : Unit), a /\ (l = l /\ a /\ kyK l k = kyI l /\ a) /\ m = m /\ a)) (True)) ((k : Int))) (l.getD k (0 : Int))) (by kernel_rfl) ?_
 simp only [zz]
 have hk : k <= l.length := hk
 have h1 := okL_get ho k
 refine ⟨fun h2 => ⟨idx_nat (by omega), by simp only [bitsOf]; omega, by simp only [inR]; omega, k + 1, ⟨by unfold ik78; omega, by omega⟩, rfl, by omega⟩, fun h2 => by rw [kyI, show k = l.length by omega]⟩
def rA (n : Nat) (l : List Int) (m : MJ) (q : Nat) : RM := rlK l (rf n) m q
def si78 (n : Nat) (l : List Int) (m : MJ) (i : Nat) : St := ⟨.sl I64 l :: .mp 0 :: dd 3 ++ .int .i64 (kyI l) :: .dead :: .int .i64 i :: dd 53, [moJ (rA n l m (i * l.length)).2]⟩
def ii78 (n : Nat) (l : List Int) (m : MJ) (i : Nat) : Prop := i <= l.length /\ (rA n l m (i * l.length)).1 = false
def xi78 (n : Nat) (l : List Int) (m : MJ) : List (List Nat × Ex) := [([1, 5], ⟨2, Unit, fun _ => (rA n l m (l.length * l.length)).1 = false, fun _ => ⟨.dead :: .mp 0 :: dd 3 ++ .int .i64 (kyI l) :: dd 55, [moJ (rA n l m (l.length * l.length)).2]⟩⟩)]
def hi78 (n : Nat) (l : List Int) (m : MJ) : Hint := ⟨chk 1 [0, 1, 5, 7] (ii78 n l m) (si78 n l m), (xi78 n l m).map (·.2)⟩
def sj78 (n : Nat) (l : List Int) (m : MJ) (i k : Nat) : St := ⟨.sl I64 l :: .mp 0 :: dd 3 ++ .int .i64 (kyI l) :: .dead :: .int .i64 i :: .int .i64 k :: dd 52, [moJ (rA n l m (i * l.length + k)).2]⟩
def ij78 (n : Nat) (l : List Int) (m : MJ) (i k : Nat) : Prop := k <= l.length /\ (rA n l m (i * l.length + k)).1 = false
def xj78 (n : Nat) (l : List Int) (m : MJ) (i : Nat) : List (List Nat × Ex) := [([0, 1, 5, 7], ⟨4, Unit, fun _ => (rA n l m (i * l.length + l.length)).1 = false, fun _ => ⟨.sl I64 l :: .mp 0 :: dd 3 ++ .int .i64 (kyI l) :: .dead :: .int .i64 i :: dd 53, [moJ (rA n l m (i * l.length + l.length)).2]⟩⟩)]
def hj78 (n : Nat) (l : List Int) (m : MJ) (i : Nat) : Hint := ⟨chk 1 [0, 1, 5, 7, 8] (ij78 n l m i) (sj78 n l m i), (xj78 n l m i).map (·.2)⟩
noncomputable def R78 (n : Nat) (h : RQ n) (l : List Int) (m : MJ) : Exit -> St -> Prop := RetR (X78 n h) false false [.tmp 4] [.bool (rf (n + 1) l m).1] [moJ (rf (n + 1) l m).2]
structure ok78 (n : Nat) (l : List Int) (m : MJ) : Prop where
 o : okL l
 lt : l.length < 2 * (n + 1)
 b : l.length < 1000000
 one : oneB l = false
 g : giI m (kyI l) = false
theorem rA_step {n : Nat} {l : List Int} {m : MJ} {i k : Nat} (hi : i < l.length) (hk : k < l.length) (h0 : (rA n l m (i * l.length + k)).1 = false) : rA n l m (i * l.length + (k + 1)) = if clB l (l.getD i 0) (l.getD k 0) = true then rf n (clR l (l.getD i 0) (l.getD k 0)) (rA n l m (i * l.length + k)).2 else rA n l m (i * l.length + k) := by
 unfold rA at h0 |-
 have e1 : (i * l.length + k) / l.length = i := by rw [Nat.mul_comm, Nat.mul_add_div (by omega), Nat.div_eq_of_lt hk, Nat.add_zero]
 have e2 : (i * l.length + k) % l.length = k := by rw [Nat.mul_comm, Nat.mul_add_mod, Nat.mod_eq_of_lt hk]
 rw [<- Nat.add_assoc, rlK, if_neg (by rw [h0]; simp), e1, e2]
theorem rf_hit {n : Nat} {l : List Int} {m : MJ} {q : Nat} (h : ok78 n l m) (hq : q <= l.length * l.length) (hr : (rA n l m q).1 = true) : rf (n + 1) l m = rA n l m q := by
 obtain ⟨j, hj⟩ := Nat.exists_eq_add_of_le hq
 have e : rlK l (rf n) m (l.length * l.length) = rA n l m q := by rw [hj]; exact rlK_stop hr j
 rw [rf, if_neg (by rw [h.one]; simp), if_neg (by rw [h.g]; simp), e, if_pos hr]
theorem rf_miss {n : Nat} {l : List Int} {m : MJ} (h : ok78 n l m) (hr : (rA n l m (l.length * l.length)).1 = false) : rf (n + 1) l m = (false, piI (rA n l m (l.length * l.length)).2 (kyI l)) := by
 rw [rf, if_neg (by rw [h.one]; simp), if_neg (by rw [h.g]; simp), if_neg (by rw [show rlK l (rf n) m (l.length * l.length) = rA n l m (l.length * l.length) from rfl, hr]; simp)]
 rfl
theorem clB_len {l : List Int} {f e : Int} (h : clB l f e = true) : (clR l f e).length + 2 = l.length := by
 have h : clOk l f e /\ mtK l f e l.length = 2 := of_decide_eq_true h
 unfold clR
 rw [if_pos h.1]
 have h2 := h.2
 unfold mtK at h2
 unfold kpK
 rw [List.take_length] at h2 |-
 have h3 : ∀ l : List Int, (l.filter fun x => !ndC f e x).length + (l.filter (ndC f e)).length = l.length := by
   intro l
   induction l with
   | nil => rfl
   | cons a l ih =>
     cases ha : ndC f e a with
     | true => rw [List.filter_cons_of_neg (by rw [ha]; decide), List.filter_cons_of_pos ha, List.length_cons, List.length_cons]; omega
     | false => rw [List.filter_cons_of_pos (by rw [ha]; decide), List.filter_cons_of_neg (by rw [ha]; decide), List.length_cons, List.length_cons]; omega
 have := h3 l
 omega
theorem clR_ok {l : List Int} (h : okL l) (f e : Int) : okL (clR l f e) := by
 unfold clR; split
 · intro s hs
   unfold kpK at hs
   rw [List.take_length] at hs
   exact h s (List.mem_filter.mp hs).1
 · intro s hs; cases hs
theorem inR_of {x : Int} (h : 0 <= x /\ x < 64) : inR .i64 x := by simp only [inR]; omega
theorem loop78j (n : Nat) (h : RQ n) (l : List Int) (m : MJ) (i : Nat) (hi : i < l.length) (hp : ok78 n l m) : LoopOK (X78 n h) L78_4 (hj78 n l m i) (bodyR 1 (xi78 n l m) (R78 n h l m)) := by
 refine loop_ok (Xmw_ok _ _ _) (H := fun _ _ => none) [0, 1, 5, 7, 8] (ij78 n l m i) (sj78 n l m i) (fun k => l.length - k) (xj78 n l m i) 150 fun (k : Nat) hk => ?_
 refine of_eq (q := (fun (o : Nat) => (fun (h : Int) => (fun (j : Bool) => (fun (g : Int) => (fun (f : Int) => (fun (e : Int) => (fun (d : Nat) => (fun (c : Prop) => (fun (b : MJ) => (fun (a : List Int) => c /\ c /\ c /\ c /\ ((k : Int) < (o : Int) -> c /\ c /\ c /\ idxPre f o /\ c /\ c /\ c /\ idxPre (k : Int) o /\ c /\ c /\ (o < 1000000 /\ inR .i64 (l.getD i h) /\ inR .i64 (l.getD k h)) /\ c /\ c /\ c /\ c /\ c /\ c /\ (j = true -> c /\ c /\ (((okL a /\ a.length < 2 * n /\ a.length < 1000000) /\ (a = a /\ c /\ c) /\ b = b /\ c) /\ c /\ c) /\ ((rf n a b).fst = true -> c /\ c /\ (true = (rf (n + 1) l m).fst /\ c) /\ (rf n a b).snd = (rf (n + 1) l m).snd /\ c) /\ ((rf n a b).fst = false -> c /\ inR .i64 e /\ c /\ ∃ (y : Nat), (ij78 n l m i y /\ d - y < d - k) /\ (l = l /\ c /\ g = g /\ f = f /\ e = (y : Int) /\ c) /\ (rf n a b).snd = (rA n l m (i * d + y)).snd /\ c)) /\ (j = false -> c /\ inR .i64 e /\ c /\ ∃ (y : Nat), (ij78 n l m i y /\ d - y < d - k) /\ (l = l /\ c /\ g = g /\ f = f /\ e = (y : Int) /\ c) /\ b = (rA n l m (i * d + y)).snd /\ c)) /\ (¬(k : Int) < (o : Int) -> ∃ (y : Unit), (rA n l m (i * d + d)).fst = false /\ (l = l /\ c /\ g = g /\ f = f /\ c) /\ b = (rA n l m (i * d + d)).snd /\ c)) (clR l (l.getD i h) (l.getD k h))) ((rA n l m (i * d + k)).snd)) (True)) (l.length)) ((k : Int) + 1)) ((i : Int))) (kyI l)) (clB l (l.getD i h) (l.getD k h))) ((0 : Int))) (l.length)) (by kernel_rfl) ?_
 simp only [zz]
 obtain ⟨k1, k2⟩ := hk
 have hsq : (i + 1) * l.length <= l.length * l.length := Nat.mul_le_mul_right _ (by omega)
 rw [Nat.succ_mul] at hsq
 have hb := hp.b
 refine ⟨fun hk => ?_, fun hk => by rw [show k = l.length by omega] at k2 |-; exact ⟨k2, rfl⟩⟩
 have hk : k < l.length := by omega
 have hs := rA_step hi hk k2
 refine ⟨idx_nat hi, idx_nat hk, ⟨hb, inR_of (okL_get hp.o i), inR_of (okL_get hp.o k)⟩, fun hc => ?_, fun hc => ?_⟩
 · have hlen := clB_len hc
   rw [if_pos hc] at hs
   rw [<- hs]
   refine ⟨⟨clR_ok hp.o _ _, by have := hp.lt; omega, by omega⟩, fun h2 => ?_, fun h2 => ⟨by simp only [inR]; omega, k + 1, ⟨⟨by omega, h2⟩, by omega⟩, by omega, rfl⟩⟩
   rw [rf_hit hp (by omega) h2]
   exact ⟨h2.symm, rfl⟩
 · rw [if_neg (by rw [hc]; simp)] at hs
   exact ⟨by simp only [inR]; omega, k + 1, ⟨⟨by omega, by rw [hs]; exact k2⟩, by omega⟩, by omega, by rw [hs]⟩
theorem loop78i (n : Nat) (h : RQ n) (l : List Int) (m : MJ) (hp : ok78 n l m) : LoopOK (X78 n h) L78_2 (hi78 n l m) (R78 n h l m) := by
 refine loop_ok (Xmw_ok _ _ _) (H := fun i _ => some (hj78 n l m i)) [0, 1, 5, 7] (ii78 n l m) (si78 n l m) (fun i => l.length - i) (xi78 n l m) 150 fun (i : Nat) hi => ?_
 have hL := fun hh => loop78j n h l m i hh hp
 refine of_eq (q := (fun (d : Prop) => (fun (c : Int) => (fun (b : Int) => (fun (a : Nat) => d /\ d /\ d /\ d /\ (c < (l.length : Int) -> d /\ LoopOK (X78 n h) L78_4 (hj78 n l m i) (bodyR (1 : Nat) (xi78 n l m) (R78 n h l m)) /\ (∃ (y : Nat), ij78 n l m i y /\ (l = l /\ d /\ b = b /\ c = c /\ (0 : Int) = (y : Int) /\ d) /\ (rA n l m (i * a)).snd = (rA n l m (i * a + y)).snd /\ d) /\ (∀ (y : Unit), (rA n l m (i * a + a)).fst = false -> d /\ inR .i64 (c + 1) /\ d /\ ∃ (y : Nat), (ii78 n l m y /\ a - y < a - i) /\ (l = l /\ d /\ b = b /\ c + 1 = (y : Int) /\ d) /\ (rA n l m (i * a + a)).snd = (rA n l m (y * a)).snd /\ d) /\ d) /\ (¬c < (l.length : Int) -> ∃ (y : Unit), (rA n l m (a * a)).fst = false /\ (d /\ b = b /\ d) /\ (rA n l m (i * a)).snd = (rA n l m (a * a)).snd /\ d)) (l.length)) (kyI l)) ((i : Int))) (True)) (by kernel_rfl) ?_
 simp only [zz]
 obtain ⟨i1, i2⟩ := hi
 have hb := hp.b
 refine ⟨fun h2 => ⟨hL (by omega), ⟨0, ⟨Nat.zero_le _, i2⟩, rfl, rfl⟩, fun _ h3 => ⟨by simp only [inR]; omega, i + 1, ⟨⟨by omega, by rw [Nat.succ_mul]; exact h3⟩, by omega⟩, by omega, by rw [Nat.succ_mul]⟩⟩, fun h2 => ?_⟩
 rw [show i = l.length by omega] at i2 |-
 exact ⟨i2, rfl⟩
theorem rc_step (n : Nat) (h : RQ n) : RQ (n + 1) := by
 intro l m ⟨h1, h2, h3⟩
 have hL := loop78k n h l m h3 h1
 have hI := fun hp => loop78i n h l m hp
 refine gcall_of (X := (X78 n h)) ((Xmw_ok _ _ _)) (f := 78) (fn := Try.f78) (c := bodyOf Try.f78) (by kernel_rfl) (by kernel_rfl) (view := false) (rvs := [.tmp 4]) (by kernel_rfl) (H := (fun id => some (match id with | 0 => hk78 l m | _ => hi78 n l m))) 150 (by kernel_rfl) ?_
 refine of_eq (q := (fun (d : Nat) => (fun (c : Bool) => (fun (b : Prop) => (fun (a : RM) => b /\ b /\ ((∀ (s : Int), s ∈ l -> (0 : Int) <= s /\ s < 64) /\ b) /\ (oneB l = true -> b /\ b /\ (true = a.fst /\ b) /\ m = a.snd /\ b) /\ (oneB l = false -> b /\ b /\ LoopOK (X78 n h) L78_0 (hk78 l m) (RetR (X78 n h) false false [ResultVar.tmp (4 : Tmp)] [AV.bool a.fst] [moJ a.snd]) /\ (∃ (y : Nat), ik78 l y /\ (l = l /\ b /\ (0 : Int) = kyK l y /\ (0 : Int) = (y : Int) /\ b) /\ m = m /\ b) /\ (∀ (y : Unit), b -> b /\ b /\ b /\ (c = true -> b /\ b /\ (false = a.fst /\ b) /\ m = a.snd /\ b) /\ (c = false -> b /\ LoopOK (X78 n h) L78_2 (hi78 n l m) (R78 n h l m) /\ (∃ (y : Nat), ii78 n l m y /\ (l = l /\ b /\ kyI l = kyI l /\ (0 : Int) = (y : Int) /\ b) /\ m = (rA n l m (y * d)).snd /\ b) /\ (∀ (y : Unit), (rA n l m (d * d)).fst = false -> b /\ b /\ b /\ b /\ b /\ (false = a.fst /\ b) /\ mPut I64 (rA n l m (d * d)).snd (kyI l) true = a.snd /\ b) /\ b)) /\ b)) (rf (n + 1) l m)) (True)) ((mGet I64 m (kyI l)).getD false)) (l.length)) (by kernel_rfl) ?_
 simp only [zz]
 refine ⟨h1, fun h4 => ?_, fun h4 => ⟨hL _, ⟨0, Nat.zero_le _, rfl, rfl⟩, fun _ _ => ⟨fun h5 => ?_, fun h5 => ?_⟩⟩⟩
 · rw [rf, if_pos h4]; exact ⟨rfl, rfl⟩
 · rw [rf, if_neg (by rw [h4]; simp), if_pos (show giI m (kyI l) = true from h5)]; exact ⟨rfl, rfl⟩
 · have hp : ok78 n l m := ⟨h1, h2, h3, h4, h5⟩
   refine ⟨hI hp, ⟨0, ⟨Nat.zero_le _, ?_⟩, rfl, ?_⟩, fun _ h6 => ?_⟩
   · rw [Nat.zero_mul]; try rfl
   · rw [Nat.zero_mul]; try rfl
   · rw [rf_miss hp h6]; exact ⟨rfl, rfl⟩
theorem rc_all : ∀ n : Nat, RQ n
 | 0 => fun _ _ h => absurd h.2.1 (by omega)
 | n + 1 => rc_step n (rc_all n)
def zeL (p : List Int) : Bool := decide (∀ x ∈ hoL p, x = 0)
def tcB (N : Nat) (p : List Int) : Bool := zeL p && (rf N (fcs p) []).1
noncomputable def L47_0 : Code := lp (bodyOf Try.f47) 0
noncomputable abbrev X47 (N : Nat) : Cy := Xm [e31, e35, e78S N (rc_all N)] 0 (fun _ => none)
def st47 (n : Int) (p : List Int) (k : Nat) : St := ⟨.int .i64 n :: .sl I64 p :: dd 3 ++ .sl I64 (hoL p) :: .int .i64 k :: dd 19, []⟩
def in47 (p : List Int) (k : Nat) : Prop := k <= (hoL p).length /\ ∀ x ∈ (hoL p).take k, x = 0
def ex47 (n : Int) (p : List Int) : List (List Nat × Ex) := [([0, 1], ⟨0, Unit, fun _ => zeL p = true, fun _ => ⟨.int .i64 n :: .sl I64 p :: dd 24, []⟩⟩)]
def h47 (n : Int) (p : List Int) : Hint := ⟨chk 0 [0, 1, 5, 6] (in47 p) (st47 n p), (ex47 n p).map (·.2)⟩
noncomputable def R47 (N : Nat) (p : List Int) : Exit -> St -> Prop := RetR (X47 N) true false [.tmp 4] [.bool (tcB N p)] []
theorem loop47 (N : Nat) (n : Int) (p : List Int) (h : cxOk n p) : LoopOK (X47 N) L47_0 (h47 n p) (R47 N p) := by
 have hlen := hoL_le h
 refine loop_ok (Xm_ok _ _ _) (H := fun _ _ => none) [0, 1, 5, 6] (in47 p) (st47 n p) (fun k => (hoL p).length - k) (ex47 n p) 150 fun (k : Nat) hk => ?_
 refine of_eq (q := (fun (c : Int) => (fun (b : Prop) => (fun (a : List Int) => (fun (d : Prop) => b /\ b /\ b /\ b /\ (c < (a.length : Int) -> b /\ b /\ idxPre c a.length /\ b /\ b /\ (d -> b /\ b /\ (false = tcB N p /\ b) /\ b) /\ (¬d -> b /\ inR .i64 (c + 1) /\ b /\ ∃ (y : Nat), (in47 p y /\ a.length - y < a.length - k) /\ (n = n /\ p = p /\ a = a /\ c + 1 = (y : Int) /\ b) /\ b)) /\ (¬c < (a.length : Int) -> ∃ (y : Unit), zeL p = true /\ (n = n /\ p = p /\ b) /\ b)) (¬a.getD k (0 : Int) = 0)) (hoL p)) (True)) ((k : Int))) (by kernel_rfl) ?_
 simp only [zz]
 obtain ⟨k1, k2⟩ := hk
 refine ⟨fun hk => ⟨idx_nat (by omega), fun h2 => ?_, fun h2 => ⟨by simp only [inR]; omega, k + 1, ⟨⟨by omega, (all_take (d := 0) (by omega)).mpr ⟨k2, Classical.not_not.mp h2⟩⟩, by omega⟩, by omega⟩⟩, fun hk => ?_⟩
 · have : zeL p = false := decide_eq_false fun h3 => h2 (h3 _ (mem_getD (by omega)))
   unfold tcB; rw [this]; try rfl
 · rw [List.take_of_length_le (by omega)] at k2
   exact decide_eq_true k2
theorem call47 (n : Int) (p : List Int) (h : cxOk n p) : GCall Try.prog gl 47 true [.int .i64 n, .sl I64 p] [] [.bool (tcB 33 p)] [] := by
 generalize hN : 33 = N
 have hL := loop47 N n p h
 refine gcall_of (X := (X47 N)) ((Xm_ok _ _ _)) (f := 47) (fn := Try.f47) (c := bodyOf Try.f47) (by kernel_rfl) (by kernel_rfl) (view := false) (rvs := [.tmp 4]) (by kernel_rfl) (H := (fun _ => some (h47 n p))) 150 (by kernel_rfl) ?_
 refine of_eq (q := (fun (b : Prop) => (fun (a : List Int) => b /\ b /\ b /\ ((numOk n /\ ((1 : Nat) <= p.length /\ p.length <= 10) /\ ∀ (k : Nat), k < p.length -> goodAt n p k) /\ b) /\ b /\ b /\ LoopOK (X47 N) L47_0 (h47 n p) (R47 N p) /\ (∃ (y : Nat), in47 p y /\ (n = n /\ p = p /\ hoL p = hoL p /\ (0 : Int) = (y : Int) /\ b) /\ b) /\ (∀ (y : Unit), zeL p = true -> b /\ b /\ ((numOk n /\ okL p /\ p.length < 1000000) /\ b) /\ b /\ (((okL a /\ a.length < 2 * N /\ a.length < 1000000) /\ (a = a /\ b /\ b) /\ ([] : List (Int × Bool)) = [] /\ b) /\ b /\ b) /\ b /\ b /\ ((rf N a []).fst = tcB N p /\ b) /\ b) /\ b) (facesL n p)) (True)) (by kernel_rfl) ?_
 simp only [zz]
 rw [faces_fcs h]
 have hlen := fcs_len p
 refine ⟨h, hL, ⟨0, ⟨Nat.zero_le _, fun x hx => by rw [List.take_zero] at hx; cases hx⟩, rfl⟩, fun _ hz => ⟨⟨h.1, h.ok, by have := h.2.1.2; omega⟩, ⟨fcs_ok p, by omega, by omega⟩, ?_⟩⟩
 unfold tcB; rw [hz]; try rfl
end Go.Am.Sh

/- Shells, plain: independent vectors of bits; the rank of rows. -/
namespace Go.Am.Sh
open Go Go.Am Go.Proofs
/-- u is the sum of some of the vectors. -/
def spn : List Nat -> Nat -> Prop
 | [], u => u = 0
 | v :: t, u => spn t u ∨ spn t (u ^^^ v)
/-- None is a sum of those behind it. -/
def Ind : List Nat -> Prop
 | [] => True
 | v :: t => ¬ spn t v /\ Ind t
/-- A space of vectors. -/
structure Lin (Q : Nat -> Prop) : Prop where
 z : Q 0
 x : ∀ u v, Q u -> Q v -> Q (u ^^^ v)
theorem xcc (a b : Nat) : a ^^^ b ^^^ b = a := by rw [Nat.xor_assoc, Nat.xor_self, Nat.xor_zero]
theorem xrc (a b c : Nat) : a ^^^ b ^^^ c = a ^^^ c ^^^ b := by rw [Nat.xor_assoc, Nat.xor_comm b c, <- Nat.xor_assoc]
theorem spn_zero : ∀ t : List Nat, spn t 0
 | [] => rfl
 | _ :: t => .inl (spn_zero t)
theorem spn_lin : ∀ t : List Nat, Lin (spn t)
 | [] => ⟨rfl, fun u v hu hv => by rw [show u = 0 from hu, show v = 0 from hv]; exact Nat.xor_zero 0⟩
 | w :: t => ⟨spn_zero _, fun u v hu hv => by
   have ih := (spn_lin t).x
   rcases hu with hu | hu <;> rcases hv with hv | hv
   · exact .inl (ih _ _ hu hv)
   · exact .inr (by have := ih _ _ hu hv; rwa [<- Nat.xor_assoc] at this)
   · exact .inr (by have := ih _ _ hu hv; rwa [xrc] at this)
   · exact .inl (by have := ih _ _ hu hv; rwa [<- Nat.xor_assoc, xrc u w v, xcc] at this)⟩
theorem spn_of {Q : Nat -> Prop} (hQ : Lin Q) : ∀ {t : List Nat}, (∀ v ∈ t, Q v) -> ∀ {u}, spn t u -> Q u
 | [], _, u, h => by rw [show u = 0 from h]; exact hQ.z
 | v :: t, ht, u, h => by
   have ih := fun {u} => spn_of hQ (t := t) (fun w hw => ht w (List.mem_cons_of_mem _ hw)) (u := u)
   rcases h with h | h
   · exact ih h
   · have := hQ.x _ _ (ih h) (ht v List.mem_cons_self)
     rwa [xcc] at this
theorem spn_mem {v : Nat} : ∀ {t : List Nat}, v ∈ t -> spn t v
 | w :: t, h => by
   rcases List.mem_cons.mp h with h | h
   · subst h; exact .inr (by rw [Nat.xor_self]; exact spn_zero t)
   · exact .inl (spn_mem h)
theorem bit_xor_self {a b j : Nat} (ha : a.testBit j = true) (hb : b.testBit j = true) : (a ^^^ b).testBit j = false := by rw [Nat.testBit_xor, ha, hb]; try rfl
/-- One vector less, and none has the bit. -/
theorem ind_bit (j : Nat) : ∀ {L : List Nat}, Ind L -> (∀ v ∈ L, v.testBit j = false) ∨ ∃ p L', (p.testBit j = true /\ spn L p) /\ L'.length + 1 = L.length /\ Ind L' /\ (∀ v ∈ L', v.testBit j = false) /\ ∀ u, spn L' u -> spn L u
 | [], _ => .inl fun v hv => by cases hv
 | v :: T, ⟨h1, h2⟩ => by
   rcases ind_bit j h2 with hn | ⟨p, T', ⟨hp, hs⟩, hl, hi, hz, hm⟩
   · cases hv : v.testBit j with
     | false =>
       exact .inl fun w hw => by
         rcases List.mem_cons.mp hw with h | h
         · rw [h]; exact hv
         · exact hn w h
     | true => exact .inr ⟨v, T, ⟨hv, spn_mem List.mem_cons_self⟩, rfl, h2, hn, fun u hu => .inl hu⟩
   · refine .inr ?_
     cases hv : v.testBit j with
     | false =>
       refine ⟨p, v :: T', ⟨hp, .inl hs⟩, by simp; omega, ⟨fun h => h1 (hm _ h), hi⟩, fun w hw => ?_, fun u hu => ?_⟩
       · rcases List.mem_cons.mp hw with h | h
         · rw [h]; exact hv
         · exact hz w h
       · rcases hu with hu | hu
         · exact .inl (hm _ hu)
         · exact .inr (hm _ hu)
     | true =>
       refine ⟨p, (v ^^^ p) :: T', ⟨hp, .inl hs⟩, by simp; omega, ⟨fun h => h1 ?_, hi⟩, fun w hw => ?_, fun u hu => ?_⟩
       · have := (spn_lin T).x _ _ (hm _ h) hs
         rwa [xcc] at this
       · rcases List.mem_cons.mp hw with h | h
         · rw [h]; exact bit_xor_self hv hp
         · exact hz w h
       · rcases hu with hu | hu
         · exact .inl (hm _ hu)
         · refine .inr ?_
           have := (spn_lin T).x _ _ (hm _ hu) hs
           rwa [<- Nat.xor_assoc, xcc] at this
theorem lt_bit {v m : Nat} (h : v < 2 ^ (m + 1)) (hb : v.testBit m = false) : v < 2 ^ m := by
 apply Nat.lt_pow_two_of_testBit
 intro i hi
 rcases Nat.eq_or_lt_of_le hi with e | e
 · rw [<- e]; exact hb
 · exact Nat.testBit_lt_two_pow (Nat.lt_of_lt_of_le h (Nat.pow_le_pow_right (by decide) e))
/-- No more independent vectors than places. -/
theorem ind_dim (F : Nat -> Bool) : ∀ {m : Nat} {L : List Nat}, Ind L -> (∀ v ∈ L, v < 2 ^ m /\ ∀ j, v.testBit j = true -> F j = true) -> L.length <= cN F m
 | 0, [], _, _ => Nat.zero_le _
 | 0, v :: t, h, hl => by
   have := (hl v List.mem_cons_self).1
   have e : v = 0 := by omega
   rw [e] at h
   exact absurd (spn_zero t) h.1
 | m + 1, L, h, hl => by
   rw [cN]
   have hQ : Lin fun u => u < 2 ^ (m + 1) /\ ∀ j, u.testBit j = true -> F j = true := ⟨⟨Nat.two_pow_pos _, fun j hj => by simp at hj⟩, fun u v hu hv => ⟨Nat.xor_lt_two_pow hu.1 hv.1, fun j hj => by
     rw [Nat.testBit_xor] at hj
     cases e : u.testBit j with
     | true => exact hu.2 j e
     | false => rw [e] at hj; exact hv.2 j (by simpa using hj)⟩⟩
   rcases ind_bit m h with hn | ⟨p, L', ⟨hp, hs⟩, hlen, hi, hz, hm⟩
   · have := ind_dim F (m := m) h fun v hv => ⟨lt_bit (hl v hv).1 (hn v hv), (hl v hv).2⟩
     split <;> omega
   · have hF : F m = true := (spn_of hQ hl hs).2 m hp
     have := ind_dim F (m := m) hi fun v hv => by
       have h2 := spn_of hQ hl (hm v (spn_mem hv))
       exact ⟨lt_bit h2.1 (hz v hv), h2.2⟩
     rw [hF]
     simp only [if_true]
     omega
theorem lo_bit {a : Nat} (h : a < 9223372036854775808) (h0 : a ≠ 0) : ∃ j, j < 63 /\ lo a = 2 ^ j /\ a.testBit j = true := by
 -- the lowest bit of a
 have key : ∀ n, ∀ a : Nat, a < 2 ^ n -> a ≠ 0 -> ∃ j c, j < n /\ a = 2 ^ j * (2 * c + 1) := by
   intro n
   induction n with
   | zero => intro a h1 h2; omega
   | succ n ih =>
     intro a h1 h2
     rcases Nat.mod_two_eq_zero_or_one a with e | e
     · obtain ⟨j, c, hj, hc⟩ := ih (a / 2) (by omega) (by omega)
       refine ⟨j + 1, c, by omega, ?_⟩
       rw [Nat.pow_succ, Nat.mul_comm (2 ^ j) 2, Nat.mul_assoc, <- hc]; omega
     · exact ⟨0, a / 2, by omega, by omega⟩
 obtain ⟨j, c, hj, hc⟩ := key 63 a (by omega) h0
 have hb : a.testBit j = true := by
   rw [Nat.testBit_eq_decide_div_mod_eq, hc, Nat.mul_div_cancel_left _ (Nat.two_pow_pos j)]
   simp
 refine ⟨j, hj, ?_, hb⟩
 have hlow : ∀ i, i < j -> a.testBit i = false := fun i hi => by
   rw [Nat.testBit_eq_decide_div_mod_eq]
   have e : a / 2 ^ i = 2 ^ (j - i) * (2 * c + 1) := by
     rw [hc, show j = i + (j - i) by omega, Nat.pow_add, Nat.mul_assoc, Nat.mul_div_cancel_left _ (Nat.two_pow_pos i)]
     rw [show i + (j - i) - i = j - i by omega]
   rw [e, show j - i = (j - i - 1) + 1 by omega, Nat.pow_succ, Nat.mul_right_comm]
   simp
 unfold lo
 rw [Nat.mod_eq_of_lt (show 18446744073709551616 - a < 18446744073709551616 by omega)]
 apply Nat.eq_of_testBit_eq
 intro i
 rw [Nat.testBit_and, Nat.testBit_two_pow]
 have h64 : (18446744073709551616 : Nat) - a = 2 ^ 64 - ((a - 1) + 1) := by omega
 have hap : a - 1 < 2 ^ 64 := by omega
 rw [h64, Nat.testBit_two_pow_sub_succ hap]
 rcases Nat.lt_trichotomy i j with e | e | e
 · rw [hlow i e]; simp; omega
 · subst e
   rw [hb]
   have : (a - 1).testBit i = false := by
     rw [Nat.testBit_eq_decide_div_mod_eq]
     have h2 : (a - 1) / 2 ^ i = 2 * c := by
       have hp := Nat.two_pow_pos i
       rw [show a - 1 = 2 ^ i * (2 * c) + (2 ^ i - 1) by rw [hc, Nat.mul_succ]; omega, Nat.mul_add_div hp, Nat.div_eq_of_lt (by omega)]; try rfl
     rw [h2]; simp
   rw [this]; simp; omega
 · have h2 : (a - 1).testBit i = a.testBit i := by
     rw [Nat.testBit_eq_decide_div_mod_eq, Nat.testBit_eq_decide_div_mod_eq]
     have hp := Nat.two_pow_pos j
     have e2 : (a - 1) / 2 ^ i = a / 2 ^ i := by
       rw [show i = (j + 1) + (i - j - 1) by omega, Nat.pow_add, <- Nat.div_div_eq_div_mul, <- Nat.div_div_eq_div_mul]
       congr 1
       rw [Nat.pow_succ, <- Nat.div_div_eq_div_mul, <- Nat.div_div_eq_div_mul]
       have h3 : (a - 1) / 2 ^ j = 2 * c := by
         rw [show a - 1 = 2 ^ j * (2 * c) + (2 ^ j - 1) by rw [hc, Nat.mul_succ]; omega, Nat.mul_add_div hp, Nat.div_eq_of_lt (by omega)]; try rfl
       have h4 : a / 2 ^ j = 2 * c + 1 := by rw [hc, Nat.mul_div_cancel_left _ hp]
       rw [h3, h4]; omega
     rw [e2]
   rw [h2]
   cases a.testBit i <;> simp <;> omega
theorem and_two (x b : Nat) : (!Nat.beq (x &&& 2 ^ b) 0) = x.testBit b := by
 cases e : x.testBit b with
 | true =>
   have h : (x &&& 2 ^ b).testBit b = true := by rw [Nat.testBit_and, e, Nat.testBit_two_pow_self]; try rfl
   cases h2 : Nat.beq (x &&& 2 ^ b) 0 with
   | false => rfl
   | true => rw [Nat.eq_of_beq_eq_true h2, Nat.zero_testBit] at h; cases h
 | false =>
   have h : x &&& 2 ^ b = 0 := by
     apply Nat.eq_of_testBit_eq
     intro i
     rw [Nat.testBit_and, Nat.testBit_two_pow, Nat.zero_testBit]
     by_cases hi : b = i
     · subst hi; rw [e]; try rfl
     · simp [hi]
   rw [h]; try rfl
theorem rk_ind {l : List Int} (ho : okR l) : ∀ k i, i + k = l.length -> ∀ Q : Nat -> Prop, Lin Q -> (∀ j, i <= j -> j < l.length -> Q ((rwI l i).getD j 0).toNat) -> ∃ L : List Nat, L.length + rkI l i = rk l /\ Ind L /\ (∀ v ∈ L, Q v) /\ ∀ j, i <= j -> j < l.length -> spn L ((rwI l i).getD j 0).toNat
 | 0, i, hi, Q, _, _ => ⟨[], by rw [rk, <- hi]; simp, trivial, (fun v hv => by cases hv), fun j h1 h2 => by omega⟩
 | k + 1, i, hi, Q, hQ, h => by
   have hlen := rwI_length l i
   have hok := rwI_ok ho i
   by_cases h0 : (rwI l i).getD i 0 = 0
   · obtain ⟨L, h1, h2, h3, h4⟩ := rk_ind ho k (i + 1) (by omega) Q hQ fun j hj hjl => by
       rw [rwI, if_pos h0]; exact h j (by omega) hjl
     rw [rkI, if_pos h0] at h1
     refine ⟨L, h1, h2, h3, fun j hj hjl => ?_⟩
     rw [rwI, if_pos h0] at h4
     by_cases e : j = i
     · rw [e, h0]; exact spn_zero L
     · exact h4 j (by omega) hjl
   · have hoi := hok i
     obtain ⟨b, _, hb, hbb⟩ := lo_bit (a := ((rwI l i).getD i 0).toNat) (by omega) (by omega)
     obtain ⟨L, h1, h2, h3, h4⟩ := rk_ind ho k (i + 1) (by omega) (fun u => Q u /\ u.testBit b = false) ⟨⟨hQ.z, by simp⟩, fun u v hu hv => ⟨hQ.x _ _ hu.1 hv.1, by rw [Nat.testBit_xor, hu.2, hv.2]; rfl⟩⟩ fun j hj hjl => by
       rw [rwI, if_neg h0, clr_getD (by omega)]
       have hbit : hitR (rwI l i) i j = ((rwI l i).getD j 0).toNat.testBit b := by
         unfold hitR
         rw [hb]
         exact and_two _ _
       split
       · rename_i hc
         rw [hbit] at hc
         rw [Int.toNat_natCast]
         exact ⟨hQ.x _ _ (h j (by omega) hjl) (h i (Nat.le_refl _) (by omega)), bit_xor_self hc.2.2 hbb⟩
       · rename_i hc
         rw [hbit] at hc
         refine ⟨h j (by omega) hjl, ?_⟩
         cases e : ((rwI l i).getD j 0).toNat.testBit b with
         | false => rfl
         | true => exact absurd ⟨by omega, hjl, e⟩ hc
     rw [rkI, if_neg h0] at h1
     refine ⟨((rwI l i).getD i 0).toNat :: L, by simp; omega, ⟨fun hs => ?_, h2⟩, fun v hv => ?_, fun j hj hjl => ?_⟩
     · have := (spn_of (Q := fun u => u.testBit b = false) ⟨by simp, fun u v hu hv => by rw [Nat.testBit_xor, hu, hv]; rfl⟩ (fun v hv => (h3 v hv).2) hs)
       rw [hbb] at this; cases this
     · rcases List.mem_cons.mp hv with e | e
       · rw [e]; exact h i (Nat.le_refl _) (by omega)
       · exact (h3 v e).1
     · by_cases e : j = i
       · rw [e]; exact spn_mem List.mem_cons_self
       · have h5 := h4 j (by omega) hjl
         rw [rwI, if_neg h0, clr_getD (by omega)] at h5
         split at h5
         · exact .inr (by rw [Int.toNat_natCast] at h5; exact h5)
         · exact .inl h5
theorem rk_vec {l : List Int} (ho : okR l) {Q : Nat -> Prop} (hQ : Lin Q) (h : ∀ v ∈ l, Q v.toNat) : ∃ L : List Nat, L.length = rk l /\ Ind L /\ (∀ v ∈ L, Q v) /\ ∀ v ∈ l, spn L v.toNat := by
 obtain ⟨L, h1, h2, h3, h4⟩ := rk_ind ho l.length 0 (by omega) Q hQ fun j _ hj => h _ (mem_getD (d := 0) hj)
 rw [rkI] at h1
 refine ⟨L, by omega, h2, h3, fun v hv => ?_⟩
 obtain ⟨i, hi, e⟩ := List.getElem_of_mem hv
 have := h4 i (Nat.zero_le _) hi
 rw [rwI, getD_lt hi, e] at this
 exact this
end Go.Am.Sh
