/- Part B4 of the proof that the law named in the last file returns true at every input and leaves its arguments as they were; no condition of its own. -/
import Derived.Test.YtfpoonbcnabihaaB3
import Derived.Test.YtfpoonbcnabihaaA2
import Derived.Test.YtfpoonbcnabihaaRows
import Derived.WalkKit
import Derived.ProofKit
import Derived.OpenShut
import Derived.SizedLaws
import Derived.ChangeOld
import Derived.Below
import Derived.Stop.Joined
set_option linter.unusedSimpArgs false
set_option linter.unusedVariables false
/- Shells: a shelling is searched. -/
namespace Go.Am.Sh
open Go Go.Am Go.Proofs
noncomputable def Xb (l : EL) (m0 : Nat) (bs : List Nat) (dr : Nat → Option Nat) : Cy := { mkX Try.prog tt gl l m0 dr with bs := bs }
theorem Xb_ok (l : EL) (m0 : Nat) (bs : List Nat) (dr : Nat → Option Nat) : (Xb l m0 bs dr).Ok := (mkX_ok tt_ok l m0 dr).bump bs
abbrev Mm := List (Int × Bool)
abbrev Res := Bool × List Int × Mm
def mg (m : Mm) (d : Int) : Bool := (mGet I64 m d).getD false
def mp (m : Mm) (d : Int) : Mm := mPut I64 m d true
/-- The first rounds, until one comes to an end. -/
def lpK (p : List Int) (f : Nat → List Int → Mm → Res) (D : Nat) (l : List Int) (m : Mm) : Nat → Res
 | 0 => (false, l, m)
 | k + 1 => if (lpK p f D l m k).1 = true then lpK p f D l m k else if D / 2 ^ k % 2 = 1 ∨ flw p D k = false then lpK p f D l m k else
     if (f (D ||| 2 ^ k) (l ++ [(k : Int)]) (lpK p f D l m k).2.2).1 = true then f (D ||| 2 ^ k) (l ++ [(k : Int)]) (lpK p f D l m k).2.2
     else (false, l, (f (D ||| 2 ^ k) (l ++ [(k : Int)]) (lpK p f D l m k).2.2).2.2)
/-- The search; as many levels as pieces are left. -/
def gr (p : List Int) : Nat → Nat → List Int → Mm → Res
 | 0, _, l, m => (true, l, m)
 | n + 1, D, l, m => if mg m D = true then (false, l, m) else if (lpK p (gr p n) D l m p.length).1 = true then lpK p (gr p n) D l m p.length else (false, l, mp (lpK p (gr p n) D l m p.length).2.2 D)
theorem gr_list {p : List Int} {n D : Nat} {l : List Int} {m : Mm} (h : (gr p n D l m).1 = false) : (gr p n D l m).2.1 = l := by
 cases n with
 | zero => cases h
 | succ n =>
   rw [gr] at h ⊢
   split
   · rfl
   · rename_i h1; rw [if_neg h1] at h
     split
     · rename_i h2; rw [if_pos h2, h2] at h; cases h
     · rfl
theorem lpK_stop {p : List Int} {f : Nat → List Int → Mm → Res} {D : Nat} {l : List Int} {m : Mm} {k : Nat} (h : (lpK p f D l m k).1 = true) : ∀ j, lpK p f D l m (k + j) = lpK p f D l m k
 | 0 => rfl
 | j + 1 => by rw [show k + (j + 1) = k + j + 1 by omega, lpK, lpK_stop h j, if_pos h]
def clo55 (a b c d : Nat) : AV := .clo 55 [] [.ptr a 0 [], .ptr b 0 [], .ptr c 0 [], .ptr d 0 []]
def mmO (m : Mm) : Ob := .mo I64 .bool m
def gS (v : Nat) (n : Int) (p l : List Int) (m : Mm) : List Ob := [.bx (.own 1 v), .sc v 3 I64 l, .bx (.ptr 3 0 []), cxO n p, .bx (.mp 5), mmO m, .bx (clo55 0 2 4 6)]
def aS (D : Int) : List AV := [.int .i64 D, .ptr 0 0 [], .ptr 2 0 [], .ptr 4 0 [], .ptr 6 0 []]
structure pre55 (n : Int) (p : List Int) (lv D : Nat) (l : List Int) : Prop where
 h : cxOk n p
 D : D < 2 ^ p.length
 l : l.length + lv = p.length
def GS (lv : Nat) : Prop := ∀ (n : Int) (p : List Int) (D : Nat) (l : List Int) (m : Mm), pre55 n p lv D l → GCall Try.prog gl 55 false (aS D) (gS 0 n p l m) [.bool (gr p lv D l m).1] (gS 1 n p (gr p lv D l m).2.1 (gr p lv D l m).2.2)
def unMm : Ob → Option Mm
 | .mo k v m => (if h : k = I64 ∧ v = .bool then some (by obtain ⟨rfl, rfl⟩ := h; exact m) else none)
 | _ => none
def unSc : Ob → Option (List Int)
 | .sc _ _ e xs => castL e I64 xs
 | _ => none
abbrev G5 := Int × Cx3 × List Int × Mm
def get55 (xs : List AV) (obs : List Ob) : Option G5 :=
 match xs with
 | .int .i64 d :: _ => (match unSc (obs.getD 1 .gone), unCx (obs.getD 3 .gone), unMm (obs.getD 5 .gone) with
   | some l, some x, some m => some (d, x, l, m)
   | _, _, _ => none)
 | _ => none
def gSq (v : Nat) (x : Cx3) (l : List Int) (m : Mm) : List Ob := [.bx (.own 1 v), .sc v 3 I64 l, .bx (.ptr 3 0 []), cxQ x, .bx (.mp 5), mmO m, .bx (clo55 0 2 4 6)]
structure ok55 (lv : Nat) (x : G5) : Prop where
 h : okC x.2.1
 d : 0 ≤ x.1
 p : pre55 x.2.1.1 x.2.1.2.1 lv x.1.toNat x.2.2.1
def e55S (lv : Nat) (h : GS lv) : Entry Try.prog gl := entryW 55 ⟨Try.f55, by kernel_rfl, by kernel_rfl, by kernel_rfl⟩ true get55 (ok55 lv) false (fun x => aS x.1) (fun x => gSq 0 x.2.1 x.2.2.1 x.2.2.2) (fun x => [.bool (gr x.2.1.2.1 lv x.1.toNat x.2.2.1 x.2.2.2).1])
 (fun x => gSq 1 x.2.1 (gr x.2.1.2.1 lv x.1.toNat x.2.2.1 x.2.2.2).2.1 (gr x.2.1.2.1 lv x.1.toNat x.2.2.1 x.2.2.2).2.2) (fun x hx => by
   have := h _ _ _ _ x.2.2.2 hx.p
   rw [Int.toNat_of_nonneg hx.d] at this
   have e : ∀ v l m, gSq v x.2.1 l m = gS v x.2.1.1 x.2.1.2.1 l m := fun v l m => by unfold gSq gS; rw [cxQ_ok hx.h]
   rw [e, e]; exact this)
noncomputable abbrev X55 (es : EL) : Cy := Xb es 7 [1] (fun _ => none)
theorem gS0 : GS 0 := by
 intro n p D l m hp
 refine gcall_of (X := (X55 [e56])) ((Xb_ok _ _ _ _)) (f := 55) (fn := Try.f55) (c := bodyOf Try.f55) (by kernel_rfl) (by kernel_rfl) (view := false) (rvs := [.tmp 6]) (by kernel_rfl) (H := fun _ => none) 80 (by kernel_rfl) ?_
 refine of_eq (q := True ∧ True ∧ True ∧ True ∧ True ∧ True ∧ True ∧ True ∧ True ∧ ((l.length : Int) = (p.length : Int) → True ∧ True ∧ (true = true ∧ True) ∧ True ∧ l = (gr p (0 : Nat) D l m).snd.fst ∧ True ∧ (n = n ∧ p = p ∧ mk (isF p) = mk (isF p) ∧ True) ∧ True ∧ m = (gr p (0 : Nat) D l m).snd.snd ∧ (True ∧ True ∧ True ∧ True ∧ True ∧ True) ∧ True) ∧ (¬(l.length : Int) = (p.length : Int) → True ∧ True ∧ True ∧ ((mGet I64 m (D : Int)).getD false = true → True ∧ True ∧ (false = true ∧ True) ∧ True ∧ l = (gr p (0 : Nat) D l m).snd.fst ∧ True ∧ (n = n ∧ p = p ∧ mk (isF p) = mk (isF p) ∧ True) ∧ True ∧ m = (gr p (0 : Nat) D l m).snd.snd ∧ (True ∧ True ∧ True ∧ True ∧ True ∧ True) ∧ True) ∧ ((mGet I64 m (D : Int)).getD false = false → True ∧ True ∧ True ∧ True ∧ True ∧ True ∧ False))) (by kernel_rfl) ?_
 simp only [zz]
 have h1 := hp.l
 exact ⟨fun _ => ⟨rfl, rfl⟩, fun h => absurd (by omega) h⟩
noncomputable def L55_0 : Code := lp (bodyOf Try.f55) 0
theorem or_pow10 {D k : Nat} (hD : D < 1024) (hk : k < 10) : bOr .i64 (D : Int) (1 * 2 ^ k) = ((D ||| 2 ^ k : Nat) : Int) ∧ D ||| 2 ^ k < 1024 ∧ (1 : Int) * 2 ^ k ≤ 512 ∧ (0 : Int) ≤ 1 * 2 ^ k := by
 have h2 : 2 ^ k ≤ 2 ^ 9 := Nat.pow_le_pow_right (by decide) (by omega)
 have e : (2 ^ k : Int) = ((2 ^ k : Nat) : Int) := by rw [Int.natCast_pow]; try rfl
 have h3 : D ||| 2 ^ k < 2 ^ 10 := Nat.or_lt_two_pow hD (by omega)
 have hb : bOr .i64 (D : Int) ((2 ^ k : Nat) : Int) = ((D ||| 2 ^ k : Nat) : Int) := bOr_nat (by omega) (by omega)
 rw [Int.one_mul, e]
 refine ⟨hb, by omega, ?_, Int.natCast_nonneg _⟩
 generalize 2 ^ k = P at *
 omega
theorem lpK_go {p : List Int} {f : Nat → List Int → Mm → Res} {D : Nat} {l : List Int} {m : Mm} {k : Nat} (h : (lpK p f D l m k).1 = false) : lpK p f D l m (k + 1) = if D / 2 ^ k % 2 = 1 ∨ flw p D k = false then lpK p f D l m k else
     if (f (D ||| 2 ^ k) (l ++ [(k : Int)]) (lpK p f D l m k).2.2).1 = true then f (D ||| 2 ^ k) (l ++ [(k : Int)]) (lpK p f D l m k).2.2
     else (false, l, (f (D ||| 2 ^ k) (l ++ [(k : Int)]) (lpK p f D l m k).2.2).2.2) := by rw [lpK, if_neg (by simp [h])]
theorem pre_D {n : Int} {p : List Int} {lv D : Nat} {l : List Int} (h : pre55 n p lv D l) : D < 1024 := by
 have := Nat.pow_le_pow_right (show 0 < 2 by decide) h.h.2.1.2
 have := h.D
 omega
def stS (v : Nat) (n : Int) (p : List Int) (f : Nat → List Int → Mm → Res) (D : Nat) (l : List Int) (m : Mm) (k : Nat) : St := ⟨aS D ++ dd 18 ++ .int .i64 p.length :: .int .i64 k :: dd 34, gS v n p l (lpK p f D l m k).2.2⟩
def inS (p : List Int) (f : Nat → List Int → Mm → Res) (D : Nat) (l : List Int) (m : Mm) (k : Nat) : Prop := k ≤ p.length ∧ (lpK p f D l m k).1 = false
def fmS (n : Int) (p : List Int) (f : Nat → List Int → Mm → Res) (D : Nat) (l : List Int) (m : Mm) : List Fam := [⟨Nat, inS p f D l m, stS 0 n p f D l m, fun k => p.length - k, fun _ _ => none⟩, ⟨Nat, inS p f D l m, stS 1 n p f D l m, fun k => p.length - k, fun _ _ => none⟩]
def exS (n : Int) (p : List Int) (f : Nat → List Int → Mm → Res) (D : Nat) (l : List Int) (m : Mm) : List (List Nat × Ex) := [([0, 1, 2, 3, 4], ⟨0, Unit, fun _ => (lpK p f D l m p.length).1 = false, fun _ => ⟨aS D ++ dd 54, gS 0 n p l (lpK p f D l m p.length).2.2⟩⟩), ([0, 1, 2, 3, 4], ⟨0, Unit, fun _ => (lpK p f D l m p.length).1 = false, fun _ => ⟨aS D ++ dd 54, gS 1 n p l (lpK p f D l m p.length).2.2⟩⟩)]
def hS (n : Int) (p : List Int) (f : Nat → List Int → Mm → Res) (D : Nat) (l : List Int) (m : Mm) : Hint := ⟨chks 7 [0, 1, 2, 3, 4, 23, 24] (fmS n p f D l m), (exS n p f D l m).map (·.2)⟩
noncomputable def HS (n : Int) (p : List Int) (f : Nat → List Int → Mm → Res) (D : Nat) (l : List Int) (m : Mm) : Nat → Option Hint := fun _ => some (hS n p f D l m)
theorem loopS (lv : Nat) (h' : GS lv) (n : Int) (p : List Int) (D : Nat) (l : List Int) (m : Mm) (hp : pre55 n p (lv + 1) D l) (hm : ¬ mg m D = true) : LoopOK (X55 [e56, e55S lv h']) L55_0 (hS n p (gr p lv) D l m)
   (RetR (X55 [e56, e55S lv h']) false false [.tmp 6] [.bool (gr p (lv + 1) D l m).1] (gS 1 n p (gr p (lv + 1) D l m).2.1 (gr p (lv + 1) D l m).2.2)) := by
 refine loop_fams (Xb_ok _ _ _ _) [0, 1, 2, 3, 4, 23, 24] (fmS n p (gr p lv) D l m) (exS n p (gr p lv) D l m) 150 ⟨fun (k : Nat) hk => ?_, fun (k : Nat) hk => ?_, trivial⟩
 · refine of_eq (q := True ∧ ((k : Int) < (p.length : Int) → True ∧ True ∧ True ∧ True ∧ inR .u64 (k : Int) ∧ ((0 : Int) ≤ (k : Int) ∧ (k : Int) < bitsOf .i64) ∧ True ∧ True ∧ True ∧ (bAnd .i64 ((D : Int) / (2 : Int) ^ k) (1 : Int) = 1 → True ∧ inR .i64 ((k : Int) + 1) ∧ True ∧ ((∃ (y : Nat), (inS p (gr p lv) D l m y ∧ p.length - y < p.length - k) ∧ ((D : Int) = (D : Int) ∧ True ∧ True ∧ True ∧ True ∧ (p.length : Int) = (p.length : Int) ∧ (k : Int) + 1 = (y : Int) ∧ True) ∧ True ∧ l = l ∧ True ∧ (n = n ∧ p = p ∧ mk (isF p) = mk (isF p) ∧ True) ∧ True ∧ (lpK p (gr p lv) D l m k).snd.snd = (lpK p (gr p lv) D l m y).snd.snd ∧ (True ∧ True ∧ True ∧ True ∧ True ∧ True) ∧ True) ∨ ∃ (y : Nat), (inS p (gr p lv) D l m y ∧ p.length - y < p.length - k) ∧ ((D : Int) = (D : Int) ∧ True ∧ True ∧ True ∧ True ∧ (p.length : Int) = (p.length : Int) ∧ (k : Int) + 1 = (y : Int) ∧ True) ∧ False ∧ False ∧ True ∧ (n = n ∧ p = p ∧ mk (isF p) = mk (isF p) ∧ True) ∧ True ∧ (lpK p (gr p lv) D l m k).snd.snd = (lpK p (gr p lv) D l m y).snd.snd ∧ (True ∧ True ∧ True ∧ True ∧ True ∧ True) ∧ True)) ∧ (¬bAnd .i64 ((D : Int) / (2 : Int) ^ k) (1 : Int) = 1 → True ∧ True ∧ True ∧ ((ok56 ((D : Int), (k : Int), n, p, mk (isF p)) ∧ (True ∧ (D : Int) = (D : Int) ∧ (k : Int) = (k : Int) ∧ True) ∧ (n = n ∧ p = p ∧ mk (isF p) = mk (isF p) ∧ True) ∧ True) ∧ True ∧ True) ∧ True ∧ True ∧ ((!flw p D k) = true → inR .i64 ((k : Int) + 1) ∧ True ∧ ((∃ (y : Nat), (inS p (gr p lv) D l m y ∧ p.length - y < p.length - k) ∧ ((D : Int) = (D : Int) ∧ True ∧ True ∧ True ∧ True ∧ (p.length : Int) = (p.length : Int) ∧ (k : Int) + 1 = (y : Int) ∧ True) ∧ True ∧ l = l ∧ True ∧ (n = n ∧ p = p ∧ mk (isF p) = mk (isF p) ∧ True) ∧ True ∧ (lpK p (gr p lv) D l m k).snd.snd = (lpK p (gr p lv) D l m y).snd.snd ∧ (True ∧ True ∧ True ∧ True ∧ True ∧ True) ∧ True) ∨ ∃ (y : Nat), (inS p (gr p lv) D l m y ∧ p.length - y < p.length - k) ∧ ((D : Int) = (D : Int) ∧ True ∧ True ∧ True ∧ True ∧ (p.length : Int) = (p.length : Int) ∧ (k : Int) + 1 = (y : Int) ∧ True) ∧ False ∧ False ∧ True ∧ (n = n ∧ p = p ∧ mk (isF p) = mk (isF p) ∧ True) ∧ True ∧ (lpK p (gr p lv) D l m k).snd.snd = (lpK p (gr p lv) D l m y).snd.snd ∧ (True ∧ True ∧ True ∧ True ∧ True ∧ True) ∧ True)) ∧ ((!flw p D k) = false → True ∧ True ∧ True ∧ sumPre l.length [(k : Int)].length (nat_lit 8) ∧ True ∧ True ∧ True ∧ True ∧ inR .u64 (k : Int) ∧ (((0 : Int) ≤ (k : Int) ∧ (k : Int) < bitsOf .i64) ∧ (-9223372036854775808 : Int) ≤ 1 * 2 ^ k ∧ (1 : Int) * 2 ^ k ≤ 9223372036854775807) ∧ True ∧ ((ok55 lv (bOr .i64 (D : Int) ((1 : Int) * 2 ^ k), (n, p, mk (isF p)), l ++ [(k : Int)], (lpK p (gr p lv) D l m k).snd.snd) ∧ (bOr .i64 (D : Int) ((1 : Int) * 2 ^ k) = bOr .i64 (D : Int) ((1 : Int) * 2 ^ k) ∧ True ∧ True ∧ True ∧ True ∧ True) ∧ True ∧ l ++ [(k : Int)] = l ++ [(k : Int)] ∧ True ∧ (n = n ∧ p = p ∧ mk (isF p) = mk (isF p) ∧ True) ∧ True ∧ (lpK p (gr p lv) D l m k).snd.snd = (lpK p (gr p lv) D l m k).snd.snd ∧ (True ∧ True ∧ True ∧ True ∧ True ∧ True) ∧ True) ∧ True ∧ True ∧ True ∧ True ∧ True ∧ True ∧ True ∧ True) ∧ ((gr p lv (bOr .i64 (D : Int) ((1 : Int) * 2 ^ k)).toNat (l ++ [(k : Int)]) (lpK p (gr p lv) D l m k).snd.snd).fst = true → True ∧ True ∧ (true = (gr p (lv + 1) D l m).fst ∧ True) ∧ True ∧ (gr p lv (bOr .i64 (D : Int) ((1 : Int) * 2 ^ k)).toNat (l ++ [(k : Int)]) (lpK p (gr p lv) D l m k).snd.snd).snd.fst = (gr p (lv + 1) D l m).snd.fst ∧ True ∧ (n = n ∧ p = p ∧ mk (isF p) = mk (isF p) ∧ True) ∧ True ∧ (gr p lv (bOr .i64 (D : Int) ((1 : Int) * 2 ^ k)).toNat (l ++ [(k : Int)]) (lpK p (gr p lv) D l m k).snd.snd).snd.snd = (gr p (lv + 1) D l m).snd.snd ∧ (True ∧ True ∧ True ∧ True ∧ True ∧ True) ∧ True) ∧ ((gr p lv (bOr .i64 (D : Int) ((1 : Int) * 2 ^ k)).toNat (l ++ [(k : Int)]) (lpK p (gr p lv) D l m k).snd.snd).fst = false → True ∧ True ∧ True ∧ inR .i64 ((↑(gr p lv (bOr .i64 (D : Int) ((1 : Int) * 2 ^ k)).toNat (l ++ [(k : Int)]) (lpK p (gr p lv) D l m k).snd.snd).snd.fst.length : Int) - 1) ∧ ((0 : Int) ≤ (↑(gr p lv (bOr .i64 (D : Int) ((1 : Int) * 2 ^ k)).toNat (l ++ [(k : Int)]) (lpK p (gr p lv) D l m k).snd.snd).snd.fst.length : Int) - 1 ∧ (↑(gr p lv (bOr .i64 (D : Int) ((1 : Int) * 2 ^ k)).toNat (l ++ [(k : Int)]) (lpK p (gr p lv) D l m k).snd.snd).snd.fst.length : Int) - 1 ≤ (↑(gr p lv (bOr .i64 (D : Int) ((1 : Int) * 2 ^ k)).toNat (l ++ [(k : Int)]) (lpK p (gr p lv) D l m k).snd.snd).snd.fst.length : Int)) ∧ True ∧ inR .i64 ((k : Int) + 1) ∧ True ∧ ((∃ (y : Nat), (inS p (gr p lv) D l m y ∧ p.length - y < p.length - k) ∧ ((D : Int) = (D : Int) ∧ True ∧ True ∧ True ∧ True ∧ (p.length : Int) = (p.length : Int) ∧ (k : Int) + 1 = (y : Int) ∧ True) ∧ False ∧ False ∧ True ∧ (n = n ∧ p = p ∧ mk (isF p) = mk (isF p) ∧ True) ∧ True ∧ (gr p lv (bOr .i64 (D : Int) ((1 : Int) * 2 ^ k)).toNat (l ++ [(k : Int)]) (lpK p (gr p lv) D l m k).snd.snd).snd.snd = (lpK p (gr p lv) D l m y).snd.snd ∧ (True ∧ True ∧ True ∧ True ∧ True ∧ True) ∧ True) ∨ ∃ (y : Nat), (inS p (gr p lv) D l m y ∧ p.length - y < p.length - k) ∧ ((D : Int) = (D : Int) ∧ True ∧ True ∧ True ∧ True ∧ (p.length : Int) = (p.length : Int) ∧ (k : Int) + 1 = (y : Int) ∧ True) ∧ True ∧ List.take ((↑(gr p lv (bOr .i64 (D : Int) ((1 : Int) * 2 ^ k)).toNat (l ++ [(k : Int)]) (lpK p (gr p lv) D l m k).snd.snd).snd.fst.length : Int) - 1).toNat (gr p lv (bOr .i64 (D : Int) ((1 : Int) * 2 ^ k)).toNat (l ++ [(k : Int)]) (lpK p (gr p lv) D l m k).snd.snd).snd.fst = l ∧ True ∧ (n = n ∧ p = p ∧ mk (isF p) = mk (isF p) ∧ True) ∧ True ∧ (gr p lv (bOr .i64 (D : Int) ((1 : Int) * 2 ^ k)).toNat (l ++ [(k : Int)]) (lpK p (gr p lv) D l m k).snd.snd).snd.snd = (lpK p (gr p lv) D l m y).snd.snd ∧ (True ∧ True ∧ True ∧ True ∧ True ∧ True) ∧ True))))) ∧ (¬(k : Int) < (p.length : Int) → (∃ (y : Unit), (lpK p (gr p lv) D l m p.length).fst = false ∧ ((D : Int) = (D : Int) ∧ True ∧ True ∧ True ∧ True ∧ True) ∧ True ∧ l = l ∧ True ∧ (n = n ∧ p = p ∧ mk (isF p) = mk (isF p) ∧ True) ∧ True ∧ (lpK p (gr p lv) D l m k).snd.snd = (lpK p (gr p lv) D l m p.length).snd.snd ∧ (True ∧ True ∧ True ∧ True ∧ True ∧ True) ∧ True) ∨ ∃ (y : Unit), (lpK p (gr p lv) D l m p.length).fst = false ∧ ((D : Int) = (D : Int) ∧ True ∧ True ∧ True ∧ True ∧ True) ∧ False ∧ False ∧ True ∧ (n = n ∧ p = p ∧ mk (isF p) = mk (isF p) ∧ True) ∧ True ∧ (lpK p (gr p lv) D l m k).snd.snd = (lpK p (gr p lv) D l m p.length).snd.snd ∧ (True ∧ True ∧ True ∧ True ∧ True ∧ True) ∧ True)) (by kernel_rfl) ?_
   simp only [zz]
   obtain ⟨k1, k2⟩ := hk
   have hl := hp.l
   have hc := hp.h.2.1
   have hD := pre_D hp
   refine ⟨fun h => ?_, fun h => by rw [show p.length = k by omega]; exact ⟨k2, rfl⟩⟩
   have hkp : k < p.length := by omega
   have hb := or_pow10 hD (k := k) (by omega)
   have hst := lpK_go k2
   rw [bit_shr hD, hb.1, Int.toNat_natCast]
   have hskip : (D / 2 ^ k % 2 = 1 ∨ flw p D k = false) → inR .i64 ((k : Int) + 1) ∧ ∃ y : Nat, (inS p (gr p lv) D l m y ∧ p.length - y < p.length - k) ∧ (k : Int) + 1 = (y : Int) ∧ (lpK p (gr p lv) D l m k).2.2 = (lpK p (gr p lv) D l m y).2.2 := fun hh => by
     rw [if_pos hh] at hst
     exact ⟨by simp only [inR]; omega, k + 1, ⟨⟨by omega, by rw [hst]; exact k2⟩, by omega⟩, by omega, by rw [hst]⟩
   refine ⟨by simp only [inR]; omega, ⟨by omega, by simp only [bitsOf]; omega⟩, fun hx => hskip (.inl (by omega)), fun hx => ⟨⟨⟨hp.h, rfl⟩, ⟨by simp only; omega, by simp only; omega⟩, ⟨by simp only; omega, by simp only; omega⟩⟩, fun hx2 => hskip (.inr (by simpa using hx2)), fun hx2 => ?_⟩⟩
   have hx2 : flw p D k = true := by simpa using hx2
   rw [if_neg (by simp [hx2]; omega)] at hst
   have hlt : D ||| 2 ^ k < 2 ^ p.length := Nat.or_lt_two_pow hp.D (Nat.pow_lt_pow_right (by decide) hkp)
   have hpre : pre55 n p lv (D ||| 2 ^ k) (l ++ [(k : Int)]) := ⟨hp.h, hlt, by simp; omega⟩
   refine ⟨by unfold sumPre; simp; omega, by simp only [inR]; omega, ⟨⟨by omega, by simp only [bitsOf]; omega⟩, by omega, by omega⟩, ⟨⟨hp.h, rfl⟩, by simp only; omega, hpre⟩, fun hr => ?_, fun hr => ?_⟩
   · have hr : (gr p lv (D ||| 2 ^ k) (l ++ [(k : Int)]) (lpK p (gr p lv) D l m k).2.2).1 = true := hr
     rw [if_pos hr] at hst
     have hs := lpK_stop (k := k + 1) (by rw [hst]; exact hr) (p.length - (k + 1))
     rw [show k + 1 + (p.length - (k + 1)) = p.length by omega, hst] at hs
     have e : gr p (lv + 1) D l m = gr p lv (D ||| 2 ^ k) (l ++ [(k : Int)]) (lpK p (gr p lv) D l m k).2.2 := by rw [gr, if_neg hm, hs, if_pos hr]
     rw [e]
     exact ⟨hr.symm, rfl, rfl⟩
   · have hr : (gr p lv (D ||| 2 ^ k) (l ++ [(k : Int)]) (lpK p (gr p lv) D l m k).2.2).1 = false := hr
     rw [if_neg (by simp [hr])] at hst
     have h2 := gr_list hr
     have q1 : inR .i64 (((gr p lv (D ||| 2 ^ k) (l ++ [(k : Int)]) (lpK p (gr p lv) D l m k).2.2).2.1.length : Int) - 1) := by rw [h2]; simp only [inR]; simp; omega
     have q2 : 0 ≤ ((gr p lv (D ||| 2 ^ k) (l ++ [(k : Int)]) (lpK p (gr p lv) D l m k).2.2).2.1.length : Int) - 1 ∧ ((gr p lv (D ||| 2 ^ k) (l ++ [(k : Int)]) (lpK p (gr p lv) D l m k).2.2).2.1.length : Int) - 1 ≤ ((gr p lv (D ||| 2 ^ k) (l ++ [(k : Int)]) (lpK p (gr p lv) D l m k).2.2).2.1.length : Int) := by rw [h2]; simp; omega
     have q3 : (gr p lv (D ||| 2 ^ k) (l ++ [(k : Int)]) (lpK p (gr p lv) D l m k).2.2).2.1.take (((gr p lv (D ||| 2 ^ k) (l ++ [(k : Int)]) (lpK p (gr p lv) D l m k).2.2).2.1.length : Int) - 1).toNat = l := by rw [h2]; simp
     have q4 : (gr p lv (D ||| 2 ^ k) (l ++ [(k : Int)]) (lpK p (gr p lv) D l m k).2.2).2.2 = (lpK p (gr p lv) D l m (k + 1)).2.2 := by rw [hst]
     exact ⟨q1, q2, by simp only [inR]; omega, k + 1, ⟨⟨by omega, by rw [hst]⟩, by omega⟩, by omega, q3, q4⟩
 · refine of_eq (q := True ∧ ((k : Int) < (p.length : Int) → True ∧ True ∧ True ∧ True ∧ inR .u64 (k : Int) ∧ ((0 : Int) ≤ (k : Int) ∧ (k : Int) < bitsOf .i64) ∧ True ∧ True ∧ True ∧ (bAnd .i64 ((D : Int) / (2 : Int) ^ k) (1 : Int) = 1 → True ∧ inR .i64 ((k : Int) + 1) ∧ True ∧ ((∃ (y : Nat), (inS p (gr p lv) D l m y ∧ p.length - y < p.length - k) ∧ ((D : Int) = (D : Int) ∧ True ∧ True ∧ True ∧ True ∧ (p.length : Int) = (p.length : Int) ∧ (k : Int) + 1 = (y : Int) ∧ True) ∧ False ∧ False ∧ True ∧ (n = n ∧ p = p ∧ mk (isF p) = mk (isF p) ∧ True) ∧ True ∧ (lpK p (gr p lv) D l m k).snd.snd = (lpK p (gr p lv) D l m y).snd.snd ∧ (True ∧ True ∧ True ∧ True ∧ True ∧ True) ∧ True) ∨ ∃ (y : Nat), (inS p (gr p lv) D l m y ∧ p.length - y < p.length - k) ∧ ((D : Int) = (D : Int) ∧ True ∧ True ∧ True ∧ True ∧ (p.length : Int) = (p.length : Int) ∧ (k : Int) + 1 = (y : Int) ∧ True) ∧ True ∧ l = l ∧ True ∧ (n = n ∧ p = p ∧ mk (isF p) = mk (isF p) ∧ True) ∧ True ∧ (lpK p (gr p lv) D l m k).snd.snd = (lpK p (gr p lv) D l m y).snd.snd ∧ (True ∧ True ∧ True ∧ True ∧ True ∧ True) ∧ True)) ∧ (¬bAnd .i64 ((D : Int) / (2 : Int) ^ k) (1 : Int) = 1 → True ∧ True ∧ True ∧ ((ok56 ((D : Int), (k : Int), n, p, mk (isF p)) ∧ (True ∧ (D : Int) = (D : Int) ∧ (k : Int) = (k : Int) ∧ True) ∧ (n = n ∧ p = p ∧ mk (isF p) = mk (isF p) ∧ True) ∧ True) ∧ True ∧ True) ∧ True ∧ True ∧ ((!flw p D k) = true → inR .i64 ((k : Int) + 1) ∧ True ∧ ((∃ (y : Nat), (inS p (gr p lv) D l m y ∧ p.length - y < p.length - k) ∧ ((D : Int) = (D : Int) ∧ True ∧ True ∧ True ∧ True ∧ (p.length : Int) = (p.length : Int) ∧ (k : Int) + 1 = (y : Int) ∧ True) ∧ False ∧ False ∧ True ∧ (n = n ∧ p = p ∧ mk (isF p) = mk (isF p) ∧ True) ∧ True ∧ (lpK p (gr p lv) D l m k).snd.snd = (lpK p (gr p lv) D l m y).snd.snd ∧ (True ∧ True ∧ True ∧ True ∧ True ∧ True) ∧ True) ∨ ∃ (y : Nat), (inS p (gr p lv) D l m y ∧ p.length - y < p.length - k) ∧ ((D : Int) = (D : Int) ∧ True ∧ True ∧ True ∧ True ∧ (p.length : Int) = (p.length : Int) ∧ (k : Int) + 1 = (y : Int) ∧ True) ∧ True ∧ l = l ∧ True ∧ (n = n ∧ p = p ∧ mk (isF p) = mk (isF p) ∧ True) ∧ True ∧ (lpK p (gr p lv) D l m k).snd.snd = (lpK p (gr p lv) D l m y).snd.snd ∧ (True ∧ True ∧ True ∧ True ∧ True ∧ True) ∧ True)) ∧ ((!flw p D k) = false → True ∧ True ∧ True ∧ sumPre l.length [(k : Int)].length (nat_lit 8) ∧ True ∧ True ∧ True ∧ True ∧ inR .u64 (k : Int) ∧ (((0 : Int) ≤ (k : Int) ∧ (k : Int) < bitsOf .i64) ∧ (-9223372036854775808 : Int) ≤ 1 * 2 ^ k ∧ (1 : Int) * 2 ^ k ≤ 9223372036854775807) ∧ True ∧ ((ok55 lv (bOr .i64 (D : Int) ((1 : Int) * 2 ^ k), (n, p, mk (isF p)), l ++ [(k : Int)], (lpK p (gr p lv) D l m k).snd.snd) ∧ (bOr .i64 (D : Int) ((1 : Int) * 2 ^ k) = bOr .i64 (D : Int) ((1 : Int) * 2 ^ k) ∧ True ∧ True ∧ True ∧ True ∧ True) ∧ True ∧ l ++ [(k : Int)] = l ++ [(k : Int)] ∧ True ∧ (n = n ∧ p = p ∧ mk (isF p) = mk (isF p) ∧ True) ∧ True ∧ (lpK p (gr p lv) D l m k).snd.snd = (lpK p (gr p lv) D l m k).snd.snd ∧ (True ∧ True ∧ True ∧ True ∧ True ∧ True) ∧ True) ∧ True ∧ True ∧ True ∧ True ∧ True ∧ True ∧ True ∧ True) ∧ ((gr p lv (bOr .i64 (D : Int) ((1 : Int) * 2 ^ k)).toNat (l ++ [(k : Int)]) (lpK p (gr p lv) D l m k).snd.snd).fst = true → True ∧ True ∧ (true = (gr p (lv + 1) D l m).fst ∧ True) ∧ True ∧ (gr p lv (bOr .i64 (D : Int) ((1 : Int) * 2 ^ k)).toNat (l ++ [(k : Int)]) (lpK p (gr p lv) D l m k).snd.snd).snd.fst = (gr p (lv + 1) D l m).snd.fst ∧ True ∧ (n = n ∧ p = p ∧ mk (isF p) = mk (isF p) ∧ True) ∧ True ∧ (gr p lv (bOr .i64 (D : Int) ((1 : Int) * 2 ^ k)).toNat (l ++ [(k : Int)]) (lpK p (gr p lv) D l m k).snd.snd).snd.snd = (gr p (lv + 1) D l m).snd.snd ∧ (True ∧ True ∧ True ∧ True ∧ True ∧ True) ∧ True) ∧ ((gr p lv (bOr .i64 (D : Int) ((1 : Int) * 2 ^ k)).toNat (l ++ [(k : Int)]) (lpK p (gr p lv) D l m k).snd.snd).fst = false → True ∧ True ∧ True ∧ inR .i64 ((↑(gr p lv (bOr .i64 (D : Int) ((1 : Int) * 2 ^ k)).toNat (l ++ [(k : Int)]) (lpK p (gr p lv) D l m k).snd.snd).snd.fst.length : Int) - 1) ∧ ((0 : Int) ≤ (↑(gr p lv (bOr .i64 (D : Int) ((1 : Int) * 2 ^ k)).toNat (l ++ [(k : Int)]) (lpK p (gr p lv) D l m k).snd.snd).snd.fst.length : Int) - 1 ∧ (↑(gr p lv (bOr .i64 (D : Int) ((1 : Int) * 2 ^ k)).toNat (l ++ [(k : Int)]) (lpK p (gr p lv) D l m k).snd.snd).snd.fst.length : Int) - 1 ≤ (↑(gr p lv (bOr .i64 (D : Int) ((1 : Int) * 2 ^ k)).toNat (l ++ [(k : Int)]) (lpK p (gr p lv) D l m k).snd.snd).snd.fst.length : Int)) ∧ True ∧ inR .i64 ((k : Int) + 1) ∧ True ∧ ((∃ (y : Nat), (inS p (gr p lv) D l m y ∧ p.length - y < p.length - k) ∧ ((D : Int) = (D : Int) ∧ True ∧ True ∧ True ∧ True ∧ (p.length : Int) = (p.length : Int) ∧ (k : Int) + 1 = (y : Int) ∧ True) ∧ False ∧ False ∧ True ∧ (n = n ∧ p = p ∧ mk (isF p) = mk (isF p) ∧ True) ∧ True ∧ (gr p lv (bOr .i64 (D : Int) ((1 : Int) * 2 ^ k)).toNat (l ++ [(k : Int)]) (lpK p (gr p lv) D l m k).snd.snd).snd.snd = (lpK p (gr p lv) D l m y).snd.snd ∧ (True ∧ True ∧ True ∧ True ∧ True ∧ True) ∧ True) ∨ ∃ (y : Nat), (inS p (gr p lv) D l m y ∧ p.length - y < p.length - k) ∧ ((D : Int) = (D : Int) ∧ True ∧ True ∧ True ∧ True ∧ (p.length : Int) = (p.length : Int) ∧ (k : Int) + 1 = (y : Int) ∧ True) ∧ True ∧ List.take ((↑(gr p lv (bOr .i64 (D : Int) ((1 : Int) * 2 ^ k)).toNat (l ++ [(k : Int)]) (lpK p (gr p lv) D l m k).snd.snd).snd.fst.length : Int) - 1).toNat (gr p lv (bOr .i64 (D : Int) ((1 : Int) * 2 ^ k)).toNat (l ++ [(k : Int)]) (lpK p (gr p lv) D l m k).snd.snd).snd.fst = l ∧ True ∧ (n = n ∧ p = p ∧ mk (isF p) = mk (isF p) ∧ True) ∧ True ∧ (gr p lv (bOr .i64 (D : Int) ((1 : Int) * 2 ^ k)).toNat (l ++ [(k : Int)]) (lpK p (gr p lv) D l m k).snd.snd).snd.snd = (lpK p (gr p lv) D l m y).snd.snd ∧ (True ∧ True ∧ True ∧ True ∧ True ∧ True) ∧ True))))) ∧ (¬(k : Int) < (p.length : Int) → (∃ (y : Unit), (lpK p (gr p lv) D l m p.length).fst = false ∧ ((D : Int) = (D : Int) ∧ True ∧ True ∧ True ∧ True ∧ True) ∧ False ∧ False ∧ True ∧ (n = n ∧ p = p ∧ mk (isF p) = mk (isF p) ∧ True) ∧ True ∧ (lpK p (gr p lv) D l m k).snd.snd = (lpK p (gr p lv) D l m p.length).snd.snd ∧ (True ∧ True ∧ True ∧ True ∧ True ∧ True) ∧ True) ∨ ∃ (y : Unit), (lpK p (gr p lv) D l m p.length).fst = false ∧ ((D : Int) = (D : Int) ∧ True ∧ True ∧ True ∧ True ∧ True) ∧ True ∧ l = l ∧ True ∧ (n = n ∧ p = p ∧ mk (isF p) = mk (isF p) ∧ True) ∧ True ∧ (lpK p (gr p lv) D l m k).snd.snd = (lpK p (gr p lv) D l m p.length).snd.snd ∧ (True ∧ True ∧ True ∧ True ∧ True ∧ True) ∧ True)) (by kernel_rfl) ?_
   simp only [zz]
   obtain ⟨k1, k2⟩ := hk
   have hl := hp.l
   have hc := hp.h.2.1
   have hD := pre_D hp
   refine ⟨fun h => ?_, fun h => by rw [show p.length = k by omega]; exact ⟨k2, rfl⟩⟩
   have hkp : k < p.length := by omega
   have hb := or_pow10 hD (k := k) (by omega)
   have hst := lpK_go k2
   rw [bit_shr hD, hb.1, Int.toNat_natCast]
   have hskip : (D / 2 ^ k % 2 = 1 ∨ flw p D k = false) → inR .i64 ((k : Int) + 1) ∧ ∃ y : Nat, (inS p (gr p lv) D l m y ∧ p.length - y < p.length - k) ∧ (k : Int) + 1 = (y : Int) ∧ (lpK p (gr p lv) D l m k).2.2 = (lpK p (gr p lv) D l m y).2.2 := fun hh => by
     rw [if_pos hh] at hst
     exact ⟨by simp only [inR]; omega, k + 1, ⟨⟨by omega, by rw [hst]; exact k2⟩, by omega⟩, by omega, by rw [hst]⟩
   refine ⟨by simp only [inR]; omega, ⟨by omega, by simp only [bitsOf]; omega⟩, fun hx => hskip (.inl (by omega)), fun hx => ⟨⟨⟨hp.h, rfl⟩, ⟨by simp only; omega, by simp only; omega⟩, ⟨by simp only; omega, by simp only; omega⟩⟩, fun hx2 => hskip (.inr (by simpa using hx2)), fun hx2 => ?_⟩⟩
   have hx2 : flw p D k = true := by simpa using hx2
   rw [if_neg (by simp [hx2]; omega)] at hst
   have hlt : D ||| 2 ^ k < 2 ^ p.length := Nat.or_lt_two_pow hp.D (Nat.pow_lt_pow_right (by decide) hkp)
   have hpre : pre55 n p lv (D ||| 2 ^ k) (l ++ [(k : Int)]) := ⟨hp.h, hlt, by simp; omega⟩
   refine ⟨by unfold sumPre; simp; omega, by simp only [inR]; omega, ⟨⟨by omega, by simp only [bitsOf]; omega⟩, by omega, by omega⟩, ⟨⟨hp.h, rfl⟩, by simp only; omega, hpre⟩, fun hr => ?_, fun hr => ?_⟩
   · have hr : (gr p lv (D ||| 2 ^ k) (l ++ [(k : Int)]) (lpK p (gr p lv) D l m k).2.2).1 = true := hr
     rw [if_pos hr] at hst
     have hs := lpK_stop (k := k + 1) (by rw [hst]; exact hr) (p.length - (k + 1))
     rw [show k + 1 + (p.length - (k + 1)) = p.length by omega, hst] at hs
     have e : gr p (lv + 1) D l m = gr p lv (D ||| 2 ^ k) (l ++ [(k : Int)]) (lpK p (gr p lv) D l m k).2.2 := by rw [gr, if_neg hm, hs, if_pos hr]
     rw [e]
     exact ⟨hr.symm, rfl, rfl⟩
   · have hr : (gr p lv (D ||| 2 ^ k) (l ++ [(k : Int)]) (lpK p (gr p lv) D l m k).2.2).1 = false := hr
     rw [if_neg (by simp [hr])] at hst
     have h2 := gr_list hr
     have q1 : inR .i64 (((gr p lv (D ||| 2 ^ k) (l ++ [(k : Int)]) (lpK p (gr p lv) D l m k).2.2).2.1.length : Int) - 1) := by rw [h2]; simp only [inR]; simp; omega
     have q2 : 0 ≤ ((gr p lv (D ||| 2 ^ k) (l ++ [(k : Int)]) (lpK p (gr p lv) D l m k).2.2).2.1.length : Int) - 1 ∧ ((gr p lv (D ||| 2 ^ k) (l ++ [(k : Int)]) (lpK p (gr p lv) D l m k).2.2).2.1.length : Int) - 1 ≤ ((gr p lv (D ||| 2 ^ k) (l ++ [(k : Int)]) (lpK p (gr p lv) D l m k).2.2).2.1.length : Int) := by rw [h2]; simp; omega
     have q3 : (gr p lv (D ||| 2 ^ k) (l ++ [(k : Int)]) (lpK p (gr p lv) D l m k).2.2).2.1.take (((gr p lv (D ||| 2 ^ k) (l ++ [(k : Int)]) (lpK p (gr p lv) D l m k).2.2).2.1.length : Int) - 1).toNat = l := by rw [h2]; simp
     have q4 : (gr p lv (D ||| 2 ^ k) (l ++ [(k : Int)]) (lpK p (gr p lv) D l m k).2.2).2.2 = (lpK p (gr p lv) D l m (k + 1)).2.2 := by rw [hst]
     exact ⟨q1, q2, by simp only [inR]; omega, k + 1, ⟨⟨by omega, by rw [hst]⟩, by omega⟩, by omega, q3, q4⟩
theorem gS1 (lv : Nat) (h' : GS lv) : GS (lv + 1) := by
 intro n p D l m hp
 have hL := fun hm => loopS lv h' n p D l m hp hm
 refine gcall_of (X := (X55 [e56, e55S lv h'])) ((Xb_ok _ _ _ _)) (f := 55) (fn := Try.f55) (c := bodyOf Try.f55) (by kernel_rfl) (by kernel_rfl) (view := false) (rvs := [.tmp 6]) (by kernel_rfl) (H := (HS n p (gr p lv) D l m)) 80 (by kernel_rfl) ?_
 refine of_eq (q := True ∧ True ∧ True ∧ True ∧ True ∧ True ∧ True ∧ True ∧ True ∧ ((l.length : Int) = (p.length : Int) → True ∧ True ∧ (true = (gr p (lv + 1) D l m).fst ∧ True) ∧ True ∧ l = (gr p (lv + 1) D l m).snd.fst ∧ True ∧ (n = n ∧ p = p ∧ mk (isF p) = mk (isF p) ∧ True) ∧ True ∧ m = (gr p (lv + 1) D l m).snd.snd ∧ (True ∧ True ∧ True ∧ True ∧ True ∧ True) ∧ True) ∧ (¬(l.length : Int) = (p.length : Int) → True ∧ True ∧ True ∧ ((mGet I64 m (D : Int)).getD false = true → True ∧ True ∧ (false = (gr p (lv + 1) D l m).fst ∧ True) ∧ True ∧ l = (gr p (lv + 1) D l m).snd.fst ∧ True ∧ (n = n ∧ p = p ∧ mk (isF p) = mk (isF p) ∧ True) ∧ True ∧ m = (gr p (lv + 1) D l m).snd.snd ∧ (True ∧ True ∧ True ∧ True ∧ True ∧ True) ∧ True) ∧ ((mGet I64 m (D : Int)).getD false = false → True ∧ True ∧ True ∧ True ∧ True ∧ True ∧ LoopOK (X55 [e56, e55S lv h']) L55_0 (hS n p (gr p lv) D l m) (RetR (X55 [e56, e55S lv h']) false false [ResultVar.tmp (6 : Tmp)] [AV.bool (gr p (lv + 1) D l m).fst] (gS (1 : Nat) n p (gr p (lv + 1) D l m).snd.fst (gr p (lv + 1) D l m).snd.snd)) ∧ ((∃ (y : Nat), inS p (gr p lv) D l m y ∧ ((D : Int) = (D : Int) ∧ True ∧ True ∧ True ∧ True ∧ (p.length : Int) = (p.length : Int) ∧ (0 : Int) = (y : Int) ∧ True) ∧ True ∧ l = l ∧ True ∧ (n = n ∧ p = p ∧ mk (isF p) = mk (isF p) ∧ True) ∧ True ∧ m = (lpK p (gr p lv) D l m y).snd.snd ∧ (True ∧ True ∧ True ∧ True ∧ True ∧ True) ∧ True) ∨ ∃ (y : Nat), inS p (gr p lv) D l m y ∧ ((D : Int) = (D : Int) ∧ True ∧ True ∧ True ∧ True ∧ (p.length : Int) = (p.length : Int) ∧ (0 : Int) = (y : Int) ∧ True) ∧ False ∧ False ∧ True ∧ (n = n ∧ p = p ∧ mk (isF p) = mk (isF p) ∧ True) ∧ True ∧ m = (lpK p (gr p lv) D l m y).snd.snd ∧ (True ∧ True ∧ True ∧ True ∧ True ∧ True) ∧ True) ∧ (∀ (y : Unit), (lpK p (gr p lv) D l m p.length).fst = false → True ∧ True ∧ True ∧ True ∧ True ∧ (false = (gr p (lv + 1) D l m).fst ∧ True) ∧ True ∧ l = (gr p (lv + 1) D l m).snd.fst ∧ True ∧ (n = n ∧ p = p ∧ mk (isF p) = mk (isF p) ∧ True) ∧ True ∧ mPut I64 (lpK p (gr p lv) D l m p.length).snd.snd (D : Int) true = (gr p (lv + 1) D l m).snd.snd ∧ (True ∧ True ∧ True ∧ True ∧ True ∧ True) ∧ True) ∧ (∀ (y : Unit), (lpK p (gr p lv) D l m p.length).fst = false → True ∧ True ∧ True ∧ True ∧ True ∧ (false = (gr p (lv + 1) D l m).fst ∧ True) ∧ True ∧ l = (gr p (lv + 1) D l m).snd.fst ∧ True ∧ (n = n ∧ p = p ∧ mk (isF p) = mk (isF p) ∧ True) ∧ True ∧ mPut I64 (lpK p (gr p lv) D l m p.length).snd.snd (D : Int) true = (gr p (lv + 1) D l m).snd.snd ∧ (True ∧ True ∧ True ∧ True ∧ True ∧ True) ∧ True) ∧ True))) (by kernel_rfl) ?_
 simp only [zz]
 have hl := hp.l
 have hg : mg m D = (mGet I64 m D).getD false := rfl
 refine ⟨fun h => by omega, fun _ => ⟨fun h => ?_, fun h => ⟨hL (by rw [hg, h]; simp) , ⟨0, ⟨Nat.zero_le _, rfl⟩, rfl, rfl⟩, fun _ hf => ?_, fun _ hf => ?_⟩⟩⟩
 · rw [gr, hg, if_pos h]; exact ⟨rfl, rfl, rfl⟩
 · rw [gr, hg, if_neg (by simp [h]), if_neg (by simp [hf])]; exact ⟨rfl, rfl, rfl⟩
 · rw [gr, hg, if_neg (by simp [h]), if_neg (by simp [hf])]; exact ⟨rfl, rfl, rfl⟩
theorem gS_all : ∀ lv, GS lv
 | 0 => gS0
 | lv + 1 => gS1 lv (gS_all lv)
def gN (n : Int) (p : List Int) (m : Mm) : List Ob := [.bx nl, .bx (.ptr 2 0 []), cxO n p, .bx (.mp 4), mmO m, .bx (clo55 0 1 3 5)]
def gO (n : Int) (p l : List Int) (m : Mm) : List Ob := [.bx (.own 6 0), .bx (.ptr 2 0 []), cxO n p, .bx (.mp 4), mmO m, .bx (clo55 0 1 3 5), .sc 0 3 I64 l]
def aN (D : Int) : List AV := [.int .i64 D, .ptr 0 0 [], .ptr 1 0 [], .ptr 3 0 [], .ptr 5 0 []]
def sN (n : Int) (p : List Int) (D : Nat) (m : Mm) (k : Nat) : St := ⟨aN D ++ dd 18 ++ .int .i64 p.length :: .int .i64 k :: dd 34, gN n p m⟩
def sO (n : Int) (p : List Int) (f : Nat → List Int → Mm → Res) (D : Nat) (m : Mm) (k : Nat) : St := ⟨aN D ++ dd 18 ++ .int .i64 p.length :: .int .i64 k :: dd 34, gO n p [] (lpK p f D [] m k).2.2⟩
def fmN (n : Int) (p : List Int) (f : Nat → List Int → Mm → Res) (D : Nat) (m : Mm) : List Fam := [⟨Nat, fun k => k = 0, sN n p D m, fun k => p.length - k, fun _ _ => none⟩, ⟨Nat, inS p f D [] m, sO n p f D m, fun k => p.length - k, fun _ _ => none⟩]
def exN (n : Int) (p : List Int) (f : Nat → List Int → Mm → Res) (D : Nat) (m : Mm) : List (List Nat × Ex) := [([0, 1, 2, 3, 4], ⟨0, Unit, fun _ => (lpK p f D [] m p.length).1 = false, fun _ => ⟨aN D ++ dd 54, gO n p [] (lpK p f D [] m p.length).2.2⟩⟩)]
def hN (n : Int) (p : List Int) (f : Nat → List Int → Mm → Res) (D : Nat) (m : Mm) : Hint := ⟨chks 6 [0, 1, 2, 3, 4, 23, 24] (fmN n p f D m), (exN n p f D m).map (·.2)⟩
noncomputable def HN (n : Int) (p : List Int) (f : Nat → List Int → Mm → Res) (D : Nat) (m : Mm) : Nat → Option Hint := fun _ => some (hN n p f D m)
noncomputable abbrev XN (lv : Nat) : Cy := Xb [e56, e55S lv (gS_all lv)] 6 [] (fun _ => none)
theorem flw_zero (p : List Int) (k : Nat) : flw p 0 k = true := by
 refine decide_eq_true fun j _ h => ?_
 rw [Nat.zero_div] at h; cases h
theorem loopN (lv : Nat) (n : Int) (p : List Int) (D : Nat) (m : Mm) (hp : pre55 n p (lv + 1) D []) (hD0 : D = 0) (hm : ¬ mg m D = true) : LoopOK (XN lv) L55_0 (hN n p (gr p lv) D m)
   (RetR (XN lv) false false [.tmp 6] [.bool (gr p (lv + 1) D [] m).1] (gO n p (gr p (lv + 1) D [] m).2.1 (gr p (lv + 1) D [] m).2.2)) := by
 refine loop_fams (Xb_ok _ _ _ _) [0, 1, 2, 3, 4, 23, 24] (fmN n p (gr p lv) D m) (exN n p (gr p lv) D m) 150 ⟨fun (k : Nat) hk => ?_, fun (k : Nat) hk => ?_, trivial⟩
 · refine of_eq (q := True ∧ ((k : Int) < (p.length : Int) → True ∧ True ∧ True ∧ True ∧ inR .u64 (k : Int) ∧ ((0 : Int) ≤ (k : Int) ∧ (k : Int) < bitsOf .i64) ∧ True ∧ True ∧ True ∧ (bAnd .i64 ((D : Int) / (2 : Int) ^ k) (1 : Int) = 1 → True ∧ inR .i64 ((k : Int) + 1) ∧ True ∧ ((∃ (y : Nat), (y = 0 ∧ p.length - y < p.length - k) ∧ ((D : Int) = (D : Int) ∧ True ∧ True ∧ True ∧ True ∧ (p.length : Int) = (p.length : Int) ∧ (k : Int) + 1 = (y : Int) ∧ True) ∧ True ∧ True ∧ (n = n ∧ p = p ∧ mk (isF p) = mk (isF p) ∧ True) ∧ True ∧ m = m ∧ (True ∧ True ∧ True ∧ True ∧ True ∧ True) ∧ True) ∨ ∃ (y : Nat), (inS p (gr p lv) D [] m y ∧ p.length - y < p.length - k) ∧ ((D : Int) = (D : Int) ∧ True ∧ True ∧ True ∧ True ∧ (p.length : Int) = (p.length : Int) ∧ (k : Int) + 1 = (y : Int) ∧ True) ∧ False ∧ True ∧ (n = n ∧ p = p ∧ mk (isF p) = mk (isF p) ∧ True) ∧ True ∧ m = (lpK p (gr p lv) D [] m y).snd.snd ∧ (True ∧ True ∧ True ∧ True ∧ True ∧ True) ∧ False)) ∧ (¬bAnd .i64 ((D : Int) / (2 : Int) ^ k) (1 : Int) = 1 → True ∧ True ∧ True ∧ ((ok56 ((D : Int), (k : Int), n, p, mk (isF p)) ∧ (True ∧ (D : Int) = (D : Int) ∧ (k : Int) = (k : Int) ∧ True) ∧ (n = n ∧ p = p ∧ mk (isF p) = mk (isF p) ∧ True) ∧ True) ∧ True ∧ True) ∧ True ∧ True ∧ ((!flw p D k) = true → inR .i64 ((k : Int) + 1) ∧ True ∧ ((∃ (y : Nat), (y = 0 ∧ p.length - y < p.length - k) ∧ ((D : Int) = (D : Int) ∧ True ∧ True ∧ True ∧ True ∧ (p.length : Int) = (p.length : Int) ∧ (k : Int) + 1 = (y : Int) ∧ True) ∧ True ∧ True ∧ (n = n ∧ p = p ∧ mk (isF p) = mk (isF p) ∧ True) ∧ True ∧ m = m ∧ (True ∧ True ∧ True ∧ True ∧ True ∧ True) ∧ True) ∨ ∃ (y : Nat), (inS p (gr p lv) D [] m y ∧ p.length - y < p.length - k) ∧ ((D : Int) = (D : Int) ∧ True ∧ True ∧ True ∧ True ∧ (p.length : Int) = (p.length : Int) ∧ (k : Int) + 1 = (y : Int) ∧ True) ∧ False ∧ True ∧ (n = n ∧ p = p ∧ mk (isF p) = mk (isF p) ∧ True) ∧ True ∧ m = (lpK p (gr p lv) D [] m y).snd.snd ∧ (True ∧ True ∧ True ∧ True ∧ True ∧ True) ∧ False)) ∧ ((!flw p D k) = false → True ∧ True ∧ True ∧ sumPre (0 : Nat) [(k : Int)].length (nat_lit 8) ∧ True ∧ True ∧ True ∧ True ∧ inR .u64 (k : Int) ∧ (((0 : Int) ≤ (k : Int) ∧ (k : Int) < bitsOf .i64) ∧ (-9223372036854775808 : Int) ≤ 1 * 2 ^ k ∧ (1 : Int) * 2 ^ k ≤ 9223372036854775807) ∧ True ∧ ((ok55 lv (bOr .i64 (D : Int) ((1 : Int) * 2 ^ k), (n, p, mk (isF p)), [(k : Int)], m) ∧ (bOr .i64 (D : Int) ((1 : Int) * 2 ^ k) = bOr .i64 (D : Int) ((1 : Int) * 2 ^ k) ∧ True ∧ True ∧ True ∧ True ∧ True) ∧ True ∧ [(k : Int)] = [(k : Int)] ∧ True ∧ (n = n ∧ p = p ∧ mk (isF p) = mk (isF p) ∧ True) ∧ True ∧ m = m ∧ (True ∧ True ∧ True ∧ True ∧ True ∧ True) ∧ True) ∧ True ∧ True ∧ True ∧ True ∧ True ∧ True ∧ True ∧ True) ∧ ((gr p lv (bOr .i64 (D : Int) ((1 : Int) * 2 ^ k)).toNat [(k : Int)] m).fst = true → True ∧ True ∧ (true = (gr p (lv + 1) D [] m).fst ∧ True) ∧ True ∧ True ∧ (n = n ∧ p = p ∧ mk (isF p) = mk (isF p) ∧ True) ∧ True ∧ (gr p lv (bOr .i64 (D : Int) ((1 : Int) * 2 ^ k)).toNat [(k : Int)] m).snd.snd = (gr p (lv + 1) D [] m).snd.snd ∧ (True ∧ True ∧ True ∧ True ∧ True ∧ True) ∧ (gr p lv (bOr .i64 (D : Int) ((1 : Int) * 2 ^ k)).toNat [(k : Int)] m).snd.fst = (gr p (lv + 1) D [] m).snd.fst ∧ True) ∧ ((gr p lv (bOr .i64 (D : Int) ((1 : Int) * 2 ^ k)).toNat [(k : Int)] m).fst = false → True ∧ True ∧ True ∧ inR .i64 ((↑(gr p lv (bOr .i64 (D : Int) ((1 : Int) * 2 ^ k)).toNat [(k : Int)] m).snd.fst.length : Int) - 1) ∧ ((0 : Int) ≤ (↑(gr p lv (bOr .i64 (D : Int) ((1 : Int) * 2 ^ k)).toNat [(k : Int)] m).snd.fst.length : Int) - 1 ∧ (↑(gr p lv (bOr .i64 (D : Int) ((1 : Int) * 2 ^ k)).toNat [(k : Int)] m).snd.fst.length : Int) - 1 ≤ (↑(gr p lv (bOr .i64 (D : Int) ((1 : Int) * 2 ^ k)).toNat [(k : Int)] m).snd.fst.length : Int)) ∧ True ∧ inR .i64 ((k : Int) + 1) ∧ True ∧ ((∃ (y : Nat), (y = 0 ∧ p.length - y < p.length - k) ∧ ((D : Int) = (D : Int) ∧ True ∧ True ∧ True ∧ True ∧ (p.length : Int) = (p.length : Int) ∧ (k : Int) + 1 = (y : Int) ∧ True) ∧ False ∧ True ∧ (n = n ∧ p = p ∧ mk (isF p) = mk (isF p) ∧ True) ∧ True ∧ (gr p lv (bOr .i64 (D : Int) ((1 : Int) * 2 ^ k)).toNat [(k : Int)] m).snd.snd = m ∧ (True ∧ True ∧ True ∧ True ∧ True ∧ True) ∧ True) ∨ ∃ (y : Nat), (inS p (gr p lv) D [] m y ∧ p.length - y < p.length - k) ∧ ((D : Int) = (D : Int) ∧ True ∧ True ∧ True ∧ True ∧ (p.length : Int) = (p.length : Int) ∧ (k : Int) + 1 = (y : Int) ∧ True) ∧ True ∧ True ∧ (n = n ∧ p = p ∧ mk (isF p) = mk (isF p) ∧ True) ∧ True ∧ (gr p lv (bOr .i64 (D : Int) ((1 : Int) * 2 ^ k)).toNat [(k : Int)] m).snd.snd = (lpK p (gr p lv) D [] m y).snd.snd ∧ (True ∧ True ∧ True ∧ True ∧ True ∧ True) ∧ List.take ((↑(gr p lv (bOr .i64 (D : Int) ((1 : Int) * 2 ^ k)).toNat [(k : Int)] m).snd.fst.length : Int) - 1).toNat (gr p lv (bOr .i64 (D : Int) ((1 : Int) * 2 ^ k)).toNat [(k : Int)] m).snd.fst = [] ∧ True))))) ∧ (¬(k : Int) < (p.length : Int) → ∃ (y : Unit), (lpK p (gr p lv) D [] m p.length).fst = false ∧ ((D : Int) = (D : Int) ∧ True ∧ True ∧ True ∧ True ∧ True) ∧ False ∧ True ∧ (n = n ∧ p = p ∧ mk (isF p) = mk (isF p) ∧ True) ∧ True ∧ m = (lpK p (gr p lv) D [] m p.length).snd.snd ∧ (True ∧ True ∧ True ∧ True ∧ True ∧ True) ∧ False)) (by kernel_rfl) ?_
   simp only [zz]
   have hk : k = 0 := hk
   have hl : lv + 1 = p.length := by have := hp.l; simpa using this
   have hc := hp.h.2.1
   have hD := pre_D hp
   refine ⟨fun h => ?_, fun h => by omega⟩
   have hkp : k < p.length := by omega
   have hb := or_pow10 hD (k := k) (by omega)
   have e0 : lpK p (gr p lv) D [] m k = (false, [], m) := by rw [hk]; try rfl
   have hst := lpK_go (p := p) (f := gr p lv) (D := D) (l := []) (m := m) (k := k) (by rw [e0])
   have hf : flw p D k = true := by rw [hD0]; exact flw_zero p k
   have hz : D / 2 ^ k % 2 = 0 := by rw [hD0, Nat.zero_div]
   rw [if_neg (by rw [hz, hf]; simp), e0] at hst
   simp only [List.nil_append] at hst
   rw [bit_shr hD, hb.1, Int.toNat_natCast, hz, hf]
   have hlt : D ||| 2 ^ k < 2 ^ p.length := Nat.or_lt_two_pow hp.D (Nat.pow_lt_pow_right (by decide) hkp)
   have hpre : pre55 n p lv (D ||| 2 ^ k) [(k : Int)] := ⟨hp.h, hlt, by simp; omega⟩
   refine ⟨by simp only [inR]; omega, ⟨by omega, by simp only [bitsOf]; omega⟩, fun hx => absurd hx (by decide), fun hx => ⟨⟨⟨hp.h, rfl⟩, ⟨by simp only; omega, by simp only; omega⟩, ⟨by simp only; omega, by simp only; omega⟩⟩, fun hx2 => absurd hx2 (by decide), fun hx2 => ?_⟩⟩
   refine ⟨by unfold sumPre; simp, by simp only [inR]; omega, ⟨⟨by omega, by simp only [bitsOf]; omega⟩, by omega, by omega⟩, ⟨⟨hp.h, rfl⟩, by simp only; omega, hpre⟩, fun hr => ?_, fun hr => ?_⟩
   · have hr : (gr p lv (D ||| 2 ^ k) [(k : Int)] m).1 = true := hr
     rw [if_pos hr] at hst
     have hs := lpK_stop (k := k + 1) (by rw [hst]; exact hr) (p.length - (k + 1))
     rw [show k + 1 + (p.length - (k + 1)) = p.length by omega, hst] at hs
     have e : gr p (lv + 1) D [] m = gr p lv (D ||| 2 ^ k) [(k : Int)] m := by rw [gr, if_neg hm, hs, if_pos hr]
     rw [e]
     exact ⟨hr.symm, rfl, rfl⟩
   · have hr : (gr p lv (D ||| 2 ^ k) [(k : Int)] m).1 = false := hr
     rw [if_neg (by simp [hr])] at hst
     have h2 := gr_list hr
     have q1 : inR .i64 (((gr p lv (D ||| 2 ^ k) [(k : Int)] m).2.1.length : Int) - 1) := by rw [h2]; simp only [inR]; simp
     have q2 : 0 ≤ ((gr p lv (D ||| 2 ^ k) [(k : Int)] m).2.1.length : Int) - 1 ∧ ((gr p lv (D ||| 2 ^ k) [(k : Int)] m).2.1.length : Int) - 1 ≤ ((gr p lv (D ||| 2 ^ k) [(k : Int)] m).2.1.length : Int) := by rw [h2]; simp
     have q3 : (gr p lv (D ||| 2 ^ k) [(k : Int)] m).2.1.take (((gr p lv (D ||| 2 ^ k) [(k : Int)] m).2.1.length : Int) - 1).toNat = [] := by rw [h2]; simp
     have q4 : (gr p lv (D ||| 2 ^ k) [(k : Int)] m).2.2 = (lpK p (gr p lv) D [] m (k + 1)).2.2 := by rw [hst]
     exact ⟨q1, q2, by simp only [inR]; omega, k + 1, ⟨⟨by omega, by rw [hst]⟩, by omega⟩, by omega, q4, q3⟩
 · refine of_eq (q := True ∧ ((k : Int) < (p.length : Int) → True ∧ True ∧ True ∧ True ∧ inR .u64 (k : Int) ∧ ((0 : Int) ≤ (k : Int) ∧ (k : Int) < bitsOf .i64) ∧ True ∧ True ∧ True ∧ (bAnd .i64 ((D : Int) / (2 : Int) ^ k) (1 : Int) = 1 → True ∧ inR .i64 ((k : Int) + 1) ∧ True ∧ ((∃ (y : Nat), (y = 0 ∧ p.length - y < p.length - k) ∧ ((D : Int) = (D : Int) ∧ True ∧ True ∧ True ∧ True ∧ (p.length : Int) = (p.length : Int) ∧ (k : Int) + 1 = (y : Int) ∧ True) ∧ False ∧ True ∧ (n = n ∧ p = p ∧ mk (isF p) = mk (isF p) ∧ True) ∧ True ∧ (lpK p (gr p lv) D [] m k).snd.snd = m ∧ (True ∧ True ∧ True ∧ True ∧ True ∧ True) ∧ True) ∨ ∃ (y : Nat), (inS p (gr p lv) D [] m y ∧ p.length - y < p.length - k) ∧ ((D : Int) = (D : Int) ∧ True ∧ True ∧ True ∧ True ∧ (p.length : Int) = (p.length : Int) ∧ (k : Int) + 1 = (y : Int) ∧ True) ∧ True ∧ True ∧ (n = n ∧ p = p ∧ mk (isF p) = mk (isF p) ∧ True) ∧ True ∧ (lpK p (gr p lv) D [] m k).snd.snd = (lpK p (gr p lv) D [] m y).snd.snd ∧ (True ∧ True ∧ True ∧ True ∧ True ∧ True) ∧ ([] : List Int) = [] ∧ True)) ∧ (¬bAnd .i64 ((D : Int) / (2 : Int) ^ k) (1 : Int) = 1 → True ∧ True ∧ True ∧ ((ok56 ((D : Int), (k : Int), n, p, mk (isF p)) ∧ (True ∧ (D : Int) = (D : Int) ∧ (k : Int) = (k : Int) ∧ True) ∧ (n = n ∧ p = p ∧ mk (isF p) = mk (isF p) ∧ True) ∧ True) ∧ True ∧ True) ∧ True ∧ True ∧ ((!flw p D k) = true → inR .i64 ((k : Int) + 1) ∧ True ∧ ((∃ (y : Nat), (y = 0 ∧ p.length - y < p.length - k) ∧ ((D : Int) = (D : Int) ∧ True ∧ True ∧ True ∧ True ∧ (p.length : Int) = (p.length : Int) ∧ (k : Int) + 1 = (y : Int) ∧ True) ∧ False ∧ True ∧ (n = n ∧ p = p ∧ mk (isF p) = mk (isF p) ∧ True) ∧ True ∧ (lpK p (gr p lv) D [] m k).snd.snd = m ∧ (True ∧ True ∧ True ∧ True ∧ True ∧ True) ∧ True) ∨ ∃ (y : Nat), (inS p (gr p lv) D [] m y ∧ p.length - y < p.length - k) ∧ ((D : Int) = (D : Int) ∧ True ∧ True ∧ True ∧ True ∧ (p.length : Int) = (p.length : Int) ∧ (k : Int) + 1 = (y : Int) ∧ True) ∧ True ∧ True ∧ (n = n ∧ p = p ∧ mk (isF p) = mk (isF p) ∧ True) ∧ True ∧ (lpK p (gr p lv) D [] m k).snd.snd = (lpK p (gr p lv) D [] m y).snd.snd ∧ (True ∧ True ∧ True ∧ True ∧ True ∧ True) ∧ ([] : List Int) = [] ∧ True)) ∧ ((!flw p D k) = false → True ∧ True ∧ True ∧ sumPre ([] : List Int).length [(k : Int)].length (nat_lit 8) ∧ True ∧ True ∧ True ∧ True ∧ inR .u64 (k : Int) ∧ (((0 : Int) ≤ (k : Int) ∧ (k : Int) < bitsOf .i64) ∧ (-9223372036854775808 : Int) ≤ 1 * 2 ^ k ∧ (1 : Int) * 2 ^ k ≤ 9223372036854775807) ∧ True ∧ ((ok55 lv (bOr .i64 (D : Int) ((1 : Int) * 2 ^ k), (n, p, mk (isF p)), [] ++ [(k : Int)], (lpK p (gr p lv) D [] m k).snd.snd) ∧ (bOr .i64 (D : Int) ((1 : Int) * 2 ^ k) = bOr .i64 (D : Int) ((1 : Int) * 2 ^ k) ∧ True ∧ True ∧ True ∧ True ∧ True) ∧ True ∧ [] ++ [(k : Int)] = [] ++ [(k : Int)] ∧ True ∧ (n = n ∧ p = p ∧ mk (isF p) = mk (isF p) ∧ True) ∧ True ∧ (lpK p (gr p lv) D [] m k).snd.snd = (lpK p (gr p lv) D [] m k).snd.snd ∧ (True ∧ True ∧ True ∧ True ∧ True ∧ True) ∧ True) ∧ True ∧ True ∧ True ∧ True ∧ True ∧ True ∧ True ∧ True) ∧ ((gr p lv (bOr .i64 (D : Int) ((1 : Int) * 2 ^ k)).toNat ([] ++ [(k : Int)]) (lpK p (gr p lv) D [] m k).snd.snd).fst = true → True ∧ True ∧ (true = (gr p (lv + 1) D [] m).fst ∧ True) ∧ True ∧ True ∧ (n = n ∧ p = p ∧ mk (isF p) = mk (isF p) ∧ True) ∧ True ∧ (gr p lv (bOr .i64 (D : Int) ((1 : Int) * 2 ^ k)).toNat ([] ++ [(k : Int)]) (lpK p (gr p lv) D [] m k).snd.snd).snd.snd = (gr p (lv + 1) D [] m).snd.snd ∧ (True ∧ True ∧ True ∧ True ∧ True ∧ True) ∧ (gr p lv (bOr .i64 (D : Int) ((1 : Int) * 2 ^ k)).toNat ([] ++ [(k : Int)]) (lpK p (gr p lv) D [] m k).snd.snd).snd.fst = (gr p (lv + 1) D [] m).snd.fst ∧ True) ∧ ((gr p lv (bOr .i64 (D : Int) ((1 : Int) * 2 ^ k)).toNat ([] ++ [(k : Int)]) (lpK p (gr p lv) D [] m k).snd.snd).fst = false → True ∧ True ∧ True ∧ inR .i64 ((↑(gr p lv (bOr .i64 (D : Int) ((1 : Int) * 2 ^ k)).toNat ([] ++ [(k : Int)]) (lpK p (gr p lv) D [] m k).snd.snd).snd.fst.length : Int) - 1) ∧ ((0 : Int) ≤ (↑(gr p lv (bOr .i64 (D : Int) ((1 : Int) * 2 ^ k)).toNat ([] ++ [(k : Int)]) (lpK p (gr p lv) D [] m k).snd.snd).snd.fst.length : Int) - 1 ∧ (↑(gr p lv (bOr .i64 (D : Int) ((1 : Int) * 2 ^ k)).toNat ([] ++ [(k : Int)]) (lpK p (gr p lv) D [] m k).snd.snd).snd.fst.length : Int) - 1 ≤ (↑(gr p lv (bOr .i64 (D : Int) ((1 : Int) * 2 ^ k)).toNat ([] ++ [(k : Int)]) (lpK p (gr p lv) D [] m k).snd.snd).snd.fst.length : Int)) ∧ True ∧ inR .i64 ((k : Int) + 1) ∧ True ∧ ((∃ (y : Nat), (y = 0 ∧ p.length - y < p.length - k) ∧ ((D : Int) = (D : Int) ∧ True ∧ True ∧ True ∧ True ∧ (p.length : Int) = (p.length : Int) ∧ (k : Int) + 1 = (y : Int) ∧ True) ∧ False ∧ True ∧ (n = n ∧ p = p ∧ mk (isF p) = mk (isF p) ∧ True) ∧ True ∧ (gr p lv (bOr .i64 (D : Int) ((1 : Int) * 2 ^ k)).toNat ([] ++ [(k : Int)]) (lpK p (gr p lv) D [] m k).snd.snd).snd.snd = m ∧ (True ∧ True ∧ True ∧ True ∧ True ∧ True) ∧ True) ∨ ∃ (y : Nat), (inS p (gr p lv) D [] m y ∧ p.length - y < p.length - k) ∧ ((D : Int) = (D : Int) ∧ True ∧ True ∧ True ∧ True ∧ (p.length : Int) = (p.length : Int) ∧ (k : Int) + 1 = (y : Int) ∧ True) ∧ True ∧ True ∧ (n = n ∧ p = p ∧ mk (isF p) = mk (isF p) ∧ True) ∧ True ∧ (gr p lv (bOr .i64 (D : Int) ((1 : Int) * 2 ^ k)).toNat ([] ++ [(k : Int)]) (lpK p (gr p lv) D [] m k).snd.snd).snd.snd = (lpK p (gr p lv) D [] m y).snd.snd ∧ (True ∧ True ∧ True ∧ True ∧ True ∧ True) ∧ List.take ((↑(gr p lv (bOr .i64 (D : Int) ((1 : Int) * 2 ^ k)).toNat ([] ++ [(k : Int)]) (lpK p (gr p lv) D [] m k).snd.snd).snd.fst.length : Int) - 1).toNat (gr p lv (bOr .i64 (D : Int) ((1 : Int) * 2 ^ k)).toNat ([] ++ [(k : Int)]) (lpK p (gr p lv) D [] m k).snd.snd).snd.fst = [] ∧ True))))) ∧ (¬(k : Int) < (p.length : Int) → ∃ (y : Unit), (lpK p (gr p lv) D [] m p.length).fst = false ∧ ((D : Int) = (D : Int) ∧ True ∧ True ∧ True ∧ True ∧ True) ∧ True ∧ True ∧ (n = n ∧ p = p ∧ mk (isF p) = mk (isF p) ∧ True) ∧ True ∧ (lpK p (gr p lv) D [] m k).snd.snd = (lpK p (gr p lv) D [] m p.length).snd.snd ∧ (True ∧ True ∧ True ∧ True ∧ True ∧ True) ∧ ([] : List Int) = [] ∧ True)) (by kernel_rfl) ?_
   simp only [zz]
   obtain ⟨k1, k2⟩ := hk
   have hl : lv + 1 = p.length := by have := hp.l; simpa using this
   have hc := hp.h.2.1
   have hD := pre_D hp
   refine ⟨fun h => ?_, fun h => by rw [show p.length = k by omega]; exact ⟨k2, rfl⟩⟩
   have hkp : k < p.length := by omega
   have hb := or_pow10 hD (k := k) (by omega)
   have hst := lpK_go k2
   rw [bit_shr hD, hb.1, Int.toNat_natCast]
   have hskip : (D / 2 ^ k % 2 = 1 ∨ flw p D k = false) → inR .i64 ((k : Int) + 1) ∧ ∃ y : Nat, (inS p (gr p lv) D [] m y ∧ p.length - y < p.length - k) ∧ (k : Int) + 1 = (y : Int) ∧ (lpK p (gr p lv) D [] m k).2.2 = (lpK p (gr p lv) D [] m y).2.2 := fun hh => by
     rw [if_pos hh] at hst
     exact ⟨by simp only [inR]; omega, k + 1, ⟨⟨by omega, by rw [hst]; exact k2⟩, by omega⟩, by omega, by rw [hst]⟩
   refine ⟨by simp only [inR]; omega, ⟨by omega, by simp only [bitsOf]; omega⟩, fun hx => hskip (.inl (by omega)), fun hx => ⟨⟨⟨hp.h, rfl⟩, ⟨by simp only; omega, by simp only; omega⟩, ⟨by simp only; omega, by simp only; omega⟩⟩, fun hx2 => hskip (.inr (by simpa using hx2)), fun hx2 => ?_⟩⟩
   have hx2 : flw p D k = true := by simpa using hx2
   rw [if_neg (by simp [hx2]; omega)] at hst
   have hlt : D ||| 2 ^ k < 2 ^ p.length := Nat.or_lt_two_pow hp.D (Nat.pow_lt_pow_right (by decide) hkp)
   have hpre : pre55 n p lv (D ||| 2 ^ k) ([] ++ [(k : Int)]) := ⟨hp.h, hlt, by simp; omega⟩
   refine ⟨by unfold sumPre; simp, by simp only [inR]; omega, ⟨⟨by omega, by simp only [bitsOf]; omega⟩, by omega, by omega⟩, ⟨⟨hp.h, rfl⟩, by simp only; omega, hpre⟩, fun hr => ?_, fun hr => ?_⟩
   · have hr : (gr p lv (D ||| 2 ^ k) ([] ++ [(k : Int)]) (lpK p (gr p lv) D [] m k).2.2).1 = true := hr
     rw [if_pos hr] at hst
     have hs := lpK_stop (k := k + 1) (by rw [hst]; exact hr) (p.length - (k + 1))
     rw [show k + 1 + (p.length - (k + 1)) = p.length by omega, hst] at hs
     have e : gr p (lv + 1) D [] m = gr p lv (D ||| 2 ^ k) ([] ++ [(k : Int)]) (lpK p (gr p lv) D [] m k).2.2 := by rw [gr, if_neg hm, hs, if_pos hr]
     rw [e]
     exact ⟨hr.symm, rfl, rfl⟩
   · have hr : (gr p lv (D ||| 2 ^ k) ([] ++ [(k : Int)]) (lpK p (gr p lv) D [] m k).2.2).1 = false := hr
     rw [if_neg (by rw [hr]; simp)] at hst
     have h2 := gr_list hr
     have q1 : inR .i64 (((gr p lv (D ||| 2 ^ k) ([] ++ [(k : Int)]) (lpK p (gr p lv) D [] m k).2.2).2.1.length : Int) - 1) := by rw [h2]; simp only [inR]; simp
     have q2 : 0 ≤ ((gr p lv (D ||| 2 ^ k) ([] ++ [(k : Int)]) (lpK p (gr p lv) D [] m k).2.2).2.1.length : Int) - 1 ∧ ((gr p lv (D ||| 2 ^ k) ([] ++ [(k : Int)]) (lpK p (gr p lv) D [] m k).2.2).2.1.length : Int) - 1 ≤ ((gr p lv (D ||| 2 ^ k) ([] ++ [(k : Int)]) (lpK p (gr p lv) D [] m k).2.2).2.1.length : Int) := by rw [h2]; simp
     have q3 : (gr p lv (D ||| 2 ^ k) ([] ++ [(k : Int)]) (lpK p (gr p lv) D [] m k).2.2).2.1.take (((gr p lv (D ||| 2 ^ k) ([] ++ [(k : Int)]) (lpK p (gr p lv) D [] m k).2.2).2.1.length : Int) - 1).toNat = [] := by rw [h2]; simp
     have q4 : (gr p lv (D ||| 2 ^ k) ([] ++ [(k : Int)]) (lpK p (gr p lv) D [] m k).2.2).2.2 = (lpK p (gr p lv) D [] m (k + 1)).2.2 := by rw [hst]
     exact ⟨q1, q2, by simp only [inR]; omega, k + 1, ⟨⟨by omega, by rw [hst]⟩, by omega⟩, by omega, q4, q3⟩
theorem call55 (lv : Nat) (n : Int) (p : List Int) (D : Nat) (m : Mm) (hp : pre55 n p (lv + 1) D []) (hD0 : D = 0) (hm : ¬ mg m D = true) : GCall Try.prog gl 55 false (aN D) (gN n p m) [.bool (gr p (lv + 1) D [] m).1] (gO n p (gr p (lv + 1) D [] m).2.1 (gr p (lv + 1) D [] m).2.2) := by
 refine gcall_of (X := (XN lv)) ((Xb_ok _ _ _ _)) (f := 55) (fn := Try.f55) (c := bodyOf Try.f55) (by kernel_rfl) (by kernel_rfl) (view := false) (rvs := [.tmp 6]) (by kernel_rfl) (H := (HN n p (gr p lv) D m)) 80 (by kernel_rfl) ?_
 have hL := loopN lv n p D m hp hD0 hm
 refine of_eq (q := True ∧ True ∧ True ∧ True ∧ True ∧ True ∧ True ∧ True ∧ True ∧ ((0 : Int) = (p.length : Int) → True ∧ True ∧ (true = (gr p (lv + 1) D [] m).fst ∧ True) ∧ False ∧ True ∧ (n = n ∧ p = p ∧ mk (isF p) = mk (isF p) ∧ True) ∧ True ∧ m = (gr p (lv + 1) D [] m).snd.snd ∧ (True ∧ True ∧ True ∧ True ∧ True ∧ True) ∧ False) ∧ (¬(0 : Int) = (p.length : Int) → True ∧ True ∧ True ∧ ((mGet I64 m (D : Int)).getD false = true → True ∧ True ∧ (false = (gr p (lv + 1) D [] m).fst ∧ True) ∧ False ∧ True ∧ (n = n ∧ p = p ∧ mk (isF p) = mk (isF p) ∧ True) ∧ True ∧ m = (gr p (lv + 1) D [] m).snd.snd ∧ (True ∧ True ∧ True ∧ True ∧ True ∧ True) ∧ False) ∧ ((mGet I64 m (D : Int)).getD false = false → True ∧ True ∧ True ∧ True ∧ True ∧ True ∧ LoopOK (XN lv) L55_0 (hN n p (gr p lv) D m) (RetR (XN lv) false false [ResultVar.tmp (6 : Tmp)] [AV.bool (gr p (lv + 1) D [] m).fst] (gO n p (gr p (lv + 1) D [] m).snd.fst (gr p (lv + 1) D [] m).snd.snd)) ∧ ((∃ (y : Nat), y = 0 ∧ ((D : Int) = (D : Int) ∧ True ∧ True ∧ True ∧ True ∧ (p.length : Int) = (p.length : Int) ∧ (0 : Int) = (y : Int) ∧ True) ∧ True ∧ True ∧ (n = n ∧ p = p ∧ mk (isF p) = mk (isF p) ∧ True) ∧ True ∧ m = m ∧ (True ∧ True ∧ True ∧ True ∧ True ∧ True) ∧ True) ∨ ∃ (y : Nat), inS p (gr p lv) D [] m y ∧ ((D : Int) = (D : Int) ∧ True ∧ True ∧ True ∧ True ∧ (p.length : Int) = (p.length : Int) ∧ (0 : Int) = (y : Int) ∧ True) ∧ False ∧ True ∧ (n = n ∧ p = p ∧ mk (isF p) = mk (isF p) ∧ True) ∧ True ∧ m = (lpK p (gr p lv) D [] m y).snd.snd ∧ (True ∧ True ∧ True ∧ True ∧ True ∧ True) ∧ False) ∧ (∀ (y : Unit), (lpK p (gr p lv) D [] m p.length).fst = false → True ∧ True ∧ True ∧ True ∧ True ∧ (false = (gr p (lv + 1) D [] m).fst ∧ True) ∧ True ∧ True ∧ (n = n ∧ p = p ∧ mk (isF p) = mk (isF p) ∧ True) ∧ True ∧ mPut I64 (lpK p (gr p lv) D [] m p.length).snd.snd (D : Int) true = (gr p (lv + 1) D [] m).snd.snd ∧ (True ∧ True ∧ True ∧ True ∧ True ∧ True) ∧ ([] : List Int) = (gr p (lv + 1) D [] m).snd.fst ∧ True) ∧ True))) (by kernel_rfl) ?_
 simp only [zz]
 have hl : lv + 1 = p.length := by have := hp.l; simpa using this
 have hg : mg m D = (mGet I64 m D).getD false := rfl
 refine ⟨fun h => by omega, fun _ => ⟨fun h => hm (by rw [hg]; exact h), fun h => ⟨hL, ⟨0, rfl, rfl⟩, fun _ hf => ?_⟩⟩⟩
 rw [gr, if_neg hm, if_neg (by simp [hf])]; exact ⟨rfl, rfl, rfl⟩
end Go.Am.Sh

/- Shells: Shell. -/
namespace Go.Am.Sh
open Go Go.Am Go.Proofs
def isNl : Ob → Bool
 | .bx (.vv _) => true
 | _ => false
abbrev G5n := Int × Cx3 × Mm
def get55n (xs : List AV) (obs : List Ob) : Option G5n :=
 match xs with
 | .int .i64 d :: _ => (match isNl (obs.getD 0 .gone), unCx (obs.getD 2 .gone), unMm (obs.getD 4 .gone) with
   | true, some x, some m => some (d, x, m)
   | _, _, _ => none)
 | _ => none
structure ok55n (x : G5n) : Prop where
 h : okC x.2.1
 d : x.1 = 0
 m : x.2.2 = []
def gNq (x : Cx3) (m : Mm) : List Ob := [.bx nl, .bx (.ptr 2 0 []), cxQ x, .bx (.mp 4), mmO m, .bx (clo55 0 1 3 5)]
def gOq (x : Cx3) (l : List Int) (m : Mm) : List Ob := [.bx (.own 6 0), .bx (.ptr 2 0 []), cxQ x, .bx (.mp 4), mmO m, .bx (clo55 0 1 3 5), .sc 0 3 I64 l]
def grow (p : List Int) : Res := gr p p.length 0 [] []
theorem call55N (n : Int) (p : List Int) (h : cxOk n p) : GCall Try.prog gl 55 false (aN 0) (gN n p []) [.bool (grow p).1] (gO n p (grow p).2.1 (grow p).2.2) := by
 have hl := h.2.1.1
 obtain ⟨lv, hlv⟩ : ∃ lv, p.length = lv + 1 := ⟨p.length - 1, by omega⟩
 have := call55 lv n p 0 [] ⟨h, by have := Nat.pow_le_pow_right (show 0 < 2 by decide) hl; omega, by simp; omega⟩ rfl (by simp [mg, mGet])
 rw [← hlv] at this
 exact this
def e55N : Entry Try.prog gl := entryW 55 ⟨Try.f55, by kernel_rfl, by kernel_rfl, by kernel_rfl⟩ true get55n ok55n false (fun x => aN x.1) (fun x => gNq x.2.1 x.2.2) (fun x => [.bool (grow x.2.1.2.1).1])
 (fun x => gOq x.2.1 (grow x.2.1.2.1).2.1 (grow x.2.1.2.1).2.2) (fun x hx => by
   have := call55N _ _ hx.h.h
   have e : gNq x.2.1 [] = gN x.2.1.1 x.2.1.2.1 [] := by unfold gNq gN; rw [cxQ_ok hx.h]
   have e2 : ∀ l m, gOq x.2.1 l m = gO x.2.1.1 x.2.1.2.1 l m := fun l m => by unfold gOq gO; rw [cxQ_ok hx.h]
   rw [hx.d, hx.m, e, e2]; exact this)
def shB (p : List Int) : Bool := pure p && (grow p).1
def shL (p : List Int) : List Int := if pure p = true then (grow p).2.1 else []
theorem call15 (n : Int) (p : List Int) (h : cxOk n p) : GCall Try.prog gl 15 true [.int .i64 n, .sl I64 p] [] [.sl I64 (shL p), .bool (shB p), .int .i64 0] [] := by
 refine gcall_of (X := X [e53, e54, e55N]) (X_ok [e53, e54, e55N]) (f := 15) (fn := Try.f15) (c := bodyOf Try.f15) (by kernel_rfl) (by kernel_rfl) (view := true) (rvs := [.tmp 4, .tmp 5, .tmp 6]) (by kernel_rfl) (H := fun _ => none) 80 (by kernel_rfl) ?_
 refine of_eq (q := True ∧ True ∧ True ∧ True ∧ True ∧ (CxP n p ∧ True) ∧ True ∧ True ∧ True ∧ True ∧ True ∧ True ∧ True ∧ True ∧ (¬(0 : Int) = 0 → True ∧ True ∧ True ∧ True ∧ True ∧ (([] : List Int) = shL p ∧ false = shB p ∧ (0 : Int) = 0 ∧ True) ∧ True) ∧ (¬¬(0 : Int) = 0 → True ∧ ((okC (n, p, mk (isF p)) ∧ (True ∧ True) ∧ (n = n ∧ p = p ∧ mk (isF p) = mk (isF p) ∧ True) ∧ True) ∧ True ∧ True) ∧ True ∧ ((!pure p) = true → True ∧ True ∧ True ∧ True ∧ (([] : List Int) = shL p ∧ false = shB p ∧ (0 : Int) = 0 ∧ True) ∧ True) ∧ ((!pure p) = false → True ∧ True ∧ True ∧ True ∧ True ∧ True ∧ True ∧ True ∧ ((ok55n ((0 : Int), (n, p, mk (isF p)), []) ∧ ((0 : Int) = 0 ∧ True ∧ True ∧ True ∧ True ∧ True) ∧ True ∧ True ∧ (n = n ∧ p = p ∧ mk (isF p) = mk (isF p) ∧ True) ∧ True ∧ ([] : List (Int × Bool)) = [] ∧ (True ∧ True ∧ True ∧ True ∧ True ∧ True) ∧ True) ∧ True ∧ True ∧ True ∧ True ∧ True ∧ True ∧ True) ∧ True ∧ True ∧ True ∧ True ∧ True ∧ True ∧ True ∧ ((grow p).snd.fst = shL p ∧ (grow p).fst = shB p ∧ (0 : Int) = 0 ∧ True) ∧ True))) (by kernel_rfl) ?_
 simp only [zz]
 refine ⟨⟨h⟩, fun h => absurd trivial h, fun _ => ⟨⟨h, rfl⟩, fun hp => ?_, fun hp => ⟨⟨⟨h, rfl⟩, rfl, rfl⟩, ?_⟩⟩⟩
 · have hp : pure p = false := by simpa using hp
   simp [shL, shB, hp]
 · have hp : pure p = true := by simpa using hp
   simp [shL, shB, hp]
end Go.Am.Sh

/- Shells: awake. -/
namespace Go.Am.Sh
open Go Go.Am Go.Proofs
def e15 : Entry Try.prog gl := entry2 15 ⟨Try.f15, by kernel_rfl, by kernel_rfl, by kernel_rfl⟩ I64 SI (fun (n : Int) p => cxOk n p) true (fun _ p => [.sl I64 (shL p), .bool (shB p), .int .i64 0]) (fun _ _ => []) (fun (n : Int) p h => call15 n p h)
def e38 : Entry Try.prog gl := entry2 38 ⟨Try.f38, by kernel_rfl, by kernel_rfl, by kernel_rfl⟩ I64 SI (fun (n : Int) p => cxOk n p) false (fun _ p => [.sl I64 (cnts p), .int .i64 0]) (fun _ _ => []) (fun (n : Int) p h => call38 n p h)
def e27 : Entry Try.prog gl := entry2 27 ⟨Try.f27, by kernel_rfl, by kernel_rfl, by kernel_rfl⟩ I64 SI (fun (n : Int) p => cxOk n p) false (fun _ p => [.sl I64 (hsL p), .int .i64 0]) (fun _ _ => []) (fun (n : Int) p h => call27 n p h)
def e30 : Entry Try.prog gl := entry2 30 ⟨Try.f30, by kernel_rfl, by kernel_rfl, by kernel_rfl⟩ I64 SI (fun (n : Int) p => cxOk n p) false (fun _ p => [.sl I64 (hoL p), .int .i64 0]) (fun _ _ => []) (fun (n : Int) p h => call30 n p h)
def e36 : Entry Try.prog gl := entry2 36 ⟨Try.f36, by kernel_rfl, by kernel_rfl, by kernel_rfl⟩ I64 SI (fun (n : Int) p => cxOk n p) false (fun (n : Int) p => [.sl I64 (fewR (grL (duaG n p))), .int .i64 (fewE (grL (duaG n p)))]) (fun _ _ => []) (fun (n : Int) p h => call36 n p h)
def e24 : Entry Try.prog gl := entry2 24 ⟨Try.f24, by kernel_rfl, by kernel_rfl, by kernel_rfl⟩ I64 I64 (fun (n d : Int) => momOk n d) true (fun (n d : Int) => [.sl I64 (momL n d), .int .i64 0]) (fun _ _ => []) (fun (n d : Int) h => call24 n d h)
def e28 : Entry Try.prog gl := entry2 28 ⟨Try.f28, by kernel_rfl, by kernel_rfl, by kernel_rfl⟩ I64 SI (fun (n : Int) p => cxOk n p) false (fun _ p => [.sl I64 (fcs p), .int .i64 0]) (fun _ _ => []) (fun (n : Int) p h => call28 n p h)
def e39 : Entry Try.prog gl := entry2 39 ⟨Try.f39, by kernel_rfl, by kernel_rfl, by kernel_rfl⟩ I64 SI (fun (n : Int) p => cxOk n p) true (fun _ p => [.int .i64 (eulN (isF p) 64), .int .i64 0]) (fun _ _ => []) (fun (n : Int) p h => call39 n p h)
instance (n : Int) (p : List Int) (k : Nat) : Decidable (goodAt n p k) := by unfold goodAt; infer_instance
instance (n : Int) (p : List Int) : Decidable (cxOk n p) := by unfold cxOk numOk; infer_instance
theorem call19 : GCall Try.prog gl 19 true [] [] [.tt] [] := by
 have f1 : cxOk 3 [3, 5, 6] := by decide +kernel
 have f2 : cxOk 3 [7] := by decide +kernel
 have f3 : cxOk 4 [3, 12] := by decide +kernel
 have f4 : cnts [3, 5, 6] = [1, 3, 3] := by kernel_rfl
 have f5 : hsL [3, 5, 6] = [1, 1, 1] := by kernel_rfl
 have f6 : hoL [3, 5, 6] = [0, 1] := by kernel_rfl
 have f7 : shL [7] = [0] := by kernel_rfl
 have f8 : fewR (grL (duaG 4 [3, 12])) = [5, 6, 9, 10] := by kernel_rfl
 have f9 : fewE (grL (duaG 4 [3, 12])) = 0 := by kernel_rfl
 refine gcall_of (X := X [e38, e27, e30, e15, e36, e24, e23]) (X_ok [e38, e27, e30, e15, e36, e24, e23]) (f := 19) (fn := Try.f19) (c := bodyOf Try.f19) (by kernel_rfl) (by kernel_rfl) (view := false) (rvs := [.tmp 0]) (by kernel_rfl) (H := fun _ => none) 200 (by kernel_rfl) ?_
 refine of_eq (q := True ∧ True ∧ ((numOk (3 : Int) ∧ ((1 : Nat) ≤ [(3 : Int), (5 : Int), (6 : Int)].length ∧ [(3 : Int), (5 : Int), (6 : Int)].length ≤ 10) ∧ ∀ (k : Nat), k < [(3 : Int), (5 : Int), (6 : Int)].length → goodAt (3 : Int) [(3 : Int), (5 : Int), (6 : Int)] k) ∧ True) ∧ True ∧ True ∧ True ∧ True ∧ True ∧ True ∧ ((numOk (3 : Int) ∧ ((1 : Nat) ≤ [(3 : Int), (5 : Int), (6 : Int)].length ∧ [(3 : Int), (5 : Int), (6 : Int)].length ≤ 10) ∧ ∀ (k : Nat), k < [(3 : Int), (5 : Int), (6 : Int)].length → goodAt (3 : Int) [(3 : Int), (5 : Int), (6 : Int)] k) ∧ True) ∧ True ∧ True ∧ True ∧ True ∧ True ∧ True ∧ ((numOk (3 : Int) ∧ ((1 : Nat) ≤ [(3 : Int), (5 : Int), (6 : Int)].length ∧ [(3 : Int), (5 : Int), (6 : Int)].length ≤ 10) ∧ ∀ (k : Nat), k < [(3 : Int), (5 : Int), (6 : Int)].length → goodAt (3 : Int) [(3 : Int), (5 : Int), (6 : Int)] k) ∧ True) ∧ True ∧ True ∧ True ∧ True ∧ True ∧ True ∧ ((numOk (3 : Int) ∧ ((1 : Nat) ≤ [(7 : Int)].length ∧ [(7 : Int)].length ≤ 10) ∧ ∀ (k : Nat), k < [(7 : Int)].length → goodAt (3 : Int) [(7 : Int)] k) ∧ True) ∧ True ∧ True ∧ True ∧ True ∧ True ∧ True ∧ True ∧ True ∧ ((numOk (4 : Int) ∧ ((1 : Nat) ≤ [(3 : Int), (12 : Int)].length ∧ [(3 : Int), (12 : Int)].length ≤ 10) ∧ ∀ (k : Nat), k < [(3 : Int), (12 : Int)].length → goodAt (4 : Int) [(3 : Int), (12 : Int)] k) ∧ True) ∧ True ∧ True ∧ True ∧ True ∧ True ∧ (((2 : Int) ≤ 3 ∧ (3 : Int) < 5 ∧ (5 : Int) ≤ 6) ∧ True) ∧ True ∧ True ∧ True ∧ True ∧ True ∧ True ∧ True ∧ True ∧ ((0 : Int) = 0 → True ∧ True ∧ ((cnts [(3 : Int), (5 : Int), (6 : Int)]).length + 1 ≤ 1000000000000000 ∧ True) ∧ True ∧ True ∧ (true = true → True ∧ True ∧ True ∧ True ∧ ((0 : Int) = 0 → True ∧ True ∧ ((hsL [(3 : Int), (5 : Int), (6 : Int)]).length + 1 ≤ 1000000000000000 ∧ True) ∧ True ∧ True ∧ (true = true → True ∧ True ∧ True ∧ True ∧ ((0 : Int) = 0 → True ∧ True ∧ ((hoL [(3 : Int), (5 : Int), (6 : Int)]).length + 1 ≤ 1000000000000000 ∧ True) ∧ True ∧ True ∧ (true = true → True ∧ True ∧ True ∧ True ∧ ((0 : Int) = 0 → True ∧ True ∧ True ∧ (true = true → True ∧ True ∧ ((shL [(7 : Int)]).length + 1 ≤ 1000000000000000 ∧ True) ∧ True ∧ True ∧ (true = true → True ∧ True ∧ True ∧ True ∧ (fewE (grL (duaG (4 : Int) [(3 : Int), (12 : Int)])) = 0 → True ∧ True ∧ ((fewR (grL (duaG (4 : Int) [(3 : Int), (12 : Int)]))).length + 1 ≤ 1000000000000000 ∧ True) ∧ True ∧ True ∧ (true = true → True ∧ True ∧ True ∧ True ∧ ((0 : Int) = 0 → True ∧ True ∧ True ∧ True ∧ True ∧ True ∧ (true = true ∧ True) ∧ True) ∧ (¬(0 : Int) = 0 → True ∧ True ∧ True ∧ (false = true ∧ True) ∧ True)) ∧ (true = false → True ∧ True ∧ True ∧ True ∧ True ∧ (false = true ∧ True) ∧ True)) ∧ (¬fewE (grL (duaG (4 : Int) [(3 : Int), (12 : Int)])) = 0 → True ∧ True ∧ True ∧ True ∧ True ∧ True ∧ True ∧ (false = true ∧ True) ∧ True)) ∧ (true = false → True ∧ True ∧ True ∧ True ∧ True ∧ True ∧ True ∧ True ∧ True ∧ (false = true ∧ True) ∧ True)) ∧ (true = false → True ∧ True ∧ True ∧ True ∧ True ∧ True ∧ True ∧ True ∧ True ∧ True ∧ True ∧ (false = true ∧ True) ∧ True)) ∧ (¬(0 : Int) = 0 → True ∧ True ∧ True ∧ True ∧ True ∧ True ∧ True ∧ True ∧ True ∧ True ∧ True ∧ True ∧ True ∧ (false = true ∧ True) ∧ True)) ∧ (true = false → True ∧ True ∧ True ∧ True ∧ True ∧ True ∧ True ∧ True ∧ True ∧ True ∧ True ∧ True ∧ True ∧ True ∧ True ∧ (false = true ∧ True) ∧ True)) ∧ (¬(0 : Int) = 0 → True ∧ True ∧ True ∧ True ∧ True ∧ True ∧ True ∧ True ∧ True ∧ True ∧ True ∧ True ∧ True ∧ True ∧ True ∧ True ∧ True ∧ (false = true ∧ True) ∧ True)) ∧ (true = false → True ∧ True ∧ True ∧ True ∧ True ∧ True ∧ True ∧ True ∧ True ∧ True ∧ True ∧ True ∧ True ∧ True ∧ True ∧ True ∧ True ∧ True ∧ True ∧ (false = true ∧ True) ∧ True)) ∧ (¬(0 : Int) = 0 → True ∧ True ∧ True ∧ True ∧ True ∧ True ∧ True ∧ True ∧ True ∧ True ∧ True ∧ True ∧ True ∧ True ∧ True ∧ True ∧ True ∧ True ∧ True ∧ True ∧ True ∧ (false = true ∧ True) ∧ True)) ∧ (true = false → True ∧ True ∧ True ∧ True ∧ True ∧ True ∧ True ∧ True ∧ True ∧ True ∧ True ∧ True ∧ True ∧ True ∧ True ∧ True ∧ True ∧ True ∧ True ∧ True ∧ True ∧ True ∧ True ∧ (false = true ∧ True) ∧ True)) ∧ (¬(0 : Int) = 0 → True ∧ True ∧ True ∧ True ∧ True ∧ True ∧ True ∧ True ∧ True ∧ True ∧ True ∧ True ∧ True ∧ True ∧ True ∧ True ∧ True ∧ True ∧ True ∧ True ∧ True ∧ True ∧ True ∧ True ∧ True ∧ (false = true ∧ True) ∧ True)) (by kernel_rfl) ?_
 rw [f4, f5, f6, f7, f8, f9]
 simp
 exact ⟨⟨f1.1, f1.2.2⟩, ⟨f2.1, f2.2.2 0 (by decide)⟩, f3.1, f3.2.2⟩
def e19 : Entry Try.prog gl where
 f := 19
 lend := false
 en := ⟨Try.f19, by kernel_rfl, by kernel_rfl, by kernel_rfl⟩
 go := fun args ob0 => match args, ob0 with
   | [], [] => some (True, true, [.tt], [])
   | _, _ => none
 ok := by
   intro args ob0 p s r o h hp
   split at h <;> try (cases h; done)
   injection h with h; injection h with h1 h2; injection h2 with h2 h3; injection h3 with h3 h4
   subst h1 h2 h3 h4
   exact call19
end Go.Am.Sh

/- Shells: the reference's shellings. -/
namespace Go.Am.Sh
open Go Go.Am Go.Proofs
def puN (p : List Int) (k : Nat) : Prop := ∀ i, i < k → pc (p.getD i 0).toNat = pc (p.getD 0 0).toNat
instance (p k) : Decidable (puN p k) := by unfold puN; infer_instance
def puB (p : List Int) : Bool := decide (puN p p.length)
structure ok10 (p : List Int) : Prop where
 h : okL p
 l : p.length ≤ 10
def fnd (p : List Int) (D s e : Nat) : Nat → Bool
 | 0 => false
 | g + 1 => fnd p D s e g || (decide (D / 2 ^ g % 2 = 1) && decide (pc (mns s (p.getD g 0).toNat) = 1) && decide (mns s (p.getD g 0).toNat &&& e = 0))
def nxN (p : List Int) (D i k : Nat) : Prop := ∀ e, e < k → D / 2 ^ e % 2 = 1 → fnd p D (p.getD i 0).toNat (p.getD e 0).toNat p.length = true
instance (p D i k) : Decidable (nxN p D i k) := by unfold nxN; infer_instance
def nxB (p : List Int) (D i : Nat) : Bool := decide (nxN p D i p.length)
structure ok57 (p : List Int) (D i : Int) : Prop where
 h : ok10 p
 D : 0 ≤ D ∧ D < 1024
 i : 0 ≤ i ∧ i < p.length
def sgB (p : List Int) (i : Int) : Bool := decide (0 ≤ i ∧ i < p.length)
/-- The set of the first k pieces of an order, if they are a shelling so far. -/
def sgK (p o : List Int) : Nat → Option Nat
 | 0 => some 0
 | k + 1 => (sgK p o k).bind fun D => if sgB p (o.getD k 0) = true ∧ D / 2 ^ (o.getD k 0).toNat % 2 = 0 ∧ nxB p D (o.getD k 0).toNat = true then some (D ||| 2 ^ (o.getD k 0).toNat) else none
def sgR (p o : List Int) : Bool := (sgK p o o.length).isSome && decide (o.length = p.length) && puB p
end Go.Am.Sh

/- Shells: the reference's Check. -/
namespace Go.Am.Sh
open Go Go.Am Go.Proofs
theorem sub_and {a b : Int} (ha : 0 ≤ a ∧ a < 64) (hb : 0 ≤ b ∧ b < 64) : (bAnd .i64 a b = a) ↔ sub a.toNat b.toNat = true := by
 have : bAnd .i64 a b = ((a.toNat &&& b.toNat : Nat) : Int) := by rw [← bAnd_nat (by omega) (by omega), Int.toNat_of_nonneg ha.1, Int.toNat_of_nonneg hb.1]
 rw [this]
 unfold sub
 constructor
 · intro h
   have : a.toNat &&& b.toNat = a.toNat := by omega
   rw [this]; exact Nat.beq_refl _
 · intro h
   have := Nat.eq_of_beq_eq_true h
   omega
end Go.Am.Sh

/- Shells: the law of the moment complexes. -/
namespace Go.Am.Sh
open Go Go.Am Go.Proofs
/-- How many of a list have all of a set. -/
def cntM (x : Nat) (p : List Int) (j : Nat) : Nat := ((p.take j).filter fun s => decide (mns x s.toNat = 0)).length
structure mf (n d : Int) : Prop where
 m : momOk n d
 len : 1 ≤ (momL n d).length ∧ (momL n d).length ≤ 10
 hl : ((hsL (momL n d)).length : Int) = d + 1
 hs : ∀ k, k < d.toNat + 1 → (hsL (momL n d)).getD k 0 = (hsL (momL n d)).getD (d.toNat - k) 0
 sh : shB (momL n d) = true
 sg : sgR (momL n d) (shL (momL n d)) = true
 sl : (shL (momL n d)).length ≤ 10
 two : ∀ k, k < (fcs (momL n d)).length → (pc ((fcs (momL n d)).getD k 0).toNat : Int) = d - 1 → cntM ((fcs (momL n d)).getD k 0).toNat (momL n d) (momL n d).length = 2
instance (n d : Int) : Decidable (momOk n d) := by unfold momOk; infer_instance
theorem u64_nn (n : Int) : 0 ≤ modU .u64 n := by
 show 0 ≤ n % 18446744073709551616
 omega
end Go.Am.Sh

/- Shells: the reference's Pieces. -/
namespace Go.Am.Sh
open Go Go.Am Go.Proofs
/-- Set x is one of the first k of a list. -/
def inK (s : List Int) (x : Nat) : Nat → Bool
 | 0 => false
 | k + 1 => inK s x k || decide (s.getD k 0 = x)
/-- Set x is no part of another of the first k. -/
def mxS (s : List Int) (x : Nat) : Nat → Bool
 | 0 => true
 | k + 1 => mxS s x k && (decide (s.getD k 0 = x) || !sub x (s.getD k 0).toNat)
def pieB (s : List Int) (x : Nat) : Bool := inK s x s.length && mxS s x s.length
def pieL (s : List Int) : List Int := trueN (pieB s) 64
structure ok22 (s : List Int) : Prop where
 h : okL s
 l : s.length < 1000000
noncomputable def L22_0 : Code := lp (bodyOf Try.f22) 0
noncomputable def L22_2 : Code := lp (bodyOf Try.f22) 2
def sz22 (s : List Int) (k : Nat) : St := ⟨.sl I64 s :: dd 2 ++ nl :: .int .i64 k :: dd 49, []⟩
def jz22 (s : List Int) (k i : Nat) : St := ⟨.sl I64 s :: dd 2 ++ nl :: .int .i64 k :: .bool (inK s k i) :: .bool (mxS s k i) :: .int .i64 i :: dd 46, []⟩
def ejz22 (s : List Int) (k : Nat) : List (List Nat × Ex) := [([0, 3, 4, 5, 6], ⟨2, Unit, fun _ => True, fun _ => ⟨.sl I64 s :: dd 2 ++ nl :: .int .i64 k :: .bool (inK s k s.length) :: .bool (mxS s k s.length) :: dd 47, []⟩⟩)]
def hz22 (s : List Int) (k : Nat) : Hint := ⟨chk 0 [0, 3, 4, 5, 6, 7] (fun i => i ≤ s.length) (jz22 s k), (ejz22 s k).map (·.2)⟩
theorem loop22z (s : List Int) (k : Nat) (h : ok22 s) (hk : k < 64) (R : Exit → St → Prop) : LoopOK (X [e63]) L22_2 (hz22 s k) R := by
 refine loop_ok (X_ok _) (H := fun _ _ => none) [0, 3, 4, 5, 6, 7] (fun i => i ≤ s.length) (jz22 s k) (fun i => s.length - i) (ejz22 s k) 150 fun (i : Nat) hi => ?_
 refine of_eq (q := True ∧ True ∧ True ∧ True ∧ ((i : Int) < (s.length : Int) → True ∧ True ∧ (inK s k i = true → True ∧ True ∧ True ∧ True ∧ (mxS s k i = true → True ∧ True ∧ idxPre (i : Int) s.length ∧ True ∧ True ∧ True ∧ True ∧ (s.getD i (0 : Int) = (k : Int) → True ∧ True ∧ True ∧ True ∧ inR .i64 ((i : Int) + 1) ∧ True ∧ ∃ (y : Nat), (y ≤ s.length ∧ s.length - y < s.length - i) ∧ (s = s ∧ True ∧ (k : Int) = (k : Int) ∧ true = inK s k y ∧ true = mxS s k y ∧ (i : Int) + 1 = (y : Int) ∧ True) ∧ True) ∧ (¬s.getD i (0 : Int) = (k : Int) → True ∧ True ∧ True ∧ idxPre (i : Int) s.length ∧ True ∧ ((((0 : Int) ≤ (k : Int) ∧ (k : Int) < 64) ∧ (0 : Int) ≤ s.getD i (0 : Int) ∧ s.getD i (0 : Int) < 64) ∧ True) ∧ True ∧ True ∧ True ∧ True ∧ True ∧ inR .i64 ((i : Int) + 1) ∧ True ∧ ∃ (y : Nat), (y ≤ s.length ∧ s.length - y < s.length - i) ∧ (s = s ∧ True ∧ (k : Int) = (k : Int) ∧ true = inK s k y ∧ (!sub k (Int.toNat (s.getD i (0 : Int)))) = mxS s k y ∧ (i : Int) + 1 = (y : Int) ∧ True) ∧ True)) ∧ (mxS s k i = false → True ∧ True ∧ True ∧ inR .i64 ((i : Int) + 1) ∧ True ∧ ∃ (y : Nat), (y ≤ s.length ∧ s.length - y < s.length - i) ∧ (s = s ∧ True ∧ (k : Int) = (k : Int) ∧ true = inK s k y ∧ false = mxS s k y ∧ (i : Int) + 1 = (y : Int) ∧ True) ∧ True)) ∧ (inK s k i = false → True ∧ True ∧ idxPre (i : Int) s.length ∧ True ∧ True ∧ True ∧ True ∧ True ∧ True ∧ True ∧ (mxS s k i = true → True ∧ True ∧ idxPre (i : Int) s.length ∧ True ∧ True ∧ True ∧ True ∧ (s.getD i (0 : Int) = (k : Int) → True ∧ True ∧ True ∧ True ∧ inR .i64 ((i : Int) + 1) ∧ True ∧ ∃ (y : Nat), (y ≤ s.length ∧ s.length - y < s.length - i) ∧ (s = s ∧ True ∧ (k : Int) = (k : Int) ∧ decide (s.getD i (0 : Int) = (k : Int)) = inK s k y ∧ true = mxS s k y ∧ (i : Int) + 1 = (y : Int) ∧ True) ∧ True) ∧ (¬s.getD i (0 : Int) = (k : Int) → True ∧ True ∧ True ∧ idxPre (i : Int) s.length ∧ True ∧ ((((0 : Int) ≤ (k : Int) ∧ (k : Int) < 64) ∧ (0 : Int) ≤ s.getD i (0 : Int) ∧ s.getD i (0 : Int) < 64) ∧ True) ∧ True ∧ True ∧ True ∧ True ∧ True ∧ inR .i64 ((i : Int) + 1) ∧ True ∧ ∃ (y : Nat), (y ≤ s.length ∧ s.length - y < s.length - i) ∧ (s = s ∧ True ∧ (k : Int) = (k : Int) ∧ decide (s.getD i (0 : Int) = (k : Int)) = inK s k y ∧ (!sub k (Int.toNat (s.getD i (0 : Int)))) = mxS s k y ∧ (i : Int) + 1 = (y : Int) ∧ True) ∧ True)) ∧ (mxS s k i = false → True ∧ True ∧ True ∧ inR .i64 ((i : Int) + 1) ∧ True ∧ ∃ (y : Nat), (y ≤ s.length ∧ s.length - y < s.length - i) ∧ (s = s ∧ True ∧ (k : Int) = (k : Int) ∧ decide (s.getD i (0 : Int) = (k : Int)) = inK s k y ∧ false = mxS s k y ∧ (i : Int) + 1 = (y : Int) ∧ True) ∧ True))) ∧ (¬(i : Int) < (s.length : Int) → ∃ (y : Unit), True ∧ (s = s ∧ True ∧ (k : Int) = (k : Int) ∧ inK s k i = inK s k s.length ∧ mxS s k i = mxS s k s.length ∧ True) ∧ True)) (by kernel_rfl) ?_
 simp only [zz]
 have hi : i ≤ s.length := hi
 obtain ⟨q1, q2⟩ := okL_get h.h i
 have hl := h.l
 refine ⟨fun hlt => ?_, fun hlt => by rw [show s.length = i by omega]; exact ⟨rfl, rfl⟩⟩
 have hx : idxPre (i : Int) s.length := idx_nat (by omega)
 have hn : ∀ b c, b = inK s k (i + 1) → c = mxS s k (i + 1) → inR .i64 ((i : Int) + 1) ∧ ∃ y : Nat, (y ≤ s.length ∧ s.length - y < s.length - i) ∧ b = inK s k y ∧ c = mxS s k y ∧ (i : Int) + 1 = (y : Int) := fun b c hb hc => ⟨by simp only [inR]; omega, i + 1, by omega, hb, hc, by omega⟩
 have hr : (0 ≤ (k : Int) ∧ (k : Int) < 64) ∧ 0 ≤ s.getD i 0 ∧ s.getD i 0 < 64 := ⟨⟨by omega, by omega⟩, q1, q2⟩
 refine ⟨fun hI => ⟨fun hM => ⟨hx, fun he => hn _ _ ?_ ?_, fun he => ⟨hx, hr, hn _ _ ?_ ?_⟩⟩, fun hM => hn _ _ ?_ ?_⟩, fun hI => ⟨hx, fun hM => ⟨hx, fun he => hn _ _ ?_ ?_, fun he => ⟨hx, hr, hn _ _ ?_ ?_⟩⟩, fun hM => hn _ _ ?_ ?_⟩⟩
 · rw [inK, hI]; try rfl
 · rw [mxS, hM, decide_eq_true he]; try rfl
 · rw [inK, hI]; try rfl
 · rw [mxS, hM, decide_eq_false he]; try rfl
 · rw [inK, hI]; try rfl
 · rw [mxS, hM]; try rfl
 · rw [inK, hI]; try rfl
 · rw [mxS, hM, decide_eq_true he]; try rfl
 · rw [inK, hI]; try rfl
 · rw [mxS, hM, decide_eq_false he]; try rfl
 · rw [inK, hI]; try rfl
 · rw [mxS, hM]; try rfl
def st22 (s : List Int) (k : Nat) : St := ⟨.sl I64 s :: dd 2 ++ .own 0 0 :: .int .i64 k :: dd 49, [.sc 0 3 I64 (trueN (pieB s) k)]⟩
def jt22 (s : List Int) (k i : Nat) : St := ⟨.sl I64 s :: dd 2 ++ .own 0 0 :: .int .i64 k :: .bool (inK s k i) :: .bool (mxS s k i) :: .int .i64 i :: dd 46, [.sc 0 3 I64 (trueN (pieB s) k)]⟩
def ejt22 (s : List Int) (k : Nat) : List (List Nat × Ex) := [([0, 3, 4, 5, 6], ⟨2, Unit, fun _ => True, fun _ => ⟨.sl I64 s :: dd 2 ++ .own 0 0 :: .int .i64 k :: .bool (inK s k s.length) :: .bool (mxS s k s.length) :: dd 47, [.sc 0 3 I64 (trueN (pieB s) k)]⟩⟩)]
def ht22 (s : List Int) (k : Nat) : Hint := ⟨chk 0 [0, 3, 4, 5, 6, 7] (fun i => i ≤ s.length) (jt22 s k), (ejt22 s k).map (·.2)⟩
theorem loop22t (s : List Int) (k : Nat) (h : ok22 s) (hk : k < 64) (R : Exit → St → Prop) : LoopOK (X [e63]) L22_2 (ht22 s k) R := by
 refine loop_ok (X_ok _) (H := fun _ _ => none) [0, 3, 4, 5, 6, 7] (fun i => i ≤ s.length) (jt22 s k) (fun i => s.length - i) (ejt22 s k) 150 fun (i : Nat) hi => ?_
 refine of_eq (q := True ∧ True ∧ True ∧ True ∧ ((i : Int) < (s.length : Int) → True ∧ True ∧ (inK s k i = true → True ∧ True ∧ True ∧ True ∧ (mxS s k i = true → True ∧ True ∧ idxPre (i : Int) s.length ∧ True ∧ True ∧ True ∧ True ∧ (s.getD i (0 : Int) = (k : Int) → True ∧ True ∧ True ∧ True ∧ inR .i64 ((i : Int) + 1) ∧ True ∧ ∃ (y : Nat), (y ≤ s.length ∧ s.length - y < s.length - i) ∧ (s = s ∧ True ∧ (k : Int) = (k : Int) ∧ true = inK s k y ∧ true = mxS s k y ∧ (i : Int) + 1 = (y : Int) ∧ True) ∧ trueN (pieB s) k = trueN (pieB s) k ∧ True) ∧ (¬s.getD i (0 : Int) = (k : Int) → True ∧ True ∧ True ∧ idxPre (i : Int) s.length ∧ True ∧ ((((0 : Int) ≤ (k : Int) ∧ (k : Int) < 64) ∧ (0 : Int) ≤ s.getD i (0 : Int) ∧ s.getD i (0 : Int) < 64) ∧ True) ∧ True ∧ True ∧ True ∧ True ∧ True ∧ inR .i64 ((i : Int) + 1) ∧ True ∧ ∃ (y : Nat), (y ≤ s.length ∧ s.length - y < s.length - i) ∧ (s = s ∧ True ∧ (k : Int) = (k : Int) ∧ true = inK s k y ∧ (!sub k (Int.toNat (s.getD i (0 : Int)))) = mxS s k y ∧ (i : Int) + 1 = (y : Int) ∧ True) ∧ trueN (pieB s) k = trueN (pieB s) k ∧ True)) ∧ (mxS s k i = false → True ∧ True ∧ True ∧ inR .i64 ((i : Int) + 1) ∧ True ∧ ∃ (y : Nat), (y ≤ s.length ∧ s.length - y < s.length - i) ∧ (s = s ∧ True ∧ (k : Int) = (k : Int) ∧ true = inK s k y ∧ false = mxS s k y ∧ (i : Int) + 1 = (y : Int) ∧ True) ∧ trueN (pieB s) k = trueN (pieB s) k ∧ True)) ∧ (inK s k i = false → True ∧ True ∧ idxPre (i : Int) s.length ∧ True ∧ True ∧ True ∧ True ∧ True ∧ True ∧ True ∧ (mxS s k i = true → True ∧ True ∧ idxPre (i : Int) s.length ∧ True ∧ True ∧ True ∧ True ∧ (s.getD i (0 : Int) = (k : Int) → True ∧ True ∧ True ∧ True ∧ inR .i64 ((i : Int) + 1) ∧ True ∧ ∃ (y : Nat), (y ≤ s.length ∧ s.length - y < s.length - i) ∧ (s = s ∧ True ∧ (k : Int) = (k : Int) ∧ decide (s.getD i (0 : Int) = (k : Int)) = inK s k y ∧ true = mxS s k y ∧ (i : Int) + 1 = (y : Int) ∧ True) ∧ trueN (pieB s) k = trueN (pieB s) k ∧ True) ∧ (¬s.getD i (0 : Int) = (k : Int) → True ∧ True ∧ True ∧ idxPre (i : Int) s.length ∧ True ∧ ((((0 : Int) ≤ (k : Int) ∧ (k : Int) < 64) ∧ (0 : Int) ≤ s.getD i (0 : Int) ∧ s.getD i (0 : Int) < 64) ∧ True) ∧ True ∧ True ∧ True ∧ True ∧ True ∧ inR .i64 ((i : Int) + 1) ∧ True ∧ ∃ (y : Nat), (y ≤ s.length ∧ s.length - y < s.length - i) ∧ (s = s ∧ True ∧ (k : Int) = (k : Int) ∧ decide (s.getD i (0 : Int) = (k : Int)) = inK s k y ∧ (!sub k (Int.toNat (s.getD i (0 : Int)))) = mxS s k y ∧ (i : Int) + 1 = (y : Int) ∧ True) ∧ trueN (pieB s) k = trueN (pieB s) k ∧ True)) ∧ (mxS s k i = false → True ∧ True ∧ True ∧ inR .i64 ((i : Int) + 1) ∧ True ∧ ∃ (y : Nat), (y ≤ s.length ∧ s.length - y < s.length - i) ∧ (s = s ∧ True ∧ (k : Int) = (k : Int) ∧ decide (s.getD i (0 : Int) = (k : Int)) = inK s k y ∧ false = mxS s k y ∧ (i : Int) + 1 = (y : Int) ∧ True) ∧ trueN (pieB s) k = trueN (pieB s) k ∧ True))) ∧ (¬(i : Int) < (s.length : Int) → ∃ (y : Unit), True ∧ (s = s ∧ True ∧ (k : Int) = (k : Int) ∧ inK s k i = inK s k s.length ∧ mxS s k i = mxS s k s.length ∧ True) ∧ trueN (pieB s) k = trueN (pieB s) k ∧ True)) (by kernel_rfl) ?_
 simp only [zz]
 have hi : i ≤ s.length := hi
 obtain ⟨q1, q2⟩ := okL_get h.h i
 have hl := h.l
 refine ⟨fun hlt => ?_, fun hlt => by rw [show s.length = i by omega]; exact ⟨rfl, rfl⟩⟩
 have hx : idxPre (i : Int) s.length := idx_nat (by omega)
 have hn : ∀ b c, b = inK s k (i + 1) → c = mxS s k (i + 1) → inR .i64 ((i : Int) + 1) ∧ ∃ y : Nat, (y ≤ s.length ∧ s.length - y < s.length - i) ∧ b = inK s k y ∧ c = mxS s k y ∧ (i : Int) + 1 = (y : Int) := fun b c hb hc => ⟨by simp only [inR]; omega, i + 1, by omega, hb, hc, by omega⟩
 have hr : (0 ≤ (k : Int) ∧ (k : Int) < 64) ∧ 0 ≤ s.getD i 0 ∧ s.getD i 0 < 64 := ⟨⟨by omega, by omega⟩, q1, q2⟩
 refine ⟨fun hI => ⟨fun hM => ⟨hx, fun he => hn _ _ ?_ ?_, fun he => ⟨hx, hr, hn _ _ ?_ ?_⟩⟩, fun hM => hn _ _ ?_ ?_⟩, fun hI => ⟨hx, fun hM => ⟨hx, fun he => hn _ _ ?_ ?_, fun he => ⟨hx, hr, hn _ _ ?_ ?_⟩⟩, fun hM => hn _ _ ?_ ?_⟩⟩
 · rw [inK, hI]; try rfl
 · rw [mxS, hM, decide_eq_true he]; try rfl
 · rw [inK, hI]; try rfl
 · rw [mxS, hM, decide_eq_false he]; try rfl
 · rw [inK, hI]; try rfl
 · rw [mxS, hM]; try rfl
 · rw [inK, hI]; try rfl
 · rw [mxS, hM, decide_eq_true he]; try rfl
 · rw [inK, hI]; try rfl
 · rw [mxS, hM, decide_eq_false he]; try rfl
 · rw [inK, hI]; try rfl
 · rw [mxS, hM]; try rfl
noncomputable def fm22 (s : List Int) : List Fam := [⟨Nat, fun k => k ≤ 64 ∧ trueN (pieB s) k = [], sz22 s, fun k => 64 - k, fun k _ => some (hz22 s k)⟩, ⟨Nat, fun k => k ≤ 64, st22 s, fun k => 64 - k, fun k _ => some (ht22 s k)⟩]
def ex22 (s : List Int) : List (List Nat × Ex) := [([3], ⟨0, Unit, fun _ => pieL s = [], fun _ => ⟨dd 3 ++ nl :: dd 50, []⟩⟩), ([3], ⟨0, Unit, fun _ => True, fun _ => ⟨dd 3 ++ .own 0 0 :: dd 50, [.sc 0 3 I64 (pieL s)]⟩⟩)]
noncomputable def H22 (s : List Int) : Nat → Option Hint := fun _ => some ⟨chks 0 [0, 3, 4] (fm22 s), (ex22 s).map (·.2)⟩
theorem loop22 (s : List Int) (h : ok22 s) (R : Exit → St → Prop) : LoopOK (X [e63]) L22_0 ⟨chks 0 [0, 3, 4] (fm22 s), (ex22 s).map (·.2)⟩ R := by
 refine loop_fams (X_ok _) [0, 3, 4] (fm22 s) (ex22 s) 150 ⟨fun (k : Nat) hk => ?_, fun (k : Nat) hk => ?_, trivial⟩
 · have hL := fun hk => loop22z s k h hk
   refine of_eq (q := True ∧ True ∧ ((k : Int) < 64 → True ∧ True ∧ True ∧ LoopOK (X [e63]) L22_2 (hz22 s k) (bodyR (X [e63]).m0 (ex22 s) R) ∧ (∃ (y : Nat), y ≤ s.length ∧ (s = s ∧ True ∧ (k : Int) = (k : Int) ∧ false = inK s k y ∧ true = mxS s k y ∧ (0 : Int) = (y : Int) ∧ True) ∧ True) ∧ (∀ (y : Unit), True → True ∧ True ∧ (inK s k s.length = true → True ∧ True ∧ (mxS s k s.length = true → True ∧ True ∧ True ∧ sumPre (0 : Nat) [(k : Int)].length (nat_lit 8) ∧ True ∧ True ∧ inR .i64 ((k : Int) + 1) ∧ True ∧ ((∃ (y : Nat), ((y ≤ 64 ∧ trueN (pieB s) y = []) ∧ (64 : Nat) - y < 64 - k) ∧ (s = s ∧ False ∧ (k : Int) + 1 = (y : Int) ∧ True) ∧ True) ∨ ∃ (y : Nat), (y ≤ 64 ∧ (64 : Nat) - y < 64 - k) ∧ (s = s ∧ True ∧ (k : Int) + 1 = (y : Int) ∧ True) ∧ [(k : Int)] = trueN (pieB s) y ∧ True)) ∧ (mxS s k s.length = false → True ∧ inR .i64 ((k : Int) + 1) ∧ True ∧ ((∃ (y : Nat), ((y ≤ 64 ∧ trueN (pieB s) y = []) ∧ (64 : Nat) - y < 64 - k) ∧ (s = s ∧ True ∧ (k : Int) + 1 = (y : Int) ∧ True) ∧ True) ∨ ∃ (y : Nat), (y ≤ 64 ∧ (64 : Nat) - y < 64 - k) ∧ (s = s ∧ False ∧ (k : Int) + 1 = (y : Int) ∧ True) ∧ False))) ∧ (inK s k s.length = false → True ∧ True ∧ inR .i64 ((k : Int) + 1) ∧ True ∧ ((∃ (y : Nat), ((y ≤ 64 ∧ trueN (pieB s) y = []) ∧ (64 : Nat) - y < 64 - k) ∧ (s = s ∧ True ∧ (k : Int) + 1 = (y : Int) ∧ True) ∧ True) ∨ ∃ (y : Nat), (y ≤ 64 ∧ (64 : Nat) - y < 64 - k) ∧ (s = s ∧ False ∧ (k : Int) + 1 = (y : Int) ∧ True) ∧ False))) ∧ True) ∧ (¬(k : Int) < 64 → (∃ (y : Unit), pieL s = [] ∧ (True ∧ True) ∧ True) ∨ ∃ (y : Unit), True ∧ (False ∧ True) ∧ False)) (by kernel_rfl) ?_
   simp only [zz]
   obtain ⟨k1, k2⟩ := hk
   have hf : k < 64 → pieB s k = false → inR .i64 ((k : Int) + 1) ∧ ∃ y : Nat, ((y ≤ 64 ∧ trueN (pieB s) y = []) ∧ 64 - y < 64 - k) ∧ (k : Int) + 1 = (y : Int) := fun h3 hb => ⟨by simp only [inR]; omega, k + 1, ⟨⟨by omega, by rw [trueN, hb, k2]; rfl⟩, by omega⟩, by omega⟩
   have hz : ∃ y : Nat, y ≤ s.length ∧ false = inK s k y ∧ true = mxS s k y ∧ (0 : Int) = (y : Int) := ⟨0, Nat.zero_le _, rfl, rfl, rfl⟩
   refine ⟨fun h3 => ⟨hL (by omega) _, hz, fun _ _ => ⟨fun hI => ⟨fun hM => ⟨by unfold sumPre; simp, by simp only [inR]; omega, k + 1, by omega, by omega, ?_⟩, fun hM => hf (by omega) ?_⟩, fun hI => hf (by omega) ?_⟩⟩, fun h3 => ?_⟩
   · have hb : pieB s k = true := by unfold pieB; rw [hI, hM]; try rfl
     rw [trueN, if_pos hb, k2]; try rfl
   · unfold pieB; rw [hI, hM]; try rfl
   · unfold pieB; rw [hI]; try rfl
   · unfold pieL; rw [show 64 = k by omega, k2]
 · have hL := fun hk => loop22t s k h hk
   refine of_eq (q := True ∧ True ∧ ((k : Int) < 64 → True ∧ True ∧ True ∧ LoopOK (X [e63]) L22_2 (ht22 s k) (bodyR (X [e63]).m0 (ex22 s) R) ∧ (∃ (y : Nat), y ≤ s.length ∧ (s = s ∧ True ∧ (k : Int) = (k : Int) ∧ false = inK s k y ∧ true = mxS s k y ∧ (0 : Int) = (y : Int) ∧ True) ∧ trueN (pieB s) k = trueN (pieB s) k ∧ True) ∧ (∀ (y : Unit), True → True ∧ True ∧ (inK s k s.length = true → True ∧ True ∧ (mxS s k s.length = true → True ∧ True ∧ True ∧ sumPre (trueN (pieB s) k).length [(k : Int)].length (nat_lit 8) ∧ True ∧ True ∧ inR .i64 ((k : Int) + 1) ∧ True ∧ ((∃ (y : Nat), ((y ≤ 64 ∧ trueN (pieB s) y = []) ∧ (64 : Nat) - y < 64 - k) ∧ (s = s ∧ False ∧ (k : Int) + 1 = (y : Int) ∧ True) ∧ True) ∨ ∃ (y : Nat), (y ≤ 64 ∧ (64 : Nat) - y < 64 - k) ∧ (s = s ∧ True ∧ (k : Int) + 1 = (y : Int) ∧ True) ∧ trueN (pieB s) k ++ [(k : Int)] = trueN (pieB s) y ∧ True)) ∧ (mxS s k s.length = false → True ∧ inR .i64 ((k : Int) + 1) ∧ True ∧ ((∃ (y : Nat), ((y ≤ 64 ∧ trueN (pieB s) y = []) ∧ (64 : Nat) - y < 64 - k) ∧ (s = s ∧ False ∧ (k : Int) + 1 = (y : Int) ∧ True) ∧ True) ∨ ∃ (y : Nat), (y ≤ 64 ∧ (64 : Nat) - y < 64 - k) ∧ (s = s ∧ True ∧ (k : Int) + 1 = (y : Int) ∧ True) ∧ trueN (pieB s) k = trueN (pieB s) y ∧ True))) ∧ (inK s k s.length = false → True ∧ True ∧ inR .i64 ((k : Int) + 1) ∧ True ∧ ((∃ (y : Nat), ((y ≤ 64 ∧ trueN (pieB s) y = []) ∧ (64 : Nat) - y < 64 - k) ∧ (s = s ∧ False ∧ (k : Int) + 1 = (y : Int) ∧ True) ∧ True) ∨ ∃ (y : Nat), (y ≤ 64 ∧ (64 : Nat) - y < 64 - k) ∧ (s = s ∧ True ∧ (k : Int) + 1 = (y : Int) ∧ True) ∧ trueN (pieB s) k = trueN (pieB s) y ∧ True))) ∧ True) ∧ (¬(k : Int) < 64 → (∃ (y : Unit), pieL s = [] ∧ (False ∧ True) ∧ True) ∨ ∃ (y : Unit), True ∧ (True ∧ True) ∧ trueN (pieB s) k = pieL s ∧ True)) (by kernel_rfl) ?_
   simp only [zz]
   have hk : k ≤ 64 := hk
   have hl := trueN_len (pieB s) k
   have hf : k < 64 → pieB s k = false → inR .i64 ((k : Int) + 1) ∧ ∃ y : Nat, (y ≤ 64 ∧ 64 - y < 64 - k) ∧ (k : Int) + 1 = (y : Int) ∧ trueN (pieB s) k = trueN (pieB s) y := fun h3 hb => ⟨by simp only [inR]; omega, k + 1, by omega, by omega, by rw [trueN, hb]; rfl⟩
   have hz : ∃ y : Nat, y ≤ s.length ∧ false = inK s k y ∧ true = mxS s k y ∧ (0 : Int) = (y : Int) := ⟨0, Nat.zero_le _, rfl, rfl, rfl⟩
   refine ⟨fun h3 => ⟨hL (by omega) _, hz, fun _ _ => ⟨fun hI => ⟨fun hM => ⟨by unfold sumPre; simp; omega, by simp only [inR]; omega, k + 1, by omega, by omega, ?_⟩, fun hM => hf (by omega) ?_⟩, fun hI => hf (by omega) ?_⟩⟩, fun h3 => ?_⟩
   · have hb : pieB s k = true := by unfold pieB; rw [hI, hM]; try rfl
     rw [trueN, if_pos hb]; try rfl
   · unfold pieB; rw [hI, hM]; try rfl
   · unfold pieB; rw [hI]; try rfl
   · unfold pieL; rw [show 64 = k by omega]
theorem call22 (s : List Int) (h : ok22 s) : GCall Try.prog gl 22 true [.sl I64 s] [] [.sl I64 (pieL s)] [] := by
 refine gcall_of (X := (X [e63])) ((X_ok _)) (f := 22) (fn := Try.f22) (c := bodyOf Try.f22) (by kernel_rfl) (by kernel_rfl) (view := true) (rvs := [.tmp 2]) (by kernel_rfl) (H := (H22 s)) 80 (by kernel_rfl) ?_
 have hL := loop22 s h
 refine of_eq (q := True ∧ True ∧ True ∧ LoopOK (X [e63]) L22_0 { J := chks (0 : Nat) [(0 : Nat), (3 : Nat), (4 : Nat)] (fm22 s), exits := List.map (fun (x : List Nat × Ex) => x.snd) (ex22 s) } (RetR (X [e63]) true true [ResultVar.tmp (2 : Tmp)] [AV.sl I64 (pieL s)] []) ∧ ((∃ (y : Nat), (y ≤ 64 ∧ trueN (pieB s) y = []) ∧ (s = s ∧ True ∧ (0 : Int) = (y : Int) ∧ True) ∧ True) ∨ ∃ (y : Nat), y ≤ 64 ∧ (s = s ∧ False ∧ (0 : Int) = (y : Int) ∧ True) ∧ False) ∧ (∀ (y : Unit), pieL s = [] → True ∧ True ∧ True ∧ (([] : List Int) = pieL s ∧ True) ∧ True) ∧ (∀ (y : Unit), True → True ∧ True ∧ True ∧ (pieL s = pieL s ∧ True) ∧ True) ∧ True) (by kernel_rfl) ?_
 simp only [zz]
 exact ⟨hL _, ⟨0, ⟨Nat.zero_le _, rfl⟩, rfl⟩, fun _ h => h.symm, fun _ h => h⟩
def e22 : Entry Try.prog gl := entry1 22 ⟨Try.f22, by kernel_rfl, by kernel_rfl, by kernel_rfl⟩ SI (fun s => ok22 s) true (fun s => [.sl I64 (pieL s)]) (fun _ => []) (call22)
end Go.Am.Sh

/- Shells: tame. -/
namespace Go.Am.Sh
open Go Go.Am Go.Proofs
def hs14 : Nat → Bool := fun t => Nat.beq t 10 || Nat.beq t 30
noncomputable def Xh (l : EL) (hs : Nat → Bool) (dr : Nat → Option Nat) : Cy := { Xd l dr with hs := hs }
theorem Xh_ok (l : EL) (hs : Nat → Bool) (dr : Nat → Option Nat) : (Xh l hs dr).Ok := { tt := (Xd_ok l dr).tt, Γ := (Xd_ok l dr).Γ, Γd := (Xd_ok l dr).Γd, Yl := (Xd_ok l dr).Yl }
noncomputable abbrev X14 : Cy := Xh [e22] hs14 (drOf [(6, 11)])
def tmN (n : Int) : Int := 1 + (modU .u64 n).tmod 6
def tmS (n : Int) (l : List Int) (k : Nat) : List Int := 1 :: (l.take k).map fun x => (modU .u64 x).tmod (2 ^ (tmN n).toNat)
theorem tmN_bd (n : Int) : numOk (tmN n) := by
 have h1 : 0 ≤ modU .u64 n := u64_nn n
 have e := Int.tmod_eq_emod_of_nonneg (b := 6) h1
 unfold tmN numOk
 omega
theorem tm_pow (n : Int) : modU .u64 (1 * 2 ^ (tmN n).toNat) = 2 ^ (tmN n).toNat := by
 obtain ⟨e1, e2, e3⟩ := numOk_pow (tmN_bd n)
 rw [Int.one_mul, ← e1]
 show _ % 18446744073709551616 = _
 omega
theorem tm_pos (n : Int) : (2 : Int) ≤ 2 ^ (tmN n).toNat ∧ (2 : Int) ^ (tmN n).toNat ≤ 64 := by
 obtain ⟨e1, e2, e3⟩ := numOk_pow (tmN_bd n)
 omega
theorem tm_x {n : Int} (x : Int) : 0 ≤ (modU .u64 x).tmod (2 ^ (tmN n).toNat) ∧ (modU .u64 x).tmod (2 ^ (tmN n).toNat) < 2 ^ (tmN n).toNat ∧ (modU .u64 x).tmod (2 ^ (tmN n).toNat) < 64 := by
 have h := tm_pos n
 have h3 := Int.tmod_nonneg (a := modU .u64 x) (2 ^ (tmN n).toNat) (u64_nn x)
 have h4 := Int.tmod_lt_of_pos (modU .u64 x) (show (0 : Int) < 2 ^ (tmN n).toNat by omega)
 omega
theorem tm_mem {n : Int} {l : List Int} {k : Nat} {x : Int} (h : x ∈ tmS n l k) : 0 ≤ x ∧ x < 2 ^ (tmN n).toNat := by
 have hp := tm_pos n
 unfold tmS at h
 simp only [List.mem_cons, List.mem_map] at h
 rcases h with h | ⟨y, _, h⟩
 · omega
 · have := tm_x (n := n) y
   omega
theorem tm_ok (n : Int) (l : List Int) : ok22 (tmS n l 10) := ⟨fun x hx => by have := tm_mem hx; have := tm_pos n; omega, by unfold tmS; simp; omega⟩
theorem tm_lt (n : Int) (l : List Int) : ∀ x ∈ tmS n l 10, x < 2 ^ (tmN n).toNat := fun x hx => (tm_mem hx).2
theorem trueN_asc {g : Nat → Bool} : ∀ {k i j : Nat}, i < j → j < (trueN g k).length → (trueN g k).getD i 0 < (trueN g k).getD j 0
 | 0, i, j, _, h => by simp [trueN] at h
 | k + 1, i, j, hij, h => by
   rw [trueN] at h ⊢
   by_cases hg : g k = true
   · rw [if_pos hg] at h ⊢
     rw [List.length_append, List.length_singleton] at h
     rcases Nat.lt_or_ge j (trueN g k).length with hj | hj
     · rw [getD_append_left (by omega), getD_append_left hj]; exact trueN_asc hij hj
     · have e : (trueN g k ++ [(k : Int)]).getD j 0 = k := by
         rw [List.getD_eq_getElem?_getD, List.getElem?_append_right hj, show j - (trueN g k).length = 0 by omega]; try rfl
       rw [e, getD_append_left (by omega)]
       obtain ⟨m, h1, h2, _⟩ := trueN_mem (mem_getD (d := 0) (show i < (trueN g k).length by omega))
       omega
   · rw [if_neg hg] at h ⊢; exact trueN_asc hij h
theorem inK_iff {s : List Int} {x : Nat} : ∀ {k : Nat}, inK s x k = true ↔ ∃ i, i < k ∧ s.getD i 0 = x
 | 0 => by simp [inK]
 | k + 1 => by
   rw [inK, Bool.or_eq_true, inK_iff, decide_eq_true_eq]
   constructor
   · rintro (⟨i, h1, h2⟩ | h)
     · exact ⟨i, by omega, h2⟩
     · exact ⟨k, by omega, h⟩
   · rintro ⟨i, h1, h2⟩
     rcases Nat.lt_or_ge i k with h3 | h3
     · exact .inl ⟨i, h3, h2⟩
     · exact .inr (by rw [show k = i by omega]; exact h2)
theorem mxS_iff {s : List Int} {x : Nat} : ∀ {k : Nat}, mxS s x k = true ↔ ∀ i, i < k → s.getD i 0 = x ∨ sub x (s.getD i 0).toNat = false
 | 0 => by simp [mxS]
 | k + 1 => by
   rw [mxS, Bool.and_eq_true, mxS_iff, Bool.or_eq_true, decide_eq_true_eq, Bool.not_eq_true']
   constructor
   · rintro ⟨h1, h2⟩ i hi
     rcases Nat.lt_or_ge i k with h3 | h3
     · exact h1 i h3
     · rw [show i = k by omega]; exact h2
   · intro h
     exact ⟨fun i hi => h i (by omega), h k (by omega)⟩
theorem pie_mem {s : List Int} {y : Int} (h : y ∈ pieL s) : ∃ x : Nat, y = x ∧ x < 64 ∧ (∃ i, i < s.length ∧ s.getD i 0 = x) ∧ ∀ i, i < s.length → s.getD i 0 = x ∨ sub x (s.getD i 0).toNat = false := by
 obtain ⟨x, h1, h2, h3⟩ := trueN_mem h
 unfold pieB at h3
 rw [Bool.and_eq_true, inK_iff, mxS_iff] at h3
 exact ⟨x, h1, h2, h3.1, h3.2⟩
theorem pie_pos {s : List Int} (h1 : ∃ i, i < s.length ∧ 1 ≤ s.getD i 0) : ∀ y ∈ pieL s, 1 ≤ y := fun y hy => by
 obtain ⟨x, rfl, h2, h3, h4⟩ := pie_mem hy
 obtain ⟨i, hi, h5⟩ := h1
 rcases Nat.eq_zero_or_pos x with h0 | h0
 · subst h0
   rcases h4 i hi with h6 | h6
   · omega
   · rw [sub_zero] at h6; cases h6
 · omega
theorem max_ex (s : List Int) : ∀ k, ∃ i, i < k + 1 ∧ ∀ j, j < k + 1 → s.getD j 0 ≤ s.getD i 0
 | 0 => ⟨0, by omega, fun j hj => by rw [show j = 0 by omega]; exact Int.le_refl _⟩
 | k + 1 => by
   obtain ⟨i, h1, h2⟩ := max_ex s k
   by_cases h : s.getD i 0 ≤ s.getD (k + 1) 0
   · refine ⟨k + 1, by omega, fun j hj => ?_⟩
     rcases Nat.lt_or_ge j (k + 1) with h3 | h3
     · exact Int.le_trans (h2 j h3) h
     · rw [show j = k + 1 by omega]; exact Int.le_refl _
   · refine ⟨i, by omega, fun j hj => ?_⟩
     rcases Nat.lt_or_ge j (k + 1) with h3 | h3
     · exact h2 j h3
     · rw [show j = k + 1 by omega]; omega
theorem pie_ne {s : List Int} (h : okL s) (hl : 1 ≤ s.length) : 1 ≤ (pieL s).length := by
 obtain ⟨k, hk⟩ : ∃ k, s.length = k + 1 := ⟨s.length - 1, by omega⟩
 obtain ⟨i, h1, h2⟩ := max_ex s k
 have hr := okL_get h i
 have hb : pieB s (s.getD i 0).toNat = true := by
   unfold pieB
   rw [Bool.and_eq_true, inK_iff, mxS_iff]
   refine ⟨⟨i, by omega, by omega⟩, fun j hj => ?_⟩
   have h3 := h2 j (by omega)
   have h4 := okL_get h j
   cases hs : sub (s.getD i 0).toNat (s.getD j 0).toNat with
   | false => exact .inr rfl
   | true => have := sub_le hs; exact .inl (by omega)
 have := trueN_has (g := pieB s) (k := 64) (by omega) hb
 exact List.length_pos_of_mem this
theorem take_get {l : List Int} {k m : Nat} (h : k < m) : (l.take m).getD k 0 = l.getD k 0 := by
 rw [List.getD_eq_getElem?_getD, List.getD_eq_getElem?_getD, List.getElem?_take_of_lt h]
theorem pie_cx {n : Int} {s : List Int} (hn : numOk n) (h : ok22 s) (hlt : ∀ x ∈ s, x < 2 ^ n.toNat) (h1 : ∃ i, i < s.length ∧ 1 ≤ s.getD i 0) : cxOk n ((pieL s).take 10) := by
 have hne := pie_ne h.h (by obtain ⟨i, hi, _⟩ := h1; omega)
 have hlen : ((pieL s).take 10).length ≤ 10 ∧ 1 ≤ ((pieL s).take 10).length ∧ ((pieL s).take 10).length ≤ (pieL s).length := by rw [List.length_take]; omega
 refine ⟨hn, ⟨hlen.2.1, hlen.1⟩, fun k hk => ?_⟩
 have hk1 : k < (pieL s).length := by omega
 have hmem := mem_getD (d := (0 : Int)) hk1
 have hpos := pie_pos h1 _ hmem
 obtain ⟨x, e, hx, ⟨i, hi, hi2⟩, hmx⟩ := pie_mem hmem
 have hrk := trueN_ok (pieB s) _ hmem
 refine ⟨by rw [take_get (by omega)]; exact hpos, by rw [take_get (by omega), e, ← hi2]; exact hlt _ (mem_getD hi), fun h0 => by rw [take_get (by omega), take_get (by omega)]; exact trueN_asc (by omega) hk1, fun j hj hne2 => ?_⟩
 have hj1 : j < (pieL s).length := by omega
 have hmem2 := mem_getD (d := (0 : Int)) hj1
 obtain ⟨y, e2, hy, ⟨i2, hi3, hi4⟩, hmy⟩ := pie_mem hmem2
 have hrj := trueN_ok (pieB s) _ hmem2
 rw [take_get (by omega), take_get (by omega), Ne, sub_and hrk hrj, e, e2, Int.toNat_natCast, Int.toNat_natCast]
 rcases hmx i2 hi3 with h5 | h5
 · exfalso
   have hxy : (pieL s).getD k 0 = (pieL s).getD j 0 := by omega
   rcases Nat.lt_or_ge j k with h6 | h6
   · have := trueN_asc (g := pieB s) (k := 64) h6 hk1
     unfold pieL at hxy; omega
   · have := trueN_asc (g := pieB s) (k := 64) (show k < j by omega) hj1
     unfold pieL at hxy; omega
 · rw [hi4, Int.toNat_natCast] at h5
   rw [h5]; simp
noncomputable def L14_0 : Code := lp (bodyOf Try.f14) 0
def st14 (n : Int) (l : List Int) (k : Nat) : St := ⟨.int .i64 (tmN n) :: .sl I64 l :: dd 4 ++ .own 0 0 :: .int .i64 k :: dd 51, [.sc 0 3 I64 (tmS n l k)]⟩
def in14 (l : List Int) (k : Nat) : Prop := k ≤ l.length ∧ k ≤ 10
def ex14 (n : Int) (l : List Int) : List (List Nat × Ex) := [([0, 6], ⟨0, Unit, fun _ => True, fun _ => ⟨.int .i64 (tmN n) :: dd 5 ++ .own 0 0 :: dd 52, [.sc 0 3 I64 (tmS n l 10)]⟩⟩)]
noncomputable def H14 (n : Int) (l : List Int) : Nat → Option Hint := fun _ => some ⟨chk 0 [0, 1, 6, 7] (in14 l) (st14 n l), (ex14 n l).map (·.2)⟩
theorem loop14 (n : Int) (l : List Int) (hl : l.length < 1000000000000000) (R : Exit → St → Prop) : LoopOK X14 L14_0 ⟨chk 0 [0, 1, 6, 7] (in14 l) (st14 n l), (ex14 n l).map (·.2)⟩ R := by
 refine loop_ok (Xh_ok _ _ _) (H := fun _ _ => none) [0, 1, 6, 7] (in14 l) (st14 n l) (fun k => l.length - k) (ex14 n l) 150 fun (k : Nat) hk => ?_
 refine of_eq (q := True ∧ True ∧ True ∧ True ∧ True ∧ ((k : Int) < (l.length : Int) → True ∧ True ∧ True ∧ ((k : Int) < 10 → True ∧ True ∧ True ∧ idxPre (k : Int) l.length ∧ True ∧ True ∧ True ∧ (((0 : Int) ≤ tmN n ∧ tmN n < bitsOf .u64) ∧ True) ∧ ¬modU .u64 ((1 : Int) * 2 ^ (tmN n).toNat) = 0 ∧ inR .i64 ((modU .u64 (l.getD k (0 : Int))).tmod (modU .u64 ((1 : Int) * 2 ^ (tmN n).toNat))) ∧ True ∧ sumPre (tmS n l k).length [(modU .u64 (l.getD k (0 : Int))).tmod (modU .u64 ((1 : Int) * 2 ^ (tmN n).toNat))].length (nat_lit 8) ∧ True ∧ True ∧ inR .i64 ((k : Int) + 1) ∧ True ∧ ∃ (y : Nat), (in14 l y ∧ l.length - y < l.length - k) ∧ (tmN n = tmN n ∧ l = l ∧ True ∧ (k : Int) + 1 = (y : Int) ∧ True) ∧ tmS n l k ++ [(modU .u64 (l.getD k (0 : Int))).tmod (modU .u64 ((1 : Int) * 2 ^ (tmN n).toNat))] = tmS n l y ∧ True) ∧ (¬(k : Int) < 10 → ∃ (y : Unit), True ∧ (tmN n = tmN n ∧ True ∧ True) ∧ tmS n l k = tmS n l (10 : Nat) ∧ True)) ∧ (¬(k : Int) < (l.length : Int) → True ∧ ∃ (y : Unit), True ∧ (tmN n = tmN n ∧ True ∧ True) ∧ tmS n l k = tmS n l (10 : Nat) ∧ True)) (by kernel_rfl) ?_
 simp only [zz]
 obtain ⟨k1, k2⟩ := hk
 obtain ⟨b1, b2⟩ := tmN_bd n
 have hp := tm_pow n
 refine ⟨fun h => ⟨fun h2 => ?_, fun h2 => by rw [show k = 10 by omega]⟩, fun h => ?_⟩
 · rw [hp]
   have hx := tm_x (n := n) (l.getD k 0)
   have hlen : (tmS n l k).length ≤ 11 := by unfold tmS; simp; omega
   refine ⟨idx_nat (by omega), ⟨by omega, by simp only [bitsOf]; omega⟩, by have := tm_pos n; omega, by simp only [inR]; omega, by unfold sumPre; simp; omega, by simp only [inR]; omega, k + 1, ⟨⟨by omega, by omega⟩, by omega⟩, by omega, ?_⟩
   unfold tmS
   rw [take_getD (d := 0) (show k < l.length by omega), List.map_append]
   rfl
 · unfold tmS
   rw [List.take_of_length_le (by omega), List.take_of_length_le (by omega)]
def tmP (n : Int) (l : List Int) : List Int := (pieL (tmS n l 10)).take 10
theorem call14 (n : Int) (l : List Int) (hl : l.length < 1000000000000000) : GCall Try.prog gl 14 false [.int .i64 n, .sl I64 l] [] [.int .i64 (tmN n), .sl I64 (tmP n l)] [] := by
 refine gcall_of (X := X14) ((Xh_ok _ _ _)) (f := 14) (fn := Try.f14) (c := bodyOf Try.f14) (by kernel_rfl) (by kernel_rfl) (view := true) (rvs := [.tmp 4, .tmp 5]) (by kernel_rfl) (H := (H14 n l)) 200 (by kernel_rfl) ?_
 have hL := loop14 n l hl
 refine of_eq (q := True ∧ True ∧ True ∧ True ∧ ¬(6 : Int) = 0 ∧ inR .i64 ((modU .u64 n).tmod (6 : Int)) ∧ inR .i64 ((1 : Int) + (modU .u64 n).tmod (6 : Int)) ∧ True ∧ True ∧ True ∧ True ∧ LoopOK X14 L14_0 { J := chk (0 : Nat) [(0 : Nat), (1 : Nat), (6 : Nat), (7 : Nat)] (in14 l) (st14 n l), exits := List.map (fun (x : List Nat × Ex) => x.snd) (ex14 n l) } (RetR X14 false true [ResultVar.tmp (4 : Tmp), ResultVar.tmp (5 : Tmp)] [AV.int .i64 (tmN n), AV.sl I64 (tmP n l)] []) ∧ (∃ (y : Nat), in14 l y ∧ ((1 : Int) + (modU .u64 n).tmod (6 : Int) = tmN n ∧ l = l ∧ True ∧ (0 : Int) = (y : Int) ∧ True) ∧ [(1 : Int)] = tmS n l y ∧ True) ∧ (∀ (y : Unit), True → True ∧ (ok22 (tmS n l (10 : Nat)) ∧ True) ∧ True ∧ True ∧ True ∧ True ∧ True ∧ ((1 : Int) < (↑(pieL (tmS n l (10 : Nat))).length : Int) → True ∧ idxPre (0 : Int) (pieL (tmS n l (10 : Nat))).length ∧ True ∧ True ∧ True ∧ ((pieL (tmS n l (10 : Nat))).getD (0 : Nat) (0 : Int) = 0 → True ∧ slPre (pieL (tmS n l (10 : Nat))).length (pieL (tmS n l (10 : Nat))).length (some (1 : Int)) none none ∧ True ∧ True ∧ True ∧ True ∧ True ∧ True ∧ True ∧ True ∧ True ∧ slPre (cutL (pieL (tmS n l (10 : Nat))) (some (1 : Int)) none).length (cutL (pieL (tmS n l (10 : Nat))) (some (1 : Int)) none).length none (some (minI (↑(cutL (pieL (tmS n l (10 : Nat))) (some (1 : Int)) none).length : Int) (10 : Int))) (some (minI (↑(cutL (pieL (tmS n l (10 : Nat))) (some (1 : Int)) none).length : Int) (10 : Int))) ∧ True ∧ True ∧ True ∧ (tmN n = tmN n ∧ cutL (cutL (pieL (tmS n l (10 : Nat))) (some (1 : Int)) none) none (some (minI (↑(cutL (pieL (tmS n l (10 : Nat))) (some (1 : Int)) none).length : Int) (10 : Int))) = tmP n l ∧ True) ∧ True) ∧ (¬(pieL (tmS n l (10 : Nat))).getD (0 : Nat) (0 : Int) = 0 → True ∧ True ∧ True ∧ True ∧ True ∧ True ∧ True ∧ True ∧ slPre (pieL (tmS n l (10 : Nat))).length (pieL (tmS n l (10 : Nat))).length none (some (minI (↑(pieL (tmS n l (10 : Nat))).length : Int) (10 : Int))) (some (minI (↑(pieL (tmS n l (10 : Nat))).length : Int) (10 : Int))) ∧ True ∧ True ∧ True ∧ (tmN n = tmN n ∧ cutL (pieL (tmS n l (10 : Nat))) none (some (minI (↑(pieL (tmS n l (10 : Nat))).length : Int) (10 : Int))) = tmP n l ∧ True) ∧ True)) ∧ (¬(1 : Int) < (↑(pieL (tmS n l (10 : Nat))).length : Int) → True ∧ True ∧ True ∧ True ∧ True ∧ True ∧ True ∧ True ∧ True ∧ slPre (pieL (tmS n l (10 : Nat))).length (pieL (tmS n l (10 : Nat))).length none (some (minI (↑(pieL (tmS n l (10 : Nat))).length : Int) (10 : Int))) (some (minI (↑(pieL (tmS n l (10 : Nat))).length : Int) (10 : Int))) ∧ True ∧ True ∧ True ∧ (tmN n = tmN n ∧ cutL (pieL (tmS n l (10 : Nat))) none (some (minI (↑(pieL (tmS n l (10 : Nat))).length : Int) (10 : Int))) = tmP n l ∧ True) ∧ True)) ∧ True) (by kernel_rfl) ?_
 simp only [zz]
 obtain ⟨b1, b2⟩ := tmN_bd n
 have hb : 1 + (modU .u64 n).tmod 6 = tmN n := rfl
 have hz : ∀ L : List Int, cutL L none (some (minI (L.length : Int) 10)) = L.take 10 ∧ slPre L.length L.length none (some (minI (L.length : Int) 10)) (some (minI (L.length : Int) 10)) := fun L => by
   unfold minI cutL slPre
   simp only
   by_cases h : (10 : Int) < L.length
   · rw [if_pos h]; exact ⟨rfl, by omega⟩
   · rw [if_neg h, Int.toNat_natCast]
     exact ⟨by rw [List.take_of_length_le (Nat.le_refl _), List.take_of_length_le (by omega)], by omega⟩
 rw [hb]
 obtain ⟨z1, z2⟩ := hz (pieL (tmS n l 10))
 refine ⟨by decide, by simp only [inR]; omega, by simp only [inR]; omega, hL _, ⟨0, ⟨Nat.zero_le _, Nat.zero_le _⟩, ⟨rfl, rfl⟩, by simp [tmS]⟩, fun _ _ => ⟨tm_ok n l, fun h => ⟨by unfold idxPre; omega, fun h0 => ?_, fun _ => ⟨z2, z1⟩⟩, fun _ => ⟨z2, z1⟩⟩⟩
 exfalso
 have := pie_pos (s := tmS n l 10) ⟨0, by simp [tmS], by simp [tmS]⟩ _ (mem_getD (d := 0) (show 0 < (pieL (tmS n l 10)).length by omega))
 omega
theorem tm_cx (n : Int) (l : List Int) : cxOk (tmN n) (tmP n l) := pie_cx (tmN_bd n) (tm_ok n l) (tm_lt n l) ⟨0, by simp [tmS], by simp [tmS]⟩
end Go.Am.Sh

/- Shells: the reference's Counts, choose, Hs, Euler. -/
namespace Go.Am.Sh
open Go Go.Am Go.Proofs
def e14 : Entry Try.prog gl := entry2 14 ⟨Try.f14, by kernel_rfl, by kernel_rfl, by kernel_rfl⟩ I64 SI (fun (_ : Int) l => (l : List Int).length < 1000000000000000) false (fun n l => [.int .i64 (tmN n), .sl I64 (tmP n l)]) (fun _ _ => []) (call14)
theorem trueN_cut {g : Nat → Bool} {m : Nat} : ∀ {k : Nat}, (∀ x, m ≤ x → x < m + k → g x = false) → trueN g (m + k) = trueN g m
 | 0, _ => rfl
 | k + 1, h => by
   rw [show m + (k + 1) = m + k + 1 by omega, trueN, h (m + k) (by omega) (by omega)]
   exact trueN_cut fun x h1 h2 => h x h1 (by omega)
theorem isF_lt {n : Int} {p : List Int} (h : cxOk n p) {x : Nat} (hx : isF p x = true) : x < 2 ^ n.toNat := by
 unfold isF at hx
 rw [List.any_eq_true] at hx
 obtain ⟨s, hs, h2⟩ := hx
 have h3 := sub_le h2
 obtain ⟨k, hk, rfl⟩ := List.getElem_of_mem hs
 have h4 := (h.2.2 k hk).2.1
 rw [getD_lt hk] at h4
 obtain ⟨e1, e2, e3⟩ := numOk_pow h.1
 have h5 := h.ok _ hs
 omega
theorem facesN_trueN (p : List Int) : ∀ k, facesN p k = trueN (isF p) k
 | 0 => rfl
 | k + 1 => by rw [facesN, trueN, facesN_trueN p k]
theorem faces_fcs {n : Int} {p : List Int} (h : cxOk n p) : facesL n p = fcs p := by
 obtain ⟨e1, e2, e3⟩ := numOk_pow h.1
 have := trueN_cut (g := isF p) (m := 2 ^ n.toNat) (k := 64 - 2 ^ n.toNat) fun x h1 _ => by
   cases hx : isF p x with
   | false => rfl
   | true => have := isF_lt h hx; omega
 rw [show 2 ^ n.toNat + (64 - 2 ^ n.toNat) = 64 by omega] at this
 unfold fcs facesL
 rw [this, facesN_trueN]
noncomputable def L40_0 : Code := lp (bodyOf Try.f40) 0
noncomputable def L40_2 : Code := lp (bodyOf Try.f40) 2
def s0_40 (n : Int) (p : List Int) (k : Nat) : St := ⟨.int .i64 n :: .sl I64 p :: dd 3 ++ .int .i64 (mxK p k) :: .int .i64 k :: dd 39, []⟩
def e0_40 (n : Int) (p : List Int) : List (List Nat × Ex) := [([0, 1, 5], ⟨0, Unit, fun _ => True, fun _ => ⟨.int .i64 n :: .sl I64 p :: dd 3 ++ .int .i64 (mxL p) :: dd 40, []⟩⟩)]
def h0_40 (n : Int) (p : List Int) : Hint := ⟨chk 0 [0, 1, 5, 6] (fun k => k ≤ p.length) (s0_40 n p), (e0_40 n p).map (·.2)⟩
def s1_40 (p : List Int) (k : Nat) : St := ⟨dd 7 ++ .own 0 0 :: .sl I64 (fcs p) :: .int .i64 k :: dd 36, [.sc 0 3 I64 (cntL (fcs p) (mxL p).toNat k)]⟩
def e1_40 (p : List Int) : List (List Nat × Ex) := [([7], ⟨2, Unit, fun _ => True, fun _ => ⟨dd 7 ++ .own 0 0 :: dd 38, [.sc 0 3 I64 (cnts p)]⟩⟩)]
def h1_40 (p : List Int) : Hint := ⟨chk 0 [7, 8, 9] (fun k => k ≤ (fcs p).length) (s1_40 p), (e1_40 p).map (·.2)⟩
noncomputable def H40 (n : Int) (p : List Int) (b : Nat) : Option Hint := some (if Nat.beq b 0 then h0_40 n p else h1_40 p)
theorem loop40a (n : Int) (p : List Int) (h : ok10 p) (R : Exit → St → Prop) : LoopOK (X [e29, e35]) L40_0 (h0_40 n p) R := by
 refine loop_ok (X_ok _) (H := fun _ _ => none) [0, 1, 5, 6] (fun k => k ≤ p.length) (s0_40 n p) (fun k => p.length - k) (e0_40 n p) 150 fun (k : Nat) hk => ?_
 refine of_eq (q := True ∧ True ∧ True ∧ True ∧ ((k : Int) < (p.length : Int) → True ∧ True ∧ True ∧ idxPre (k : Int) p.length ∧ True ∧ (((0 : Int) ≤ p.getD k (0 : Int) ∧ p.getD k (0 : Int) < 64) ∧ True) ∧ True ∧ True ∧ True ∧ inR .i64 ((k : Int) + 1) ∧ True ∧ ∃ (y : Nat), (y ≤ p.length ∧ p.length - y < p.length - k) ∧ (n = n ∧ p = p ∧ maxI (mxK p k) (↑(pc (Int.toNat (p.getD k (0 : Int)))) : Int) = mxK p y ∧ (k : Int) + 1 = (y : Int) ∧ True) ∧ True) ∧ (¬(k : Int) < (p.length : Int) → ∃ (y : Unit), True ∧ (n = n ∧ p = p ∧ mxK p k = mxL p ∧ True) ∧ True)) (by kernel_rfl) ?_
 simp only [zz]
 have hk : k ≤ p.length := hk
 have hl := h.l
 refine ⟨fun hlt => ⟨idx_nat (by omega), okL_get h.h k, by simp only [inR]; omega, k + 1, by omega, by rw [mxK_step (by omega)], by omega⟩, fun hlt => by rw [mxL, show p.length = k by omega]⟩
theorem loop40b (p : List Int) (h : ok10 p) (R : Exit → St → Prop) : LoopOK (X [e29, e35]) L40_2 (h1_40 p) R := by
 refine loop_ok (X_ok _) (H := fun _ _ => none) [7, 8, 9] (fun k => k ≤ (fcs p).length) (s1_40 p) (fun k => (fcs p).length - k) (e1_40 p) 150 fun (k : Nat) hk => ?_
 refine of_eq (q := True ∧ True ∧ True ∧ True ∧ ((k : Int) < (↑(fcs p).length : Int) → True ∧ True ∧ True ∧ idxPre (k : Int) (fcs p).length ∧ True ∧ (((0 : Int) ≤ (fcs p).getD k (0 : Int) ∧ (fcs p).getD k (0 : Int) < 64) ∧ True) ∧ idxPre (↑(pc (Int.toNat ((fcs p).getD k (0 : Int)))) : Int) (cntL (fcs p) (mxL p).toNat k).length ∧ True ∧ inR .i64 ((cntL (fcs p) (mxL p).toNat k).getD (pc (Int.toNat ((fcs p).getD k (0 : Int)))) (0 : Int) + 1) ∧ idxPre (↑(pc (Int.toNat ((fcs p).getD k (0 : Int)))) : Int) (cntL (fcs p) (mxL p).toNat k).length ∧ True ∧ True ∧ inR .i64 ((k : Int) + 1) ∧ True ∧ ∃ (y : Nat), (y ≤ (fcs p).length ∧ (fcs p).length - y < (fcs p).length - k) ∧ (True ∧ fcs p = fcs p ∧ (k : Int) + 1 = (y : Int) ∧ True) ∧ (cntL (fcs p) (mxL p).toNat k).set (pc (Int.toNat ((fcs p).getD k (0 : Int)))) ((cntL (fcs p) (mxL p).toNat k).getD (pc (Int.toNat ((fcs p).getD k (0 : Int)))) (0 : Int) + 1) = cntL (fcs p) (mxL p).toNat y ∧ True) ∧ (¬(k : Int) < (↑(fcs p).length : Int) → ∃ (y : Unit), True ∧ (True ∧ True) ∧ cntL (fcs p) (mxL p).toNat k = cnts p ∧ True)) (by kernel_rfl) ?_
 simp only [zz]
 have hk : k ≤ (fcs p).length := hk
 have hl := fcs_len p
 refine ⟨fun hlt => ?_, fun hlt => by rw [show k = (fcs p).length by omega]; rfl⟩
 have hd := fcs_pc h.h (k := k) (by omega)
 have hle := cntL_le (l := fcs p) (d := (mxL p).toNat) (k := k) (i := pc ((fcs p).getD k 0).toNat)
 have hi : idxPre ((pc ((fcs p).getD k 0).toNat : Nat) : Int) (cntL (fcs p) (mxL p).toNat k).length := idx_nat (by rw [cntL_length]; omega)
 exact ⟨idx_nat (by omega), okL_get (fcs_ok p) k, hi, by simp only [inR]; omega, hi, by simp only [inR]; omega, k + 1, by omega, by omega, cntL_step (by omega) hd⟩
theorem call40 (n : Int) (p : List Int) (h : cxOk n p) : GCall Try.prog gl 40 false [.int .i64 n, .sl I64 p] [] [.sl I64 (cnts p)] [] := by
 refine gcall_of (X := X [e29, e35]) (X_ok [e29, e35]) (f := 40) (fn := Try.f40) (c := bodyOf Try.f40) (by kernel_rfl) (by kernel_rfl) (view := true) (rvs := [.tmp 4]) (by kernel_rfl) (H := (H40 n p)) 80 (by kernel_rfl) ?_
 have hL := fun R => loop40a n p ⟨h.ok, h.2.1.2⟩ R
 have hM := fun R => loop40b p ⟨h.ok, h.2.1.2⟩ R
 refine of_eq (q := True ∧ True ∧ True ∧ LoopOK (X [e29, e35]) L40_0 (h0_40 n p) (RetR (X [e29, e35]) false true [ResultVar.tmp (4 : Tmp)] [AV.sl I64 (cnts p)] []) ∧ (∃ (y : Nat), y ≤ p.length ∧ (n = n ∧ p = p ∧ (0 : Int) = mxK p y ∧ (0 : Int) = (y : Int) ∧ True) ∧ True) ∧ (∀ (y : Unit), True → True ∧ inR .i64 (mxL p + 1) ∧ ((0 : Int) ≤ mxL p + 1 ∧ mxL p + 1 ≤ mxL p + 1 ∧ (mxL p + 1) * (↑(nat_lit 8) : Int) ≤ 140737488355328 ∧ mxL p + 1 ≤ 140737488355328) ∧ True ∧ True ∧ True ∧ ((numOk n ∧ okL p ∧ p.length < 1000000) ∧ True) ∧ True ∧ True ∧ LoopOK (X [e29, e35]) L40_2 (h1_40 p) (RetR (X [e29, e35]) false true [ResultVar.tmp (4 : Tmp)] [AV.sl I64 (cnts p)] []) ∧ (∃ (y : Nat), y ≤ (fcs p).length ∧ (True ∧ facesL n p = fcs p ∧ (0 : Int) = (y : Int) ∧ True) ∧ List.replicate (mxL p + 1).toNat (Ty.int .i64).dflt = cntL (fcs p) (mxL p).toNat y ∧ True) ∧ (∀ (y : Unit), True → True ∧ True ∧ True ∧ (cnts p = cnts p ∧ True) ∧ True) ∧ True) ∧ True) (by kernel_rfl) ?_
 simp only [zz]
 obtain ⟨m1, m2⟩ := mxL_le p
 refine ⟨hL _, ⟨0, Nat.zero_le _, rfl, rfl⟩, fun _ _ => ⟨by simp only [inR]; omega, by omega, ⟨h.1, h.ok, by have := h.2.1.2; omega⟩, hM _, ⟨0, Nat.zero_le _, ⟨faces_fcs h, rfl⟩, ?_⟩, fun _ h => h⟩⟩
 apply ext_getD (d := 0) (by rw [cntL_length]; simp; omega)
 intro i hi
 rw [List.length_replicate] at hi
 rw [cntL_getD (by omega), List.getD_eq_getElem?_getD, List.getElem?_replicate, if_pos hi]
 rfl
def chK (n : Int) : Nat → Int
 | 0 => 1
 | k + 1 => (chK n k * (n - (k + 1) + 1)).tdiv (k + 1)
theorem chK_bd : ∀ n i : Fin 7, -100000 ≤ chK ((n.val : Nat) : Int) i.val * (((n.val : Nat) : Int) - (((i.val : Nat) : Int) + 1) + 1) ∧ chK ((n.val : Nat) : Int) i.val * (((n.val : Nat) : Int) - (((i.val : Nat) : Int) + 1) + 1) ≤ 100000 ∧ -100000 ≤ (chK ((n.val : Nat) : Int) i.val * (((n.val : Nat) : Int) - (((i.val : Nat) : Int) + 1) + 1)).tdiv (((i.val : Nat) : Int) + 1) ∧ (chK ((n.val : Nat) : Int) i.val * (((n.val : Nat) : Int) - (((i.val : Nat) : Int) + 1) + 1)).tdiv (((i.val : Nat) : Int) + 1) ≤ 100000 := by decide +kernel
noncomputable def L72_0 : Code := lp (bodyOf Try.f72) 0
def st72 (n k : Int) (i : Nat) : St := ⟨.int .i64 n :: .int .i64 k :: dd 3 ++ .int .i64 (chK n i) :: .int .i64 ((i : Int) + 1) :: dd 14, []⟩
def ex72 (n k : Int) : List (List Nat × Ex) := [([5], ⟨0, Unit, fun _ => True, fun _ => ⟨dd 5 ++ .int .i64 (chK n k.toNat) :: dd 15, []⟩⟩)]
noncomputable def H72 (n k : Int) : Nat → Option Hint := fun _ => some ⟨chk 0 [0, 1, 5, 6] (fun i : Nat => (i : Int) ≤ k) (st72 n k), (ex72 n k).map (·.2)⟩
def ok72 (n k : Int) : Prop := 0 ≤ k ∧ k ≤ n ∧ n ≤ 6
theorem loop72 (n k : Int) (h : ok72 n k) (R : Exit → St → Prop) : LoopOK (X []) L72_0 ⟨chk 0 [0, 1, 5, 6] (fun i : Nat => (i : Int) ≤ k) (st72 n k), (ex72 n k).map (·.2)⟩ R := by
 refine loop_ok (X_ok _) (H := fun _ _ => none) [0, 1, 5, 6] (fun i : Nat => (i : Int) ≤ k) (st72 n k) (fun i : Nat => k.toNat - i) (ex72 n k) 150 fun (i : Nat) hi => ?_
 refine of_eq (q := True ∧ True ∧ True ∧ ((i : Int) + 1 ≤ k → True ∧ True ∧ True ∧ inR .i64 (n - ((i : Int) + 1)) ∧ inR .i64 (n - ((i : Int) + 1) + 1) ∧ inR .i64 (chK n i * (n - ((i : Int) + 1) + 1)) ∧ True ∧ (¬(i : Int) + 1 = 0 ∧ inR .i64 ((chK n i * (n - ((i : Int) + 1) + 1)).tdiv ((i : Int) + 1))) ∧ True ∧ True ∧ inR .i64 ((i : Int) + 1 + 1) ∧ True ∧ ∃ (y : Nat), ((y : Int) ≤ k ∧ k.toNat - y < k.toNat - i) ∧ (n = n ∧ k = k ∧ (chK n i * (n - ((i : Int) + 1) + 1)).tdiv ((i : Int) + 1) = chK n y ∧ (i : Int) + 1 + 1 = (y : Int) + 1 ∧ True) ∧ True) ∧ (¬(i : Int) + 1 ≤ k → ∃ (y : Unit), True ∧ (chK n i = chK n k.toNat ∧ True) ∧ True)) (by kernel_rfl) ?_
 simp only [zz]
 have hi : (i : Int) ≤ k := hi
 obtain ⟨h1, h2, h3⟩ := h
 refine ⟨fun hlt => ?_, fun hlt => by rw [show k.toNat = i by omega]⟩
 have hb := chK_bd ⟨n.toNat, by omega⟩ ⟨i, by omega⟩
 simp only [Int.toNat_of_nonneg (show 0 ≤ n by omega)] at hb
 obtain ⟨b1, b2, b3, b4⟩ := hb
 exact ⟨by simp only [inR]; omega, by simp only [inR]; omega, by simp only [inR]; omega, ⟨by omega, by simp only [inR]; omega⟩, by simp only [inR]; omega, i + 1, by omega, rfl, by omega⟩
theorem call72 (n k : Int) (h : ok72 n k) : GCall Try.prog gl 72 true [.int .i64 n, .int .i64 k] [] [.int .i64 (chK n k.toNat)] [] := by
 refine gcall_of (X := X []) (X_ok []) (f := 72) (fn := Try.f72) (c := bodyOf Try.f72) (by kernel_rfl) (by kernel_rfl) (view := false) (rvs := [.tmp 4]) (by kernel_rfl) (H := (H72 n k)) 80 (by kernel_rfl) ?_
 have hL := loop72 n k h
 refine of_eq (q := True ∧ True ∧ True ∧ LoopOK (X []) L72_0 { J := chk (0 : Nat) [(0 : Nat), (1 : Nat), (5 : Nat), (6 : Nat)] (fun (i : Nat) => (i : Int) ≤ k) (st72 n k), exits := List.map (fun (x : List Nat × Ex) => x.snd) (ex72 n k) } (RetR (X []) true false [ResultVar.tmp (4 : Tmp)] [AV.int .i64 (chK n k.toNat)] []) ∧ (∃ (y : Nat), (y : Int) ≤ k ∧ (n = n ∧ k = k ∧ (1 : Int) = chK n y ∧ (1 : Int) = (y : Int) + 1 ∧ True) ∧ True) ∧ (∀ (y : Unit), True → True ∧ True ∧ True ∧ (chK n k.toNat = chK n k.toNat ∧ True) ∧ True) ∧ True) (by kernel_rfl) ?_
 simp only [zz]
 exact ⟨hL _, ⟨0, h.1, rfl, rfl⟩, fun _ h => h⟩
def e72 : Entry Try.prog gl := entry2 72 ⟨Try.f72, by kernel_rfl, by kernel_rfl, by kernel_rfl⟩ I64 I64 (fun (n k : Int) => ok72 n k) true (fun (n k : Int) => [.int .i64 (chK n k.toNat)]) (fun _ _ => []) (call72)
end Go.Am.Sh

/- Shells: the reference's Hs and Euler. -/
namespace Go.Am.Sh
open Go Go.Am Go.Proofs
def e40 : Entry Try.prog gl := entry2 40 ⟨Try.f40, by kernel_rfl, by kernel_rfl, by kernel_rfl⟩ I64 SI (fun (n : Int) p => cxOk n p) false (fun _ p => [.sl I64 (cnts p)]) (fun _ _ => []) (call40)
def sg (j : Nat) : Int := 1 - 2 * ((j % 2 : Nat) : Int)
def htm (f : List Int) (k i : Nat) : Int := f.getD i 0 * chK ((f.length - 1 - i : Nat) : Int) (k - i) * sg (k - i)
def hsum (f : List Int) (k : Nat) : Nat → Int
 | 0 => 0
 | i + 1 => hsum f k i + htm f k i
def rhM (f : List Int) (k i : Nat) : List Int := (List.range f.length).map fun j => if j < k then hsum f j (j + 1) else if j = k then hsum f k i else 0
def rhL (f : List Int) : List Int := (List.range f.length).map fun j => hsum f j (j + 1)
noncomputable def L41_0 : Code := lp (bodyOf Try.f41) 0
noncomputable def L41_2 : Code := lp (bodyOf Try.f41) 2
def dI (f : List Int) : Int := (f.length : Int) - 1
def st41 (f : List Int) (k : Nat) : St := ⟨.sl I64 f :: dd 2 ++ .int .i64 (dI f) :: .own 0 0 :: .int .i64 k :: dd 45, [.sc 0 3 I64 (rhM f k 0)]⟩
def ex41 (f : List Int) : List (List Nat × Ex) := [([4], ⟨0, Unit, fun _ => True, fun _ => ⟨dd 4 ++ .own 0 0 :: dd 46, [.sc 0 3 I64 (rhL f)]⟩⟩)]
def sj41 (f : List Int) (k i : Nat) : St := ⟨.sl I64 f :: dd 2 ++ .int .i64 (dI f) :: .own 0 0 :: .int .i64 k :: .int .i64 i :: dd 44, [.sc 0 3 I64 (rhM f k i)]⟩
def ej41 (f : List Int) (k : Nat) : List (List Nat × Ex) := [([0, 3, 4, 5], ⟨2, Unit, fun _ => True, fun _ => ⟨.sl I64 f :: dd 2 ++ .int .i64 (dI f) :: .own 0 0 :: .int .i64 k :: dd 45, [.sc 0 3 I64 (rhM f (k + 1) 0)]⟩⟩)]
def hj41 (f : List Int) (k : Nat) : Hint := ⟨chk 0 [0, 3, 4, 5, 6] (fun i => i ≤ k + 1) (sj41 f k), (ej41 f k).map (·.2)⟩
noncomputable def H41 (f : List Int) : Nat → Option Hint := fun _ => some ⟨chk 0 [0, 3, 4, 5] (fun k => k ≤ f.length) (st41 f), (ex41 f).map (·.2)⟩
structure okF (f : List Int) : Prop where
 b : bdd 64 f
 l : 1 ≤ f.length ∧ f.length ≤ 7
theorem chK_bd2 : ∀ n i : Fin 7, 0 ≤ chK ((n.val : Nat) : Int) i.val ∧ chK ((n.val : Nat) : Int) i.val ≤ 20 := by decide +kernel
theorem mul_bd {x c A B : Int} (hx : -A ≤ x ∧ x ≤ A) (hc : 0 ≤ c ∧ c ≤ B) (hA : 0 ≤ A) : -(A * B) ≤ x * c ∧ x * c ≤ A * B := by
 have h1 := Int.mul_le_mul_of_nonneg_right hx.2 hc.1
 have h2 := Int.mul_le_mul_of_nonneg_left hc.2 hA
 have h3 := Int.mul_le_mul_of_nonneg_right hx.1 hc.1
 rw [Int.neg_mul] at h3
 omega
theorem sg_or (j : Nat) : sg j = 1 ∨ sg j = -1 := by unfold sg; omega
theorem htm_bd {f : List Int} (h : okF f) {k i : Nat} (hk : k < f.length) : (-1280 ≤ f.getD i 0 * chK ((f.length - 1 - i : Nat) : Int) (k - i) ∧ f.getD i 0 * chK ((f.length - 1 - i : Nat) : Int) (k - i) ≤ 1280) ∧ -1280 ≤ htm f k i ∧ htm f k i ≤ 1280 := by
 have hl := h.l
 have hc := chK_bd2 ⟨f.length - 1 - i, by omega⟩ ⟨k - i, by omega⟩
 have hm := mul_bd (A := 64) (B := 20) (h.b i) hc (by decide)
 refine ⟨by simp only at hm; omega, ?_⟩
 unfold htm
 rcases sg_or (k - i) with e | e <;> rw [e] <;> simp only at hm <;> omega
theorem hsum_bd {f : List Int} (h : okF f) {k : Nat} (hk : k < f.length) : ∀ i : Nat, -(1280 * (i : Int)) ≤ hsum f k i ∧ hsum f k i ≤ 1280 * i
 | 0 => by simp [hsum]
 | i + 1 => by
   have h1 := hsum_bd h hk i
   have h2 := (htm_bd h (i := i) hk).2
   rw [hsum]; omega
theorem rhM_length (f : List Int) (k i : Nat) : (rhM f k i).length = f.length := by simp [rhM]
theorem rhM_getD {f : List Int} {k i j : Nat} (h : j < f.length) : (rhM f k i).getD j 0 = if j < k then hsum f j (j + 1) else if j = k then hsum f k i else 0 := by
 unfold rhM
 rw [List.getD_eq_getElem?_getD, List.getElem?_map, List.getElem?_range h]; try rfl
theorem rhM_set {f : List Int} {k i : Nat} (hk : k < f.length) : (rhM f k i).set k (hsum f k i + htm f k i) = rhM f k (i + 1) := by
 apply ext_getD (d := 0) (by simp [rhM])
 intro j hj
 rw [List.length_set, rhM_length] at hj
 rw [rhM_getD hj]
 by_cases e : k = j
 · subst e
   rw [List.getD_eq_getElem?_getD, List.getElem?_set_self (by rw [rhM_length]; exact hj), Option.getD_some, if_neg (by omega), if_pos rfl]; try rfl
 · rw [List.getD_eq_getElem?_getD, List.getElem?_set_ne e, ← List.getD_eq_getElem?_getD, rhM_getD hj, if_neg (show ¬ j = k by omega), if_neg (show ¬ j = k by omega)]
theorem rhM_next {f : List Int} {k : Nat} : rhM f k (k + 1) = rhM f (k + 1) 0 := by
 apply ext_getD (d := 0) (by simp [rhM])
 intro j hj
 rw [rhM_length] at hj
 rw [rhM_getD hj, rhM_getD hj]
 by_cases e : j < k
 · rw [if_pos e, if_pos (by omega)]
 · rw [if_neg e]
   by_cases e2 : j = k
   · rw [if_pos e2, if_pos (by omega), e2]
   · rw [if_neg e2, if_neg (by omega)]
     split <;> rfl
theorem rhM_end {f : List Int} {k : Nat} (h : k = f.length) : rhM f k 0 = rhL f := by
 apply ext_getD (d := 0) (by simp [rhM, rhL])
 intro j hj
 rw [rhM_length] at hj
 rw [rhM_getD hj, if_pos (by omega)]
 unfold rhL
 rw [List.getD_eq_getElem?_getD, List.getElem?_map, List.getElem?_range hj]; try rfl
theorem rhM_first (f : List Int) : List.replicate f.length (0 : Int) = rhM f 0 0 := by
 apply ext_getD (d := 0) (by simp [rhM])
 intro j hj
 rw [List.length_replicate] at hj
 rw [rhM_getD hj, if_neg (by omega), List.getD_eq_getElem?_getD, List.getElem?_replicate, if_pos hj]
 split <;> rfl
theorem loop41b (f : List Int) (k : Nat) (h : okF f) (hk : k < f.length) (R : Exit → St → Prop) : LoopOK (X [e72]) L41_2 (hj41 f k) R := by
 refine loop_ok (X_ok _) (H := fun _ _ => none) [0, 3, 4, 5, 6] (fun i => i ≤ k + 1) (sj41 f k) (fun i => k + 1 - i) (ej41 f k) 150 fun (i : Nat) hi => ?_
 refine of_eq (q := True ∧ True ∧ True ∧ ((i : Int) ≤ (k : Int) → True ∧ True ∧ True ∧ True ∧ idxPre (k : Int) (rhM f k i).length ∧ True ∧ True ∧ True ∧ idxPre (i : Int) f.length ∧ True ∧ True ∧ True ∧ inR .i64 (dI f - (i : Int)) ∧ True ∧ True ∧ inR .i64 ((k : Int) - (i : Int)) ∧ ((0 : Int) ≤ (k : Int) - (i : Int) ∧ (k : Int) - (i : Int) ≤ dI f - (i : Int) ∧ dI f - (i : Int) ≤ 6) ∧ inR .i64 (f.getD i (0 : Int) * chK (dI f - (i : Int)) ((k : Int) - (i : Int)).toNat) ∧ True ∧ True ∧ inR .i64 ((k : Int) - (i : Int)) ∧ ¬(2 : Int) = 0 ∧ inR .i64 ((2 : Int) * ((k : Int) - (i : Int)).tmod (2 : Int)) ∧ inR .i64 ((1 : Int) - 2 * ((k : Int) - (i : Int)).tmod (2 : Int)) ∧ inR .i64 (f.getD i (0 : Int) * chK (dI f - (i : Int)) ((k : Int) - (i : Int)).toNat * ((1 : Int) - 2 * ((k : Int) - (i : Int)).tmod (2 : Int))) ∧ inR .i64 ((rhM f k i).getD k (0 : Int) + f.getD i (0 : Int) * chK (dI f - (i : Int)) ((k : Int) - (i : Int)).toNat * ((1 : Int) - 2 * ((k : Int) - (i : Int)).tmod (2 : Int))) ∧ idxPre (k : Int) (rhM f k i).length ∧ True ∧ True ∧ inR .i64 ((i : Int) + 1) ∧ True ∧ ∃ (y : Nat), (y ≤ k + 1 ∧ k + 1 - y < k + 1 - i) ∧ (f = f ∧ dI f = dI f ∧ True ∧ (k : Int) = (k : Int) ∧ (i : Int) + 1 = (y : Int) ∧ True) ∧ (rhM f k i).set k ((rhM f k i).getD k (0 : Int) + f.getD i (0 : Int) * chK (dI f - (i : Int)) ((k : Int) - (i : Int)).toNat * ((1 : Int) - 2 * ((k : Int) - (i : Int)).tmod (2 : Int))) = rhM f k y ∧ True) ∧ (¬(i : Int) ≤ (k : Int) → ∃ (y : Unit), True ∧ (f = f ∧ dI f = dI f ∧ True ∧ (k : Int) = (k : Int) ∧ True) ∧ rhM f k i = rhM f (k + 1) (0 : Nat) ∧ True)) (by kernel_rfl) ?_
 simp only [zz]
 have hi : i ≤ k + 1 := hi
 have hl := h.l
 rw [rhM_getD hk, if_neg (by omega), if_pos rfl, rhM_length]
 refine ⟨fun hlt => ?_, fun hlt => by rw [show i = k + 1 by omega]; exact rhM_next⟩
 have e1 : dI f - (i : Int) = ((f.length - 1 - i : Nat) : Int) := by unfold dI; omega
 have e2 : (k : Int) - (i : Int) = ((k - i : Nat) : Int) := by omega
 have e3 : 1 - 2 * ((k - i : Nat) : Int).tmod 2 = sg (k - i) := by
   unfold sg
   rw [Int.tmod_eq_emod_of_nonneg (Int.natCast_nonneg _)]; omega
 rw [e1, e2, Int.toNat_natCast, e3]
 obtain ⟨b1, b2⟩ := htm_bd h (i := i) hk
 have b3 := hsum_bd h hk i
 have e4 : f.getD i 0 * chK ((f.length - 1 - i : Nat) : Int) (k - i) * sg (k - i) = htm f k i := rfl
 have hs := sg_or (k - i)
 have hm := Int.tmod_eq_emod_of_nonneg (b := 2) (Int.natCast_nonneg (k - i))
 rw [e4]
 exact ⟨idx_nat hk, idx_nat (by omega), by simp only [inR]; omega, by simp only [inR]; omega, ⟨by omega, by omega, by omega⟩, by simp only [inR]; omega, by simp only [inR]; omega, by decide, by simp only [inR]; omega, by simp only [inR]; omega, by simp only [inR]; omega, by simp only [inR]; omega, idx_nat hk, by simp only [inR]; omega, i + 1, by omega, by omega, rhM_set hk⟩
theorem loop41 (f : List Int) (h : okF f) (R : Exit → St → Prop) : LoopOK (X [e72]) L41_0 ⟨chk 0 [0, 3, 4, 5] (fun k => k ≤ f.length) (st41 f), (ex41 f).map (·.2)⟩ R := by
 refine loop_ok (X_ok _) (H := fun k _ => some (hj41 f k)) [0, 3, 4, 5] (fun k => k ≤ f.length) (st41 f) (fun k => f.length - k) (ex41 f) 150 fun (k : Nat) hk => ?_
 have hL := fun hk => loop41b f k h hk (bodyR (X [e72]).m0 (ex41 f) R)
 refine of_eq (q := True ∧ True ∧ True ∧ ((k : Int) ≤ dI f → True ∧ LoopOK (X [e72]) L41_2 (hj41 f k) (bodyR (X [e72]).m0 (ex41 f) R) ∧ (∃ (y : Nat), y ≤ k + 1 ∧ (f = f ∧ dI f = dI f ∧ True ∧ (k : Int) = (k : Int) ∧ (0 : Int) = (y : Int) ∧ True) ∧ rhM f k (0 : Nat) = rhM f k y ∧ True) ∧ (∀ (y : Unit), True → True ∧ inR .i64 ((k : Int) + 1) ∧ True ∧ ∃ (y : Nat), (y ≤ f.length ∧ f.length - y < f.length - k) ∧ (f = f ∧ dI f = dI f ∧ True ∧ (k : Int) + 1 = (y : Int) ∧ True) ∧ rhM f (k + 1) (0 : Nat) = rhM f y (0 : Nat) ∧ True) ∧ True) ∧ (¬(k : Int) ≤ dI f → ∃ (y : Unit), True ∧ (True ∧ True) ∧ rhM f k (0 : Nat) = rhL f ∧ True)) (by kernel_rfl) ?_
 simp only [zz]
 have hk : k ≤ f.length := hk
 have hl := h.l
 have hd : dI f = (f.length : Int) - 1 := rfl
 exact ⟨fun hlt => ⟨hL (by omega), ⟨0, Nat.zero_le _, rfl, rfl⟩, fun _ _ => ⟨by simp only [inR]; omega, k + 1, by omega, by omega, rfl⟩⟩, fun hlt => rhM_end (by omega)⟩
theorem call41 (f : List Int) (h : okF f) : GCall Try.prog gl 41 true [.sl I64 f] [] [.sl I64 (rhL f)] [] := by
 refine gcall_of (X := X [e72]) (X_ok [e72]) (f := 41) (fn := Try.f41) (c := bodyOf Try.f41) (by kernel_rfl) (by kernel_rfl) (view := true) (rvs := [.tmp 2]) (by kernel_rfl) (H := (H41 f)) 80 (by kernel_rfl) ?_
 have hL := loop41 f h
 refine of_eq (q := True ∧ True ∧ True ∧ inR .i64 ((f.length : Int) - 1) ∧ True ∧ True ∧ inR .i64 ((f.length : Int) - 1 + 1) ∧ ((0 : Int) ≤ (f.length : Int) - 1 + 1 ∧ (f.length : Int) - 1 + 1 ≤ (f.length : Int) - 1 + 1 ∧ ((f.length : Int) - 1 + 1) * (↑(nat_lit 8) : Int) ≤ 140737488355328 ∧ (f.length : Int) - 1 + 1 ≤ 140737488355328) ∧ True ∧ True ∧ LoopOK (X [e72]) L41_0 { J := chk (0 : Nat) [(0 : Nat), (3 : Nat), (4 : Nat), (5 : Nat)] (fun (k : Nat) => k ≤ f.length) (st41 f), exits := List.map (fun (x : List Nat × Ex) => x.snd) (ex41 f) } (RetR (X [e72]) true true [ResultVar.tmp (2 : Tmp)] [AV.sl I64 (rhL f)] []) ∧ (∃ (y : Nat), y ≤ f.length ∧ (f = f ∧ (f.length : Int) - 1 = dI f ∧ True ∧ (0 : Int) = (y : Int) ∧ True) ∧ List.replicate ((f.length : Int) - 1 + 1).toNat (Ty.int .i64).dflt = rhM f y (0 : Nat) ∧ True) ∧ (∀ (y : Unit), True → True ∧ True ∧ True ∧ (rhL f = rhL f ∧ True) ∧ True) ∧ True) (by kernel_rfl) ?_
 simp only [zz]
 have hl := h.l
 have hf := rhM_first f
 rw [show ((f.length : Int) - 1 + 1).toNat = f.length by omega]
 exact ⟨by simp only [inR]; omega, by simp only [inR]; omega, by omega, hL _, ⟨0, Nat.zero_le _, ⟨rfl, rfl⟩, hf⟩, fun _ h => h⟩
def e41 : Entry Try.prog gl := entry1 41 ⟨Try.f41, by kernel_rfl, by kernel_rfl, by kernel_rfl⟩ SI (fun f => okF f) true (fun f => [.sl I64 (rhL f)]) (fun _ => []) (call41)
def euK (f : List Int) : Nat → Int
 | 0 => 0
 | i + 1 => euK f i + f.getD (i + 1) 0 * (2 * (((i + 1) % 2 : Nat) : Int) - 1)
theorem euK_bd {f : List Int} (h : okF f) : ∀ i : Nat, -(64 * (i : Int)) ≤ euK f i ∧ euK f i ≤ 64 * i
 | 0 => by simp [euK]
 | i + 1 => by
   have h1 := euK_bd h i
   have h2 := h.b (i + 1)
   rw [euK]
   rcases Nat.mod_two_eq_zero_or_one (i + 1) with e | e <;> rw [e] <;> omega
noncomputable def L42_0 : Code := lp (bodyOf Try.f42) 0
def st42 (f : List Int) (i : Nat) : St := ⟨.sl I64 f :: dd 2 ++ .int .i64 (euK f i) :: .int .i64 ((i : Int) + 1) :: dd 18, []⟩
def ex42 (f : List Int) : List (List Nat × Ex) := [([3], ⟨0, Unit, fun _ => True, fun _ => ⟨dd 3 ++ .int .i64 (euK f (f.length - 1)) :: dd 19, []⟩⟩)]
noncomputable def H42 (f : List Int) : Nat → Option Hint := fun _ => some ⟨chk 0 [0, 3, 4] (fun i => i + 1 ≤ f.length) (st42 f), (ex42 f).map (·.2)⟩
theorem loop42 (f : List Int) (h : okF f) (R : Exit → St → Prop) : LoopOK (X []) L42_0 ⟨chk 0 [0, 3, 4] (fun i => i + 1 ≤ f.length) (st42 f), (ex42 f).map (·.2)⟩ R := by
 refine loop_ok (X_ok _) (H := fun _ _ => none) [0, 3, 4] (fun i => i + 1 ≤ f.length) (st42 f) (fun i => f.length - i) (ex42 f) 150 fun (i : Nat) hi => ?_
 refine of_eq (q := True ∧ True ∧ True ∧ True ∧ ((i : Int) + 1 < (f.length : Int) → True ∧ True ∧ True ∧ idxPre ((i : Int) + 1) f.length ∧ True ∧ True ∧ ¬(2 : Int) = 0 ∧ inR .i64 ((2 : Int) * ((i : Int) + 1).tmod (2 : Int)) ∧ inR .i64 ((2 : Int) * ((i : Int) + 1).tmod (2 : Int) - 1) ∧ inR .i64 (f.getD (i + 1) (0 : Int) * ((2 : Int) * ((i : Int) + 1).tmod (2 : Int) - 1)) ∧ inR .i64 (euK f i + f.getD (i + 1) (0 : Int) * ((2 : Int) * ((i : Int) + 1).tmod (2 : Int) - 1)) ∧ True ∧ True ∧ inR .i64 ((i : Int) + 1 + 1) ∧ True ∧ ∃ (y : Nat), (y + 1 ≤ f.length ∧ f.length - y < f.length - i) ∧ (f = f ∧ euK f i + f.getD (i + 1) (0 : Int) * ((2 : Int) * ((i : Int) + 1).tmod (2 : Int) - 1) = euK f y ∧ (i : Int) + 1 + 1 = (y : Int) + 1 ∧ True) ∧ True) ∧ (¬(i : Int) + 1 < (f.length : Int) → ∃ (y : Unit), True ∧ (euK f i = euK f (f.length - 1) ∧ True) ∧ True)) (by kernel_rfl) ?_
 simp only [zz]
 have hi : i + 1 ≤ f.length := hi
 have hl := h.l
 refine ⟨fun hlt => ?_, fun hlt => by rw [show f.length - 1 = i by omega]⟩
 have e : ((i : Int) + 1).tmod 2 = (((i + 1) % 2 : Nat) : Int) := by
   rw [Int.tmod_eq_emod_of_nonneg (by omega)]; omega
 have b := h.b (i + 1)
 have b1 := euK_bd h i
 have b2 := euK_bd h (i + 1)
 have hst : euK f (i + 1) = _ := rfl
 rw [euK] at hst
 rw [e, ← hst]
 have b3 : -64 ≤ f.getD (i + 1) 0 * (2 * (((i + 1) % 2 : Nat) : Int) - 1) ∧ f.getD (i + 1) 0 * (2 * (((i + 1) % 2 : Nat) : Int) - 1) ≤ 64 := by
   rcases Nat.mod_two_eq_zero_or_one (i + 1) with e | e <;> rw [e] <;> omega
 exact ⟨by unfold idxPre; omega, by decide, by simp only [inR]; omega, by simp only [inR]; omega, by simp only [inR]; omega, by simp only [inR]; omega, by simp only [inR]; omega, i + 1, by omega, rfl, by omega⟩
theorem call42 (f : List Int) (h : okF f) : GCall Try.prog gl 42 true [.sl I64 f] [] [.int .i64 (euK f (f.length - 1))] [] := by
 refine gcall_of (X := X []) (X_ok []) (f := 42) (fn := Try.f42) (c := bodyOf Try.f42) (by kernel_rfl) (by kernel_rfl) (view := false) (rvs := [.tmp 2]) (by kernel_rfl) (H := (H42 f)) 80 (by kernel_rfl) ?_
 have hL := loop42 f h
 refine of_eq (q := True ∧ True ∧ True ∧ LoopOK (X []) L42_0 { J := chk (0 : Nat) [(0 : Nat), (3 : Nat), (4 : Nat)] (fun (i : Nat) => i + 1 ≤ f.length) (st42 f), exits := List.map (fun (x : List Nat × Ex) => x.snd) (ex42 f) } (RetR (X []) true false [ResultVar.tmp (2 : Tmp)] [AV.int .i64 (euK f (f.length - 1))] []) ∧ (∃ (y : Nat), y + 1 ≤ f.length ∧ (f = f ∧ (0 : Int) = euK f y ∧ (1 : Int) = (y : Int) + 1 ∧ True) ∧ True) ∧ (∀ (y : Unit), True → True ∧ True ∧ True ∧ (euK f (f.length - 1) = euK f (f.length - 1) ∧ True) ∧ True) ∧ True) (by kernel_rfl) ?_
 simp only [zz]
 exact ⟨hL _, ⟨0, by have := h.l.1; omega, rfl, rfl⟩, fun _ h => h⟩
def e42 : Entry Try.prog gl := entry1 42 ⟨Try.f42, by kernel_rfl, by kernel_rfl, by kernel_rfl⟩ SI (fun f => okF f) true (fun f => [.int .i64 (euK f (f.length - 1))]) (fun _ => []) (call42)
end Go.Am.Sh

/- Shells: the law of the counts. -/
namespace Go.Am.Sh
open Go Go.Am Go.Proofs
theorem hq1 (a : Int) : hsK [a] 1 = rhL [a] := by
 simp [hsK, rhL, hsum, htm, sg, chK]
theorem hq2 (a b : Int) : hsK [a, b] 2 = rhL [a, b] := by
 simp [hsK, rhL, hsum, htm, sg, chK, triJ, List.range_succ]
 try omega
theorem hq3 (a b c : Int) : hsK [a, b, c] 3 = rhL [a, b, c] := by
 simp [hsK, rhL, hsum, htm, sg, chK, triJ, List.range_succ]
 try omega
theorem hq4 (a b c d : Int) : hsK [a, b, c, d] 4 = rhL [a, b, c, d] := by
 simp [hsK, rhL, hsum, htm, sg, chK, triJ, List.range_succ]
 try omega
theorem hq5 (a b c d e : Int) : hsK [a, b, c, d, e] 5 = rhL [a, b, c, d, e] := by
 simp [hsK, rhL, hsum, htm, sg, chK, triJ, List.range_succ]
 try omega
theorem hq6 (a b c d e f : Int) : hsK [a, b, c, d, e, f] 6 = rhL [a, b, c, d, e, f] := by
 simp [hsK, rhL, hsum, htm, sg, chK, triJ, List.range_succ]
 try omega
theorem hq7 (a b c d e f g : Int) : hsK [a, b, c, d, e, f, g] 7 = rhL [a, b, c, d, e, f, g] := by
 simp [hsK, rhL, hsum, htm, sg, chK, triJ, List.range_succ]
 try omega
theorem hs_all (f : List Int) (h : 1 ≤ f.length ∧ f.length ≤ 7) : hsK f f.length = rhL f := by
 match f, h with
 | [], h => simp at h
 | [a], _ => exact hq1 a
 | [a, b], _ => exact hq2 a b
 | [a, b, c], _ => exact hq3 a b c
 | [a, b, c, d], _ => exact hq4 a b c d
 | [a, b, c, d, e], _ => exact hq5 a b c d e
 | [a, b, c, d, e, f], _ => exact hq6 a b c d e f
 | [a, b, c, d, e, f, g], _ => exact hq7 a b c d e f g
 | _ :: _ :: _ :: _ :: _ :: _ :: _ :: _ :: _, h => simp at h
def wE (s : Int) : Int := if 0 < s then 2 * ((pc s.toNat % 2 : Nat) : Int) - 1 else 0
def sw (l : List Int) : Nat → Int
 | 0 => 0
 | k + 1 => sw l k + wE (l.getD k 0)
theorem sw_app {l m : List Int} : ∀ {k : Nat}, k ≤ l.length → sw (l ++ m) k = sw l k
 | 0, _ => rfl
 | k + 1, h => by rw [sw, sw, sw_app (by omega), getD_append_left (by omega)]
theorem sw_trueN (g : Nat → Bool) : ∀ k, sw (trueN g k) (trueN g k).length = eulN g k
 | 0 => rfl
 | k + 1 => by
   have ih := sw_trueN g k
   have h2 : (pc k : Int).tmod 2 = ((pc k % 2 : Nat) : Int) := by rw [Int.tmod_eq_emod_of_nonneg (by omega)]; omega
   rw [eulN, trueN, h2]
   by_cases hg : g k = true
   · rw [if_pos hg, List.length_append, List.length_singleton, sw, sw_app (Nat.le_refl _), ih]
     have e : (trueN g k ++ [(k : Int)]).getD (trueN g k).length 0 = k := by
       rw [List.getD_eq_getElem?_getD, List.getElem?_append_right (Nat.le_refl _), Nat.sub_self]; try rfl
     rw [e, hg]
     unfold wE
     by_cases h0 : 0 < k
     · rw [if_pos (by omega), Int.toNat_natCast, decide_eq_true h0]; try rfl
     · rw [if_neg (by omega), decide_eq_false h0]; simp
   · have hg : g k = false := by simpa using hg
     rw [hg]; simpa using ih
theorem euK_set {f : List Int} {j : Nat} (hj : j < f.length) : ∀ d : Nat, euK (f.set j (f.getD j 0 + 1)) d = euK f d + if 1 ≤ j ∧ j ≤ d then 2 * ((j % 2 : Nat) : Int) - 1 else 0
 | 0 => by rw [if_neg (by omega)]; try rfl
 | d + 1 => by
   rw [euK, euK, euK_set hj d]
   by_cases e : j = d + 1
   · subst e
     rw [List.getD_eq_getElem?_getD (l := f.set _ _), List.getElem?_set_self hj, Option.getD_some, if_neg (by omega), if_pos (by omega)]
     rcases Nat.mod_two_eq_zero_or_one (d + 1) with e | e <;> rw [e] <;> omega
   · rw [List.getD_eq_getElem?_getD (l := f.set _ _), List.getElem?_set_ne e, ← List.getD_eq_getElem?_getD]
     by_cases h : 1 ≤ j ∧ j ≤ d
     · rw [if_pos h, if_pos (by omega)]; omega
     · rw [if_neg h, if_neg (by omega)]; omega
theorem euK_cnt {l : List Int} {d : Nat} (hl : okL l) (hd : ∀ k, k < l.length → pc (l.getD k 0).toNat ≤ d) : ∀ k, k ≤ l.length → euK (cntL l d k) d = sw l k
 | 0, _ => by
   have : ∀ m, euK (cntL l d 0) m = 0 := fun m => by
     induction m with
     | zero => rfl
     | succ m ih =>
       rw [euK, ih]
       rcases Nat.lt_or_ge d (m + 1) with h | h
       · rw [List.getD_eq_getElem?_getD, List.getElem?_eq_none (by rw [cntL_length]; omega)]; simp
       · rw [cntL_getD (by omega)]; simp
   exact this d
 | k + 1, h => by
   have ih := euK_cnt hl hd k (by omega)
   have h1 := hd k (by omega)
   have h2 := okL_get hl k
   rw [← cntL_step (show k < l.length by omega) h1, euK_set (by rw [cntL_length]; omega), ih, sw]
   congr 1
   unfold wE
   have h3 := pc_pos ⟨(l.getD k 0).toNat, by omega⟩
   simp only at h3
   by_cases h0 : 0 < l.getD k 0
   · rw [if_pos h0, if_pos ⟨h3 (by omega), h1⟩]
   · rw [if_neg h0, show l.getD k 0 = 0 by omega]; try rfl
theorem eul_eq {n : Int} {p : List Int} (h : cxOk n p) : eulN (isF p) 64 = euK (cnts p) ((cnts p).length - 1) := by
 have h1 := euK_cnt (fcs_ok p) (d := (mxL p).toNat) (fun k hk => fcs_pc h.ok hk) (fcs p).length (Nat.le_refl _)
 have h2 := sw_trueN (isF p) 64
 rw [cnts_length]
 show _ = euK (cntL (fcs p) (mxL p).toNat (fcs p).length) _
 rw [Nat.add_sub_cancel, h1]
 exact h2.symm
theorem okF_cnts (p : List Int) : okF (cnts p) := ⟨cnts_bdd p, by have := mxL_le p; rw [cnts_length]; omega⟩
theorem hs_eq (p : List Int) : hsL p = rhL (cnts p) := hs_all _ (okF_cnts p).l
theorem call7 (n : Int) (l : List Int) (hl : l.length < 1000000000000000) : GCall Try.prog gl 7 true [.int .i64 n, .sl I64 l] [] [.tt] [] := by
 have hc := tm_cx n l
 refine gcall_of (X := X [e14, e28, e38, e27, e39, e40, e35, e41, e42, e23, e19]) (X_ok [e14, e28, e38, e27, e39, e40, e35, e41, e42, e23, e19]) (f := 7) (fn := Try.f7) (c := bodyOf Try.f7) (by kernel_rfl) (by kernel_rfl) (view := false) (rvs := [.tmp 4]) (by kernel_rfl) (H := fun _ => none) 200 (by kernel_rfl) ?_
 have e1 := (faces_fcs hc).symm
 have e2 := hs_eq (tmP n l)
 have e3 := eul_eq hc
 have l1 := fcs_len (tmP n l)
 have hF := okF_cnts (tmP n l)
 have l2 := hF.l
 have l3 : (hsL (tmP n l)).length = (cnts (tmP n l)).length := by rw [e2]; simp [rhL]
 have l4 := hc.2.1
 refine of_eq (q := True ∧ True ∧ True ∧ (l.length + 1 ≤ 1000000000000000 ∧ True) ∧ True ∧ True ∧ True ∧ True ∧ True ∧ True ∧ True ∧ ((numOk (tmN n) ∧ ((1 : Nat) ≤ (tmP n l).length ∧ (tmP n l).length ≤ 10) ∧ ∀ (k : Nat), k < (tmP n l).length → goodAt (tmN n) (tmP n l) k) ∧ True) ∧ True ∧ True ∧ True ∧ True ∧ True ∧ True ∧ True ∧ ((numOk (tmN n) ∧ ((1 : Nat) ≤ (tmP n l).length ∧ (tmP n l).length ≤ 10) ∧ ∀ (k : Nat), k < (tmP n l).length → goodAt (tmN n) (tmP n l) k) ∧ True) ∧ True ∧ True ∧ True ∧ True ∧ True ∧ True ∧ True ∧ ((numOk (tmN n) ∧ ((1 : Nat) ≤ (tmP n l).length ∧ (tmP n l).length ≤ 10) ∧ ∀ (k : Nat), k < (tmP n l).length → goodAt (tmN n) (tmP n l) k) ∧ True) ∧ True ∧ True ∧ True ∧ True ∧ True ∧ True ∧ True ∧ ((numOk (tmN n) ∧ ((1 : Nat) ≤ (tmP n l).length ∧ (tmP n l).length ≤ 10) ∧ ∀ (k : Nat), k < (tmP n l).length → goodAt (tmN n) (tmP n l) k) ∧ True) ∧ True ∧ True ∧ True ∧ True ∧ True ∧ True ∧ True ∧ ((numOk (tmN n) ∧ ((1 : Nat) ≤ (tmP n l).length ∧ (tmP n l).length ≤ 10) ∧ ∀ (k : Nat), k < (tmP n l).length → goodAt (tmN n) (tmP n l) k) ∧ True) ∧ True ∧ True ∧ True ∧ True ∧ ((0 : Int) = 0 → True ∧ True ∧ True ∧ ((numOk (tmN n) ∧ okL (tmP n l) ∧ (tmP n l).length < 1000000) ∧ True) ∧ ((fcs (tmP n l)).length + 1 ≤ 1000000000000000 ∧ True) ∧ True ∧ True ∧ (decide (fcs (tmP n l) = facesL (tmN n) (tmP n l)) = true → True ∧ True ∧ True ∧ True ∧ ((0 : Int) = 0 → True ∧ True ∧ ((cnts (tmP n l)).length + 1 ≤ 1000000000000000 ∧ True) ∧ True ∧ True ∧ (decide (cnts (tmP n l) = cnts (tmP n l)) = true → True ∧ True ∧ True ∧ True ∧ ((0 : Int) = 0 → True ∧ True ∧ (okF (cnts (tmP n l)) ∧ True) ∧ ((hsL (tmP n l)).length + 1 ≤ 1000000000000000 ∧ True) ∧ True ∧ True ∧ (decide (hsL (tmP n l) = rhL (cnts (tmP n l))) = true → True ∧ True ∧ True ∧ True ∧ ((0 : Int) = 0 → True ∧ True ∧ (okF (cnts (tmP n l)) ∧ True) ∧ True ∧ True ∧ True ∧ (eulN (isF (tmP n l)) (64 : Nat) = euK (cnts (tmP n l)) ((cnts (tmP n l)).length - 1) → (True ∧ True) ∧ True ∧ True ∧ True ∧ (true = true ∧ True) ∧ True) ∧ (¬eulN (isF (tmP n l)) (64 : Nat) = euK (cnts (tmP n l)) ((cnts (tmP n l)).length - 1) → True ∧ True ∧ True ∧ (false = true ∧ True) ∧ True)) ∧ (¬(0 : Int) = 0 → True ∧ True ∧ True ∧ True ∧ True ∧ (false = true ∧ True) ∧ True)) ∧ (decide (hsL (tmP n l) = rhL (cnts (tmP n l))) = false → True ∧ True ∧ True ∧ True ∧ True ∧ True ∧ True ∧ (false = true ∧ True) ∧ True)) ∧ (¬(0 : Int) = 0 → True ∧ True ∧ True ∧ True ∧ True ∧ True ∧ True ∧ True ∧ True ∧ (false = true ∧ True) ∧ True)) ∧ (decide (cnts (tmP n l) = cnts (tmP n l)) = false → True ∧ True ∧ True ∧ True ∧ True ∧ True ∧ True ∧ True ∧ True ∧ True ∧ True ∧ (false = true ∧ True) ∧ True)) ∧ (¬(0 : Int) = 0 → True ∧ True ∧ True ∧ True ∧ True ∧ True ∧ True ∧ True ∧ True ∧ True ∧ True ∧ True ∧ True ∧ (false = true ∧ True) ∧ True)) ∧ (decide (fcs (tmP n l) = facesL (tmN n) (tmP n l)) = false → True ∧ True ∧ True ∧ True ∧ True ∧ True ∧ True ∧ True ∧ True ∧ True ∧ True ∧ True ∧ True ∧ True ∧ True ∧ (false = true ∧ True) ∧ True)) ∧ (¬(0 : Int) = 0 → True ∧ True ∧ True ∧ True ∧ True ∧ True ∧ True ∧ True ∧ True ∧ True ∧ True ∧ True ∧ True ∧ True ∧ True ∧ True ∧ True ∧ (false = true ∧ True) ∧ True)) (by kernel_rfl) ?_
 simp only [zz]
 refine ⟨by omega, hc, hc, hc, hc, hc, fun _ => ⟨⟨hc.1, hc.ok, by omega⟩, by omega, fun _ => ⟨fun _ => ⟨by omega, fun _ => ⟨fun _ => ⟨hF, by omega, fun _ => ⟨fun _ => ⟨hF, fun _ => trivial, fun h => absurd e3 h⟩, fun h => absurd trivial h⟩, fun h => ?_⟩, fun h => absurd trivial h⟩, fun h => ?_⟩, fun h => absurd trivial h⟩, fun h => ?_⟩, fun h => absurd trivial h⟩
 · rw [decide_eq_true e2] at h; cases h
 · simp at h
 · rw [decide_eq_true e1] at h; cases h
end Go.Am.Sh

/- Shells: from the laws' contracts to the given statements: what all laws share. -/
namespace Go.Proofs.Ytfpoonbcnabihaa
open Go Go.ChangeShapes Go.WideShapes Go.ChangeAt Go.RowKit Go.Am Go.Am.Sh
theorem own : ownKnob Try.prog.godebug = none := by kernel_rfl
theorem laidOut : laidOutB Try.prog = true := by kernel_rfl
theorem u3 : Try.prog.underlying 3 = some (.int .i64) := by kernel_rfl
theorem u4 : Try.prog.underlying 4 = some .bool := by kernel_rfl
theorem u22 : Try.prog.underlying 22 = some (.slice 3) := by kernel_rfl
theorem tyOk3 : TyOk Try.prog 3 I64 := u3
theorem tyOk22 : TyOk Try.prog 22 (.sl I64) := ⟨3, u22, u3, by kernel_rfl, by decide, of_decide_eq_true (by kernel_rfl)⟩
theorem reach_le {l : List Nat} (h : l.all (fun x => decide (x ≤ reachBytes)) = true) : ∀ n ∈ l, n ≤ 140737488355328 := fun n hn => by
 have := of_decide_eq_true (List.all_eq_true.mp h n hn)
 have e : reachBytes = 140737488351232 := rfl
 omega
theorem glob_of {W : World} : GlobOk gl (fun b => b < W.heap.size) W := fun g p hp => by cases hp
end Go.Proofs.Ytfpoonbcnabihaa
