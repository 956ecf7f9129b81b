/- Part B4 of the proof that the law named in the last file returns true at every input and leaves its arguments as they were; no condition of its own. -/
import Derived.Test.YtfpoonbcnabihaaB3
import Derived.Test.YtfpoonbcnabihaaA2
import Derived.Test.YtfpoonbcnabihaaRows
import Derived.WalkKit
import Derived.ProofKit
import Derived.OpenShut
import Derived.SizedLaws
import Derived.ChangeOld
import Derived.Below
import Derived.Stop.Joined
set_option linter.unusedSimpArgs false
set_option linter.unusedVariables false
/- Shells: a shelling is searched. -/
namespace Go.Am.Sh
open Go Go.Am Go.Proofs
noncomputable def Xb (l : EL) (m0 : Nat) (bs : List Nat) (dr : Nat → Option Nat) : Cy := { mkX Try.prog tt gl l m0 dr with bs := bs }
theorem Xb_ok (l : EL) (m0 : Nat) (bs : List Nat) (dr : Nat → Option Nat) : (Xb l m0 bs dr).Ok := (mkX_ok tt_ok l m0 dr).bump bs
abbrev Mm := List (Int × Bool)
abbrev Res := Bool × List Int × Mm
def mg (m : Mm) (d : Int) : Bool := (mGet I64 m d).getD false
def mp (m : Mm) (d : Int) : Mm := mPut I64 m d true
/-- The first rounds, until one comes to an end. -/
def lpK (p : List Int) (f : Nat → List Int → Mm → Res) (D : Nat) (l : List Int) (m : Mm) : Nat → Res
 | 0 => (false, l, m)
 | k + 1 => if (lpK p f D l m k).1 = true then lpK p f D l m k else if D / 2 ^ k % 2 = 1 ∨ flw p D k = false then lpK p f D l m k else
     if (f (D ||| 2 ^ k) (l ++ [(k : Int)]) (lpK p f D l m k).2.2).1 = true then f (D ||| 2 ^ k) (l ++ [(k : Int)]) (lpK p f D l m k).2.2
     else (false, l, (f (D ||| 2 ^ k) (l ++ [(k : Int)]) (lpK p f D l m k).2.2).2.2)
/-- The search; as many levels as pieces are left. -/
def gr (p : List Int) : Nat → Nat → List Int → Mm → Res
 | 0, _, l, m => (true, l, m)
 | n + 1, D, l, m => if mg m D = true then (false, l, m) else if (lpK p (gr p n) D l m p.length).1 = true then lpK p (gr p n) D l m p.length else (false, l, mp (lpK p (gr p n) D l m p.length).2.2 D)
theorem gr_list {p : List Int} {n D : Nat} {l : List Int} {m : Mm} (h : (gr p n D l m).1 = false) : (gr p n D l m).2.1 = l := by
 cases n with
 | zero => cases h
 | succ n =>
   rw [gr] at h ⊢
   split
   · rfl
   · rename_i h1; rw [if_neg h1] at h
     split
     · rename_i h2; rw [if_pos h2, h2] at h; cases h
     · rfl
theorem lpK_stop {p : List Int} {f : Nat → List Int → Mm → Res} {D : Nat} {l : List Int} {m : Mm} {k : Nat} (h : (lpK p f D l m k).1 = true) : ∀ j, lpK p f D l m (k + j) = lpK p f D l m k
 | 0 => rfl
 | j + 1 => by rw [show k + (j + 1) = k + j + 1 by omega, lpK, lpK_stop h j, if_pos h]
def clo55 (a b c d : Nat) : AV := .clo 55 [] [.ptr a 0 [], .ptr b 0 [], .ptr c 0 [], .ptr d 0 []]
def mmO (m : Mm) : Ob := .mo I64 .bool m
def gS (v : Nat) (n : Int) (p l : List Int) (m : Mm) : List Ob := [.bx (.own 1 v), .sc v 3 I64 l, .bx (.ptr 3 0 []), cxO n p, .bx (.mp 5), mmO m, .bx (clo55 0 2 4 6)]
def aS (D : Int) : List AV := [.int .i64 D, .ptr 0 0 [], .ptr 2 0 [], .ptr 4 0 [], .ptr 6 0 []]
structure pre55 (n : Int) (p : List Int) (lv D : Nat) (l : List Int) : Prop where
 h : cxOk n p
 D : D < 2 ^ p.length
 l : l.length + lv = p.length
def GS (lv : Nat) : Prop := ∀ (n : Int) (p : List Int) (D : Nat) (l : List Int) (m : Mm), pre55 n p lv D l → GCall Try.prog gl 55 false (aS D) (gS 0 n p l m) [.bool (gr p lv D l m).1] (gS 1 n p (gr p lv D l m).2.1 (gr p lv D l m).2.2)
def unMm : Ob → Option Mm
 | .mo k v m => (if h : k = I64 ∧ v = .bool then some (by obtain ⟨rfl, rfl⟩ := h; exact m) else none)
 | _ => none
def unSc : Ob → Option (List Int)
 | .sc _ _ e xs => castL e I64 xs
 | _ => none
abbrev G5 := Int × Cx3 × List Int × Mm
def get55 (xs : List AV) (obs : List Ob) : Option G5 :=
 match xs with
 | .int .i64 d :: _ => (match unSc (obs.getD 1 .gone), unCx (obs.getD 3 .gone), unMm (obs.getD 5 .gone) with
   | some l, some x, some m => some (d, x, l, m)
   | _, _, _ => none)
 | _ => none
def gSq (v : Nat) (x : Cx3) (l : List Int) (m : Mm) : List Ob := [.bx (.own 1 v), .sc v 3 I64 l, .bx (.ptr 3 0 []), cxQ x, .bx (.mp 5), mmO m, .bx (clo55 0 2 4 6)]
structure ok55 (lv : Nat) (x : G5) : Prop where
 h : okC x.2.1
 d : 0 ≤ x.1
 p : pre55 x.2.1.1 x.2.1.2.1 lv x.1.toNat x.2.2.1
def e55S (lv : Nat) (h : GS lv) : Entry Try.prog gl := entryW 55 ⟨Try.f55, by kernel_rfl, by kernel_rfl, by kernel_rfl⟩ true get55 (ok55 lv) false (fun x => aS x.1) (fun x => gSq 0 x.2.1 x.2.2.1 x.2.2.2) (fun x => [.bool (gr x.2.1.2.1 lv x.1.toNat x.2.2.1 x.2.2.2).1])
 (fun x => gSq 1 x.2.1 (gr x.2.1.2.1 lv x.1.toNat x.2.2.1 x.2.2.2).2.1 (gr x.2.1.2.1 lv x.1.toNat x.2.2.1 x.2.2.2).2.2) (fun x hx => by
   have := h _ _ _ _ x.2.2.2 hx.p
   rw [Int.toNat_of_nonneg hx.d] at this
   have e : ∀ v l m, gSq v x.2.1 l m = gS v x.2.1.1 x.2.1.2.1 l m := fun v l m => by unfold gSq gS; rw [cxQ_ok hx.h]
   rw [e, e]; exact this)
noncomputable abbrev X55 (es : EL) : Cy := Xb es 7 [1] (fun _ => none)
theorem gS0 : GS 0 := by
 intro n p D l m hp
 refine gcall_of (X := (X55 [e56])) ((Xb_ok _ _ _ _)) (f := 55) (fn := Try.f55) (c := bodyOf Try.f55) (by kernel_rfl) (by kernel_rfl) (view := false) (rvs := [.tmp 6]) (by kernel_rfl) (H := fun _ => none) 80 (by kernel_rfl) ?_
 refine of_eq (q := True ∧ True ∧ True ∧ True ∧ True ∧ True ∧ True ∧ True ∧ True ∧ ((l.length : Int) = (p.length : Int) → True ∧ True ∧ (true = true ∧ True) ∧ True ∧ l = (gr p (0 : Nat) D l m).snd.fst ∧ True ∧ (n = n ∧ p = p ∧ mk (isF p) = mk (isF p) ∧ True) ∧ True ∧ m = (gr p (0 : Nat) D l m).snd.snd ∧ (True ∧ True ∧ True ∧ True ∧ True ∧ True) ∧ True) ∧ (¬(l.length : Int) = (p.length : Int) → True ∧ True ∧ True ∧ ((mGet I64 m (D : Int)).getD false = true → True ∧ True ∧ (false = true ∧ True) ∧ True ∧ l = (gr p (0 : Nat) D l m).snd.fst ∧ True ∧ (n = n ∧ p = p ∧ mk (isF p) = mk (isF p) ∧ True) ∧ True ∧ m = (gr p (0 : Nat) D l m).snd.snd ∧ (True ∧ True ∧ True ∧ True ∧ True ∧ True) ∧ True) ∧ ((mGet I64 m (D : Int)).getD false = false → True ∧ True ∧ True ∧ True ∧ True ∧ True ∧ False))) (by kernel_rfl) ?_
 simp only [zz]
 have h1 := hp.l
 exact ⟨fun _ => ⟨rfl, rfl⟩, fun h => absurd (by omega) h⟩
noncomputable def L55_0 : Code := lp (bodyOf Try.f55) 0
theorem or_pow10 {D k : Nat} (hD : D < 1024) (hk : k < 10) : bOr .i64 (D : Int) (1 * 2 ^ k) = ((D ||| 2 ^ k : Nat) : Int) ∧ D ||| 2 ^ k < 1024 ∧ (1 : Int) * 2 ^ k ≤ 512 ∧ (0 : Int) ≤ 1 * 2 ^ k := by
 have h2 : 2 ^ k ≤ 2 ^ 9 := Nat.pow_le_pow_right (by decide) (by omega)
 have e : (2 ^ k : Int) = ((2 ^ k : Nat) : Int) := by rw [Int.natCast_pow]; try rfl
 have h3 : D ||| 2 ^ k < 2 ^ 10 := Nat.or_lt_two_pow hD (by omega)
 have hb : bOr .i64 (D : Int) ((2 ^ k : Nat) : Int) = ((D ||| 2 ^ k : Nat) : Int) := bOr_nat (by omega) (by omega)
 rw [Int.one_mul, e]
 refine ⟨hb, by omega, ?_, Int.natCast_nonneg _⟩
 generalize 2 ^ k = P at *
 omega
theorem lpK_go {p : List Int} {f : Nat → List Int → Mm → Res} {D : Nat} {l : List Int} {m : Mm} {k : Nat} (h : (lpK p f D l m k).1 = false) : lpK p f D l m (k + 1) = if D / 2 ^ k % 2 = 1 ∨ flw p D k = false then lpK p f D l m k else
     if (f (D ||| 2 ^ k) (l ++ [(k : Int)]) (lpK p f D l m k).2.2).1 = true then f (D ||| 2 ^ k) (l ++ [(k : Int)]) (lpK p f D l m k).2.2
     else (false, l, (f (D ||| 2 ^ k) (l ++ [(k : Int)]) (lpK p f D l m k).2.2).2.2) := by rw [lpK, if_neg (by simp [h])]
theorem pre_D {n : Int} {p : List Int} {lv D : Nat} {l : List Int} (h : pre55 n p lv D l) : D < 1024 := by
 have := Nat.pow_le_pow_right (show 0 < 2 by decide) h.h.2.1.2
 have := h.D
 omega
def stS (v : Nat) (n : Int) (p : List Int) (f : Nat → List Int → Mm → Res) (D : Nat) (l : List Int) (m : Mm) (k : Nat) : St := ⟨aS D ++ dd 18 ++ .int .i64 p.length :: .int .i64 k :: dd 34, gS v n p l (lpK p f D l m k).2.2⟩
def inS (p : List Int) (f : Nat → List Int → Mm → Res) (D : Nat) (l : List Int) (m : Mm) (k : Nat) : Prop := k ≤ p.length ∧ (lpK p f D l m k).1 = false
def fmS (n : Int) (p : List Int) (f : Nat → List Int → Mm → Res) (D : Nat) (l : List Int) (m : Mm) : List Fam := [⟨Nat, inS p f D l m, stS 0 n p f D l m, fun k => p.length - k, fun _ _ => none⟩, ⟨Nat, inS p f D l m, stS 1 n p f D l m, fun k => p.length - k, fun _ _ => none⟩]
def exS (n : Int) (p : List Int) (f : Nat → List Int → Mm → Res) (D : Nat) (l : List Int) (m : Mm) : List (List Nat × Ex) := [([0, 1, 2, 3, 4], ⟨0, Unit, fun _ => (lpK p f D l m p.length).1 = false, fun _ => ⟨aS D ++ dd 54, gS 0 n p l (lpK p f D l m p.length).2.2⟩⟩), ([0, 1, 2, 3, 4], ⟨0, Unit, fun _ => (lpK p f D l m p.length).1 = false, fun _ => ⟨aS D ++ dd 54, gS 1 n p l (lpK p f D l m p.length).2.2⟩⟩)]
def hS (n : Int) (p : List Int) (f : Nat → List Int → Mm → Res) (D : Nat) (l : List Int) (m : Mm) : Hint := ⟨chks 7 [0, 1, 2, 3, 4, 23, 24] (fmS n p f D l m), (exS n p f D l m).map (·.2)⟩
noncomputable def HS (n : Int) (p : List Int) (f : Nat → List Int → Mm → Res) (D : Nat) (l : List Int) (m : Mm) : Nat → Option Hint := fun _ => some (hS n p f D l m)
theorem loopS (lv : Nat) (h' : GS lv) (n : Int) (p : List Int) (D : Nat) (l : List Int) (m : Mm) (hp : pre55 n p (lv + 1) D l) (hm : ¬ mg m D = true) : LoopOK (X55 [e56, e55S lv h']) L55_0 (hS n p (gr p lv) D l m)
   (RetR (X55 [e56, e55S lv h']) false false [.tmp 6] [.bool (gr p (lv + 1) D l m).1] (gS 1 n p (gr p (lv + 1) D l m).2.1 (gr p (lv + 1) D l m).2.2)) := by
 refine loop_fams (Xb_ok _ _ _ _) [0, 1, 2, 3, 4, 23, 24] (fmS n p (gr p lv) D l m) (exS n p (gr p lv) D l m) 150 ⟨fun (k : Nat) hk => ?_, fun (k : Nat) hk => ?_, trivial⟩
 · refine of_eq (q := True ∧ ((k : Int) < (p.length : Int) → True ∧ True ∧ True ∧ True ∧ inR .u64 (k : Int) ∧ ((0 : Int) ≤ (k : Int) ∧ (k : Int) < bitsOf .i64) ∧ True ∧ True ∧ True ∧ (bAnd .i64 ((D : Int) / (2 : Int) ^ k) (1 : Int) = 1 → True ∧ inR .i64 ((k : Int) + 1) ∧ True ∧ ((∃ (y : Nat), (inS p (gr p lv) D l m y ∧ p.length - y < p.length - k) ∧ ((D : Int) = (D : Int) ∧ True ∧ True ∧ True ∧ True ∧ (p.length : Int) = (p.length : Int) ∧ (k : Int) + 1 = (y : Int) ∧ True) ∧ True ∧ l = l ∧ True ∧ (n = n ∧ p = p ∧ mk (isF p) = mk (isF p) ∧ True) ∧ True ∧ (lpK p (gr p lv) D l m k).snd.snd = (lpK p (gr p lv) D l m y).snd.snd ∧ (True ∧ True ∧ True ∧ True ∧ True ∧ True) ∧ True) ∨ ∃ (y : Nat), (inS p (gr p lv) D l m y ∧ p.length - y < p.length - k) ∧ ((D : Int) = (D : Int) ∧ True ∧ True ∧ True ∧ True ∧ (p.length : Int) = (p.length : Int) ∧ (k : Int) + 1 = (y : Int) ∧ True) ∧ False ∧ False ∧ True ∧ (n = n ∧ p = p ∧ mk (isF p) = mk (isF p) ∧ True) ∧ True ∧ (lpK p (gr p lv) D l m k).snd.snd = (lpK p (gr p lv) D l m y).snd.snd ∧ (True ∧ True ∧ True ∧ True ∧ True ∧ True) ∧ True)) ∧ (¬bAnd .i64 ((D : Int) / (2 : Int) ^ k) (1 : Int) = 1 → True ∧ True ∧ True ∧ ((ok56 ((D : Int), (k : Int), n, p, mk (isF p)) ∧ (True ∧ (D : Int) = (D : Int) ∧ (k : Int) = (k : Int) ∧ True) ∧ (n = n ∧ p = p ∧ mk (isF p) = mk (isF p) ∧ True) ∧ True) ∧ True ∧ True) ∧ True ∧ True ∧ ((!flw p D k) = true → inR .i64 ((k : Int) + 1) ∧ True ∧ ((∃ (y : Nat), (inS p (gr p lv) D l m y ∧ p.length - y < p.length - k) ∧ ((D : Int) = (D : Int) ∧ True ∧ True ∧ True ∧ True ∧ (p.length : Int) = (p.length : Int) ∧ (k : Int) + 1 = (y : Int) ∧ True) ∧ True ∧ l = l ∧ True ∧ (n = n ∧ p = p ∧ mk (isF p) = mk (isF p) ∧ True) ∧ True ∧ (lpK p (gr p lv) D l m k).snd.snd = (lpK p (gr p lv) D l m y).snd.snd ∧ (True ∧ True ∧ True ∧ True ∧ True ∧ True) ∧ True) ∨ ∃ (y : Nat), (inS p (gr p lv) D l m y ∧ p.length - y < p.length - k) ∧ ((D : Int) = (D : Int) ∧ True ∧ True ∧ True ∧ True ∧ (p.length : Int) = (p.length : Int) ∧ (k : Int) + 1 = (y : Int) ∧ True) ∧ False ∧ False ∧ True ∧ (n = n ∧ p = p ∧ mk (isF p) = mk (isF p) ∧ True) ∧ True ∧ (lpK p (gr p lv) D l m k).snd.snd = (lpK p (gr p lv) D l m y).snd.snd ∧ (True ∧ True ∧ True ∧ True ∧ True ∧ True) ∧ True)) ∧ ((!flw p D k) = false → True ∧ True ∧ True ∧ sumPre l.length [(k : Int)].length (nat_lit 8) ∧ True ∧ True ∧ True ∧ True ∧ inR .u64 (k : Int) ∧ (((0 : Int) ≤ (k : Int) ∧ (k : Int) < bitsOf .i64) ∧ (-9223372036854775808 : Int) ≤ 1 * 2 ^ k ∧ (1 : Int) * 2 ^ k ≤ 9223372036854775807) ∧ True ∧ ((ok55 lv (bOr .i64 (D : Int) ((1 : Int) * 2 ^ k), (n, p, mk (isF p)), l ++ [(k : Int)], (lpK p (gr p lv) D l m k).snd.snd) ∧ (bOr .i64 (D : Int) ((1 : Int) * 2 ^ k) = bOr .i64 (D : Int) ((1 : Int) * 2 ^ k) ∧ True ∧ True ∧ True ∧ True ∧ True) ∧ True ∧ l ++ [(k : Int)] = l ++ [(k : Int)] ∧ True ∧ (n = n ∧ p = p ∧ mk (isF p) = mk (isF p) ∧ True) ∧ True ∧ (lpK p (gr p lv) D l m k).snd.snd = (lpK p (gr p lv) D l m k).snd.snd ∧ (True ∧ True ∧ True ∧ True ∧ True ∧ True) ∧ True) ∧ True ∧ True ∧ True ∧ True ∧ True ∧ True ∧ True ∧ True) ∧ ((gr p lv (bOr .i64 (D : Int) ((1 : Int) * 2 ^ k)).toNat (l ++ [(k : Int)]) (lpK p (gr p lv) D l m k).snd.snd).fst = true → True ∧ True ∧ (true = (gr p (lv + 1) D l m).fst ∧ True) ∧ True ∧ (gr p lv (bOr .i64 (D : Int) ((1 : Int) * 2 ^ k)).toNat (l ++ [(k : Int)]) (lpK p (gr p lv) D l m k).snd.snd).snd.fst = (gr p (lv + 1) D l m).snd.fst ∧ True ∧ (n = n ∧ p = p ∧ mk (isF p) = mk (isF p) ∧ True) ∧ True ∧ (gr p lv (bOr .i64 (D : Int) ((1 : Int) * 2 ^ k)).toNat (l ++ [(k : Int)]) (lpK p (gr p lv) D l m k).snd.snd).snd.snd = (gr p (lv + 1) D l m).snd.snd ∧ (True ∧ True ∧ True ∧ True ∧ True ∧ True) ∧ True) ∧ ((gr p lv (bOr .i64 (D : Int) ((1 : Int) * 2 ^ k)).toNat (l ++ [(k : Int)]) (lpK p (gr p lv) D l m k).snd.snd).fst = false → True ∧ True ∧ True ∧ inR .i64 ((↑(gr p lv (bOr .i64 (D : Int) ((1 : Int) * 2 ^ k)).toNat (l ++ [(k : Int)]) (lpK p (gr p lv) D l m k).snd.snd).snd.fst.length : Int) - 1) ∧ ((0 : Int) ≤ (↑(gr p lv (bOr .i64 (D : Int) ((1 : Int) * 2 ^ k)).toNat (l ++ [(k : Int)]) (lpK p (gr p lv) D l m k).snd.snd).snd.fst.length : Int) - 1 ∧ (↑(gr p lv (bOr .i64 (D : Int) ((1 : Int) * 2 ^ k)).toNat (l ++ [(k : Int)]) (lpK p (gr p lv) D l m k).snd.snd).snd.fst.length : Int) - 1 ≤ (↑(gr p lv (bOr .i64 (D : Int) ((1 : Int) * 2 ^ k)).toNat (l ++ [(k : Int)]) (lpK p (gr p lv) D l m k).snd.snd).snd.fst.length : Int)) ∧ True ∧ inR .i64 ((k : Int) + 1) ∧ True ∧ ((∃ (y : Nat), (inS p (gr p lv) D l m y ∧ p.length - y < p.length - k) ∧ ((D : Int) = (D : Int) ∧ True ∧ True ∧ True ∧ True ∧ (p.length : Int) = (p.length : Int) ∧ (k : Int) + 1 = (y : Int) ∧ True) ∧ False ∧ False ∧ True ∧ (n = n ∧ p = p ∧ mk (isF p) = mk (isF p) ∧ True) ∧ True ∧ (gr p lv (bOr .i64 (D : Int) ((1 : Int) * 2 ^ k)).toNat (l ++ [(k : Int)]) (lpK p (gr p lv) D l m k).snd.snd).snd.snd = (lpK p (gr p lv) D l m y).snd.snd ∧ (True ∧ True ∧ True ∧ True ∧ True ∧ True) ∧ True) ∨ ∃ (y : Nat), (inS p (gr p lv) D l m y ∧ p.length - y < p.length - k) ∧ ((D : Int) = (D : Int) ∧ True ∧ True ∧ True ∧ True ∧ (p.length : Int) = (p.length : Int) ∧ (k : Int) + 1 = (y : Int) ∧ True) ∧ True ∧ List.take ((↑(gr p lv (bOr .i64 (D : Int) ((1 : Int) * 2 ^ k)).toNat (l ++ [(k : Int)]) (lpK p (gr p lv) D l m k).snd.snd).snd.fst.length : Int) - 1).toNat (gr p lv (bOr .i64 (D : Int) ((1 : Int) * 2 ^ k)).toNat (l ++ [(k : Int)]) (lpK p (gr p lv) D l m k).snd.snd).snd.fst = l ∧ True ∧ (n = n ∧ p = p ∧ mk (isF p) = mk (isF p) ∧ True) ∧ True ∧ (gr p lv (bOr .i64 (D : Int) ((1 : Int) * 2 ^ k)).toNat (l ++ [(k : Int)]) (lpK p (gr p lv) D l m k).snd.snd).snd.snd = (lpK p (gr p lv) D l m y).snd.snd ∧ (True ∧ True ∧ True ∧ True ∧ True ∧ True) ∧ True))))) ∧ (¬(k : Int) < (p.length : Int) → (∃ (y : Unit), (lpK p (gr p lv) D l m p.length).fst = false ∧ ((D : Int) = (D : Int) ∧ True ∧ True ∧ True ∧ True ∧ True) ∧ True ∧ l = l ∧ True ∧ (n = n ∧ p = p ∧ mk (isF p) = mk (isF p) ∧ True) ∧ True ∧ (lpK p (gr p lv) D l m k).snd.snd = (lpK p (gr p lv) D l m p.length).snd.snd ∧ (True ∧ True ∧ True ∧ True ∧ True ∧ True) ∧ True) ∨ ∃ (y : Unit), (lpK p (gr p lv) D l m p.length).fst = false ∧ ((D : Int) = (D : Int) ∧ True ∧ True ∧ True ∧ True ∧ True) ∧ False ∧ False ∧ True ∧ (n = n ∧ p = p ∧ mk (isF p) = mk (isF p) ∧ True) ∧ True ∧ (lpK p (gr p lv) D l m k).snd.snd = (lpK p (gr p lv) D l m p.length).snd.snd ∧ (True ∧ True ∧ True ∧ True ∧ True ∧ True) ∧ True)) (by kernel_rfl) ?_
   simp only [zz]
   obtain ⟨k1, k2⟩ := hk
   have hl := hp.l
   have hc := hp.h.2.1
   have hD := pre_D hp
   refine ⟨fun h => ?_, fun h => by rw [show p.length = k by omega]; exact ⟨k2, rfl⟩⟩
   have hkp : k < p.length := by omega
   have hb := or_pow10 hD (k := k) (by omega)
   have hst := lpK_go k2
   rw [bit_shr hD, hb.1, Int.toNat_natCast]
   have hskip : (D / 2 ^ k % 2 = 1 ∨ flw p D k = false) → inR .i64 ((k : Int) + 1) ∧ ∃ y : Nat, (inS p (gr p lv) D l m y ∧ p.length - y < p.length - k) ∧ (k : Int) + 1 = (y : Int) ∧ (lpK p (gr p lv) D l m k).2.2 = (lpK p (gr p lv) D l m y).2.2 := fun hh => by
     rw [if_pos hh] at hst
     exact ⟨by simp only [inR]; omega, k + 1, ⟨⟨by omega, by rw [hst]; exact k2⟩, by omega⟩, by omega, by rw [hst]⟩
   refine ⟨by simp only [inR]; omega, ⟨by omega, by simp only [bitsOf]; omega⟩, fun hx => hskip (.inl (by omega)), fun hx => ⟨⟨⟨hp.h, rfl⟩, ⟨by simp only; omega, by simp only; omega⟩, ⟨by simp only; omega, by simp only; omega⟩⟩, fun hx2 => hskip (.inr (by simpa using hx2)), fun hx2 => ?_⟩⟩
   have hx2 : flw p D k = true := by simpa using hx2
   rw [if_neg (by simp [hx2]; omega)] at hst
   have hlt : D ||| 2 ^ k < 2 ^ p.length := Nat.or_lt_two_pow hp.D (Nat.pow_lt_pow_right (by decide) hkp)
   have hpre : pre55 n p lv (D ||| 2 ^ k) (l ++ [(k : Int)]) := ⟨hp.h, hlt, by simp; omega⟩
   refine ⟨by unfold sumPre; simp; omega, by simp only [inR]; omega, ⟨⟨by omega, by simp only [bitsOf]; omega⟩, by omega, by omega⟩, ⟨⟨hp.h, rfl⟩, by simp only; omega, hpre⟩, fun hr => ?_, fun hr => ?_⟩
   · have hr : (gr p lv (D ||| 2 ^ k) (l ++ [(k : Int)]) (lpK p (gr p lv) D l m k).2.2).1 = true := hr
     rw [if_pos hr] at hst
     have hs := lpK_stop (k := k + 1) (by rw [hst]; exact hr) (p.length - (k + 1))
     rw [show k + 1 + (p.length - (k + 1)) = p.length by omega, hst] at hs
     have e : gr p (lv + 1) D l m = gr p lv (D ||| 2 ^ k) (l ++ [(k : Int)]) (lpK p (gr p lv) D l m k).2.2 := by rw [gr, if_neg hm, hs, if_pos hr]
     rw [e]
     exact ⟨hr.symm, rfl, rfl⟩
   · have hr : (gr p lv (D ||| 2 ^ k) (l ++ [(k : Int)]) (lpK p (gr p lv) D l m k).2.2).1 = false := hr
     rw [if_neg (by simp [hr])] at hst
     have h2 := gr_list hr
     have q1 : inR .i64 (((gr p lv (D ||| 2 ^ k) (l ++ [(k : Int)]) (lpK p (gr p lv) D l m k).2.2).2.1.length : Int) - 1) := by rw [h2]; simp only [inR]; simp; omega
     have q2 : 0 ≤ ((gr p lv (D ||| 2 ^ k) (l ++ [(k : Int)]) (lpK p (gr p lv) D l m k).2.2).2.1.length : Int) - 1 ∧ ((gr p lv (D ||| 2 ^ k) (l ++ [(k : Int)]) (lpK p (gr p lv) D l m k).2.2).2.1.length : Int) - 1 ≤ ((gr p lv (D ||| 2 ^ k) (l ++ [(k : Int)]) (lpK p (gr p lv) D l m k).2.2).2.1.length : Int) := by rw [h2]; simp; omega
     have q3 : (gr p lv (D ||| 2 ^ k) (l ++ [(k : Int)]) (lpK p (gr p lv) D l m k).2.2).2.1.take (((gr p lv (D ||| 2 ^ k) (l ++ [(k : Int)]) (lpK p (gr p lv) D l m k).2.2).2.1.length : Int) - 1).toNat = l := by rw [h2]; simp
     have q4 : (gr p lv (D ||| 2 ^ k) (l ++ [(k : Int)]) (lpK p (gr p lv) D l m k).2.2).2.2 = (lpK p (gr p lv) D l m (k + 1)).2.2 := by rw [hst]
     exact ⟨q1, q2, by simp only [inR]; omega, k + 1, ⟨⟨by omega, by rw [hst]⟩, by omega⟩, by omega, q3, q4⟩
 · refine of_eq (q := True ∧ ((k : Int) < (p.length : Int) → True ∧ True ∧ True ∧ True ∧ inR .u64 (k : Int) ∧ ((0 : Int) ≤ (k : Int) ∧ (k : Int) < bitsOf .i64) ∧ True ∧ True ∧ True ∧ (bAnd .i64 ((D : Int) / (2 : Int) ^ k) (1 : Int) = 1 → True ∧ inR .i64 ((k : Int) + 1) ∧ True ∧ ((∃ (y : Nat), (inS p (gr p lv) D l m y ∧ p.length - y < p.length - k) ∧ ((D : Int) = (D : Int) ∧ True ∧ True ∧ True ∧ True ∧ (p.length : Int) = (p.length : Int) ∧ (k : Int) + 1 = (y : Int) ∧ True) ∧ False ∧ False ∧ True ∧ (n = n ∧ p = p ∧ mk (isF p) = mk (isF p) ∧ True) ∧ True ∧ (lpK p (gr p lv) D l m k).snd.snd = (lpK p (gr p lv) D l m y).snd.snd ∧ (True ∧ True ∧ True ∧ True ∧ True ∧ True) ∧ True) ∨ ∃ (y : Nat), (inS p (gr p lv) D l m y ∧ p.length - y < p.length - k) ∧ ((D : Int) = (D : Int) ∧ True ∧ True ∧ True ∧ True ∧ (p.length : Int) = (p.length : Int) ∧ (k : Int) + 1 = (y : Int) ∧ True) ∧ True ∧ l = l ∧ True ∧ (n = n ∧ p = p ∧ mk (isF p) = mk (isF p) ∧ True) ∧ True ∧ (lpK p (gr p lv) D l m k).snd.snd = (lpK p (gr p lv) D l m y).snd.snd ∧ (True ∧ True ∧ True ∧ True ∧ True ∧ True) ∧ True)) ∧ (¬bAnd .i64 ((D : Int) / (2 : Int) ^ k) (1 : Int) = 1 → True ∧ True ∧ True ∧ ((ok56 ((D : Int), (k : Int), n, p, mk (isF p)) ∧ (True ∧ (D : Int) = (D : Int) ∧ (k : Int) = (k : Int) ∧ True) ∧ (n = n ∧ p = p ∧ mk (isF p) = mk (isF p) ∧ True) ∧ True) ∧ True ∧ True) ∧ True ∧ True ∧ ((!flw p D k) = true → inR .i64 ((k : Int) + 1) ∧ True ∧ ((∃ (y : Nat), (inS p (gr p lv) D l m y ∧ p.length - y < p.length - k) ∧ ((D : Int) = (D : Int) ∧ True ∧ True ∧ True ∧ True ∧ (p.length : Int) = (p.length : Int) ∧ (k : Int) + 1 = (y : Int) ∧ True) ∧ False ∧ False ∧ True ∧ (n = n ∧ p = p ∧ mk (isF p) = mk (isF p) ∧ True) ∧ True ∧ (lpK p (gr p lv) D l m k).snd.snd = (lpK p (gr p lv) D l m y).snd.snd ∧ (True ∧ True ∧ True ∧ True ∧ True ∧ True) ∧ True) ∨ ∃ (y : Nat), (inS p (gr p lv) D l m y ∧ p.length - y < p.length - k) ∧ ((D : Int) = (D : Int) ∧ True ∧ True ∧ True ∧ True ∧ (p.length : Int) = (p.length : Int) ∧ (k : Int) + 1 = (y : Int) ∧ True) ∧ True ∧ l = l ∧ True ∧ (n = n ∧ p = p ∧ mk (isF p) = mk (isF p) ∧ True) ∧ True ∧ (lpK p (gr p lv) D l m k).snd.snd = (lpK p (gr p lv) D l m y).snd.snd ∧ (True ∧ True ∧ True ∧ True ∧ True ∧ True) ∧ True)) ∧ ((!flw p D k) = false → True ∧ True ∧ True ∧ sumPre l.length [(k : Int)].length (nat_lit 8) ∧ True ∧ True ∧ True ∧ True ∧ inR .u64 (k : Int) ∧ (((0 : Int) ≤ (k : Int) ∧ (k : Int) < bitsOf .i64) ∧ (-9223372036854775808 : Int) ≤ 1 * 2 ^ k ∧ (1 : Int) * 2 ^ k ≤ 9223372036854775807) ∧ True ∧ ((ok55 lv (bOr .i64 (D : Int) ((1 : Int) * 2 ^ k), (n, p, mk (isF p)), l ++ [(k : Int)], (lpK p (gr p lv) D l m k).snd.snd) ∧ (bOr .i64 (D : Int) ((1 : Int) * 2 ^ k) = bOr .i64 (D : Int) ((1 : Int) * 2 ^ k) ∧ True ∧ True ∧ True ∧ True ∧ True) ∧ True ∧ l ++ [(k : Int)] = l ++ [(k : Int)] ∧ True ∧ (n = n ∧ p = p ∧ mk (isF p) = mk (isF p) ∧ True) ∧ True ∧ (lpK p (gr p lv) D l m k).snd.snd = (lpK p (gr p lv) D l m k).snd.snd ∧ (True ∧ True ∧ True ∧ True ∧ True ∧ True) ∧ True) ∧ True ∧ True ∧ True ∧ True ∧ True ∧ True ∧ True ∧ True) ∧ ((gr p lv (bOr .i64 (D : Int) ((1 : Int) * 2 ^ k)).toNat (l ++ [(k : Int)]) (lpK p (gr p lv) D l m k).snd.snd).fst = true → True ∧ True ∧ (true = (gr p (lv + 1) D l m).fst ∧ True) ∧ True ∧ (gr p lv (bOr .i64 (D : Int) ((1 : Int) * 2 ^ k)).toNat (l ++ [(k : Int)]) (lpK p (gr p lv) D l m k).snd.snd).snd.fst = (gr p (lv + 1) D l m).snd.fst ∧ True ∧ (n = n ∧ p = p ∧ mk (isF p) = mk (isF p) ∧ True) ∧ True ∧ (gr p lv (bOr .i64 (D : Int) ((1 : Int) * 2 ^ k)).toNat (l ++ [(k : Int)]) (lpK p (gr p lv) D l m k).snd.snd).snd.snd = (gr p (lv + 1) D l m).snd.snd ∧ (True ∧ True ∧ True ∧ True ∧ True ∧ True) ∧ True) ∧ ((gr p lv (bOr .i64 (D : Int) ((1 : Int) * 2 ^ k)).toNat (l ++ [(k : Int)]) (lpK p (gr p lv) D l m k).snd.snd).fst = false → True ∧ True ∧ True ∧ inR .i64 ((↑(gr p lv (bOr .i64 (D : Int) ((1 : Int) * 2 ^ k)).toNat (l ++ [(k : Int)]) (lpK p (gr p lv) D l m k).snd.snd).snd.fst.length : Int) - 1) ∧ ((0 : Int) ≤ (↑(gr p lv (bOr .i64 (D : Int) ((1 : Int) * 2 ^ k)).toNat (l ++ [(k : Int)]) (lpK p (gr p lv) D l m k).snd.snd).snd.fst.length : Int) - 1 ∧ (↑(gr p lv (bOr .i64 (D : Int) ((1 : Int) * 2 ^ k)).toNat (l ++ [(k : Int)]) (lpK p (gr p lv) D l m k).snd.snd).snd.fst.length : Int) - 1 ≤ (↑(gr p lv (bOr .i64 (D : Int) ((1 : Int) * 2 ^ k)).toNat (l ++ [(k : Int)]) (lpK p (gr p lv) D l m k).snd.snd).snd.fst.length : Int)) ∧ True ∧ inR .i64 ((k : Int) + 1) ∧ True ∧ ((∃ (y : Nat), (inS p (gr p lv) D l m y ∧ p.length - y < p.length - k) ∧ ((D : Int) = (D : Int) ∧ True ∧ True ∧ True ∧ True ∧ (p.length : Int) = (p.length : Int) ∧ (k : Int) + 1 = (y : Int) ∧ True) ∧ False ∧ False ∧ True ∧ (n = n ∧ p = p ∧ mk (isF p) = mk (isF p) ∧ True) ∧ True ∧ (gr p lv (bOr .i64 (D : Int) ((1 : Int) * 2 ^ k)).toNat (l ++ [(k : Int)]) (lpK p (gr p lv) D l m k).snd.snd).snd.snd = (lpK p (gr p lv) D l m y).snd.snd ∧ (True ∧ True ∧ True ∧ True ∧ True ∧ True) ∧ True) ∨ ∃ (y : Nat), (inS p (gr p lv) D l m y ∧ p.length - y < p.length - k) ∧ ((D : Int) = (D : Int) ∧ True ∧ True ∧ True ∧ True ∧ (p.length : Int) = (p.length : Int) ∧ (k : Int) + 1 = (y : Int) ∧ True) ∧ True ∧ List.take ((↑(gr p lv (bOr .i64 (D : Int) ((1 : Int) * 2 ^ k)).toNat (l ++ [(k : Int)]) (lpK p (gr p lv) D l m k).snd.snd).snd.fst.length : Int) - 1).toNat (gr p lv (bOr .i64 (D : Int) ((1 : Int) * 2 ^ k)).toNat (l ++ [(k : Int)]) (lpK p (gr p lv) D l m k).snd.snd).snd.fst = l ∧ True ∧ (n = n ∧ p = p ∧ mk (isF p) = mk (isF p) ∧ True) ∧ True ∧ (gr p lv (bOr .i64 (D : Int) ((1 : Int) * 2 ^ k)).toNat (l ++ [(k : Int)]) (lpK p (gr p lv) D l m k).snd.snd).snd.snd = (lpK p (gr p lv) D l m y).snd.snd ∧ (True ∧ True ∧ True ∧ True ∧ True ∧ True) ∧ True))))) ∧ (¬(k : Int) < (p.length : Int) → (∃ (y : Unit), (lpK p (gr p lv) D l m p.length).fst = false ∧ ((D : Int) = (D : Int) ∧ True ∧ True ∧ True ∧ True ∧ True) ∧ False ∧ False ∧ True ∧ (n = n ∧ p = p ∧ mk (isF p) = mk (isF p) ∧ True) ∧ True ∧ (lpK p (gr p lv) D l m k).snd.snd = (lpK p (gr p lv) D l m p.length).snd.snd ∧ (True ∧ True ∧ True ∧ True ∧ True ∧ True) ∧ True) ∨ ∃ (y : Unit), (lpK p (gr p lv) D l m p.length).fst = false ∧ ((D : Int) = (D : Int) ∧ True ∧ True ∧ True ∧ True ∧ True) ∧ True ∧ l = l ∧ True ∧ (n = n ∧ p = p ∧ mk (isF p) = mk (isF p) ∧ True) ∧ True ∧ (lpK p (gr p lv) D l m k).snd.snd = (lpK p (gr p lv) D l m p.length).snd.snd ∧ (True ∧ True ∧ True ∧ True ∧ True ∧ True) ∧ True)) (by kernel_rfl) ?_
   simp only [zz]
   obtain ⟨k1, k2⟩ := hk
   have hl := hp.l
   have hc := hp.h.2.1
   have hD := pre_D hp
   refine ⟨fun h => ?_, fun h => by rw [show p.length = k by omega]; exact ⟨k2, rfl⟩⟩
   have hkp : k < p.length := by omega
   have hb := or_pow10 hD (k := k) (by omega)
   have hst := lpK_go k2
   rw [bit_shr hD, hb.1, Int.toNat_natCast]
   have hskip : (D / 2 ^ k % 2 = 1 ∨ flw p D k = false) → inR .i64 ((k : Int) + 1) ∧ ∃ y : Nat, (inS p (gr p lv) D l m y ∧ p.length - y < p.length - k) ∧ (k : Int) + 1 = (y : Int) ∧ (lpK p (gr p lv) D l m k).2.2 = (lpK p (gr p lv) D l m y).2.2 := fun hh => by
     rw [if_pos hh] at hst
     exact ⟨by simp only [inR]; omega, k + 1, ⟨⟨by omega, by rw [hst]; exact k2⟩, by omega⟩, by omega, by rw [hst]⟩
   refine ⟨by simp only [inR]; omega, ⟨by omega, by simp only [bitsOf]; omega⟩, fun hx => hskip (.inl (by omega)), fun hx => ⟨⟨⟨hp.h, rfl⟩, ⟨by simp only; omega, by simp only; omega⟩, ⟨by simp only; omega, by simp only; omega⟩⟩, fun hx2 => hskip (.inr (by simpa using hx2)), fun hx2 => ?_⟩⟩
   have hx2 : flw p D k = true := by simpa using hx2
   rw [if_neg (by simp [hx2]; omega)] at hst
   have hlt : D ||| 2 ^ k < 2 ^ p.length := Nat.or_lt_two_pow hp.D (Nat.pow_lt_pow_right (by decide) hkp)
   have hpre : pre55 n p lv (D ||| 2 ^ k) (l ++ [(k : Int)]) := ⟨hp.h, hlt, by simp; omega⟩
   refine ⟨by unfold sumPre; simp; omega, by simp only [inR]; omega, ⟨⟨by omega, by simp only [bitsOf]; omega⟩, by omega, by omega⟩, ⟨⟨hp.h, rfl⟩, by simp only; omega, hpre⟩, fun hr => ?_, fun hr => ?_⟩
   · have hr : (gr p lv (D ||| 2 ^ k) (l ++ [(k : Int)]) (lpK p (gr p lv) D l m k).2.2).1 = true := hr
     rw [if_pos hr] at hst
     have hs := lpK_stop (k := k + 1) (by rw [hst]; exact hr) (p.length - (k + 1))
     rw [show k + 1 + (p.length - (k + 1)) = p.length by omega, hst] at hs
     have e : gr p (lv + 1) D l m = gr p lv (D ||| 2 ^ k) (l ++ [(k : Int)]) (lpK p (gr p lv) D l m k).2.2 := by rw [gr, if_neg hm, hs, if_pos hr]
     rw [e]
     exact ⟨hr.symm, rfl, rfl⟩
   · have hr : (gr p lv (D ||| 2 ^ k) (l ++ [(k : Int)]) (lpK p (gr p lv) D l m k).2.2).1 = false := hr
     rw [if_neg (by simp [hr])] at hst
     have h2 := gr_list hr
     have q1 : inR .i64 (((gr p lv (D ||| 2 ^ k) (l ++ [(k : Int)]) (lpK p (gr p lv) D l m k).2.2).2.1.length : Int) - 1) := by rw [h2]; simp only [inR]; simp; omega
     have q2 : 0 ≤ ((gr p lv (D ||| 2 ^ k) (l ++ [(k : Int)]) (lpK p (gr p lv) D l m k).2.2).2.1.length : Int) - 1 ∧ ((gr p lv (D ||| 2 ^ k) (l ++ [(k : Int)]) (lpK p (gr p lv) D l m k).2.2).2.1.length : Int) - 1 ≤ ((gr p lv (D ||| 2 ^ k) (l ++ [(k : Int)]) (lpK p (gr p lv) D l m k).2.2).2.1.length : Int) := by rw [h2]; simp; omega
     have q3 : (gr p lv (D ||| 2 ^ k) (l ++ [(k : Int)]) (lpK p (gr p lv) D l m k).2.2).2.1.take (((gr p lv (D ||| 2 ^ k) (l ++ [(k : Int)]) (lpK p (gr p lv) D l m k).2.2).2.1.length : Int) - 1).toNat = l := by rw [h2]; simp
     have q4 : (gr p lv (D ||| 2 ^ k) (l ++ [(k : Int)]) (lpK p (gr p lv) D l m k).2.2).2.2 = (lpK p (gr p lv) D l m (k + 1)).2.2 := by rw [hst]
     exact ⟨q1, q2, by simp only [inR]; omega, k + 1, ⟨⟨by omega, by rw [hst]⟩, by omega⟩, by omega, q3, q4⟩
theorem gS1 (lv : Nat) (h' : GS lv) : GS (lv + 1) := by
 intro n p D l m hp
 have hL := fun hm => loopS lv h' n p D l m hp hm
 refine gcall_of (X := (X55 [e56, e55S lv h'])) ((Xb_ok _ _ _ _)) (f := 55) (fn := Try.f55) (c := bodyOf Try.f55) (by kernel_rfl) (by kernel_rfl) (view := false) (rvs := [.tmp 6]) (by kernel_rfl) (H := (HS n p (gr p lv) D l m)) 80 (by kernel_rfl) ?_
 refine of_eq (q := True ∧ True ∧ True ∧ True ∧ True ∧ True ∧ True ∧ True ∧ True ∧ ((l.length : Int) = (p.length : Int) → True ∧ True ∧ (true = (gr p (lv + 1) D l m).fst ∧ True) ∧ True ∧ l = (gr p (lv + 1) D l m).snd.fst ∧ True ∧ (n = n ∧ p = p ∧ mk (isF p) = mk (isF p) ∧ True) ∧ True ∧ m = (gr p (lv + 1) D l m).snd.snd ∧ (True ∧ True ∧ True ∧ True ∧ True ∧ True) ∧ True) ∧ (¬(l.length : Int) = (p.length : Int) → True ∧ True ∧ True ∧ ((mGet I64 m (D : Int)).getD false = true → True ∧ True ∧ (false = (gr p (lv + 1) D l m).fst ∧ True) ∧ True ∧ l = (gr p (lv + 1) D l m).snd.fst ∧ True ∧ (n = n ∧ p = p ∧ mk (isF p) = mk (isF p) ∧ True) ∧ True ∧ m = (gr p (lv + 1) D l m).snd.snd ∧ (True ∧ True ∧ True ∧ True ∧ True ∧ True) ∧ True) ∧ ((mGet I64 m (D : Int)).getD false = false → True ∧ True ∧ True ∧ True ∧ True ∧ True ∧ LoopOK (X55 [e56, e55S lv h']) L55_0 (hS n p (gr p lv) D l m) (RetR (X55 [e56, e55S lv h']) false false [ResultVar.tmp (6 : Tmp)] [AV.bool (gr p (lv + 1) D l m).fst] (gS (1 : Nat) n p (gr p (lv + 1) D l m).snd.fst (gr p (lv + 1) D l m).snd.snd)) ∧ ((∃ (y : Nat), inS p (gr p lv) D l m y ∧ ((D : Int) = (D : Int) ∧ True ∧ True ∧ True ∧ True ∧ (p.length : Int) = (p.length : Int) ∧ (0 : Int) = (y : Int) ∧ True) ∧ True ∧ l = l ∧ True ∧ (n = n ∧ p = p ∧ mk (isF p) = mk (isF p) ∧ True) ∧ True ∧ m = (lpK p (gr p lv) D l m y).snd.snd ∧ (True ∧ True ∧ True ∧ True ∧ True ∧ True) ∧ True) ∨ ∃ (y : Nat), inS p (gr p lv) D l m y ∧ ((D : Int) = (D : Int) ∧ True ∧ True ∧ True ∧ True ∧ (p.length : Int) = (p.length : Int) ∧ (0 : Int) = (y : Int) ∧ True) ∧ False ∧ False ∧ True ∧ (n = n ∧ p = p ∧ mk (isF p) = mk (isF p) ∧ True) ∧ True ∧ m = (lpK p (gr p lv) D l m y).snd.snd ∧ (True ∧ True ∧ True ∧ True ∧ True ∧ True) ∧ True) ∧ (∀ (y : Unit), (lpK p (gr p lv) D l m p.length).fst = false → True ∧ True ∧ True ∧ True ∧ True ∧ (false = (gr p (lv + 1) D l m).fst ∧ True) ∧ True ∧ l = (gr p (lv + 1) D l m).snd.fst ∧ True ∧ (n = n ∧ p = p ∧ mk (isF p) = mk (isF p) ∧ True) ∧ True ∧ mPut I64 (lpK p (gr p lv) D l m p.length).snd.snd (D : Int) true = (gr p (lv + 1) D l m).snd.snd ∧ (True ∧ True ∧ True ∧ True ∧ True ∧ True) ∧ True) ∧ (∀ (y : Unit), (lpK p (gr p lv) D l m p.length).fst = false → True ∧ True ∧ True ∧ True ∧ True ∧ (false = (gr p (lv + 1) D l m).fst ∧ True) ∧ True ∧ l = (gr p (lv + 1) D l m).snd.fst ∧ True ∧ (n = n ∧ p = p ∧ mk (isF p) = mk (isF p) ∧ True) ∧ True ∧ mPut I64 (lpK p (gr p lv) D l m p.length).snd.snd (D : Int) true = (gr p (lv + 1) D l m).snd.snd ∧ (True ∧ True ∧ True ∧ True ∧ True ∧ True) ∧ True) ∧ True))) (by kernel_rfl) ?_
 simp only [zz]
 have hl := hp.l
 have hg : mg m D = (mGet I64 m D).getD false := rfl
 refine ⟨fun h => by omega, fun _ => ⟨fun h => ?_, fun h => ⟨hL (by rw [hg, h]; simp) , ⟨0, ⟨Nat.zero_le _, rfl⟩, rfl, rfl⟩, fun _ hf => ?_, fun _ hf => ?_⟩⟩⟩
 · rw [gr, hg, if_pos h]; exact ⟨rfl, rfl, rfl⟩
 · rw [gr, hg, if_neg (by simp [h]), if_neg (by simp [hf])]; exact ⟨rfl, rfl, rfl⟩
 · rw [gr, hg, if_neg (by simp [h]), if_neg (by simp [hf])]; exact ⟨rfl, rfl, rfl⟩
theorem gS_all : ∀ lv, GS lv
 | 0 => gS0
 | lv + 1 => gS1 lv (gS_all lv)
def gN (n : Int) (p : List Int) (m : Mm) : List Ob := [.bx nl, .bx (.ptr 2 0 []), cxO n p, .bx (.mp 4), mmO m, .bx (clo55 0 1 3 5)]
def gO (n : Int) (p l : List Int) (m : Mm) : List Ob := [.bx (.own 6 0), .bx (.ptr 2 0 []), cxO n p, .bx (.mp 4), mmO m, .bx (clo55 0 1 3 5), .sc 0 3 I64 l]
def aN (D : Int) : List AV := [.int .i64 D, .ptr 0 0 [], .ptr 1 0 [], .ptr 3 0 [], .ptr 5 0 []]
def sN (n : Int) (p : List Int) (D : Nat) (m : Mm) (k : Nat) : St := ⟨aN D ++ dd 18 ++ .int .i64 p.length :: .int .i64 k :: dd 34, gN n p m⟩
def sO (n : Int) (p : List Int) (f : Nat → List Int → Mm → Res) (D : Nat) (m : Mm) (k : Nat) : St := ⟨aN D ++ dd 18 ++ .int .i64 p.length :: .int .i64 k :: dd 34, gO n p [] (lpK p f D [] m k).2.2⟩
def fmN (n : Int) (p : List Int) (f : Nat → List Int → Mm → Res) (D : Nat) (m : Mm) : List Fam := [⟨Nat, fun k => k = 0, sN n p D m, fun k => p.length - k, fun _ _ => none⟩, ⟨Nat, inS p f D [] m, sO n p f D m, fun k => p.length - k, fun _ _ => none⟩]
def exN (n : Int) (p : List Int) (f : Nat → List Int → Mm → Res) (D : Nat) (m : Mm) : List (List Nat × Ex) := [([0, 1, 2, 3, 4], ⟨0, Unit, fun _ => (lpK p f D [] m p.length).1 = false, fun _ => ⟨aN D ++ dd 54, gO n p [] (lpK p f D [] m p.length).2.2⟩⟩)]
def hN (n : Int) (p : List Int) (f : Nat → List Int → Mm → Res) (D : Nat) (m : Mm) : Hint := ⟨chks 6 [0, 1, 2, 3, 4, 23, 24] (fmN n p f D m), (exN n p f D m).map (·.2)⟩
noncomputable def HN (n : Int) (p : List Int) (f : Nat → List Int → Mm → Res) (D : Nat) (m : Mm) : Nat → Option Hint := fun _ => some (hN n p f D m)
noncomputable abbrev XN (lv : Nat) : Cy := Xb [e56, e55S lv (gS_all lv)] 6 [] (fun _ => none)
theorem flw_zero (p : List Int) (k : Nat) : flw p 0 k = true := by
 refine decide_eq_true fun j _ h => ?_
 rw [Nat.zero_div] at h; cases h
theorem loopN (lv : Nat) (n : Int) (p : List Int) (D : Nat) (m : Mm) (hp : pre55 n p (lv + 1) D []) (hD0 : D = 0) (hm : ¬ mg m D = true) : LoopOK (XN lv) L55_0 (hN n p (gr p lv) D m)
   (RetR (XN lv) false false [.tmp 6] [.bool (gr p (lv + 1) D [] m).1] (gO n p (gr p (lv + 1) D [] m).2.1 (gr p (lv + 1) D [] m).2.2)) := by
 refine loop_fams (Xb_ok _ _ _ _) [0, 1, 2, 3, 4, 23, 24] (fmN n p (gr p lv) D m) (exN n p (gr p lv) D m) 150 ⟨fun (k : Nat) hk => ?_, fun (k : Nat) hk => ?_, trivial⟩
 · refine of_eq (q := True ∧ ((k : Int) < (p.length : Int) → True ∧ True ∧ True ∧ True ∧ inR .u64 (k : Int) ∧ ((0 : Int) ≤ (k : Int) ∧ (k : Int) < bitsOf .i64) ∧ True ∧ True ∧ True ∧ (bAnd .i64 ((D : Int) / (2 : Int) ^ k) (1 : Int) = 1 → True ∧ inR .i64 ((k : Int) + 1) ∧ True ∧ ((∃ (y : Nat), (y = 0 ∧ p.length - y < p.length - k) ∧ ((D : Int) = (D : Int) ∧ True ∧ True ∧ True ∧ True ∧ (p.length : Int) = (p.length : Int) ∧ (k : Int) + 1 = (y : Int) ∧ True) ∧ True ∧ True ∧ (n = n ∧ p = p ∧ mk (isF p) = mk (isF p) ∧ True) ∧ True ∧ m = m ∧ (True ∧ True ∧ True ∧ True ∧ True ∧ True) ∧ True) ∨ ∃ (y : Nat), (inS p (gr p lv) D [] m y ∧ p.length - y < p.length - k) ∧ ((D : Int) = (D : Int) ∧ True ∧ True ∧ True ∧ True ∧ (p.length : Int) = (p.length : Int) ∧ (k : Int) + 1 = (y : Int) ∧ True) ∧ False ∧ True ∧ (n = n ∧ p = p ∧ mk (isF p) = mk (isF p) ∧ True) ∧ True ∧ m = (lpK p (gr p lv) D [] m y).snd.snd ∧ (True ∧ True ∧ True ∧ True ∧ True ∧ True) ∧ False)) ∧ (¬bAnd .i64 ((D : Int) / (2 : Int) ^ k) (1 : Int) = 1 → True ∧ True ∧ True ∧ ((ok56 ((D : Int), (k : Int), n, p, mk (isF p)) ∧ (True ∧ (D : Int) = (D : Int) ∧ (k : Int) = (k : Int) ∧ True) ∧ (n = n ∧ p = p ∧ mk (isF p) = mk (isF p) ∧ True) ∧ True) ∧ True ∧ True) ∧ True ∧ True ∧ ((!flw p D k) = true → inR .i64 ((k : Int) + 1) ∧ True ∧ ((∃ (y : Nat), (y = 0 ∧ p.length - y < p.length - k) ∧ ((D : Int) = (D : Int) ∧ True ∧ True ∧ True ∧ True ∧ (p.length : Int) = (p.length : Int) ∧ (k : Int) + 1 = (y : Int) ∧ True) ∧ True ∧ True ∧ (n = n ∧ p = p ∧ mk (isF p) = mk (isF p) ∧ True) ∧ True ∧ m = m ∧ (True ∧ True ∧ True ∧ True ∧ True ∧ True) ∧ True) ∨ ∃ (y : Nat), (inS p (gr p lv) D [] m y ∧ p.length - y < p.length - k) ∧ ((D : Int) = (D : Int) ∧ True ∧ True ∧ True ∧ True ∧ (p.length : Int) = (p.length : Int) ∧ (k : Int) + 1 = (y : Int) ∧ True) ∧ False ∧ True ∧ (n = n ∧ p = p ∧ mk (isF p) = mk (isF p) ∧ True) ∧ True ∧ m = (lpK p (gr p lv) D [] m y).snd.snd ∧ (True ∧ True ∧ True ∧ True ∧ True ∧ True) ∧ False)) ∧ ((!flw p D k) = false → True ∧ True ∧ True ∧ sumPre (0 : Nat) [(k : Int)].length (nat_lit 8) ∧ True ∧ True ∧ True ∧ True ∧ inR .u64 (k : Int) ∧ (((0 : Int) ≤ (k : Int) ∧ (k : Int) < bitsOf .i64) ∧ (-9223372036854775808 : Int) ≤ 1 * 2 ^ k ∧ (1 : Int) * 2 ^ k ≤ 9223372036854775807) ∧ True ∧ ((ok55 lv (bOr .i64 (D : Int) ((1 : Int) * 2 ^ k), (n, p, mk (isF p)), [(k : Int)], m) ∧ (bOr .i64 (D : Int) ((1 : Int) * 2 ^ k) = bOr .i64 (D : Int) ((1 : Int) * 2 ^ k) ∧ True ∧ True ∧ True ∧ True ∧ True) ∧ True ∧ [(k : Int)] = [(k : Int)] ∧ True ∧ (n = n ∧ p = p ∧ mk (isF p) = mk (isF p) ∧ True) ∧ True ∧ m = m ∧ (True ∧ True ∧ True ∧ True ∧ True ∧ True) ∧ True) ∧ True ∧ True ∧ True ∧ True ∧ True ∧ True ∧ True ∧ True) ∧ ((gr p lv (bOr .i64 (D : Int) ((1 : Int) * 2 ^ k)).toNat [(k : Int)] m).fst = true → True ∧ True ∧ (true = (gr p (lv + 1) D [] m).fst ∧ True) ∧ True ∧ True ∧ (n = n ∧ p = p ∧ mk (isF p) = mk (isF p) ∧ True) ∧ True ∧ (gr p lv (bOr .i64 (D : Int) ((1 : Int) * 2 ^ k)).toNat [(k : Int)] m).snd.snd = (gr p (lv + 1) D [] m).snd.snd ∧ (True ∧ True ∧ True ∧ True ∧ True ∧ True) ∧ (gr p lv (bOr .i64 (D : Int) ((1 : Int) * 2 ^ k)).toNat [(k : Int)] m).snd.fst = (gr p (lv + 1) D [] m).snd.fst ∧ True) ∧ ((gr p lv (bOr .i64 (D : Int) ((1 : Int) * 2 ^ k)).toNat [(k : Int)] m).fst = false → True ∧ True ∧ True ∧ inR .i64 ((↑(gr p lv (bOr .i64 (D : Int) ((1 : Int) * 2 ^ k)).toNat [(k : Int)] m).snd.fst.length : Int) - 1) ∧ ((0 : Int) ≤ (↑(gr p lv (bOr .i64 (D : Int) ((1 : Int) * 2 ^ k)).toNat [(k : Int)] m).snd.fst.length : Int) - 1 ∧ (↑(gr p lv (bOr .i64 (D : Int) ((1 : Int) * 2 ^ k)).toNat [(k : Int)] m).snd.fst.length : Int) - 1 ≤ (↑(gr p lv (bOr .i64 (D : Int) ((1 : Int) * 2 ^ k)).toNat [(k : Int)] m).snd.fst.length : Int)) ∧ True ∧ inR .i64 ((k : Int) + 1) ∧ True ∧ ((∃ (y : Nat), (y = 0 ∧ p.length - y < p.length - k) ∧ ((D : Int) = (D : Int) ∧ True ∧ True ∧ True ∧ True ∧ (p.length : Int) = (p.length : Int) ∧ (k : Int) + 1 = (y : Int) ∧ True) ∧ False ∧ True ∧ (n = n ∧ p = p ∧ mk (isF p) = mk (isF p) ∧ True) ∧ True ∧ (gr p lv (bOr .i64 (D : Int) ((1 : Int) * 2 ^ k)).toNat [(k : Int)] m).snd.snd = m ∧ (True ∧ True ∧ True ∧ True ∧ True ∧ True) ∧ True) ∨ ∃ (y : Nat), (inS p (gr p lv) D [] m y ∧ p.length - y < p.length - k) ∧ ((D : Int) = (D : Int) ∧ True ∧ True ∧ True ∧ True ∧ (p.length : Int) = (p.length : Int) ∧ (k : Int) + 1 = (y : Int) ∧ True) ∧ True ∧ True ∧ (n = n ∧ p = p ∧ mk (isF p) = mk (isF p) ∧ True) ∧ True ∧ (gr p lv (bOr .i64 (D : Int) ((1 : Int) * 2 ^ k)).toNat [(k : Int)] m).snd.snd = (lpK p (gr p lv) D [] m y).snd.snd ∧ (True ∧ True ∧ True ∧ True ∧ True ∧ True) ∧ List.take ((↑(gr p lv (bOr .i64 (D : Int) ((1 : Int) * 2 ^ k)).toNat [(k : Int)] m).snd.fst.length : Int) - 1).toNat (gr p lv (bOr .i64 (D : Int) ((1 : Int) * 2 ^ k)).toNat [(k : Int)] m).snd.fst = [] ∧ True))))) ∧ (¬(k : Int) < (p.length : Int) → ∃ (y : Unit), (lpK p (gr p lv) D [] m p.length).fst = false ∧ ((D : Int) = (D : Int) ∧ True ∧ True ∧ True ∧ True ∧ True) ∧ False ∧ True ∧ (n = n ∧ p = p ∧ mk (isF p) = mk (isF p) ∧ True) ∧ True ∧ m = (lpK p (gr p lv) D [] m p.length).snd.snd ∧ (True ∧ True ∧ True ∧ True ∧ True ∧ True) ∧ False)) (by kernel_rfl) ?_
   simp only [zz]
   have hk : k = 0 := hk
   have hl : lv + 1 = p.length := by have := hp.l; simpa using this
   have hc := hp.h.2.1
   have hD := pre_D hp
   refine ⟨fun h => ?_, fun h => by omega⟩
   have hkp : k < p.length := by omega
   have hb := or_pow10 hD (k := k) (by omega)
   have e0 : lpK p (gr p lv) D [] m k = (false, [], m) := by rw [hk]; try rfl
   have hst := lpK_go (p := p) (f := gr p lv) (D := D) (l := []) (m := m) (k := k) (by rw [e0])
   have hf : flw p D k = true := by rw [hD0]; exact flw_zero p k
   have hz : D / 2 ^ k % 2 = 0 := by rw [hD0, Nat.zero_div]
   rw [if_neg (by rw [hz, hf]; simp), e0] at hst
   simp only [List.nil_append] at hst
   rw [bit_shr hD, hb.1, Int.toNat_natCast, hz, hf]
   have hlt : D ||| 2 ^ k < 2 ^ p.length := Nat.or_lt_two_pow hp.D (Nat.pow_lt_pow_right (by decide) hkp)
   have hpre : pre55 n p lv (D ||| 2 ^ k) [(k : Int)] := ⟨hp.h, hlt, by simp; omega⟩
   refine ⟨by simp only [inR]; omega, ⟨by omega, by simp only [bitsOf]; omega⟩, fun hx => absurd hx (by decide), fun hx => ⟨⟨⟨hp.h, rfl⟩, ⟨by simp only; omega, by simp only; omega⟩, ⟨by simp only; omega, by simp only; omega⟩⟩, fun hx2 => absurd hx2 (by decide), fun hx2 => ?_⟩⟩
   refine ⟨by unfold sumPre; simp, by simp only [inR]; omega, ⟨⟨by omega, by simp only [bitsOf]; omega⟩, by omega, by omega⟩, ⟨⟨hp.h, rfl⟩, by simp only; omega, hpre⟩, fun hr => ?_, fun hr => ?_⟩
   · have hr : (gr p lv (D ||| 2 ^ k) [(k : Int)] m).1 = true := hr
     rw [if_pos hr] at hst
     have hs := lpK_stop (k := k + 1) (by rw [hst]; exact hr) (p.length - (k + 1))
     rw [show k + 1 + (p.length - (k + 1)) = p.length by omega, hst] at hs
     have e : gr p (lv + 1) D [] m = gr p lv (D ||| 2 ^ k) [(k : Int)] m := by rw [gr, if_neg hm, hs, if_pos hr]
     rw [e]
     exact ⟨hr.symm, rfl, rfl⟩
   · have hr : (gr p lv (D ||| 2 ^ k) [(k : Int)] m).1 = false := hr
     rw [if_neg (by simp [hr])] at hst
     have h2 := gr_list hr
     have q1 : inR .i64 (((gr p lv (D ||| 2 ^ k) [(k : Int)] m).2.1.length : Int) - 1) := by rw [h2]; simp only [inR]; simp
     have q2 : 0 ≤ ((gr p lv (D ||| 2 ^ k) [(k : Int)] m).2.1.length : Int) - 1 ∧ ((gr p lv (D ||| 2 ^ k) [(k : Int)] m).2.1.length : Int) - 1 ≤ ((gr p lv (D ||| 2 ^ k) [(k : Int)] m).2.1.length : Int) := by rw [h2]; simp
     have q3 : (gr p lv (D ||| 2 ^ k) [(k : Int)] m).2.1.take (((gr p lv (D ||| 2 ^ k) [(k : Int)] m).2.1.length : Int) - 1).toNat = [] := by rw [h2]; simp
     have q4 : (gr p lv (D ||| 2 ^ k) [(k : Int)] m).2.2 = (lpK p (gr p lv) D [] m (k + 1)).2.2 := by rw [hst]
     exact ⟨q1, q2, by simp only [inR]; omega, k + 1, ⟨⟨by omega, by rw [hst]⟩, by omega⟩, by omega, q4, q3⟩
 · refine of_eq (q := True ∧ ((k : Int) < (p.length : Int) → True ∧ True ∧ True ∧ True ∧ inR .u64 (k : Int) ∧ ((0 : Int) ≤ (k : Int) ∧ (k : Int) < bitsOf .i64) ∧ True ∧ True ∧ True ∧ (bAnd .i64 ((D : Int) / (2 : Int) ^ k) (1 : Int) = 1 → True ∧ inR .i64 ((k : Int) + 1) ∧ True ∧ ((∃ (y : Nat), (y = 0 ∧ p.length - y < p.length - k) ∧ ((D : Int) = (D : Int) ∧ True ∧ True ∧ True ∧ True ∧ (p.length : Int) = (p.length : Int) ∧ (k : Int) + 1 = (y : Int) ∧ True) ∧ False ∧ True ∧ (n = n ∧ p = p ∧ mk (isF p) = mk (isF p) ∧ True) ∧ True ∧ (lpK p (gr p lv) D [] m k).snd.snd = m ∧ (True ∧ True ∧ True ∧ True ∧ True ∧ True) ∧ True) ∨ ∃ (y : Nat), (inS p (gr p lv) D [] m y ∧ p.length - y < p.length - k) ∧ ((D : Int) = (D : Int) ∧ True ∧ True ∧ True ∧ True ∧ (p.length : Int) = (p.length : Int) ∧ (k : Int) + 1 = (y : Int) ∧ True) ∧ True ∧ True ∧ (n = n ∧ p = p ∧ mk (isF p) = mk (isF p) ∧ True) ∧ True ∧ (lpK p (gr p lv) D [] m k).snd.snd = (lpK p (gr p lv) D [] m y).snd.snd ∧ (True ∧ True ∧ True ∧ True ∧ True ∧ True) ∧ ([] : List Int) = [] ∧ True)) ∧ (¬bAnd .i64 ((D : Int) / (2 : Int) ^ k) (1 : Int) = 1 → True ∧ True ∧ True ∧ ((ok56 ((D : Int), (k : Int), n, p, mk (isF p)) ∧ (True ∧ (D : Int) = (D : Int) ∧ (k : Int) = (k : Int) ∧ True) ∧ (n = n ∧ p = p ∧ mk (isF p) = mk (isF p) ∧ True) ∧ True) ∧ True ∧ True) ∧ True ∧ True ∧ ((!flw p D k) = true → inR .i64 ((k : Int) + 1) ∧ True ∧ ((∃ (y : Nat), (y = 0 ∧ p.length - y < p.length - k) ∧ ((D : Int) = (D : Int) ∧ True ∧ True ∧ True ∧ True ∧ (p.length : Int) = (p.length : Int) ∧ (k : Int) + 1 = (y : Int) ∧ True) ∧ False ∧ True ∧ (n = n ∧ p = p ∧ mk (isF p) = mk (isF p) ∧ True) ∧ True ∧ (lpK p (gr p lv) D [] m k).snd.snd = m ∧ (True ∧ True ∧ True ∧ True ∧ True ∧ True) ∧ True) ∨ ∃ (y : Nat), (inS p (gr p lv) D [] m y ∧ p.length - y < p.length - k) ∧ ((D : Int) = (D : Int) ∧ True ∧ True ∧ True ∧ True ∧ (p.length : Int) = (p.length : Int) ∧ (k : Int) + 1 = (y : Int) ∧ True) ∧ True ∧ True ∧ (n = n ∧ p = p ∧ mk (isF p) = mk (isF p) ∧ True) ∧ True ∧ (lpK p (gr p lv) D [] m k).snd.snd = (lpK p (gr p lv) D [] m y).snd.snd ∧ (True ∧ True ∧ True ∧ True ∧ True ∧ True) ∧ ([] : List Int) = [] ∧ True)) ∧ ((!flw p D k) = false → True ∧ True ∧ True ∧ sumPre ([] : List Int).length [(k : Int)].length (nat_lit 8) ∧ True ∧ True ∧ True ∧ True ∧ inR .u64 (k : Int) ∧ (((0 : Int) ≤ (k : Int) ∧ (k : Int) < bitsOf .i64) ∧ (-9223372036854775808 : Int) ≤ 1 * 2 ^ k ∧ (1 : Int) * 2 ^ k ≤ 9223372036854775807) ∧ True ∧ ((ok55 lv (bOr .i64 (D : Int) ((1 : Int) * 2 ^ k), (n, p, mk (isF p)), [] ++ [(k : Int)], (lpK p (gr p lv) D [] m k).snd.snd) ∧ (bOr .i64 (D : Int) ((1 : Int) * 2 ^ k) = bOr .i64 (D : Int) ((1 : Int) * 2 ^ k) ∧ True ∧ True ∧ True ∧ True ∧ True) ∧ True ∧ [] ++ [(k : Int)] = [] ++ [(k : Int)] ∧ True ∧ (n = n ∧ p = p ∧ mk (isF p) = mk (isF p) ∧ True) ∧ True ∧ (lpK p (gr p lv) D [] m k).snd.snd = (lpK p (gr p lv) D [] m k).snd.snd ∧ (True ∧ True ∧ True ∧ True ∧ True ∧ True) ∧ True) ∧ True ∧ True ∧ True ∧ True ∧ True ∧ True ∧ True ∧ True) ∧ ((gr p lv (bOr .i64 (D : Int) ((1 : Int) * 2 ^ k)).toNat ([] ++ [(k : Int)]) (lpK p (gr p lv) D [] m k).snd.snd).fst = true → True ∧ True ∧ (true = (gr p (lv + 1) D [] m).fst ∧ True) ∧ True ∧ True ∧ (n = n ∧ p = p ∧ mk (isF p) = mk (isF p) ∧ True) ∧ True ∧ (gr p lv (bOr .i64 (D : Int) ((1 : Int) * 2 ^ k)).toNat ([] ++ [(k : Int)]) (lpK p (gr p lv) D [] m k).snd.snd).snd.snd = (gr p (lv + 1) D [] m).snd.snd ∧ (True ∧ True ∧ True ∧ True ∧ True ∧ True) ∧ (gr p lv (bOr .i64 (D : Int) ((1 : Int) * 2 ^ k)).toNat ([] ++ [(k : Int)]) (lpK p (gr p lv) D [] m k).snd.snd).snd.fst = (gr p (lv + 1) D [] m).snd.fst ∧ True) ∧ ((gr p lv (bOr .i64 (D : Int) ((1 : Int) * 2 ^ k)).toNat ([] ++ [(k : Int)]) (lpK p (gr p lv) D [] m k).snd.snd).fst = false → True ∧ True ∧ True ∧ inR .i64 ((↑(gr p lv (bOr .i64 (D : Int) ((1 : Int) * 2 ^ k)).toNat ([] ++ [(k : Int)]) (lpK p (gr p lv) D [] m k).snd.snd).snd.fst.length : Int) - 1) ∧ ((0 : Int) ≤ (↑(gr p lv (bOr .i64 (D : Int) ((1 : Int) * 2 ^ k)).toNat ([] ++ [(k : Int)]) (lpK p (gr p lv) D [] m k).snd.snd).snd.fst.length : Int) - 1 ∧ (↑(gr p lv (bOr .i64 (D : Int) ((1 : Int) * 2 ^ k)).toNat ([] ++ [(k : Int)]) (lpK p (gr p lv) D [] m k).snd.snd).snd.fst.length : Int) - 1 ≤ (↑(gr p lv (bOr .i64 (D : Int) ((1 : Int) * 2 ^ k)).toNat ([] ++ [(k : Int)]) (lpK p (gr p lv) D [] m k).snd.snd).snd.fst.length : Int)) ∧ True ∧ inR .i64 ((k : Int) + 1) ∧ True ∧ ((∃ (y : Nat), (y = 0 ∧ p.length - y < p.length - k) ∧ ((D : Int) = (D : Int) ∧ True ∧ True ∧ True ∧ True ∧ (p.length : Int) = (p.length : Int) ∧ (k : Int) + 1 = (y : Int) ∧ True) ∧ False ∧ True ∧ (n = n ∧ p = p ∧ mk (isF p) = mk (isF p) ∧ True) ∧ True ∧ (gr p lv (bOr .i64 (D : Int) ((1 : Int) * 2 ^ k)).toNat ([] ++ [(k : Int)]) (lpK p (gr p lv) D [] m k).snd.snd).snd.snd = m ∧ (True ∧ True ∧ True ∧ True ∧ True ∧ True) ∧ True) ∨ ∃ (y : Nat), (inS p (gr p lv) D [] m y ∧ p.length - y < p.length - k) ∧ ((D : Int) = (D : Int) ∧ True ∧ True ∧ True ∧ True ∧ (p.length : Int) = (p.length : Int) ∧ (k : Int) + 1 = (y : Int) ∧ True) ∧ True ∧ True ∧ (n = n ∧ p = p ∧ mk (isF p) = mk (isF p) ∧ True) ∧ True ∧ (gr p lv (bOr .i64 (D : Int) ((1 : Int) * 2 ^ k)).toNat ([] ++ [(k : Int)]) (lpK p (gr p lv) D [] m k).snd.snd).snd.snd = (lpK p (gr p lv) D [] m y).snd.snd ∧ (True ∧ True ∧ True ∧ True ∧ True ∧ True) ∧ List.take ((↑(gr p lv (bOr .i64 (D : Int) ((1 : Int) * 2 ^ k)).toNat ([] ++ [(k : Int)]) (lpK p (gr p lv) D [] m k).snd.snd).snd.fst.length : Int) - 1).toNat (gr p lv (bOr .i64 (D : Int) ((1 : Int) * 2 ^ k)).toNat ([] ++ [(k : Int)]) (lpK p (gr p lv) D [] m k).snd.snd).snd.fst = [] ∧ True))))) ∧ (¬(k : Int) < (p.length : Int) → ∃ (y : Unit), (lpK p (gr p lv) D [] m p.length).fst = false ∧ ((D : Int) = (D : Int) ∧ True ∧ True ∧ True ∧ True ∧ True) ∧ True ∧ True ∧ (n = n ∧ p = p ∧ mk (isF p) = mk (isF p) ∧ True) ∧ True ∧ (lpK p (gr p lv) D [] m k).snd.snd = (lpK p (gr p lv) D [] m p.length).snd.snd ∧ (True ∧ True ∧ True ∧ True ∧ True ∧ True) ∧ ([] : List Int) = [] ∧ True)) (by kernel_rfl) ?_
   simp only [zz]
   obtain ⟨k1, k2⟩ := hk
   have hl : lv + 1 = p.length := by have := hp.l; simpa using this
   have hc := hp.h.2.1
   have hD := pre_D hp
   refine ⟨fun h => ?_, fun h => by rw [show p.length = k by omega]; exact ⟨k2, rfl⟩⟩
   have hkp : k < p.length := by omega
   have hb := or_pow10 hD (k := k) (by omega)
   have hst := lpK_go k2
   rw [bit_shr hD, hb.1, Int.toNat_natCast]
   have hskip : (D / 2 ^ k % 2 = 1 ∨ flw p D k = false) → inR .i64 ((k : Int) + 1) ∧ ∃ y : Nat, (inS p (gr p lv) D [] m y ∧ p.length - y < p.length - k) ∧ (k : Int) + 1 = (y : Int) ∧ (lpK p (gr p lv) D [] m k).2.2 = (lpK p (gr p lv) D [] m y).2.2 := fun hh => by
     rw [if_pos hh] at hst
     exact ⟨by simp only [inR]; omega, k + 1, ⟨⟨by omega, by rw [hst]; exact k2⟩, by omega⟩, by omega, by rw [hst]⟩
   refine ⟨by simp only [inR]; omega, ⟨by omega, by simp only [bitsOf]; omega⟩, fun hx => hskip (.inl (by omega)), fun hx => ⟨⟨⟨hp.h, rfl⟩, ⟨by simp only; omega, by simp only; omega⟩, ⟨by simp only; omega, by simp only; omega⟩⟩, fun hx2 => hskip (.inr (by simpa using hx2)), fun hx2 => ?_⟩⟩
   have hx2 : flw p D k = true := by simpa using hx2
   rw [if_neg (by simp [hx2]; omega)] at hst
   have hlt : D ||| 2 ^ k < 2 ^ p.length := Nat.or_lt_two_pow hp.D (Nat.pow_lt_pow_right (by decide) hkp)
   have hpre : pre55 n p lv (D ||| 2 ^ k) ([] ++ [(k : Int)]) := ⟨hp.h, hlt, by simp; omega⟩
   refine ⟨by unfold sumPre; simp, by simp only [inR]; omega, ⟨⟨by omega, by simp only [bitsOf]; omega⟩, by omega, by omega⟩, ⟨⟨hp.h, rfl⟩, by simp only; omega, hpre⟩, fun hr => ?_, fun hr => ?_⟩
   · have hr : (gr p lv (D ||| 2 ^ k) ([] ++ [(k : Int)]) (lpK p (gr p lv) D [] m k).2.2).1 = true := hr
     rw [if_pos hr] at hst
     have hs := lpK_stop (k := k + 1) (by rw [hst]; exact hr) (p.length - (k + 1))
     rw [show k + 1 + (p.length - (k + 1)) = p.length by omega, hst] at hs
     have e : gr p (lv + 1) D [] m = gr p lv (D ||| 2 ^ k) ([] ++ [(k : Int)]) (lpK p (gr p lv) D [] m k).2.2 := by rw [gr, if_neg hm, hs, if_pos hr]
     rw [e]
     exact ⟨hr.symm, rfl, rfl⟩
   · have hr : (gr p lv (D ||| 2 ^ k) ([] ++ [(k : Int)]) (lpK p (gr p lv) D [] m k).2.2).1 = false := hr
     rw [if_neg (by rw [hr]; simp)] at hst
     have h2 := gr_list hr
     have q1 : inR .i64 (((gr p lv (D ||| 2 ^ k) ([] ++ [(k : Int)]) (lpK p (gr p lv) D [] m k).2.2).2.1.length : Int) - 1) := by rw [h2]; simp only [inR]; simp
     have q2 : 0 ≤ ((gr p lv (D ||| 2 ^ k) ([] ++ [(k : Int)]) (lpK p (gr p lv) D [] m k).2.2).2.1.length : Int) - 1 ∧ ((gr p lv (D ||| 2 ^ k) ([] ++ [(k : Int)]) (lpK p (gr p lv) D [] m k).2.2).2.1.length : Int) - 1 ≤ ((gr p lv (D ||| 2 ^ k) ([] ++ [(k : Int)]) (lpK p (gr p lv) D [] m k).2.2).2.1.length : Int) := by rw [h2]; simp
     have q3 : (gr p lv (D ||| 2 ^ k) ([] ++ [(k : Int)]) (lpK p (gr p lv) D [] m k).2.2).2.1.take (((gr p lv (D ||| 2 ^ k) ([] ++ [(k : Int)]) (lpK p (gr p lv) D [] m k).2.2).2.1.length : Int) - 1).toNat = [] := by rw [h2]; simp
     have q4 : (gr p lv (D ||| 2 ^ k) ([] ++ [(k : Int)]) (lpK p (gr p lv) D [] m k).2.2).2.2 = (lpK p (gr p lv) D [] m (k + 1)).2.2 := by rw [hst]
     exact ⟨q1, q2, by simp only [inR]; omega, k + 1, ⟨⟨by omega, by rw [hst]⟩, by omega⟩, by omega, q4, q3⟩
theorem call55 (lv : Nat) (n : Int) (p : List Int) (D : Nat) (m : Mm) (hp : pre55 n p (lv + 1) D []) (hD0 : D = 0) (hm : ¬ mg m D = true) : GCall Try.prog gl 55 false (aN D) (gN n p m) [.bool (gr p (lv + 1) D [] m).1] (gO n p (gr p (lv + 1) D [] m).2.1 (gr p (lv + 1) D [] m).2.2) := by
 refine gcall_of (X := (XN lv)) ((Xb_ok _ _ _ _)) (f := 55) (fn := Try.f55) (c := bodyOf Try.f55) (by kernel_rfl) (by kernel_rfl) (view := false) (rvs := [.tmp 6]) (by kernel_rfl) (H := (HN n p (gr p lv) D m)) 80 (by kernel_rfl) ?_
 have hL := loopN lv n p D m hp hD0 hm
 refine of_eq (q := True ∧ True ∧ True ∧ True ∧ True ∧ True ∧ True ∧ True ∧ True ∧ ((0 : Int) = (p.length : Int) → True ∧ True ∧ (true = (gr p (lv + 1) D [] m).fst ∧ True) ∧ False ∧ True ∧ (n = n ∧ p = p ∧ mk (isF p) = mk (isF p) ∧ True) ∧ True ∧ m = (gr p (lv + 1) D [] m).snd.snd ∧ (True ∧ True ∧ True ∧ True ∧ True ∧ True) ∧ False) ∧ (¬(0 : Int) = (p.length : Int) → True ∧ True ∧ True ∧ ((mGet I64 m (D : Int)).getD false = true → True ∧ True ∧ (false = (gr p (lv + 1) D [] m).fst ∧ True) ∧ False ∧ True ∧ (n = n ∧ p = p ∧ mk (isF p) = mk (isF p) ∧ True) ∧ True ∧ m = (gr p (lv + 1) D [] m).snd.snd ∧ (True ∧ True ∧ True ∧ True ∧ True ∧ True) ∧ False) ∧ ((mGet I64 m (D : Int)).getD false = false → True ∧ True ∧ True ∧ True ∧ True ∧ True ∧ LoopOK (XN lv) L55_0 (hN n p (gr p lv) D m) (RetR (XN lv) false false [ResultVar.tmp (6 : Tmp)] [AV.bool (gr p (lv + 1) D [] m).fst] (gO n p (gr p (lv + 1) D [] m).snd.fst (gr p (lv + 1) D [] m).snd.snd)) ∧ ((∃ (y : Nat), y = 0 ∧ ((D : Int) = (D : Int) ∧ True ∧ True ∧ True ∧ True ∧ (p.length : Int) = (p.length : Int) ∧ (0 : Int) = (y : Int) ∧ True) ∧ True ∧ True ∧ (n = n ∧ p = p ∧ mk (isF p) = mk (isF p) ∧ True) ∧ True ∧ m = m ∧ (True ∧ True ∧ True ∧ True ∧ True ∧ True) ∧ True) ∨ ∃ (y : Nat), inS p (gr p lv) D [] m y ∧ ((D : Int) = (D : Int) ∧ True ∧ True ∧ True ∧ True ∧ (p.length : Int) = (p.length : Int) ∧ (0 : Int) = (y : Int) ∧ True) ∧ False ∧ True ∧ (n = n ∧ p = p ∧ mk (isF p) = mk (isF p) ∧ True) ∧ True ∧ m = (lpK p (gr p lv) D [] m y).snd.snd ∧ (True ∧ True ∧ True ∧ True ∧ True ∧ True) ∧ False) ∧ (∀ (y : Unit), (lpK p (gr p lv) D [] m p.length).fst = false → True ∧ True ∧ True ∧ True ∧ True ∧ (false = (gr p (lv + 1) D [] m).fst ∧ True) ∧ True ∧ True ∧ (n = n ∧ p = p ∧ mk (isF p) = mk (isF p) ∧ True) ∧ True ∧ mPut I64 (lpK p (gr p lv) D [] m p.length).snd.snd (D : Int) true = (gr p (lv + 1) D [] m).snd.snd ∧ (True ∧ True ∧ True ∧ True ∧ True ∧ True) ∧ ([] : List Int) = (gr p (lv + 1) D [] m).snd.fst ∧ True) ∧ True))) (by kernel_rfl) ?_
 simp only [zz]
 have hl : lv + 1 = p.length := by have := hp.l; simpa using this
 have hg : mg m D = (mGet I64 m D).getD false := rfl
 refine ⟨fun h => by omega, fun _ => ⟨fun h => hm (by rw [hg]; exact h), fun h => ⟨hL, ⟨0, rfl, rfl⟩, fun _ hf => ?_⟩⟩⟩
 rw [gr, if_neg hm, if_neg (by simp [hf])]; exact ⟨rfl, rfl, rfl⟩
end Go.Am.Sh

/- Shells: Shell. -/
namespace Go.Am.Sh
open Go Go.Am Go.Proofs
def isNl : Ob → Bool
 | .bx (.vv _) => true
 | _ => false
abbrev G5n := Int × Cx3 × Mm
def get55n (xs : List AV) (obs : List Ob) : Option G5n :=
 match xs with
 | .int .i64 d :: _ => (match isNl (obs.getD 0 .gone), unCx (obs.getD 2 .gone), unMm (obs.getD 4 .gone) with
   | true, some x, some m => some (d, x, m)
   | _, _, _ => none)
 | _ => none
structure ok55n (x : G5n) : Prop where
 h : okC x.2.1
 d : x.1 = 0
 m : x.2.2 = []
def gNq (x : Cx3) (m : Mm) : List Ob := [.bx nl, .bx (.ptr 2 0 []), cxQ x, .bx (.mp 4), mmO m, .bx (clo55 0 1 3 5)]
def gOq (x : Cx3) (l : List Int) (m : Mm) : List Ob := [.bx (.own 6 0), .bx (.ptr 2 0 []), cxQ x, .bx (.mp 4), mmO m, .bx (clo55 0 1 3 5), .sc 0 3 I64 l]
def grow (p : List Int) : Res := gr p p.length 0 [] []
theorem call55N (n : Int) (p : List Int) (h : cxOk n p) : GCall Try.prog gl 55 false (aN 0) (gN n p []) [.bool (grow p).1] (gO n p (grow p).2.1 (grow p).2.2) := by
 have hl := h.2.1.1
 obtain ⟨lv, hlv⟩ : ∃ lv, p.length = lv + 1 := ⟨p.length - 1, by omega⟩
 have := call55 lv n p 0 [] ⟨h, by have := Nat.pow_le_pow_right (show 0 < 2 by decide) hl; omega, by simp; omega⟩ rfl (by simp [mg, mGet])
 rw [← hlv] at this
 exact this
def e55N : Entry Try.prog gl := entryW 55 ⟨Try.f55, by kernel_rfl, by kernel_rfl, by kernel_rfl⟩ true get55n ok55n false (fun x => aN x.1) (fun x => gNq x.2.1 x.2.2) (fun x => [.bool (grow x.2.1.2.1).1])
 (fun x => gOq x.2.1 (grow x.2.1.2.1).2.1 (grow x.2.1.2.1).2.2) (fun x hx => by
   have := call55N _ _ hx.h.h
   have e : gNq x.2.1 [] = gN x.2.1.1 x.2.1.2.1 [] := by unfold gNq gN; rw [cxQ_ok hx.h]
   have e2 : ∀ l m, gOq x.2.1 l m = gO x.2.1.1 x.2.1.2.1 l m := fun l m => by unfold gOq gO; rw [cxQ_ok hx.h]
   rw [hx.d, hx.m, e, e2]; exact this)
def shB (p : List Int) : Bool := pure p && (grow p).1
def shL (p : List Int) : List Int := if pure p = true then (grow p).2.1 else []
theorem call15 (n : Int) (p : List Int) (h : cxOk n p) : GCall Try.prog gl 15 true [.int .i64 n, .sl I64 p] [] [.sl I64 (shL p), .bool (shB p), .int .i64 0] [] := by
 refine gcall_of (X := X [e53, e54, e55N]) (X_ok [e53, e54, e55N]) (f := 15) (fn := Try.f15) (c := bodyOf Try.f15) (by kernel_rfl) (by kernel_rfl) (view := true) (rvs := [.tmp 4, .tmp 5, .tmp 6]) (by kernel_rfl) (H := fun _ => none) 80 (by kernel_rfl) ?_
 refine of_eq (q := True ∧ True ∧ True ∧ True ∧ True ∧ (CxP n p ∧ True) ∧ True ∧ True ∧ True ∧ True ∧ True ∧ True ∧ True ∧ True ∧ (¬(0 : Int) = 0 → True ∧ True ∧ True ∧ True ∧ True ∧ (([] : List Int) = shL p ∧ false = shB p ∧ (0 : Int) = 0 ∧ True) ∧ True) ∧ (¬¬(0 : Int) = 0 → True ∧ ((okC (n, p, mk (isF p)) ∧ (True ∧ True) ∧ (n = n ∧ p = p ∧ mk (isF p) = mk (isF p) ∧ True) ∧ True) ∧ True ∧ True) ∧ True ∧ ((!pure p) = true → True ∧ True ∧ True ∧ True ∧ (([] : List Int) = shL p ∧ false = shB p ∧ (0 : Int) = 0 ∧ True) ∧ True) ∧ ((!pure p) = false → True ∧ True ∧ True ∧ True ∧ True ∧ True ∧ True ∧ True ∧ ((ok55n ((0 : Int), (n, p, mk (isF p)), []) ∧ ((0 : Int) = 0 ∧ True ∧ True ∧ True ∧ True ∧ True) ∧ True ∧ True ∧ (n = n ∧ p = p ∧ mk (isF p) = mk (isF p) ∧ True) ∧ True ∧ ([] : List (Int × Bool)) = [] ∧ (True ∧ True ∧ True ∧ True ∧ True ∧ True) ∧ True) ∧ True ∧ True ∧ True ∧ True ∧ True ∧ True ∧ True) ∧ True ∧ True ∧ True ∧ True ∧ True ∧ True ∧ True ∧ ((grow p).snd.fst = shL p ∧ (grow p).fst = shB p ∧ (0 : Int) = 0 ∧ True) ∧ True))) (by kernel_rfl) ?_
 simp only [zz]
 refine ⟨⟨h⟩, fun h => absurd trivial h, fun _ => ⟨⟨h, rfl⟩, fun hp => ?_, fun hp => ⟨⟨⟨h, rfl⟩, rfl, rfl⟩, ?_⟩⟩⟩
 · have hp : pure p = false := by simpa using hp
   simp [shL, shB, hp]
 · have hp : pure p = true := by simpa using hp
   simp [shL, shB, hp]
end Go.Am.Sh

/- Shells: awake. -/
namespace Go.Am.Sh
open Go Go.Am Go.Proofs
def e15 : Entry Try.prog gl := entry2 15 ⟨Try.f15, by kernel_rfl, by kernel_rfl, by kernel_rfl⟩ I64 SI (fun (n : Int) p => cxOk n p) true (fun _ p => [.sl I64 (shL p), .bool (shB p), .int .i64 0]) (fun _ _ => []) (fun (n : Int) p h => call15 n p h)
def e38 : Entry Try.prog gl := entry2 38 ⟨Try.f38, by kernel_rfl, by kernel_rfl, by kernel_rfl⟩ I64 SI (fun (n : Int) p => cxOk n p) false (fun _ p => [.sl I64 (cnts p), .int .i64 0]) (fun _ _ => []) (fun (n : Int) p h => call38 n p h)
def e27 : Entry Try.prog gl := entry2 27 ⟨Try.f27, by kernel_rfl, by kernel_rfl, by kernel_rfl⟩ I64 SI (fun (n : Int) p => cxOk n p) false (fun _ p => [.sl I64 (hsL p), .int .i64 0]) (fun _ _ => []) (fun (n : Int) p h => call27 n p h)
def e30 : Entry Try.prog gl := entry2 30 ⟨Try.f30, by kernel_rfl, by kernel_rfl, by kernel_rfl⟩ I64 SI (fun (n : Int) p => cxOk n p) false (fun _ p => [.sl I64 (hoL p), .int .i64 0]) (fun _ _ => []) (fun (n : Int) p h => call30 n p h)
def e36 : Entry Try.prog gl := entry2 36 ⟨Try.f36, by kernel_rfl, by kernel_rfl, by kernel_rfl⟩ I64 SI (fun (n : Int) p => cxOk n p) false (fun (n : Int) p => [.sl I64 (fewR (grL (duaG n p))), .int .i64 (fewE (grL (duaG n p)))]) (fun _ _ => []) (fun (n : Int) p h => call36 n p h)
def e24 : Entry Try.prog gl := entry2 24 ⟨Try.f24, by kernel_rfl, by kernel_rfl, by kernel_rfl⟩ I64 I64 (fun (n d : Int) => momOk n d) true (fun (n d : Int) => [.sl I64 (momL n d), .int .i64 0]) (fun _ _ => []) (fun (n d : Int) h => call24 n d h)
instance (n : Int) (p : List Int) (k : Nat) : Decidable (goodAt n p k) := by unfold goodAt; infer_instance
instance (n : Int) (p : List Int) : Decidable (cxOk n p) := by unfold cxOk numOk; infer_instance
theorem call19 : GCall Try.prog gl 19 true [] [] [.tt] [] := by
 have f1 : cxOk 3 [3, 5, 6] := by decide +kernel
 have f2 : cxOk 3 [7] := by decide +kernel
 have f3 : cxOk 4 [3, 12] := by decide +kernel
 have f4 : cnts [3, 5, 6] = [1, 3, 3] := by kernel_rfl
 have f5 : hsL [3, 5, 6] = [1, 1, 1] := by kernel_rfl
 have f6 : hoL [3, 5, 6] = [0, 1] := by kernel_rfl
 have f7 : shL [7] = [0] := by kernel_rfl
 have f8 : fewR (grL (duaG 4 [3, 12])) = [5, 6, 9, 10] := by kernel_rfl
 have f9 : fewE (grL (duaG 4 [3, 12])) = 0 := by kernel_rfl
 refine gcall_of (X := X [e38, e27, e30, e15, e36, e24, e23]) (X_ok [e38, e27, e30, e15, e36, e24, e23]) (f := 19) (fn := Try.f19) (c := bodyOf Try.f19) (by kernel_rfl) (by kernel_rfl) (view := false) (rvs := [.tmp 0]) (by kernel_rfl) (H := fun _ => none) 200 (by kernel_rfl) ?_
 refine of_eq (q := True ∧ True ∧ ((numOk (3 : Int) ∧ ((1 : Nat) ≤ [(3 : Int), (5 : Int), (6 : Int)].length ∧ [(3 : Int), (5 : Int), (6 : Int)].length ≤ 10) ∧ ∀ (k : Nat), k < [(3 : Int), (5 : Int), (6 : Int)].length → goodAt (3 : Int) [(3 : Int), (5 : Int), (6 : Int)] k) ∧ True) ∧ True ∧ True ∧ True ∧ True ∧ True ∧ True ∧ ((numOk (3 : Int) ∧ ((1 : Nat) ≤ [(3 : Int), (5 : Int), (6 : Int)].length ∧ [(3 : Int), (5 : Int), (6 : Int)].length ≤ 10) ∧ ∀ (k : Nat), k < [(3 : Int), (5 : Int), (6 : Int)].length → goodAt (3 : Int) [(3 : Int), (5 : Int), (6 : Int)] k) ∧ True) ∧ True ∧ True ∧ True ∧ True ∧ True ∧ True ∧ ((numOk (3 : Int) ∧ ((1 : Nat) ≤ [(3 : Int), (5 : Int), (6 : Int)].length ∧ [(3 : Int), (5 : Int), (6 : Int)].length ≤ 10) ∧ ∀ (k : Nat), k < [(3 : Int), (5 : Int), (6 : Int)].length → goodAt (3 : Int) [(3 : Int), (5 : Int), (6 : Int)] k) ∧ True) ∧ True ∧ True ∧ True ∧ True ∧ True ∧ True ∧ ((numOk (3 : Int) ∧ ((1 : Nat) ≤ [(7 : Int)].length ∧ [(7 : Int)].length ≤ 10) ∧ ∀ (k : Nat), k < [(7 : Int)].length → goodAt (3 : Int) [(7 : Int)] k) ∧ True) ∧ True ∧ True ∧ True ∧ True ∧ True ∧ True ∧ True ∧ True ∧ ((numOk (4 : Int) ∧ ((1 : Nat) ≤ [(3 : Int), (12 : Int)].length ∧ [(3 : Int), (12 : Int)].length ≤ 10) ∧ ∀ (k : Nat), k < [(3 : Int), (12 : Int)].length → goodAt (4 : Int) [(3 : Int), (12 : Int)] k) ∧ True) ∧ True ∧ True ∧ True ∧ True ∧ True ∧ (((2 : Int) ≤ 3 ∧ (3 : Int) < 5 ∧ (5 : Int) ≤ 6) ∧ True) ∧ True ∧ True ∧ True ∧ True ∧ True ∧ True ∧ True ∧ True ∧ ((0 : Int) = 0 → True ∧ True ∧ ((cnts [(3 : Int), (5 : Int), (6 : Int)]).length + 1 ≤ 1000000000000000 ∧ True) ∧ True ∧ True ∧ (true = true → True ∧ True ∧ True ∧ True ∧ ((0 : Int) = 0 → True ∧ True ∧ ((hsL [(3 : Int), (5 : Int), (6 : Int)]).length + 1 ≤ 1000000000000000 ∧ True) ∧ True ∧ True ∧ (true = true → True ∧ True ∧ True ∧ True ∧ ((0 : Int) = 0 → True ∧ True ∧ ((hoL [(3 : Int), (5 : Int), (6 : Int)]).length + 1 ≤ 1000000000000000 ∧ True) ∧ True ∧ True ∧ (true = true → True ∧ True ∧ True ∧ True ∧ ((0 : Int) = 0 → True ∧ True ∧ True ∧ (true = true → True ∧ True ∧ ((shL [(7 : Int)]).length + 1 ≤ 1000000000000000 ∧ True) ∧ True ∧ True ∧ (true = true → True ∧ True ∧ True ∧ True ∧ (fewE (grL (duaG (4 : Int) [(3 : Int), (12 : Int)])) = 0 → True ∧ True ∧ ((fewR (grL (duaG (4 : Int) [(3 : Int), (12 : Int)]))).length + 1 ≤ 1000000000000000 ∧ True) ∧ True ∧ True ∧ (true = true → True ∧ True ∧ True ∧ True ∧ ((0 : Int) = 0 → True ∧ True ∧ True ∧ True ∧ True ∧ True ∧ (true = true ∧ True) ∧ True) ∧ (¬(0 : Int) = 0 → True ∧ True ∧ True ∧ (false = true ∧ True) ∧ True)) ∧ (true = false → True ∧ True ∧ True ∧ True ∧ True ∧ (false = true ∧ True) ∧ True)) ∧ (¬fewE (grL (duaG (4 : Int) [(3 : Int), (12 : Int)])) = 0 → True ∧ True ∧ True ∧ True ∧ True ∧ True ∧ True ∧ (false = true ∧ True) ∧ True)) ∧ (true = false → True ∧ True ∧ True ∧ True ∧ True ∧ True ∧ True ∧ True ∧ True ∧ (false = true ∧ True) ∧ True)) ∧ (true = false → True ∧ True ∧ True ∧ True ∧ True ∧ True ∧ True ∧ True ∧ True ∧ True ∧ True ∧ (false = true ∧ True) ∧ True)) ∧ (¬(0 : Int) = 0 → True ∧ True ∧ True ∧ True ∧ True ∧ True ∧ True ∧ True ∧ True ∧ True ∧ True ∧ True ∧ True ∧ (false = true ∧ True) ∧ True)) ∧ (true = false → True ∧ True ∧ True ∧ True ∧ True ∧ True ∧ True ∧ True ∧ True ∧ True ∧ True ∧ True ∧ True ∧ True ∧ True ∧ (false = true ∧ True) ∧ True)) ∧ (¬(0 : Int) = 0 → True ∧ True ∧ True ∧ True ∧ True ∧ True ∧ True ∧ True ∧ True ∧ True ∧ True ∧ True ∧ True ∧ True ∧ True ∧ True ∧ True ∧ (false = true ∧ True) ∧ True)) ∧ (true = false → True ∧ True ∧ True ∧ True ∧ True ∧ True ∧ True ∧ True ∧ True ∧ True ∧ True ∧ True ∧ True ∧ True ∧ True ∧ True ∧ True ∧ True ∧ True ∧ (false = true ∧ True) ∧ True)) ∧ (¬(0 : Int) = 0 → True ∧ True ∧ True ∧ True ∧ True ∧ True ∧ True ∧ True ∧ True ∧ True ∧ True ∧ True ∧ True ∧ True ∧ True ∧ True ∧ True ∧ True ∧ True ∧ True ∧ True ∧ (false = true ∧ True) ∧ True)) ∧ (true = false → True ∧ True ∧ True ∧ True ∧ True ∧ True ∧ True ∧ True ∧ True ∧ True ∧ True ∧ True ∧ True ∧ True ∧ True ∧ True ∧ True ∧ True ∧ True ∧ True ∧ True ∧ True ∧ True ∧ (false = true ∧ True) ∧ True)) ∧ (¬(0 : Int) = 0 → True ∧ True ∧ True ∧ True ∧ True ∧ True ∧ True ∧ True ∧ True ∧ True ∧ True ∧ True ∧ True ∧ True ∧ True ∧ True ∧ True ∧ True ∧ True ∧ True ∧ True ∧ True ∧ True ∧ True ∧ True ∧ (false = true ∧ True) ∧ True)) (by kernel_rfl) ?_
 rw [f4, f5, f6, f7, f8, f9]
 simp
 exact ⟨⟨f1.1, f1.2.2⟩, ⟨f2.1, f2.2.2 0 (by decide)⟩, f3.1, f3.2.2⟩
def e19 : Entry Try.prog gl where
 f := 19
 lend := false
 en := ⟨Try.f19, by kernel_rfl, by kernel_rfl, by kernel_rfl⟩
 go := fun args ob0 => match args, ob0 with
   | [], [] => some (True, true, [.tt], [])
   | _, _ => none
 ok := by
   intro args ob0 p s r o h hp
   split at h <;> try (cases h; done)
   injection h with h; injection h with h1 h2; injection h2 with h2 h3; injection h3 with h3 h4
   subst h1 h2 h3 h4
   exact call19
end Go.Am.Sh

/- Shells: the reference's shellings. -/
namespace Go.Am.Sh
open Go Go.Am Go.Proofs
def puN (p : List Int) (k : Nat) : Prop := ∀ i, i < k → pc (p.getD i 0).toNat = pc (p.getD 0 0).toNat
instance (p k) : Decidable (puN p k) := by unfold puN; infer_instance
def puB (p : List Int) : Bool := decide (puN p p.length)
structure ok10 (p : List Int) : Prop where
 h : okL p
 l : p.length ≤ 10
def fnd (p : List Int) (D s e : Nat) : Nat → Bool
 | 0 => false
 | g + 1 => fnd p D s e g || (decide (D / 2 ^ g % 2 = 1) && decide (pc (mns s (p.getD g 0).toNat) = 1) && decide (mns s (p.getD g 0).toNat &&& e = 0))
def nxN (p : List Int) (D i k : Nat) : Prop := ∀ e, e < k → D / 2 ^ e % 2 = 1 → fnd p D (p.getD i 0).toNat (p.getD e 0).toNat p.length = true
instance (p D i k) : Decidable (nxN p D i k) := by unfold nxN; infer_instance
def nxB (p : List Int) (D i : Nat) : Bool := decide (nxN p D i p.length)
theorem bit_tmod {D k : Nat} : ((D : Int) / 2 ^ k).tmod 2 = ((D / 2 ^ k % 2 : Nat) : Int) := by
 have e : (2 ^ k : Int) = ((2 ^ k : Nat) : Int) := by rw [Int.natCast_pow]; try rfl
 rw [e]
 generalize 2 ^ k = P
 have e1 : (D : Int) / (P : Int) = ((D / P : Nat) : Int) := by rw [Int.natCast_ediv]
 rw [e1, Int.tmod_eq_emod_of_nonneg (Int.natCast_nonneg _)]
 omega
structure ok57 (p : List Int) (D i : Int) : Prop where
 h : ok10 p
 D : 0 ≤ D ∧ D < 1024
 i : 0 ≤ i ∧ i < p.length
def sgB (p : List Int) (i : Int) : Bool := decide (0 ≤ i ∧ i < p.length)
/-- The set of the first k pieces of an order, if they are a shelling so far. -/
def sgK (p o : List Int) : Nat → Option Nat
 | 0 => some 0
 | k + 1 => (sgK p o k).bind fun D => if sgB p (o.getD k 0) = true ∧ D / 2 ^ (o.getD k 0).toNat % 2 = 0 ∧ nxB p D (o.getD k 0).toNat = true then some (D ||| 2 ^ (o.getD k 0).toNat) else none
def sgR (p o : List Int) : Bool := (sgK p o o.length).isSome && decide (o.length = p.length) && puB p
end Go.Am.Sh

/- Shells: the reference's Check. -/
namespace Go.Am.Sh
open Go Go.Am Go.Proofs
theorem pow_le6 {n : Int} (h : numOk n) : (2 ^ n.toNat : Int) ≤ 64 := by
 obtain ⟨e1, e2, e3⟩ := numOk_pow h
 omega
theorem sub_and {a b : Int} (ha : 0 ≤ a ∧ a < 64) (hb : 0 ≤ b ∧ b < 64) : (bAnd .i64 a b = a) ↔ sub a.toNat b.toNat = true := by
 have : bAnd .i64 a b = ((a.toNat &&& b.toNat : Nat) : Int) := by rw [← bAnd_nat (by omega) (by omega), Int.toNat_of_nonneg ha.1, Int.toNat_of_nonneg hb.1]
 rw [this]
 unfold sub
 constructor
 · intro h
   have : a.toNat &&& b.toNat = a.toNat := by omega
   rw [this]; exact Nat.beq_refl _
 · intro h
   have := Nat.eq_of_beq_eq_true h
   omega
end Go.Am.Sh

/- Shells: the law of the moment complexes. -/
namespace Go.Am.Sh
open Go Go.Am Go.Proofs
/-- How many of a list have all of a set. -/
def cntM (x : Nat) (p : List Int) (j : Nat) : Nat := ((p.take j).filter fun s => decide (mns x s.toNat = 0)).length
structure mf (n d : Int) : Prop where
 m : momOk n d
 len : 1 ≤ (momL n d).length ∧ (momL n d).length ≤ 10
 hl : ((hsL (momL n d)).length : Int) = d + 1
 hs : ∀ k, k < d.toNat + 1 → (hsL (momL n d)).getD k 0 = (hsL (momL n d)).getD (d.toNat - k) 0
 sh : shB (momL n d) = true
 sg : sgR (momL n d) (shL (momL n d)) = true
 sl : (shL (momL n d)).length ≤ 10
 two : ∀ k, k < (fcs (momL n d)).length → (pc ((fcs (momL n d)).getD k 0).toNat : Int) = d - 1 → cntM ((fcs (momL n d)).getD k 0).toNat (momL n d) (momL n d).length = 2
instance (n d : Int) : Decidable (momOk n d) := by unfold momOk; infer_instance
theorem u64_nn (n : Int) : 0 ≤ modU .u64 n := by
 show 0 ≤ n % 18446744073709551616
 omega
end Go.Am.Sh

/- Shells: the reference's Pieces. -/
namespace Go.Am.Sh
open Go Go.Am Go.Proofs
/-- Set x is one of the first k of a list. -/
def inK (s : List Int) (x : Nat) : Nat → Bool
 | 0 => false
 | k + 1 => inK s x k || decide (s.getD k 0 = x)
/-- Set x is no part of another of the first k. -/
def mxS (s : List Int) (x : Nat) : Nat → Bool
 | 0 => true
 | k + 1 => mxS s x k && (decide (s.getD k 0 = x) || !sub x (s.getD k 0).toNat)
def pieB (s : List Int) (x : Nat) : Bool := inK s x s.length && mxS s x s.length
def pieL (s : List Int) : List Int := trueN (pieB s) 64
structure ok22 (s : List Int) : Prop where
 h : okL s
 l : s.length < 1000000
noncomputable def L22_0 : Code := lp (bodyOf Try.f22) 0
noncomputable def L22_2 : Code := lp (bodyOf Try.f22) 2
def sz22 (s : List Int) (k : Nat) : St := ⟨.sl I64 s :: dd 2 ++ nl :: .int .i64 k :: dd 49, []⟩
def jz22 (s : List Int) (k i : Nat) : St := ⟨.sl I64 s :: dd 2 ++ nl :: .int .i64 k :: .bool (inK s k i) :: .bool (mxS s k i) :: .int .i64 i :: dd 46, []⟩
def ejz22 (s : List Int) (k : Nat) : List (List Nat × Ex) := [([0, 3, 4, 5, 6], ⟨2, Unit, fun _ => True, fun _ => ⟨.sl I64 s :: dd 2 ++ nl :: .int .i64 k :: .bool (inK s k s.length) :: .bool (mxS s k s.length) :: dd 47, []⟩⟩)]
def hz22 (s : List Int) (k : Nat) : Hint := ⟨chk 0 [0, 3, 4, 5, 6, 7] (fun i => i ≤ s.length) (jz22 s k), (ejz22 s k).map (·.2)⟩
theorem loop22z (s : List Int) (k : Nat) (h : ok22 s) (hk : k < 64) (R : Exit → St → Prop) : LoopOK (X [e63]) L22_2 (hz22 s k) R := by
 refine loop_ok (X_ok _) (H := fun _ _ => none) [0, 3, 4, 5, 6, 7] (fun i => i ≤ s.length) (jz22 s k) (fun i => s.length - i) (ejz22 s k) 150 fun (i : Nat) hi => ?_
 refine of_eq (q := True ∧ True ∧ True ∧ True ∧ ((i : Int) < (s.length : Int) → True ∧ True ∧ (inK s k i = true → True ∧ True ∧ True ∧ True ∧ (mxS s k i = true → True ∧ True ∧ idxPre (i : Int) s.length ∧ True ∧ True ∧ True ∧ True ∧ (s.getD i (0 : Int) = (k : Int) → True ∧ True ∧ True ∧ True ∧ inR .i64 ((i : Int) + 1) ∧ True ∧ ∃ (y : Nat), (y ≤ s.length ∧ s.length - y < s.length - i) ∧ (s = s ∧ True ∧ (k : Int) = (k : Int) ∧ true = inK s k y ∧ true = mxS s k y ∧ (i : Int) + 1 = (y : Int) ∧ True) ∧ True) ∧ (¬s.getD i (0 : Int) = (k : Int) → True ∧ True ∧ True ∧ idxPre (i : Int) s.length ∧ True ∧ ((((0 : Int) ≤ (k : Int) ∧ (k : Int) < 64) ∧ (0 : Int) ≤ s.getD i (0 : Int) ∧ s.getD i (0 : Int) < 64) ∧ True) ∧ True ∧ True ∧ True ∧ True ∧ True ∧ inR .i64 ((i : Int) + 1) ∧ True ∧ ∃ (y : Nat), (y ≤ s.length ∧ s.length - y < s.length - i) ∧ (s = s ∧ True ∧ (k : Int) = (k : Int) ∧ true = inK s k y ∧ (!sub k (Int.toNat (s.getD i (0 : Int)))) = mxS s k y ∧ (i : Int) + 1 = (y : Int) ∧ True) ∧ True)) ∧ (mxS s k i = false → True ∧ True ∧ True ∧ inR .i64 ((i : Int) + 1) ∧ True ∧ ∃ (y : Nat), (y ≤ s.length ∧ s.length - y < s.length - i) ∧ (s = s ∧ True ∧ (k : Int) = (k : Int) ∧ true = inK s k y ∧ false = mxS s k y ∧ (i : Int) + 1 = (y : Int) ∧ True) ∧ True)) ∧ (inK s k i = false → True ∧ True ∧ idxPre (i : Int) s.length ∧ True ∧ True ∧ True ∧ True ∧ True ∧ True ∧ True ∧ (mxS s k i = true → True ∧ True ∧ idxPre (i : Int) s.length ∧ True ∧ True ∧ True ∧ True ∧ (s.getD i (0 : Int) = (k : Int) → True ∧ True ∧ True ∧ True ∧ inR .i64 ((i : Int) + 1) ∧ True ∧ ∃ (y : Nat), (y ≤ s.length ∧ s.length - y < s.length - i) ∧ (s = s ∧ True ∧ (k : Int) = (k : Int) ∧ decide (s.getD i (0 : Int) = (k : Int)) = inK s k y ∧ true = mxS s k y ∧ (i : Int) + 1 = (y : Int) ∧ True) ∧ True) ∧ (¬s.getD i (0 : Int) = (k : Int) → True ∧ True ∧ True ∧ idxPre (i : Int) s.length ∧ True ∧ ((((0 : Int) ≤ (k : Int) ∧ (k : Int) < 64) ∧ (0 : Int) ≤ s.getD i (0 : Int) ∧ s.getD i (0 : Int) < 64) ∧ True) ∧ True ∧ True ∧ True ∧ True ∧ True ∧ inR .i64 ((i : Int) + 1) ∧ True ∧ ∃ (y : Nat), (y ≤ s.length ∧ s.length - y < s.length - i) ∧ (s = s ∧ True ∧ (k : Int) = (k : Int) ∧ decide (s.getD i (0 : Int) = (k : Int)) = inK s k y ∧ (!sub k (Int.toNat (s.getD i (0 : Int)))) = mxS s k y ∧ (i : Int) + 1 = (y : Int) ∧ True) ∧ True)) ∧ (mxS s k i = false → True ∧ True ∧ True ∧ inR .i64 ((i : Int) + 1) ∧ True ∧ ∃ (y : Nat), (y ≤ s.length ∧ s.length - y < s.length - i) ∧ (s = s ∧ True ∧ (k : Int) = (k : Int) ∧ decide (s.getD i (0 : Int) = (k : Int)) = inK s k y ∧ false = mxS s k y ∧ (i : Int) + 1 = (y : Int) ∧ True) ∧ True))) ∧ (¬(i : Int) < (s.length : Int) → ∃ (y : Unit), True ∧ (s = s ∧ True ∧ (k : Int) = (k : Int) ∧ inK s k i = inK s k s.length ∧ mxS s k i = mxS s k s.length ∧ True) ∧ True)) (by kernel_rfl) ?_
 simp only [zz]
 have hi : i ≤ s.length := hi
 obtain ⟨q1, q2⟩ := okL_get h.h i
 have hl := h.l
 refine ⟨fun hlt => ?_, fun hlt => by rw [show s.length = i by omega]; exact ⟨rfl, rfl⟩⟩
 have hx : idxPre (i : Int) s.length := idx_nat (by omega)
 have hn : ∀ b c, b = inK s k (i + 1) → c = mxS s k (i + 1) → inR .i64 ((i : Int) + 1) ∧ ∃ y : Nat, (y ≤ s.length ∧ s.length - y < s.length - i) ∧ b = inK s k y ∧ c = mxS s k y ∧ (i : Int) + 1 = (y : Int) := fun b c hb hc => ⟨by simp only [inR]; omega, i + 1, by omega, hb, hc, by omega⟩
 have hr : (0 ≤ (k : Int) ∧ (k : Int) < 64) ∧ 0 ≤ s.getD i 0 ∧ s.getD i 0 < 64 := ⟨⟨by omega, by omega⟩, q1, q2⟩
 refine ⟨fun hI => ⟨fun hM => ⟨hx, fun he => hn _ _ ?_ ?_, fun he => ⟨hx, hr, hn _ _ ?_ ?_⟩⟩, fun hM => hn _ _ ?_ ?_⟩, fun hI => ⟨hx, fun hM => ⟨hx, fun he => hn _ _ ?_ ?_, fun he => ⟨hx, hr, hn _ _ ?_ ?_⟩⟩, fun hM => hn _ _ ?_ ?_⟩⟩
 · rw [inK, hI]; try rfl
 · rw [mxS, hM, decide_eq_true he]; try rfl
 · rw [inK, hI]; try rfl
 · rw [mxS, hM, decide_eq_false he]; try rfl
 · rw [inK, hI]; try rfl
 · rw [mxS, hM]; try rfl
 · rw [inK, hI]; try rfl
 · rw [mxS, hM, decide_eq_true he]; try rfl
 · rw [inK, hI]; try rfl
 · rw [mxS, hM, decide_eq_false he]; try rfl
 · rw [inK, hI]; try rfl
 · rw [mxS, hM]; try rfl
def st22 (s : List Int) (k : Nat) : St := ⟨.sl I64 s :: dd 2 ++ .own 0 0 :: .int .i64 k :: dd 49, [.sc 0 3 I64 (trueN (pieB s) k)]⟩
def jt22 (s : List Int) (k i : Nat) : St := ⟨.sl I64 s :: dd 2 ++ .own 0 0 :: .int .i64 k :: .bool (inK s k i) :: .bool (mxS s k i) :: .int .i64 i :: dd 46, [.sc 0 3 I64 (trueN (pieB s) k)]⟩
def ejt22 (s : List Int) (k : Nat) : List (List Nat × Ex) := [([0, 3, 4, 5, 6], ⟨2, Unit, fun _ => True, fun _ => ⟨.sl I64 s :: dd 2 ++ .own 0 0 :: .int .i64 k :: .bool (inK s k s.length) :: .bool (mxS s k s.length) :: dd 47, [.sc 0 3 I64 (trueN (pieB s) k)]⟩⟩)]
def ht22 (s : List Int) (k : Nat) : Hint := ⟨chk 0 [0, 3, 4, 5, 6, 7] (fun i => i ≤ s.length) (jt22 s k), (ejt22 s k).map (·.2)⟩
theorem loop22t (s : List Int) (k : Nat) (h : ok22 s) (hk : k < 64) (R : Exit → St → Prop) : LoopOK (X [e63]) L22_2 (ht22 s k) R := by
 refine loop_ok (X_ok _) (H := fun _ _ => none) [0, 3, 4, 5, 6, 7] (fun i => i ≤ s.length) (jt22 s k) (fun i => s.length - i) (ejt22 s k) 150 fun (i : Nat) hi => ?_
 refine of_eq (q := True ∧ True ∧ True ∧ True ∧ ((i : Int) < (s.length : Int) → True ∧ True ∧ (inK s k i = true → True ∧ True ∧ True ∧ True ∧ (mxS s k i = true → True ∧ True ∧ idxPre (i : Int) s.length ∧ True ∧ True ∧ True ∧ True ∧ (s.getD i (0 : Int) = (k : Int) → True ∧ True ∧ True ∧ True ∧ inR .i64 ((i : Int) + 1) ∧ True ∧ ∃ (y : Nat), (y ≤ s.length ∧ s.length - y < s.length - i) ∧ (s = s ∧ True ∧ (k : Int) = (k : Int) ∧ true = inK s k y ∧ true = mxS s k y ∧ (i : Int) + 1 = (y : Int) ∧ True) ∧ trueN (pieB s) k = trueN (pieB s) k ∧ True) ∧ (¬s.getD i (0 : Int) = (k : Int) → True ∧ True ∧ True ∧ idxPre (i : Int) s.length ∧ True ∧ ((((0 : Int) ≤ (k : Int) ∧ (k : Int) < 64) ∧ (0 : Int) ≤ s.getD i (0 : Int) ∧ s.getD i (0 : Int) < 64) ∧ True) ∧ True ∧ True ∧ True ∧ True ∧ True ∧ inR .i64 ((i : Int) + 1) ∧ True ∧ ∃ (y : Nat), (y ≤ s.length ∧ s.length - y < s.length - i) ∧ (s = s ∧ True ∧ (k : Int) = (k : Int) ∧ true = inK s k y ∧ (!sub k (Int.toNat (s.getD i (0 : Int)))) = mxS s k y ∧ (i : Int) + 1 = (y : Int) ∧ True) ∧ trueN (pieB s) k = trueN (pieB s) k ∧ True)) ∧ (mxS s k i = false → True ∧ True ∧ True ∧ inR .i64 ((i : Int) + 1) ∧ True ∧ ∃ (y : Nat), (y ≤ s.length ∧ s.length - y < s.length - i) ∧ (s = s ∧ True ∧ (k : Int) = (k : Int) ∧ true = inK s k y ∧ false = mxS s k y ∧ (i : Int) + 1 = (y : Int) ∧ True) ∧ trueN (pieB s) k = trueN (pieB s) k ∧ True)) ∧ (inK s k i = false → True ∧ True ∧ idxPre (i : Int) s.length ∧ True ∧ True ∧ True ∧ True ∧ True ∧ True ∧ True ∧ (mxS s k i = true → True ∧ True ∧ idxPre (i : Int) s.length ∧ True ∧ True ∧ True ∧ True ∧ (s.getD i (0 : Int) = (k : Int) → True ∧ True ∧ True ∧ True ∧ inR .i64 ((i : Int) + 1) ∧ True ∧ ∃ (y : Nat), (y ≤ s.length ∧ s.length - y < s.length - i) ∧ (s = s ∧ True ∧ (k : Int) = (k : Int) ∧ decide (s.getD i (0 : Int) = (k : Int)) = inK s k y ∧ true = mxS s k y ∧ (i : Int) + 1 = (y : Int) ∧ True) ∧ trueN (pieB s) k = trueN (pieB s) k ∧ True) ∧ (¬s.getD i (0 : Int) = (k : Int) → True ∧ True ∧ True ∧ idxPre (i : Int) s.length ∧ True ∧ ((((0 : Int) ≤ (k : Int) ∧ (k : Int) < 64) ∧ (0 : Int) ≤ s.getD i (0 : Int) ∧ s.getD i (0 : Int) < 64) ∧ True) ∧ True ∧ True ∧ True ∧ True ∧ True ∧ inR .i64 ((i : Int) + 1) ∧ True ∧ ∃ (y : Nat), (y ≤ s.length ∧ s.length - y < s.length - i) ∧ (s = s ∧ True ∧ (k : Int) = (k : Int) ∧ decide (s.getD i (0 : Int) = (k : Int)) = inK s k y ∧ (!sub k (Int.toNat (s.getD i (0 : Int)))) = mxS s k y ∧ (i : Int) + 1 = (y : Int) ∧ True) ∧ trueN (pieB s) k = trueN (pieB s) k ∧ True)) ∧ (mxS s k i = false → True ∧ True ∧ True ∧ inR .i64 ((i : Int) + 1) ∧ True ∧ ∃ (y : Nat), (y ≤ s.length ∧ s.length - y < s.length - i) ∧ (s = s ∧ True ∧ (k : Int) = (k : Int) ∧ decide (s.getD i (0 : Int) = (k : Int)) = inK s k y ∧ false = mxS s k y ∧ (i : Int) + 1 = (y : Int) ∧ True) ∧ trueN (pieB s) k = trueN (pieB s) k ∧ True))) ∧ (¬(i : Int) < (s.length : Int) → ∃ (y : Unit), True ∧ (s = s ∧ True ∧ (k : Int) = (k : Int) ∧ inK s k i = inK s k s.length ∧ mxS s k i = mxS s k s.length ∧ True) ∧ trueN (pieB s) k = trueN (pieB s) k ∧ True)) (by kernel_rfl) ?_
 simp only [zz]
 have hi : i ≤ s.length := hi
 obtain ⟨q1, q2⟩ := okL_get h.h i
 have hl := h.l
 refine ⟨fun hlt => ?_, fun hlt => by rw [show s.length = i by omega]; exact ⟨rfl, rfl⟩⟩
 have hx : idxPre (i : Int) s.length := idx_nat (by omega)
 have hn : ∀ b c, b = inK s k (i + 1) → c = mxS s k (i + 1) → inR .i64 ((i : Int) + 1) ∧ ∃ y : Nat, (y ≤ s.length ∧ s.length - y < s.length - i) ∧ b = inK s k y ∧ c = mxS s k y ∧ (i : Int) + 1 = (y : Int) := fun b c hb hc => ⟨by simp only [inR]; omega, i + 1, by omega, hb, hc, by omega⟩
 have hr : (0 ≤ (k : Int) ∧ (k : Int) < 64) ∧ 0 ≤ s.getD i 0 ∧ s.getD i 0 < 64 := ⟨⟨by omega, by omega⟩, q1, q2⟩
 refine ⟨fun hI => ⟨fun hM => ⟨hx, fun he => hn _ _ ?_ ?_, fun he => ⟨hx, hr, hn _ _ ?_ ?_⟩⟩, fun hM => hn _ _ ?_ ?_⟩, fun hI => ⟨hx, fun hM => ⟨hx, fun he => hn _ _ ?_ ?_, fun he => ⟨hx, hr, hn _ _ ?_ ?_⟩⟩, fun hM => hn _ _ ?_ ?_⟩⟩
 · rw [inK, hI]; try rfl
 · rw [mxS, hM, decide_eq_true he]; try rfl
 · rw [inK, hI]; try rfl
 · rw [mxS, hM, decide_eq_false he]; try rfl
 · rw [inK, hI]; try rfl
 · rw [mxS, hM]; try rfl
 · rw [inK, hI]; try rfl
 · rw [mxS, hM, decide_eq_true he]; try rfl
 · rw [inK, hI]; try rfl
 · rw [mxS, hM, decide_eq_false he]; try rfl
 · rw [inK, hI]; try rfl
 · rw [mxS, hM]; try rfl
noncomputable def fm22 (s : List Int) : List Fam := [⟨Nat, fun k => k ≤ 64 ∧ trueN (pieB s) k = [], sz22 s, fun k => 64 - k, fun k _ => some (hz22 s k)⟩, ⟨Nat, fun k => k ≤ 64, st22 s, fun k => 64 - k, fun k _ => some (ht22 s k)⟩]
def ex22 (s : List Int) : List (List Nat × Ex) := [([3], ⟨0, Unit, fun _ => pieL s = [], fun _ => ⟨dd 3 ++ nl :: dd 50, []⟩⟩), ([3], ⟨0, Unit, fun _ => True, fun _ => ⟨dd 3 ++ .own 0 0 :: dd 50, [.sc 0 3 I64 (pieL s)]⟩⟩)]
noncomputable def H22 (s : List Int) : Nat → Option Hint := fun _ => some ⟨chks 0 [0, 3, 4] (fm22 s), (ex22 s).map (·.2)⟩
theorem loop22 (s : List Int) (h : ok22 s) (R : Exit → St → Prop) : LoopOK (X [e63]) L22_0 ⟨chks 0 [0, 3, 4] (fm22 s), (ex22 s).map (·.2)⟩ R := by
 refine loop_fams (X_ok _) [0, 3, 4] (fm22 s) (ex22 s) 150 ⟨fun (k : Nat) hk => ?_, fun (k : Nat) hk => ?_, trivial⟩
 · have hL := fun hk => loop22z s k h hk
   refine of_eq (q := True ∧ True ∧ ((k : Int) < 64 → True ∧ True ∧ True ∧ LoopOK (X [e63]) L22_2 (hz22 s k) (bodyR (X [e63]).m0 (ex22 s) R) ∧ (∃ (y : Nat), y ≤ s.length ∧ (s = s ∧ True ∧ (k : Int) = (k : Int) ∧ false = inK s k y ∧ true = mxS s k y ∧ (0 : Int) = (y : Int) ∧ True) ∧ True) ∧ (∀ (y : Unit), True → True ∧ True ∧ (inK s k s.length = true → True ∧ True ∧ (mxS s k s.length = true → True ∧ True ∧ True ∧ sumPre (0 : Nat) [(k : Int)].length (nat_lit 8) ∧ True ∧ True ∧ inR .i64 ((k : Int) + 1) ∧ True ∧ ((∃ (y : Nat), ((y ≤ 64 ∧ trueN (pieB s) y = []) ∧ (64 : Nat) - y < 64 - k) ∧ (s = s ∧ False ∧ (k : Int) + 1 = (y : Int) ∧ True) ∧ True) ∨ ∃ (y : Nat), (y ≤ 64 ∧ (64 : Nat) - y < 64 - k) ∧ (s = s ∧ True ∧ (k : Int) + 1 = (y : Int) ∧ True) ∧ [(k : Int)] = trueN (pieB s) y ∧ True)) ∧ (mxS s k s.length = false → True ∧ inR .i64 ((k : Int) + 1) ∧ True ∧ ((∃ (y : Nat), ((y ≤ 64 ∧ trueN (pieB s) y = []) ∧ (64 : Nat) - y < 64 - k) ∧ (s = s ∧ True ∧ (k : Int) + 1 = (y : Int) ∧ True) ∧ True) ∨ ∃ (y : Nat), (y ≤ 64 ∧ (64 : Nat) - y < 64 - k) ∧ (s = s ∧ False ∧ (k : Int) + 1 = (y : Int) ∧ True) ∧ False))) ∧ (inK s k s.length = false → True ∧ True ∧ inR .i64 ((k : Int) + 1) ∧ True ∧ ((∃ (y : Nat), ((y ≤ 64 ∧ trueN (pieB s) y = []) ∧ (64 : Nat) - y < 64 - k) ∧ (s = s ∧ True ∧ (k : Int) + 1 = (y : Int) ∧ True) ∧ True) ∨ ∃ (y : Nat), (y ≤ 64 ∧ (64 : Nat) - y < 64 - k) ∧ (s = s ∧ False ∧ (k : Int) + 1 = (y : Int) ∧ True) ∧ False))) ∧ True) ∧ (¬(k : Int) < 64 → (∃ (y : Unit), pieL s = [] ∧ (True ∧ True) ∧ True) ∨ ∃ (y : Unit), True ∧ (False ∧ True) ∧ False)) (by kernel_rfl) ?_
   simp only [zz]
   obtain ⟨k1, k2⟩ := hk
   have hf : k < 64 → pieB s k = false → inR .i64 ((k : Int) + 1) ∧ ∃ y : Nat, ((y ≤ 64 ∧ trueN (pieB s) y = []) ∧ 64 - y < 64 - k) ∧ (k : Int) + 1 = (y : Int) := fun h3 hb => ⟨by simp only [inR]; omega, k + 1, ⟨⟨by omega, by rw [trueN, hb, k2]; rfl⟩, by omega⟩, by omega⟩
   have hz : ∃ y : Nat, y ≤ s.length ∧ false = inK s k y ∧ true = mxS s k y ∧ (0 : Int) = (y : Int) := ⟨0, Nat.zero_le _, rfl, rfl, rfl⟩
   refine ⟨fun h3 => ⟨hL (by omega) _, hz, fun _ _ => ⟨fun hI => ⟨fun hM => ⟨by unfold sumPre; simp, by simp only [inR]; omega, k + 1, by omega, by omega, ?_⟩, fun hM => hf (by omega) ?_⟩, fun hI => hf (by omega) ?_⟩⟩, fun h3 => ?_⟩
   · have hb : pieB s k = true := by unfold pieB; rw [hI, hM]; try rfl
     rw [trueN, if_pos hb, k2]; try rfl
   · unfold pieB; rw [hI, hM]; try rfl
   · unfold pieB; rw [hI]; try rfl
   · unfold pieL; rw [show 64 = k by omega, k2]
 · have hL := fun hk => loop22t s k h hk
   refine of_eq (q := True ∧ True ∧ ((k : Int) < 64 → True ∧ True ∧ True ∧ LoopOK (X [e63]) L22_2 (ht22 s k) (bodyR (X [e63]).m0 (ex22 s) R) ∧ (∃ (y : Nat), y ≤ s.length ∧ (s = s ∧ True ∧ (k : Int) = (k : Int) ∧ false = inK s k y ∧ true = mxS s k y ∧ (0 : Int) = (y : Int) ∧ True) ∧ trueN (pieB s) k = trueN (pieB s) k ∧ True) ∧ (∀ (y : Unit), True → True ∧ True ∧ (inK s k s.length = true → True ∧ True ∧ (mxS s k s.length = true → True ∧ True ∧ True ∧ sumPre (trueN (pieB s) k).length [(k : Int)].length (nat_lit 8) ∧ True ∧ True ∧ inR .i64 ((k : Int) + 1) ∧ True ∧ ((∃ (y : Nat), ((y ≤ 64 ∧ trueN (pieB s) y = []) ∧ (64 : Nat) - y < 64 - k) ∧ (s = s ∧ False ∧ (k : Int) + 1 = (y : Int) ∧ True) ∧ True) ∨ ∃ (y : Nat), (y ≤ 64 ∧ (64 : Nat) - y < 64 - k) ∧ (s = s ∧ True ∧ (k : Int) + 1 = (y : Int) ∧ True) ∧ trueN (pieB s) k ++ [(k : Int)] = trueN (pieB s) y ∧ True)) ∧ (mxS s k s.length = false → True ∧ inR .i64 ((k : Int) + 1) ∧ True ∧ ((∃ (y : Nat), ((y ≤ 64 ∧ trueN (pieB s) y = []) ∧ (64 : Nat) - y < 64 - k) ∧ (s = s ∧ False ∧ (k : Int) + 1 = (y : Int) ∧ True) ∧ True) ∨ ∃ (y : Nat), (y ≤ 64 ∧ (64 : Nat) - y < 64 - k) ∧ (s = s ∧ True ∧ (k : Int) + 1 = (y : Int) ∧ True) ∧ trueN (pieB s) k = trueN (pieB s) y ∧ True))) ∧ (inK s k s.length = false → True ∧ True ∧ inR .i64 ((k : Int) + 1) ∧ True ∧ ((∃ (y : Nat), ((y ≤ 64 ∧ trueN (pieB s) y = []) ∧ (64 : Nat) - y < 64 - k) ∧ (s = s ∧ False ∧ (k : Int) + 1 = (y : Int) ∧ True) ∧ True) ∨ ∃ (y : Nat), (y ≤ 64 ∧ (64 : Nat) - y < 64 - k) ∧ (s = s ∧ True ∧ (k : Int) + 1 = (y : Int) ∧ True) ∧ trueN (pieB s) k = trueN (pieB s) y ∧ True))) ∧ True) ∧ (¬(k : Int) < 64 → (∃ (y : Unit), pieL s = [] ∧ (False ∧ True) ∧ True) ∨ ∃ (y : Unit), True ∧ (True ∧ True) ∧ trueN (pieB s) k = pieL s ∧ True)) (by kernel_rfl) ?_
   simp only [zz]
   have hk : k ≤ 64 := hk
   have hl := trueN_len (pieB s) k
   have hf : k < 64 → pieB s k = false → inR .i64 ((k : Int) + 1) ∧ ∃ y : Nat, (y ≤ 64 ∧ 64 - y < 64 - k) ∧ (k : Int) + 1 = (y : Int) ∧ trueN (pieB s) k = trueN (pieB s) y := fun h3 hb => ⟨by simp only [inR]; omega, k + 1, by omega, by omega, by rw [trueN, hb]; rfl⟩
   have hz : ∃ y : Nat, y ≤ s.length ∧ false = inK s k y ∧ true = mxS s k y ∧ (0 : Int) = (y : Int) := ⟨0, Nat.zero_le _, rfl, rfl, rfl⟩
   refine ⟨fun h3 => ⟨hL (by omega) _, hz, fun _ _ => ⟨fun hI => ⟨fun hM => ⟨by unfold sumPre; simp; omega, by simp only [inR]; omega, k + 1, by omega, by omega, ?_⟩, fun hM => hf (by omega) ?_⟩, fun hI => hf (by omega) ?_⟩⟩, fun h3 => ?_⟩
   · have hb : pieB s k = true := by unfold pieB; rw [hI, hM]; try rfl
     rw [trueN, if_pos hb]; try rfl
   · unfold pieB; rw [hI, hM]; try rfl
   · unfold pieB; rw [hI]; try rfl
   · unfold pieL; rw [show 64 = k by omega]
theorem call22 (s : List Int) (h : ok22 s) : GCall Try.prog gl 22 true [.sl I64 s] [] [.sl I64 (pieL s)] [] := by
 refine gcall_of (X := (X [e63])) ((X_ok _)) (f := 22) (fn := Try.f22) (c := bodyOf Try.f22) (by kernel_rfl) (by kernel_rfl) (view := true) (rvs := [.tmp 2]) (by kernel_rfl) (H := (H22 s)) 80 (by kernel_rfl) ?_
 have hL := loop22 s h
 refine of_eq (q := True ∧ True ∧ True ∧ LoopOK (X [e63]) L22_0 { J := chks (0 : Nat) [(0 : Nat), (3 : Nat), (4 : Nat)] (fm22 s), exits := List.map (fun (x : List Nat × Ex) => x.snd) (ex22 s) } (RetR (X [e63]) true true [ResultVar.tmp (2 : Tmp)] [AV.sl I64 (pieL s)] []) ∧ ((∃ (y : Nat), (y ≤ 64 ∧ trueN (pieB s) y = []) ∧ (s = s ∧ True ∧ (0 : Int) = (y : Int) ∧ True) ∧ True) ∨ ∃ (y : Nat), y ≤ 64 ∧ (s = s ∧ False ∧ (0 : Int) = (y : Int) ∧ True) ∧ False) ∧ (∀ (y : Unit), pieL s = [] → True ∧ True ∧ True ∧ (([] : List Int) = pieL s ∧ True) ∧ True) ∧ (∀ (y : Unit), True → True ∧ True ∧ True ∧ (pieL s = pieL s ∧ True) ∧ True) ∧ True) (by kernel_rfl) ?_
 simp only [zz]
 exact ⟨hL _, ⟨0, ⟨Nat.zero_le _, rfl⟩, rfl⟩, fun _ h => h.symm, fun _ h => h⟩
def e22 : Entry Try.prog gl := entry1 22 ⟨Try.f22, by kernel_rfl, by kernel_rfl, by kernel_rfl⟩ SI (fun s => ok22 s) true (fun s => [.sl I64 (pieL s)]) (fun _ => []) (call22)
end Go.Am.Sh

/- Shells: tame. -/
namespace Go.Am.Sh
open Go Go.Am Go.Proofs
def hs14 : Nat → Bool := fun t => Nat.beq t 10 || Nat.beq t 30
noncomputable def Xh (l : EL) (hs : Nat → Bool) (dr : Nat → Option Nat) : Cy := { Xd l dr with hs := hs }
theorem Xh_ok (l : EL) (hs : Nat → Bool) (dr : Nat → Option Nat) : (Xh l hs dr).Ok := { tt := (Xd_ok l dr).tt, Γ := (Xd_ok l dr).Γ, Γd := (Xd_ok l dr).Γd, Yl := (Xd_ok l dr).Yl }
noncomputable abbrev X14 : Cy := Xh [e22] hs14 (drOf [(6, 11)])
def tmN (n : Int) : Int := 1 + (modU .u64 n).tmod 6
def tmS (n : Int) (l : List Int) (k : Nat) : List Int := 1 :: (l.take k).map fun x => (modU .u64 x).tmod (2 ^ (tmN n).toNat)
theorem tmN_bd (n : Int) : numOk (tmN n) := by
 have h1 : 0 ≤ modU .u64 n := u64_nn n
 have e := Int.tmod_eq_emod_of_nonneg (b := 6) h1
 unfold tmN numOk
 omega
theorem tm_pow (n : Int) : modU .u64 (1 * 2 ^ (tmN n).toNat) = 2 ^ (tmN n).toNat := by
 obtain ⟨e1, e2, e3⟩ := numOk_pow (tmN_bd n)
 rw [Int.one_mul, ← e1]
 show _ % 18446744073709551616 = _
 omega
theorem tm_pos (n : Int) : (2 : Int) ≤ 2 ^ (tmN n).toNat ∧ (2 : Int) ^ (tmN n).toNat ≤ 64 := by
 obtain ⟨e1, e2, e3⟩ := numOk_pow (tmN_bd n)
 omega
theorem tm_x {n : Int} (x : Int) : 0 ≤ (modU .u64 x).tmod (2 ^ (tmN n).toNat) ∧ (modU .u64 x).tmod (2 ^ (tmN n).toNat) < 2 ^ (tmN n).toNat ∧ (modU .u64 x).tmod (2 ^ (tmN n).toNat) < 64 := by
 have h := tm_pos n
 have h3 := Int.tmod_nonneg (a := modU .u64 x) (2 ^ (tmN n).toNat) (u64_nn x)
 have h4 := Int.tmod_lt_of_pos (modU .u64 x) (show (0 : Int) < 2 ^ (tmN n).toNat by omega)
 omega
theorem tm_mem {n : Int} {l : List Int} {k : Nat} {x : Int} (h : x ∈ tmS n l k) : 0 ≤ x ∧ x < 2 ^ (tmN n).toNat := by
 have hp := tm_pos n
 unfold tmS at h
 simp only [List.mem_cons, List.mem_map] at h
 rcases h with h | ⟨y, _, h⟩
 · omega
 · have := tm_x (n := n) y
   omega
theorem tm_ok (n : Int) (l : List Int) : ok22 (tmS n l 10) := ⟨fun x hx => by have := tm_mem hx; have := tm_pos n; omega, by unfold tmS; simp; omega⟩
theorem tm_lt (n : Int) (l : List Int) : ∀ x ∈ tmS n l 10, x < 2 ^ (tmN n).toNat := fun x hx => (tm_mem hx).2
theorem trueN_asc {g : Nat → Bool} : ∀ {k i j : Nat}, i < j → j < (trueN g k).length → (trueN g k).getD i 0 < (trueN g k).getD j 0
 | 0, i, j, _, h => by simp [trueN] at h
 | k + 1, i, j, hij, h => by
   rw [trueN] at h ⊢
   by_cases hg : g k = true
   · rw [if_pos hg] at h ⊢
     rw [List.length_append, List.length_singleton] at h
     rcases Nat.lt_or_ge j (trueN g k).length with hj | hj
     · rw [getD_append_left (by omega), getD_append_left hj]; exact trueN_asc hij hj
     · have e : (trueN g k ++ [(k : Int)]).getD j 0 = k := by
         rw [List.getD_eq_getElem?_getD, List.getElem?_append_right hj, show j - (trueN g k).length = 0 by omega]; try rfl
       rw [e, getD_append_left (by omega)]
       obtain ⟨m, h1, h2, _⟩ := trueN_mem (mem_getD (d := 0) (show i < (trueN g k).length by omega))
       omega
   · rw [if_neg hg] at h ⊢; exact trueN_asc hij h
theorem inK_iff {s : List Int} {x : Nat} : ∀ {k : Nat}, inK s x k = true ↔ ∃ i, i < k ∧ s.getD i 0 = x
 | 0 => by simp [inK]
 | k + 1 => by
   rw [inK, Bool.or_eq_true, inK_iff, decide_eq_true_eq]
   constructor
   · rintro (⟨i, h1, h2⟩ | h)
     · exact ⟨i, by omega, h2⟩
     · exact ⟨k, by omega, h⟩
   · rintro ⟨i, h1, h2⟩
     rcases Nat.lt_or_ge i k with h3 | h3
     · exact .inl ⟨i, h3, h2⟩
     · exact .inr (by rw [show k = i by omega]; exact h2)
theorem mxS_iff {s : List Int} {x : Nat} : ∀ {k : Nat}, mxS s x k = true ↔ ∀ i, i < k → s.getD i 0 = x ∨ sub x (s.getD i 0).toNat = false
 | 0 => by simp [mxS]
 | k + 1 => by
   rw [mxS, Bool.and_eq_true, mxS_iff, Bool.or_eq_true, decide_eq_true_eq, Bool.not_eq_true']
   constructor
   · rintro ⟨h1, h2⟩ i hi
     rcases Nat.lt_or_ge i k with h3 | h3
     · exact h1 i h3
     · rw [show i = k by omega]; exact h2
   · intro h
     exact ⟨fun i hi => h i (by omega), h k (by omega)⟩
theorem pie_mem {s : List Int} {y : Int} (h : y ∈ pieL s) : ∃ x : Nat, y = x ∧ x < 64 ∧ (∃ i, i < s.length ∧ s.getD i 0 = x) ∧ ∀ i, i < s.length → s.getD i 0 = x ∨ sub x (s.getD i 0).toNat = false := by
 obtain ⟨x, h1, h2, h3⟩ := trueN_mem h
 unfold pieB at h3
 rw [Bool.and_eq_true, inK_iff, mxS_iff] at h3
 exact ⟨x, h1, h2, h3.1, h3.2⟩
theorem pie_pos {s : List Int} (h1 : ∃ i, i < s.length ∧ 1 ≤ s.getD i 0) : ∀ y ∈ pieL s, 1 ≤ y := fun y hy => by
 obtain ⟨x, rfl, h2, h3, h4⟩ := pie_mem hy
 obtain ⟨i, hi, h5⟩ := h1
 rcases Nat.eq_zero_or_pos x with h0 | h0
 · subst h0
   rcases h4 i hi with h6 | h6
   · omega
   · rw [sub_zero] at h6; cases h6
 · omega
theorem max_ex (s : List Int) : ∀ k, ∃ i, i < k + 1 ∧ ∀ j, j < k + 1 → s.getD j 0 ≤ s.getD i 0
 | 0 => ⟨0, by omega, fun j hj => by rw [show j = 0 by omega]; exact Int.le_refl _⟩
 | k + 1 => by
   obtain ⟨i, h1, h2⟩ := max_ex s k
   by_cases h : s.getD i 0 ≤ s.getD (k + 1) 0
   · refine ⟨k + 1, by omega, fun j hj => ?_⟩
     rcases Nat.lt_or_ge j (k + 1) with h3 | h3
     · exact Int.le_trans (h2 j h3) h
     · rw [show j = k + 1 by omega]; exact Int.le_refl _
   · refine ⟨i, by omega, fun j hj => ?_⟩
     rcases Nat.lt_or_ge j (k + 1) with h3 | h3
     · exact h2 j h3
     · rw [show j = k + 1 by omega]; omega
theorem pie_ne {s : List Int} (h : okL s) (hl : 1 ≤ s.length) : 1 ≤ (pieL s).length := by
 obtain ⟨k, hk⟩ : ∃ k, s.length = k + 1 := ⟨s.length - 1, by omega⟩
 obtain ⟨i, h1, h2⟩ := max_ex s k
 have hr := okL_get h i
 have hb : pieB s (s.getD i 0).toNat = true := by
   unfold pieB
   rw [Bool.and_eq_true, inK_iff, mxS_iff]
   refine ⟨⟨i, by omega, by omega⟩, fun j hj => ?_⟩
   have h3 := h2 j (by omega)
   have h4 := okL_get h j
   cases hs : sub (s.getD i 0).toNat (s.getD j 0).toNat with
   | false => exact .inr rfl
   | true => have := sub_le hs; exact .inl (by omega)
 have := trueN_has (g := pieB s) (k := 64) (by omega) hb
 exact List.length_pos_of_mem this
theorem take_get {l : List Int} {k m : Nat} (h : k < m) : (l.take m).getD k 0 = l.getD k 0 := by
 rw [List.getD_eq_getElem?_getD, List.getD_eq_getElem?_getD, List.getElem?_take_of_lt h]
theorem pie_cx {n : Int} {s : List Int} (hn : numOk n) (h : ok22 s) (hlt : ∀ x ∈ s, x < 2 ^ n.toNat) (h1 : ∃ i, i < s.length ∧ 1 ≤ s.getD i 0) : cxOk n ((pieL s).take 10) := by
 have hne := pie_ne h.h (by obtain ⟨i, hi, _⟩ := h1; omega)
 have hlen : ((pieL s).take 10).length ≤ 10 ∧ 1 ≤ ((pieL s).take 10).length ∧ ((pieL s).take 10).length ≤ (pieL s).length := by rw [List.length_take]; omega
 refine ⟨hn, ⟨hlen.2.1, hlen.1⟩, fun k hk => ?_⟩
 have hk1 : k < (pieL s).length := by omega
 have hmem := mem_getD (d := (0 : Int)) hk1
 have hpos := pie_pos h1 _ hmem
 obtain ⟨x, e, hx, ⟨i, hi, hi2⟩, hmx⟩ := pie_mem hmem
 have hrk := trueN_ok (pieB s) _ hmem
 refine ⟨by rw [take_get (by omega)]; exact hpos, by rw [take_get (by omega), e, ← hi2]; exact hlt _ (mem_getD hi), fun h0 => by rw [take_get (by omega), take_get (by omega)]; exact trueN_asc (by omega) hk1, fun j hj hne2 => ?_⟩
 have hj1 : j < (pieL s).length := by omega
 have hmem2 := mem_getD (d := (0 : Int)) hj1
 obtain ⟨y, e2, hy, ⟨i2, hi3, hi4⟩, hmy⟩ := pie_mem hmem2
 have hrj := trueN_ok (pieB s) _ hmem2
 rw [take_get (by omega), take_get (by omega), Ne, sub_and hrk hrj, e, e2, Int.toNat_natCast, Int.toNat_natCast]
 rcases hmx i2 hi3 with h5 | h5
 · exfalso
   have hxy : (pieL s).getD k 0 = (pieL s).getD j 0 := by omega
   rcases Nat.lt_or_ge j k with h6 | h6
   · have := trueN_asc (g := pieB s) (k := 64) h6 hk1
     unfold pieL at hxy; omega
   · have := trueN_asc (g := pieB s) (k := 64) (show k < j by omega) hj1
     unfold pieL at hxy; omega
 · rw [hi4, Int.toNat_natCast] at h5
   rw [h5]; simp
noncomputable def L14_0 : Code := lp (bodyOf Try.f14) 0
def st14 (n : Int) (l : List Int) (k : Nat) : St := ⟨.int .i64 (tmN n) :: .sl I64 l :: dd 4 ++ .own 0 0 :: .int .i64 k :: dd 51, [.sc 0 3 I64 (tmS n l k)]⟩
def in14 (l : List Int) (k : Nat) : Prop := k ≤ l.length ∧ k ≤ 10
def ex14 (n : Int) (l : List Int) : List (List Nat × Ex) := [([0, 6], ⟨0, Unit, fun _ => True, fun _ => ⟨.int .i64 (tmN n) :: dd 5 ++ .own 0 0 :: dd 52, [.sc 0 3 I64 (tmS n l 10)]⟩⟩)]
noncomputable def H14 (n : Int) (l : List Int) : Nat → Option Hint := fun _ => some ⟨chk 0 [0, 1, 6, 7] (in14 l) (st14 n l), (ex14 n l).map (·.2)⟩
theorem loop14 (n : Int) (l : List Int) (hl : l.length < 1000000000000000) (R : Exit → St → Prop) : LoopOK X14 L14_0 ⟨chk 0 [0, 1, 6, 7] (in14 l) (st14 n l), (ex14 n l).map (·.2)⟩ R := by
 refine loop_ok (Xh_ok _ _ _) (H := fun _ _ => none) [0, 1, 6, 7] (in14 l) (st14 n l) (fun k => l.length - k) (ex14 n l) 150 fun (k : Nat) hk => ?_
 refine of_eq (q := True ∧ True ∧ True ∧ True ∧ True ∧ ((k : Int) < (l.length : Int) → True ∧ True ∧ True ∧ ((k : Int) < 10 → True ∧ True ∧ True ∧ idxPre (k : Int) l.length ∧ True ∧ True ∧ True ∧ (((0 : Int) ≤ tmN n ∧ tmN n < bitsOf .u64) ∧ True) ∧ ¬modU .u64 ((1 : Int) * 2 ^ (tmN n).toNat) = 0 ∧ inR .i64 ((modU .u64 (l.getD k (0 : Int))).tmod (modU .u64 ((1 : Int) * 2 ^ (tmN n).toNat))) ∧ True ∧ sumPre (tmS n l k).length [(modU .u64 (l.getD k (0 : Int))).tmod (modU .u64 ((1 : Int) * 2 ^ (tmN n).toNat))].length (nat_lit 8) ∧ True ∧ True ∧ inR .i64 ((k : Int) + 1) ∧ True ∧ ∃ (y : Nat), (in14 l y ∧ l.length - y < l.length - k) ∧ (tmN n = tmN n ∧ l = l ∧ True ∧ (k : Int) + 1 = (y : Int) ∧ True) ∧ tmS n l k ++ [(modU .u64 (l.getD k (0 : Int))).tmod (modU .u64 ((1 : Int) * 2 ^ (tmN n).toNat))] = tmS n l y ∧ True) ∧ (¬(k : Int) < 10 → ∃ (y : Unit), True ∧ (tmN n = tmN n ∧ True ∧ True) ∧ tmS n l k = tmS n l (10 : Nat) ∧ True)) ∧ (¬(k : Int) < (l.length : Int) → True ∧ ∃ (y : Unit), True ∧ (tmN n = tmN n ∧ True ∧ True) ∧ tmS n l k = tmS n l (10 : Nat) ∧ True)) (by kernel_rfl) ?_
 simp only [zz]
 obtain ⟨k1, k2⟩ := hk
 obtain ⟨b1, b2⟩ := tmN_bd n
 have hp := tm_pow n
 refine ⟨fun h => ⟨fun h2 => ?_, fun h2 => by rw [show k = 10 by omega]⟩, fun h => ?_⟩
 · rw [hp]
   have hx := tm_x (n := n) (l.getD k 0)
   have hlen : (tmS n l k).length ≤ 11 := by unfold tmS; simp; omega
   refine ⟨idx_nat (by omega), ⟨by omega, by simp only [bitsOf]; omega⟩, by have := tm_pos n; omega, by simp only [inR]; omega, by unfold sumPre; simp; omega, by simp only [inR]; omega, k + 1, ⟨⟨by omega, by omega⟩, by omega⟩, by omega, ?_⟩
   unfold tmS
   rw [take_getD (d := 0) (show k < l.length by omega), List.map_append]
   rfl
 · unfold tmS
   rw [List.take_of_length_le (by omega), List.take_of_length_le (by omega)]
def tmP (n : Int) (l : List Int) : List Int := (pieL (tmS n l 10)).take 10
theorem call14 (n : Int) (l : List Int) (hl : l.length < 1000000000000000) : GCall Try.prog gl 14 false [.int .i64 n, .sl I64 l] [] [.int .i64 (tmN n), .sl I64 (tmP n l)] [] := by
 refine gcall_of (X := X14) ((Xh_ok _ _ _)) (f := 14) (fn := Try.f14) (c := bodyOf Try.f14) (by kernel_rfl) (by kernel_rfl) (view := true) (rvs := [.tmp 4, .tmp 5]) (by kernel_rfl) (H := (H14 n l)) 200 (by kernel_rfl) ?_
 have hL := loop14 n l hl
 refine of_eq (q := True ∧ True ∧ True ∧ True ∧ ¬(6 : Int) = 0 ∧ inR .i64 ((modU .u64 n).tmod (6 : Int)) ∧ inR .i64 ((1 : Int) + (modU .u64 n).tmod (6 : Int)) ∧ True ∧ True ∧ True ∧ True ∧ LoopOK X14 L14_0 { J := chk (0 : Nat) [(0 : Nat), (1 : Nat), (6 : Nat), (7 : Nat)] (in14 l) (st14 n l), exits := List.map (fun (x : List Nat × Ex) => x.snd) (ex14 n l) } (RetR X14 false true [ResultVar.tmp (4 : Tmp), ResultVar.tmp (5 : Tmp)] [AV.int .i64 (tmN n), AV.sl I64 (tmP n l)] []) ∧ (∃ (y : Nat), in14 l y ∧ ((1 : Int) + (modU .u64 n).tmod (6 : Int) = tmN n ∧ l = l ∧ True ∧ (0 : Int) = (y : Int) ∧ True) ∧ [(1 : Int)] = tmS n l y ∧ True) ∧ (∀ (y : Unit), True → True ∧ (ok22 (tmS n l (10 : Nat)) ∧ True) ∧ True ∧ True ∧ True ∧ True ∧ True ∧ ((1 : Int) < (↑(pieL (tmS n l (10 : Nat))).length : Int) → True ∧ idxPre (0 : Int) (pieL (tmS n l (10 : Nat))).length ∧ True ∧ True ∧ True ∧ ((pieL (tmS n l (10 : Nat))).getD (0 : Nat) (0 : Int) = 0 → True ∧ slPre (pieL (tmS n l (10 : Nat))).length (pieL (tmS n l (10 : Nat))).length (some (1 : Int)) none none ∧ True ∧ True ∧ True ∧ True ∧ True ∧ True ∧ True ∧ True ∧ True ∧ slPre (cutL (pieL (tmS n l (10 : Nat))) (some (1 : Int)) none).length (cutL (pieL (tmS n l (10 : Nat))) (some (1 : Int)) none).length none (some (minI (↑(cutL (pieL (tmS n l (10 : Nat))) (some (1 : Int)) none).length : Int) (10 : Int))) (some (minI (↑(cutL (pieL (tmS n l (10 : Nat))) (some (1 : Int)) none).length : Int) (10 : Int))) ∧ True ∧ True ∧ True ∧ (tmN n = tmN n ∧ cutL (cutL (pieL (tmS n l (10 : Nat))) (some (1 : Int)) none) none (some (minI (↑(cutL (pieL (tmS n l (10 : Nat))) (some (1 : Int)) none).length : Int) (10 : Int))) = tmP n l ∧ True) ∧ True) ∧ (¬(pieL (tmS n l (10 : Nat))).getD (0 : Nat) (0 : Int) = 0 → True ∧ True ∧ True ∧ True ∧ True ∧ True ∧ True ∧ True ∧ slPre (pieL (tmS n l (10 : Nat))).length (pieL (tmS n l (10 : Nat))).length none (some (minI (↑(pieL (tmS n l (10 : Nat))).length : Int) (10 : Int))) (some (minI (↑(pieL (tmS n l (10 : Nat))).length : Int) (10 : Int))) ∧ True ∧ True ∧ True ∧ (tmN n = tmN n ∧ cutL (pieL (tmS n l (10 : Nat))) none (some (minI (↑(pieL (tmS n l (10 : Nat))).length : Int) (10 : Int))) = tmP n l ∧ True) ∧ True)) ∧ (¬(1 : Int) < (↑(pieL (tmS n l (10 : Nat))).length : Int) → True ∧ True ∧ True ∧ True ∧ True ∧ True ∧ True ∧ True ∧ True ∧ slPre (pieL (tmS n l (10 : Nat))).length (pieL (tmS n l (10 : Nat))).length none (some (minI (↑(pieL (tmS n l (10 : Nat))).length : Int) (10 : Int))) (some (minI (↑(pieL (tmS n l (10 : Nat))).length : Int) (10 : Int))) ∧ True ∧ True ∧ True ∧ (tmN n = tmN n ∧ cutL (pieL (tmS n l (10 : Nat))) none (some (minI (↑(pieL (tmS n l (10 : Nat))).length : Int) (10 : Int))) = tmP n l ∧ True) ∧ True)) ∧ True) (by kernel_rfl) ?_
 simp only [zz]
 obtain ⟨b1, b2⟩ := tmN_bd n
 have hb : 1 + (modU .u64 n).tmod 6 = tmN n := rfl
 have hz : ∀ L : List Int, cutL L none (some (minI (L.length : Int) 10)) = L.take 10 ∧ slPre L.length L.length none (some (minI (L.length : Int) 10)) (some (minI (L.length : Int) 10)) := fun L => by
   unfold minI cutL slPre
   simp only
   by_cases h : (10 : Int) < L.length
   · rw [if_pos h]; exact ⟨rfl, by omega⟩
   · rw [if_neg h, Int.toNat_natCast]
     exact ⟨by rw [List.take_of_length_le (Nat.le_refl _), List.take_of_length_le (by omega)], by omega⟩
 rw [hb]
 obtain ⟨z1, z2⟩ := hz (pieL (tmS n l 10))
 refine ⟨by decide, by simp only [inR]; omega, by simp only [inR]; omega, hL _, ⟨0, ⟨Nat.zero_le _, Nat.zero_le _⟩, ⟨rfl, rfl⟩, by simp [tmS]⟩, fun _ _ => ⟨tm_ok n l, fun h => ⟨by unfold idxPre; omega, fun h0 => ?_, fun _ => ⟨z2, z1⟩⟩, fun _ => ⟨z2, z1⟩⟩⟩
 exfalso
 have := pie_pos (s := tmS n l 10) ⟨0, by simp [tmS], by simp [tmS]⟩ _ (mem_getD (d := 0) (show 0 < (pieL (tmS n l 10)).length by omega))
 omega
theorem tm_cx (n : Int) (l : List Int) : cxOk (tmN n) (tmP n l) := pie_cx (tmN_bd n) (tm_ok n l) (tm_lt n l) ⟨0, by simp [tmS], by simp [tmS]⟩
end Go.Am.Sh

/- Shells: the reference's Counts, choose, Hs, Euler. -/
namespace Go.Am.Sh
open Go Go.Am Go.Proofs
def e14 : Entry Try.prog gl := entry2 14 ⟨Try.f14, by kernel_rfl, by kernel_rfl, by kernel_rfl⟩ I64 SI (fun (_ : Int) l => (l : List Int).length < 1000000000000000) false (fun n l => [.int .i64 (tmN n), .sl I64 (tmP n l)]) (fun _ _ => []) (call14)
theorem trueN_cut {g : Nat → Bool} {m : Nat} : ∀ {k : Nat}, (∀ x, m ≤ x → x < m + k → g x = false) → trueN g (m + k) = trueN g m
 | 0, _ => rfl
 | k + 1, h => by
   rw [show m + (k + 1) = m + k + 1 by omega, trueN, h (m + k) (by omega) (by omega)]
   exact trueN_cut fun x h1 h2 => h x h1 (by omega)
theorem isF_lt {n : Int} {p : List Int} (h : cxOk n p) {x : Nat} (hx : isF p x = true) : x < 2 ^ n.toNat := by
 unfold isF at hx
 rw [List.any_eq_true] at hx
 obtain ⟨s, hs, h2⟩ := hx
 have h3 := sub_le h2
 obtain ⟨k, hk, rfl⟩ := List.getElem_of_mem hs
 have h4 := (h.2.2 k hk).2.1
 rw [getD_lt hk] at h4
 obtain ⟨e1, e2, e3⟩ := numOk_pow h.1
 have h5 := h.ok _ hs
 omega
theorem facesN_trueN (p : List Int) : ∀ k, facesN p k = trueN (isF p) k
 | 0 => rfl
 | k + 1 => by rw [facesN, trueN, facesN_trueN p k]
theorem faces_fcs {n : Int} {p : List Int} (h : cxOk n p) : facesL n p = fcs p := by
 obtain ⟨e1, e2, e3⟩ := numOk_pow h.1
 have := trueN_cut (g := isF p) (m := 2 ^ n.toNat) (k := 64 - 2 ^ n.toNat) fun x h1 _ => by
   cases hx : isF p x with
   | false => rfl
   | true => have := isF_lt h hx; omega
 rw [show 2 ^ n.toNat + (64 - 2 ^ n.toNat) = 64 by omega] at this
 unfold fcs facesL
 rw [this, facesN_trueN]
noncomputable def L40_0 : Code := lp (bodyOf Try.f40) 0
noncomputable def L40_2 : Code := lp (bodyOf Try.f40) 2
def s0_40 (n : Int) (p : List Int) (k : Nat) : St := ⟨.int .i64 n :: .sl I64 p :: dd 3 ++ .int .i64 (mxK p k) :: .int .i64 k :: dd 39, []⟩
def e0_40 (n : Int) (p : List Int) : List (List Nat × Ex) := [([0, 1, 5], ⟨0, Unit, fun _ => True, fun _ => ⟨.int .i64 n :: .sl I64 p :: dd 3 ++ .int .i64 (mxL p) :: dd 40, []⟩⟩)]
def h0_40 (n : Int) (p : List Int) : Hint := ⟨chk 0 [0, 1, 5, 6] (fun k => k ≤ p.length) (s0_40 n p), (e0_40 n p).map (·.2)⟩
def s1_40 (p : List Int) (k : Nat) : St := ⟨dd 7 ++ .own 0 0 :: .sl I64 (fcs p) :: .int .i64 k :: dd 36, [.sc 0 3 I64 (cntL (fcs p) (mxL p).toNat k)]⟩
def e1_40 (p : List Int) : List (List Nat × Ex) := [([7], ⟨2, Unit, fun _ => True, fun _ => ⟨dd 7 ++ .own 0 0 :: dd 38, [.sc 0 3 I64 (cnts p)]⟩⟩)]
def h1_40 (p : List Int) : Hint := ⟨chk 0 [7, 8, 9] (fun k => k ≤ (fcs p).length) (s1_40 p), (e1_40 p).map (·.2)⟩
noncomputable def H40 (n : Int) (p : List Int) (b : Nat) : Option Hint := some (if Nat.beq b 0 then h0_40 n p else h1_40 p)
theorem loop40a (n : Int) (p : List Int) (h : ok10 p) (R : Exit → St → Prop) : LoopOK (X [e29, e35]) L40_0 (h0_40 n p) R := by
 refine loop_ok (X_ok _) (H := fun _ _ => none) [0, 1, 5, 6] (fun k => k ≤ p.length) (s0_40 n p) (fun k => p.length - k) (e0_40 n p) 150 fun (k : Nat) hk => ?_
 refine of_eq (q := True ∧ True ∧ True ∧ True ∧ ((k : Int) < (p.length : Int) → True ∧ True ∧ True ∧ idxPre (k : Int) p.length ∧ True ∧ (((0 : Int) ≤ p.getD k (0 : Int) ∧ p.getD k (0 : Int) < 64) ∧ True) ∧ True ∧ True ∧ True ∧ inR .i64 ((k : Int) + 1) ∧ True ∧ ∃ (y : Nat), (y ≤ p.length ∧ p.length - y < p.length - k) ∧ (n = n ∧ p = p ∧ maxI (mxK p k) (↑(pc (Int.toNat (p.getD k (0 : Int)))) : Int) = mxK p y ∧ (k : Int) + 1 = (y : Int) ∧ True) ∧ True) ∧ (¬(k : Int) < (p.length : Int) → ∃ (y : Unit), True ∧ (n = n ∧ p = p ∧ mxK p k = mxL p ∧ True) ∧ True)) (by kernel_rfl) ?_
 simp only [zz]
 have hk : k ≤ p.length := hk
 have hl := h.l
 refine ⟨fun hlt => ⟨idx_nat (by omega), okL_get h.h k, by simp only [inR]; omega, k + 1, by omega, by rw [mxK_step (by omega)], by omega⟩, fun hlt => by rw [mxL, show p.length = k by omega]⟩
theorem loop40b (p : List Int) (h : ok10 p) (R : Exit → St → Prop) : LoopOK (X [e29, e35]) L40_2 (h1_40 p) R := by
 refine loop_ok (X_ok _) (H := fun _ _ => none) [7, 8, 9] (fun k => k ≤ (fcs p).length) (s1_40 p) (fun k => (fcs p).length - k) (e1_40 p) 150 fun (k : Nat) hk => ?_
 refine of_eq (q := True ∧ True ∧ True ∧ True ∧ ((k : Int) < (↑(fcs p).length : Int) → True ∧ True ∧ True ∧ idxPre (k : Int) (fcs p).length ∧ True ∧ (((0 : Int) ≤ (fcs p).getD k (0 : Int) ∧ (fcs p).getD k (0 : Int) < 64) ∧ True) ∧ idxPre (↑(pc (Int.toNat ((fcs p).getD k (0 : Int)))) : Int) (cntL (fcs p) (mxL p).toNat k).length ∧ True ∧ inR .i64 ((cntL (fcs p) (mxL p).toNat k).getD (pc (Int.toNat ((fcs p).getD k (0 : Int)))) (0 : Int) + 1) ∧ idxPre (↑(pc (Int.toNat ((fcs p).getD k (0 : Int)))) : Int) (cntL (fcs p) (mxL p).toNat k).length ∧ True ∧ True ∧ inR .i64 ((k : Int) + 1) ∧ True ∧ ∃ (y : Nat), (y ≤ (fcs p).length ∧ (fcs p).length - y < (fcs p).length - k) ∧ (True ∧ fcs p = fcs p ∧ (k : Int) + 1 = (y : Int) ∧ True) ∧ (cntL (fcs p) (mxL p).toNat k).set (pc (Int.toNat ((fcs p).getD k (0 : Int)))) ((cntL (fcs p) (mxL p).toNat k).getD (pc (Int.toNat ((fcs p).getD k (0 : Int)))) (0 : Int) + 1) = cntL (fcs p) (mxL p).toNat y ∧ True) ∧ (¬(k : Int) < (↑(fcs p).length : Int) → ∃ (y : Unit), True ∧ (True ∧ True) ∧ cntL (fcs p) (mxL p).toNat k = cnts p ∧ True)) (by kernel_rfl) ?_
 simp only [zz]
 have hk : k ≤ (fcs p).length := hk
 have hl := fcs_len p
 refine ⟨fun hlt => ?_, fun hlt => by rw [show k = (fcs p).length by omega]; rfl⟩
 have hd := fcs_pc h.h (k := k) (by omega)
 have hle := cntL_le (l := fcs p) (d := (mxL p).toNat) (k := k) (i := pc ((fcs p).getD k 0).toNat)
 have hi : idxPre ((pc ((fcs p).getD k 0).toNat : Nat) : Int) (cntL (fcs p) (mxL p).toNat k).length := idx_nat (by rw [cntL_length]; omega)
 exact ⟨idx_nat (by omega), okL_get (fcs_ok p) k, hi, by simp only [inR]; omega, hi, by simp only [inR]; omega, k + 1, by omega, by omega, cntL_step (by omega) hd⟩
theorem call40 (n : Int) (p : List Int) (h : cxOk n p) : GCall Try.prog gl 40 false [.int .i64 n, .sl I64 p] [] [.sl I64 (cnts p)] [] := by
 refine gcall_of (X := X [e29, e35]) (X_ok [e29, e35]) (f := 40) (fn := Try.f40) (c := bodyOf Try.f40) (by kernel_rfl) (by kernel_rfl) (view := true) (rvs := [.tmp 4]) (by kernel_rfl) (H := (H40 n p)) 80 (by kernel_rfl) ?_
 have hL := fun R => loop40a n p ⟨h.ok, h.2.1.2⟩ R
 have hM := fun R => loop40b p ⟨h.ok, h.2.1.2⟩ R
 refine of_eq (q := True ∧ True ∧ True ∧ LoopOK (X [e29, e35]) L40_0 (h0_40 n p) (RetR (X [e29, e35]) false true [ResultVar.tmp (4 : Tmp)] [AV.sl I64 (cnts p)] []) ∧ (∃ (y : Nat), y ≤ p.length ∧ (n = n ∧ p = p ∧ (0 : Int) = mxK p y ∧ (0 : Int) = (y : Int) ∧ True) ∧ True) ∧ (∀ (y : Unit), True → True ∧ inR .i64 (mxL p + 1) ∧ ((0 : Int) ≤ mxL p + 1 ∧ mxL p + 1 ≤ mxL p + 1 ∧ (mxL p + 1) * (↑(nat_lit 8) : Int) ≤ 140737488355328 ∧ mxL p + 1 ≤ 140737488355328) ∧ True ∧ True ∧ True ∧ ((numOk n ∧ okL p ∧ p.length < 1000000) ∧ True) ∧ True ∧ True ∧ LoopOK (X [e29, e35]) L40_2 (h1_40 p) (RetR (X [e29, e35]) false true [ResultVar.tmp (4 : Tmp)] [AV.sl I64 (cnts p)] []) ∧ (∃ (y : Nat), y ≤ (fcs p).length ∧ (True ∧ facesL n p = fcs p ∧ (0 : Int) = (y : Int) ∧ True) ∧ List.replicate (mxL p + 1).toNat (Ty.int .i64).dflt = cntL (fcs p) (mxL p).toNat y ∧ True) ∧ (∀ (y : Unit), True → True ∧ True ∧ True ∧ (cnts p = cnts p ∧ True) ∧ True) ∧ True) ∧ True) (by kernel_rfl) ?_
 simp only [zz]
 obtain ⟨m1, m2⟩ := mxL_le p
 refine ⟨hL _, ⟨0, Nat.zero_le _, rfl, rfl⟩, fun _ _ => ⟨by simp only [inR]; omega, by omega, ⟨h.1, h.ok, by have := h.2.1.2; omega⟩, hM _, ⟨0, Nat.zero_le _, ⟨faces_fcs h, rfl⟩, ?_⟩, fun _ h => h⟩⟩
 apply ext_getD (d := 0) (by rw [cntL_length]; simp; omega)
 intro i hi
 rw [List.length_replicate] at hi
 rw [cntL_getD (by omega), List.getD_eq_getElem?_getD, List.getElem?_replicate, if_pos hi]
 rfl
def chK (n : Int) : Nat → Int
 | 0 => 1
 | k + 1 => (chK n k * (n - (k + 1) + 1)).tdiv (k + 1)
end Go.Am.Sh

/- Shells: the reference's Hs and Euler. -/
namespace Go.Am.Sh
open Go Go.Am Go.Proofs
def e40 : Entry Try.prog gl := entry2 40 ⟨Try.f40, by kernel_rfl, by kernel_rfl, by kernel_rfl⟩ I64 SI (fun (n : Int) p => cxOk n p) false (fun _ p => [.sl I64 (cnts p)]) (fun _ _ => []) (call40)
def sg (j : Nat) : Int := 1 - 2 * ((j % 2 : Nat) : Int)
def htm (f : List Int) (k i : Nat) : Int := f.getD i 0 * chK ((f.length - 1 - i : Nat) : Int) (k - i) * sg (k - i)
def hsum (f : List Int) (k : Nat) : Nat → Int
 | 0 => 0
 | i + 1 => hsum f k i + htm f k i
def rhL (f : List Int) : List Int := (List.range f.length).map fun j => hsum f j (j + 1)
structure okF (f : List Int) : Prop where
 b : bdd 64 f
 l : 1 ≤ f.length ∧ f.length ≤ 7
end Go.Am.Sh

/- Shells: the law of the counts. -/
namespace Go.Am.Sh
open Go Go.Am Go.Proofs
theorem hq1 (a : Int) : hsK [a] 1 = rhL [a] := by
 simp [hsK, rhL, hsum, htm, sg, chK]
theorem hq2 (a b : Int) : hsK [a, b] 2 = rhL [a, b] := by
 simp [hsK, rhL, hsum, htm, sg, chK, triJ, List.range_succ]
 try omega
theorem hq3 (a b c : Int) : hsK [a, b, c] 3 = rhL [a, b, c] := by
 simp [hsK, rhL, hsum, htm, sg, chK, triJ, List.range_succ]
 try omega
end Go.Am.Sh

/- Shells: Made. -/
namespace Go.Am.Sh
open Go Go.Am Go.Proofs
def obN (n : Int) : List Ob := [.bx (.int .i64 n)]
def badB (n s : Int) : Bool := decide (s < 0 ∨ 2 ^ n.toNat ≤ s)
structure ok83m (x : List Int × Int) : Prop where
 n : numOk x.2
 l : x.1.length ≤ 64
def badL (n : Int) (p : List Int) : Bool := p.any (badB n)
def madOk (n : Int) (p : List Int) : Prop := numOk n ∧ p.length ≤ 64 ∧ badL n p = false
instance (n p) : Decidable (madOk n p) := by unfold madOk numOk; infer_instance
theorem grow_one : ∀ x s : Fin 64, sub x.val s.val = true → x.val ≠ s.val → ∃ v : Fin 6, x.val ||| 2 ^ v.val ≠ x.val ∧ sub (x.val ||| 2 ^ v.val) s.val = true := by decide +kernel
theorem sub_or : ∀ x s : Fin 64, ∀ v : Fin 6, sub (x.val ||| 2 ^ v.val) s.val = true → sub x.val s.val = true ∧ (x.val ||| 2 ^ v.val ≠ x.val → x.val ≠ s.val) := by decide +kernel
theorem isF_iff {s : List Int} {x : Nat} : isF s x = true ↔ ∃ i, i < s.length ∧ sub x (s.getD i 0).toNat = true := by
 unfold isF
 rw [List.any_eq_true]
 constructor
 · rintro ⟨a, ha, h⟩
   obtain ⟨i, hi, e⟩ := List.getElem_of_mem ha
   exact ⟨i, hi, by rw [getD_lt hi, e]; exact h⟩
 · rintro ⟨i, hi, h⟩
   exact ⟨_, mem_getD hi, h⟩
theorem grt_pie {s : List Int} (h : okL s) {x : Nat} (hx : x < 64) : grtB (isF s) x = pieB s x := by
 have hr := okL_get h
 rw [Bool.eq_iff_iff]
 unfold grtB pieB
 rw [Bool.and_eq_true, Bool.and_eq_true, inK_iff, mxS_iff, isF_iff, List.all_eq_true]
 constructor
 · rintro ⟨⟨i, hi, h1⟩, h2⟩
   have key : ∀ j, j < s.length → sub x (s.getD j 0).toNat = true → x = (s.getD j 0).toNat := fun j hj hs => by
     refine Classical.byContradiction fun hne => ?_
     obtain ⟨v, h3, h4⟩ := grow_one ⟨x, hx⟩ ⟨(s.getD j 0).toNat, by have := hr j; omega⟩ hs hne
     have h5 := h2 v.val (List.mem_range.mpr v.isLt)
     have h6 : isF s (x ||| 2 ^ v.val) = true := isF_iff.mpr ⟨j, hj, h4⟩
     simp only at h3
     rw [h6, decide_eq_false h3] at h5
     cases h5
   refine ⟨⟨i, hi, by have := key i hi h1; have := hr i; omega⟩, fun j hj => ?_⟩
   cases hs : sub x (s.getD j 0).toNat with
   | false => exact .inr rfl
   | true => exact .inl (by have := key j hj hs; have := hr j; omega)
 · rintro ⟨⟨i, hi, h1⟩, h2⟩
   refine ⟨⟨i, hi, by rw [h1, Int.toNat_natCast]; exact sub_self x⟩, fun v hv => ?_⟩
   have hv := List.mem_range.mp hv
   by_cases he : x ||| 2 ^ v = x
   · rw [decide_eq_true he]; try rfl
   · rw [decide_eq_false he]
     cases hf : isF s (x ||| 2 ^ v) with
     | false => rfl
     | true =>
       exfalso
       obtain ⟨j, hj, h3⟩ := isF_iff.mp hf
       obtain ⟨h4, h5⟩ := sub_or ⟨x, hx⟩ ⟨(s.getD j 0).toNat, by have := hr j; omega⟩ ⟨v, hv⟩ h3
       have h5 := h5 he
       simp only at h4 h5
       rcases h2 j hj with h6 | h6
       · omega
       · rw [h6] at h4; cases h4
theorem grL_pie {s : List Int} (h : okL s) : grL (isF s) = pieL s := trueN_ext fun x hx => grt_pie h hx
end Go.Am.Sh

/- Shells: the reference's Moment. -/
namespace Go.Am.Sh
open Go Go.Am Go.Proofs
def gapB (k a b : Nat) : Bool := decide (k / 2 ^ a % 2 = 0) && decide (k / 2 ^ b % 2 = 0) && decide (pc (k / 2 ^ (a + 1) % 2 ^ (b - a - 1)) % 2 = 1)
def inB (k a : Nat) : Nat → Bool
 | 0 => true
 | j + 1 => inB k a j && !gapB k a (a + 1 + j)
theorem pow_cast (j : Nat) : (2 ^ j : Int) = ((2 ^ j : Nat) : Int) := by rw [Int.natCast_pow]; try rfl
theorem kt {k a j : Nat} : ((k : Int) / 2 ^ (a + 1)).tmod (1 * 2 ^ j) = ((k / 2 ^ (a + 1) % 2 ^ j : Nat) : Int) := by
 rw [Int.one_mul, pow_cast, pow_cast]
 generalize 2 ^ (a + 1) = P
 generalize 2 ^ j = Q
 have e1 : (k : Int) / (P : Int) = ((k / P : Nat) : Int) := by rw [Int.natCast_ediv]
 rw [e1, Int.tmod_eq_emod_of_nonneg (Int.natCast_nonneg _), Int.natCast_emod]
theorem pt {x : Nat} : ((pc x : Nat) : Int).tmod 2 = ((pc x % 2 : Nat) : Int) := by
 rw [Int.tmod_eq_emod_of_nonneg (Int.natCast_nonneg _)]; omega
end Go.Am.Sh

/- Shells: the law's pure. -/
namespace Go.Am.Sh
open Go Go.Am Go.Proofs
structure cxS (n : Int) (p : List Int) : Prop where
end Go.Am.Sh

/- Shells: what follows, in the program and in the reference; IsShelling. -/
namespace Go.Am.Sh
open Go Go.Am Go.Proofs
end Go.Am.Sh

/- Shells: the reference's Shellable. -/
namespace Go.Am.Sh
open Go Go.Am Go.Proofs
/-- The sets that are reached: one row, the first k of its pieces. -/
def rowC (p : List Int) (D : Nat) (xs : List Bool) : Nat → List Bool
 | 0 => xs
 | k + 1 => if D / 2 ^ k % 2 = 0 ∧ nxB p D k = true then (rowC p D xs k).set (D ||| 2 ^ k) true else rowC p D xs k
/-- ... the first rows. -/
def canC (p : List Int) : Nat → List Bool
 | 0 => (List.replicate (2 ^ p.length) false).set 0 true
 | D + 1 => if (canC p D).getD D false = true then rowC p D (canC p D) p.length else canC p D
def shR (p : List Int) : Bool := puB p && (canC p (2 ^ p.length)).getD (2 ^ p.length - 1) false
end Go.Am.Sh

/- Shells: what the search finds is what the reference reaches. -/
namespace Go.Am.Sh
open Go Go.Am Go.Proofs
structure rOk (p : List Int) (r : Res) : Prop where
 s : (sgK p r.2.1 r.2.1.length).isSome = true
 l : r.2.1.length = p.length
end Go.Am.Sh

/- Shells: the law of the shellings. -/
namespace Go.Am.Sh
open Go Go.Am Go.Proofs
structure shF (p : List Int) : Prop where
 e : shB p = shR p
 s : shB p = true → sgR p (shL p) = true
 z : shB p = false → shL p = []
 l : (shL p).length ≤ 10
end Go.Am.Sh

/- Shells: the walk of the law of the shellings. -/
namespace Go.Am.Sh
open Go Go.Am Go.Proofs
end Go.Am.Sh

/- Shells: Made, as the law says it; IsShelling. -/
namespace Go.Am.Sh
open Go Go.Am Go.Proofs
structure ok73 (x : List Int × Cx3) : Prop where
 h : okC x.2
 l : x.1.length < 1000000000000000
end Go.Am.Sh

/- Shells: the law of the makers. -/
namespace Go.Am.Sh
open Go Go.Am Go.Proofs
instance (n d : Int) : Decidable (momOk n d) := by unfold momOk; infer_instance
def n4 (n : Int) : Int := 3 + (modU .u64 n).tmod 4
def d4 (n d : Int) : Int := 2 + (modU .u64 d).tmod (n4 n - 2)
end Go.Am.Sh

/- Shells: the law of the makers, the outer loop. -/
namespace Go.Am.Sh
open Go Go.Am Go.Proofs
def nH : Nat → Option Hint := fun _ => none
end Go.Am.Sh

/- Shells: the rank of rows, as the reference finds it. -/
namespace Go.Am.Sh
open Go Go.Am Go.Proofs
noncomputable abbrev X69 : Cy := Xw [] (fun t => Nat.beq t 10)
noncomputable def L69_0 : Code := lp (bodyOf Try.f69) 0
noncomputable def L69_2 : Code := lp (bodyOf Try.f69) 2
def st69 (l : List Int) (i : Nat) : St := ⟨dd 3 ++ .own 0 0 :: .int .i64 (rkI l i) :: .int .i64 i :: dd 56, [.sc 0 3 I64 (rwI l i)]⟩
def ex69 (l : List Int) : List (List Nat × Ex) := [([4], ⟨0, Unit, fun _ => True, fun _ => ⟨dd 4 ++ .int .i64 (rk l) :: dd 57, []⟩⟩)]
def h69 (l : List Int) : Hint := ⟨chk 0 [3, 4, 5] (inv86 l) (st69 l), (ex69 l).map (·.2)⟩
def sj69 (l : List Int) (i j : Nat) : St := ⟨dd 3 ++ .own 0 0 :: .int .i64 (rkI l i + 1) :: .int .i64 i :: .int .i64 (lo ((rwI l i).getD i 0).toNat) :: .int .i64 j :: dd 54, [.sc 0 3 I64 (clr (rwI l i) i j)]⟩
def ej69 (l : List Int) (i : Nat) : List (List Nat × Ex) := [([3, 4, 5], ⟨2, Unit, fun _ => True, fun _ => ⟨dd 3 ++ .own 0 0 :: .int .i64 (rkI l i + 1) :: .int .i64 i :: dd 56, [.sc 0 3 I64 (clr (rwI l i) i l.length)]⟩⟩)]
def hj69 (l : List Int) (i : Nat) : Hint := ⟨chk 0 [3, 4, 5, 6, 7] (inj86 l i) (sj69 l i), (ej69 l i).map (·.2)⟩
theorem loop69b (l : List Int) (i : Nat) (hi : i < l.length) (hl : l.length < 1000000) (ho : okR l) (R : Exit → St → Prop) : LoopOK X69 L69_2 (hj69 l i) R := by
 refine loop_ok (Xw_ok _ _) (H := fun _ _ => none) [3, 4, 5, 6, 7] (inj86 l i) (sj69 l i) (fun j => l.length - j) (ej69 l i) 100 fun (j : Nat) hj => ?_
 refine of_eq (q := True ∧ True ∧ True ∧ True ∧ ((j : Int) < (↑(clr (rwI l i) i j).length : Int) → True ∧ True ∧ idxPre (j : Int) (clr (rwI l i) i j).length ∧ True ∧ True ∧ True ∧ True ∧ (¬bAnd .i64 ((clr (rwI l i) i j).getD j (0 : Int)) (↑(lo ((rwI l i).getD i (0 : Int)).toNat) : Int) = 0 → True ∧ True ∧ True ∧ True ∧ idxPre (j : Int) (clr (rwI l i) i j).length ∧ True ∧ True ∧ True ∧ idxPre (i : Int) (clr (rwI l i) i j).length ∧ True ∧ True ∧ idxPre (j : Int) (clr (rwI l i) i j).length ∧ True ∧ True ∧ inR .i64 ((j : Int) + 1) ∧ True ∧ ∃ (y : Nat), (inj86 l i y ∧ l.length - y < l.length - j) ∧ (True ∧ (↑(rkI l i) : Int) + 1 = (↑(rkI l i) : Int) + 1 ∧ (i : Int) = (i : Int) ∧ (↑(lo ((rwI l i).getD i (0 : Int)).toNat) : Int) = (↑(lo ((rwI l i).getD i (0 : Int)).toNat) : Int) ∧ (j : Int) + 1 = (y : Int) ∧ True) ∧ (clr (rwI l i) i j).set j (bXor .i64 ((clr (rwI l i) i j).getD j (0 : Int)) ((clr (rwI l i) i j).getD i (0 : Int))) = clr (rwI l i) i y ∧ True) ∧ (¬¬bAnd .i64 ((clr (rwI l i) i j).getD j (0 : Int)) (↑(lo ((rwI l i).getD i (0 : Int)).toNat) : Int) = 0 → True ∧ inR .i64 ((j : Int) + 1) ∧ True ∧ ∃ (y : Nat), (inj86 l i y ∧ l.length - y < l.length - j) ∧ (True ∧ (↑(rkI l i) : Int) + 1 = (↑(rkI l i) : Int) + 1 ∧ (i : Int) = (i : Int) ∧ (↑(lo ((rwI l i).getD i (0 : Int)).toNat) : Int) = (↑(lo ((rwI l i).getD i (0 : Int)).toNat) : Int) ∧ (j : Int) + 1 = (y : Int) ∧ True) ∧ clr (rwI l i) i j = clr (rwI l i) i y ∧ True)) ∧ (¬(j : Int) < (↑(clr (rwI l i) i j).length : Int) → ∃ (y : Unit), True ∧ (True ∧ (↑(rkI l i) : Int) + 1 = (↑(rkI l i) : Int) + 1 ∧ (i : Int) = (i : Int) ∧ True) ∧ clr (rwI l i) i j = clr (rwI l i) i l.length ∧ True)) (by kernel_rfl) ?_
 simp only [zz]
 obtain ⟨j1, j2⟩ := hj
 have hlen := rwI_length l i
 have hok := rwI_ok ho i
 rw [clr_length, hlen]
 refine ⟨fun h => ?_, fun h => by rw [show j = l.length by omega]⟩
 rw [clr_self (k := j) (by omega) (by omega), clr_self (k := i) (by omega) (by omega)]
 obtain ⟨a, ha⟩ : ∃ a : Nat, (rwI l i).getD j 0 = a := ⟨((rwI l i).getD j 0).toNat, by have := hok j; omega⟩
 obtain ⟨b, hb⟩ : ∃ b : Nat, (rwI l i).getD i 0 = b := ⟨((rwI l i).getD i 0).toNat, by have := hok i; omega⟩
 have h1 := hok j
 have h2 := hok i
 have h3 := lo_le b
 have hh : hitR (rwI l i) i j = !Nat.beq (a &&& lo b) 0 := by unfold hitR; rw [ha, hb]; try rfl
 rw [ha] at h1
 rw [hb] at h2
 rw [ha, hb]
 simp only [Int.toNat_natCast]
 rw [bAnd_nat (by omega) (by omega), bXor_nat (by omega) (by omega)]
 have hn : ∀ z : List Int, z = clr (rwI l i) i (j + 1) → inR .i64 ((j : Int) + 1) ∧ ∃ y : Nat, (inj86 l i y ∧ l.length - y < l.length - j) ∧ (j : Int) + 1 = (y : Int) ∧ z = clr (rwI l i) i y := fun z hz => ⟨by simp only [inR]; omega, j + 1, ⟨⟨by omega, by omega⟩, by omega⟩, by omega, hz⟩
 refine ⟨idx_nat (by omega), fun h0 => ⟨idx_nat (by omega), idx_nat (by omega), idx_nat (by omega), hn _ ?_⟩, fun h0 => hn _ ?_⟩
 · have := clr_hit (l := rwI l i) j1 (by omega) (by rw [hh]; cases hq : Nat.beq (a &&& lo b) 0 with
     | false => rfl
     | true => exact absurd (by have := Nat.eq_of_beq_eq_true hq; omega) h0)
   rw [ha, hb, Int.toNat_natCast, Int.toNat_natCast] at this
   exact this
 · refine (clr_miss ?_).symm
   rw [hh, show a &&& lo b = 0 by omega]; try rfl
theorem loop69 (l : List Int) (hl : l.length < 1000000) (ho : okR l) (R : Exit → St → Prop) : LoopOK X69 L69_0 (h69 l) R := by
 refine loop_ok (Xw_ok _ _) (H := fun i _ => some (hj69 l i)) [3, 4, 5] (inv86 l) (st69 l) (fun i => l.length - i) (ex69 l) 150 fun (i : Nat) hi => ?_
 have hL := fun h => loop69b l i h hl ho (bodyR X69.m0 (ex69 l) R)
 refine of_eq (q := True ∧ True ∧ True ∧ True ∧ ((i : Int) < (↑(rwI l i).length : Int) → True ∧ True ∧ idxPre (i : Int) (rwI l i).length ∧ True ∧ True ∧ ((rwI l i).getD i (0 : Int) = 0 → True ∧ inR .i64 ((i : Int) + 1) ∧ True ∧ ∃ (y : Nat), (inv86 l y ∧ l.length - y < l.length - i) ∧ (True ∧ (↑(rkI l i) : Int) = (↑(rkI l y) : Int) ∧ (i : Int) + 1 = (y : Int) ∧ True) ∧ rwI l i = rwI l y ∧ True) ∧ (¬(rwI l i).getD i (0 : Int) = 0 → True ∧ inR .i64 ((↑(rkI l i) : Int) + 1) ∧ True ∧ True ∧ True ∧ idxPre (i : Int) (rwI l i).length ∧ True ∧ True ∧ True ∧ idxPre (i : Int) (rwI l i).length ∧ True ∧ inR .i64 (-(rwI l i).getD i (0 : Int)) ∧ True ∧ True ∧ True ∧ inR .i64 ((i : Int) + 1) ∧ True ∧ LoopOK X69 L69_2 (hj69 l i) (bodyR X69.m0 (ex69 l) R) ∧ (∃ (y : Nat), inj86 l i y ∧ (True ∧ (↑(rkI l i) : Int) + 1 = (↑(rkI l i) : Int) + 1 ∧ (i : Int) = (i : Int) ∧ bAnd .i64 ((rwI l i).getD i (0 : Int)) (-(rwI l i).getD i (0 : Int)) = (↑(lo ((rwI l i).getD i (0 : Int)).toNat) : Int) ∧ (i : Int) + 1 = (y : Int) ∧ True) ∧ rwI l i = clr (rwI l i) i y ∧ True) ∧ (∀ (y : Unit), True → True ∧ inR .i64 ((i : Int) + 1) ∧ True ∧ ∃ (y : Nat), (inv86 l y ∧ l.length - y < l.length - i) ∧ (True ∧ (↑(rkI l i) : Int) + 1 = (↑(rkI l y) : Int) ∧ (i : Int) + 1 = (y : Int) ∧ True) ∧ clr (rwI l i) i l.length = rwI l y ∧ True) ∧ True)) ∧ (¬(i : Int) < (↑(rwI l i).length : Int) → ∃ (y : Unit), True ∧ ((↑(rkI l i) : Int) = (↑(rk l) : Int) ∧ True) ∧ True)) (by kernel_rfl) ?_
 simp only [zz]
 have hi : i ≤ l.length := hi
 have hlen := rwI_length l i
 have hok := rwI_ok ho i i
 have hr := rkI_le l i
 rw [hlen]
 refine ⟨fun h => ⟨idx_nat (by omega), fun h0 => ⟨by simp only [inR]; omega, i + 1, ⟨by unfold inv86; omega, by omega⟩, ⟨by rw [rkI, if_pos h0], by omega⟩, by rw [rwI, if_pos h0]⟩, fun h0 => ⟨by simp only [inR]; omega, idx_nat (by omega), idx_nat (by omega), by simp only [inR]; omega, by simp only [inR]; omega, hL (by omega), ⟨i + 1, ⟨by omega, by omega⟩, ⟨?_, by omega⟩, clr_first.symm⟩, fun _ _ => ⟨by simp only [inR]; omega, i + 1, ⟨by unfold inv86; omega, by omega⟩, ⟨by rw [rkI, if_neg h0]; omega, by omega⟩, by rw [rwI, if_neg h0]⟩⟩⟩, fun h => by rw [show i = l.length by omega]; rfl⟩
 obtain ⟨b, hb⟩ : ∃ b : Nat, (rwI l i).getD i 0 = b := ⟨((rwI l i).getD i 0).toNat, by omega⟩
 rw [hb] at hok ⊢
 rw [← Int.zero_sub, lo_i64 (by omega), Int.toNat_natCast]
theorem call69 (l : List Int) (h : (l.length < 1000000 ∧ l ≠ []) ∧ okR l) : GCall Try.prog gl 69 true [.sl I64 l] [] [.int .i64 (rk l)] [] := by
 refine gcall_of (X := X69) ((Xw_ok _ _)) (f := 69) (fn := Try.f69) (c := bodyOf Try.f69) (by kernel_rfl) (by kernel_rfl) (view := false) (rvs := [.tmp 2]) (by kernel_rfl) (H := (fun _ => some (h69 l))) 80 (by kernel_rfl) ?_
 have hL := loop69 l h.1.1 h.2
 refine of_eq (q := True ∧ True ∧ True ∧ True ∧ (l ≠ [] ∧ sumPre (0 : Nat) l.length (nat_lit 8)) ∧ True ∧ True ∧ True ∧ LoopOK X69 L69_0 (h69 l) (RetR X69 true false [ResultVar.tmp (2 : Tmp)] [AV.int .i64 (↑(rk l) : Int)] []) ∧ (∃ (y : Nat), inv86 l y ∧ (True ∧ (0 : Int) = (↑(rkI l y) : Int) ∧ (0 : Int) = (y : Int) ∧ True) ∧ l = rwI l y ∧ True) ∧ (∀ (y : Unit), True → True ∧ True ∧ True ∧ ((↑(rk l) : Int) = (↑(rk l) : Int) ∧ True) ∧ True) ∧ True) (by kernel_rfl) ?_
 simp only [zz]
 exact ⟨⟨h.1.2, by unfold sumPre; omega⟩, hL _, ⟨0, Nat.zero_le _, ⟨rfl, rfl⟩, rfl⟩, fun _ _ => trivial⟩
def e69 : Entry Try.prog gl := entry1 69 ⟨Try.f69, by kernel_rfl, by kernel_rfl, by kernel_rfl⟩ SI (fun l => (l.length < 1000000 ∧ l ≠ []) ∧ okR l) true (fun l => [.int .i64 (rk l)]) (fun _ => []) (call69)
def st69N (_ : Unit) : St := ⟨dd 3 ++ nl :: .int .i64 0 :: .int .i64 0 :: dd 56, []⟩
def ex69N : List (List Nat × Ex) := [([4], ⟨0, Unit, fun _ => True, fun _ => ⟨dd 4 ++ .int .i64 0 :: dd 57, []⟩⟩)]
def h69N : Hint := ⟨chk 0 [3, 4, 5] (fun _ => True) st69N, ex69N.map (·.2)⟩
theorem loop69N (R : Exit → St → Prop) : LoopOK X69 L69_0 h69N R := by
 refine loop_ok (Xw_ok _ _) (H := fun _ _ => none) [3, 4, 5] (fun _ => True) st69N (fun _ => 0) ex69N 100 fun _ _ => ?_
 refine of_eq (q := True ∧ True ∧ True ∧ True ∧ ((0 : Int) < 0 → True ∧ True ∧ False) ∧ (¬(0 : Int) < 0 → ∃ (y : Unit), True ∧ ((0 : Int) = 0 ∧ True) ∧ True)) (by kernel_rfl) ?_
 simp only [zz]
 exact ⟨fun h => absurd h (by decide), fun _ => trivial⟩
theorem call69N (_ : Unit) (_ : True) : GCall Try.prog gl 69 true [nl] [] [.int .i64 0] [] := by
 refine gcall_of (X := X69) ((Xw_ok _ _)) (f := 69) (fn := Try.f69) (c := bodyOf Try.f69) (by kernel_rfl) (by kernel_rfl) (view := false) (rvs := [.tmp 2]) (by kernel_rfl) (H := (fun _ => some h69N)) 80 (by kernel_rfl) ?_
 have hL := loop69N
 refine of_eq (q := True ∧ True ∧ True ∧ True ∧ sumPre (0 : Nat) (0 : Nat) (nat_lit 8) ∧ True ∧ True ∧ True ∧ LoopOK X69 L69_0 h69N (RetR X69 true false [ResultVar.tmp (2 : Tmp)] [AV.int .i64 (0 : Int)] []) ∧ (∃ (y : Unit), True ∧ (True ∧ (0 : Int) = 0 ∧ (0 : Int) = 0 ∧ True) ∧ True) ∧ (∀ (y : Unit), True → True ∧ True ∧ True ∧ ((0 : Int) = 0 ∧ True) ∧ True) ∧ True) (by kernel_rfl) ?_
 simp only [zz]
 exact ⟨by unfold sumPre; decide, hL _, fun _ _ => trivial⟩
def e69N : Entry Try.prog gl := entryW 69 ⟨Try.f69, by kernel_rfl, by kernel_rfl, by kernel_rfl⟩ false getNl (fun _ => True) true (fun _ => [nl]) (fun _ => []) (fun _ => [.int .i64 0]) (fun _ => []) call69N
end Go.Am.Sh

/- Shells: the borders, as the reference finds them. -/
namespace Go.Am.Sh
open Go Go.Am Go.Proofs
noncomputable def L68_0 : Code := lp (bodyOf Try.f68) 0
noncomputable def L68_2 : Code := lp (bodyOf Try.f68) 2
def sz68 (l : List Int) (m : Int) (k : Nat) : St := ⟨.sl I64 l :: .int .i64 m :: dd 3 ++ nl :: .int .i64 k :: dd 42, []⟩
def st68 (l : List Int) (m : Int) (k : Nat) : St := ⟨.sl I64 l :: .int .i64 m :: dd 3 ++ .own 0 0 :: .int .i64 k :: dd 42, [.sc 0 3 I64 (brdK l m k)]⟩
def jz68 (l : List Int) (m : Int) (k v : Nat) : St := ⟨.sl I64 l :: .int .i64 m :: dd 3 ++ nl :: .int .i64 k :: .int .i64 (rowK (l.getD k 0).toNat v : Nat) :: .int .i64 v :: dd 40, []⟩
def jt68 (l : List Int) (m : Int) (k v : Nat) : St := ⟨.sl I64 l :: .int .i64 m :: dd 3 ++ .own 0 0 :: .int .i64 k :: .int .i64 (rowK (l.getD k 0).toNat v : Nat) :: .int .i64 v :: dd 40, [.sc 0 3 I64 (brdK l m k)]⟩
def ejz68 (l : List Int) (m : Int) (k : Nat) : List (List Nat × Ex) := [([0, 1, 5, 6, 7], ⟨2, Unit, fun _ => True, fun _ => ⟨.sl I64 l :: .int .i64 m :: dd 3 ++ nl :: .int .i64 k :: .int .i64 (row (l.getD k 0).toNat : Nat) :: dd 41, []⟩⟩)]
def ejt68 (l : List Int) (m : Int) (k : Nat) : List (List Nat × Ex) := [([0, 1, 5, 6, 7], ⟨2, Unit, fun _ => True, fun _ => ⟨.sl I64 l :: .int .i64 m :: dd 3 ++ .own 0 0 :: .int .i64 k :: .int .i64 (row (l.getD k 0).toNat : Nat) :: dd 41, [.sc 0 3 I64 (brdK l m k)]⟩⟩)]
def hz68 (l : List Int) (m : Int) (k : Nat) : Hint := ⟨chk 0 [0, 1, 5, 6, 7, 8] (fun v => v ≤ 6) (jz68 l m k), (ejz68 l m k).map (·.2)⟩
def ht68 (l : List Int) (m : Int) (k : Nat) : Hint := ⟨chk 0 [0, 1, 5, 6, 7, 8] (fun v => v ≤ 6) (jt68 l m k), (ejt68 l m k).map (·.2)⟩
def fm68 (l : List Int) (m : Int) : List Fam := [⟨Nat, fun k => k ≤ l.length ∧ brdK l m k = [], sz68 l m, fun k => l.length - k, fun k _ => some (hz68 l m k)⟩, ⟨Nat, fun k => k ≤ l.length, st68 l m, fun k => l.length - k, fun k _ => some (ht68 l m k)⟩]
def ex68 (l : List Int) (m : Int) : List (List Nat × Ex) := [([5], ⟨0, Unit, fun _ => brdK l m l.length = [], fun _ => ⟨dd 5 ++ nl :: dd 43, []⟩⟩), ([5], ⟨0, Unit, fun _ => True, fun _ => ⟨dd 5 ++ .own 0 0 :: dd 43, [.sc 0 3 I64 (brdK l m l.length)]⟩⟩)]
def h68 (l : List Int) (m : Int) : Hint := ⟨chks 0 [0, 1, 5, 6] (fm68 l m), (ex68 l m).map (·.2)⟩
noncomputable abbrev X68 : Cy := X [e29]
theorem loop68z (l : List Int) (m : Int) (k : Nat) (ho : okL l) (hk : k < l.length) (hl : l.length ≤ 64) (R : Exit → St → Prop) : LoopOK X68 L68_2 (hz68 l m k) R := by
 refine loop_ok (X_ok _) (H := fun _ _ => none) [0, 1, 5, 6, 7, 8] (fun v => v ≤ 6) (jz68 l m k) (fun v => 6 - v) (ejz68 l m k) 100 fun (v : Nat) hv => ?_
 refine of_eq (q := True ∧ True ∧ ((v : Int) < 6 → True ∧ True ∧ idxPre (k : Int) l.length ∧ True ∧ True ∧ ((0 : Int) ≤ (v : Int) ∧ (v : Int) < bitsOf .i64) ∧ ¬(2 : Int) = 0 ∧ True ∧ ((l.getD k (0 : Int) / (2 : Int) ^ v).tmod (2 : Int) = 1 → True ∧ True ∧ True ∧ idxPre (k : Int) l.length ∧ True ∧ True ∧ (((0 : Int) ≤ (v : Int) ∧ (v : Int) < bitsOf .i64) ∧ (-9223372036854775808 : Int) ≤ 1 * 2 ^ v ∧ (1 : Int) * 2 ^ v ≤ 9223372036854775807) ∧ True ∧ (((0 : Int) ≤ bNot .i64 (l.getD k (0 : Int)) ((1 : Int) * 2 ^ v) ∧ bNot .i64 (l.getD k (0 : Int)) ((1 : Int) * 2 ^ v) < bitsOf .i64) ∧ (-9223372036854775808 : Int) ≤ 1 * 2 ^ (bNot .i64 (l.getD k (0 : Int)) ((1 : Int) * 2 ^ v)).toNat ∧ (1 : Int) * 2 ^ (bNot .i64 (l.getD k (0 : Int)) ((1 : Int) * 2 ^ v)).toNat ≤ 9223372036854775807) ∧ True ∧ True ∧ True ∧ inR .i64 ((v : Int) + 1) ∧ True ∧ ∃ (y : Nat), (y ≤ 6 ∧ (6 : Nat) - y < 6 - v) ∧ (l = l ∧ m = m ∧ True ∧ (k : Int) = (k : Int) ∧ bOr .i64 (↑(rowK (l.getD k (0 : Int)).toNat v) : Int) ((1 : Int) * 2 ^ (bNot .i64 (l.getD k (0 : Int)) ((1 : Int) * 2 ^ v)).toNat) = (↑(rowK (l.getD k (0 : Int)).toNat y) : Int) ∧ (v : Int) + 1 = (y : Int) ∧ True) ∧ True) ∧ (¬(l.getD k (0 : Int) / (2 : Int) ^ v).tmod (2 : Int) = 1 → True ∧ inR .i64 ((v : Int) + 1) ∧ True ∧ ∃ (y : Nat), (y ≤ 6 ∧ (6 : Nat) - y < 6 - v) ∧ (l = l ∧ m = m ∧ True ∧ (k : Int) = (k : Int) ∧ (↑(rowK (l.getD k (0 : Int)).toNat v) : Int) = (↑(rowK (l.getD k (0 : Int)).toNat y) : Int) ∧ (v : Int) + 1 = (y : Int) ∧ True) ∧ True)) ∧ (¬(v : Int) < 6 → ∃ (y : Unit), True ∧ (l = l ∧ m = m ∧ True ∧ (k : Int) = (k : Int) ∧ (↑(rowK (l.getD k (0 : Int)).toNat v) : Int) = (↑(row (l.getD k (0 : Int)).toNat) : Int) ∧ True) ∧ True)) (by kernel_rfl) ?_
 simp only [zz]
 have hv : v ≤ 6 := hv
 have hf := okL_get ho k
 obtain ⟨s, hs⟩ : ∃ s : Nat, l.getD k 0 = s := ⟨(l.getD k 0).toNat, by omega⟩
 rw [hs] at hf ⊢
 simp only [Int.toNat_natCast]
 have hs64 : s < 64 := by omega
 refine ⟨fun h3 => ?_, fun h3 => by rw [show v = 6 by omega]; rfl⟩
 have hv6 : v < 6 := by omega
 have hR : rowK s (v + 1) = if s / 2 ^ v % 2 = 1 then rowK s v ||| 2 ^ mns s (2 ^ v) else rowK s v := rfl
 have hB := row_bit ⟨s, hs64⟩ ⟨v, hv6⟩
 simp only at hB
 have h2 : 2 ^ v < 64 := Nat.pow_lt_pow_right (a := 2) (by decide) hv6
 have e : (2 ^ v : Int) = ((2 ^ v : Nat) : Int) := by rw [Int.natCast_pow]; try rfl
 have e1 : ((s : Int) / 2 ^ v).tmod 2 = ((s / 2 ^ v % 2 : Nat) : Int) := bit_tmod
 rw [e1, e]
 generalize 2 ^ v = P at *
 have e3 : bNot .i64 (s : Int) (1 * (P : Int)) = ((mns s P : Nat) : Int) := by
   rw [Int.one_mul, bNot_nat (by omega) (by omega)]
 have hr := rowK_lt hs64 v (by omega)
 have hn : ∀ z : Int, z = (rowK s (v + 1) : Int) → inR .i64 ((v : Int) + 1) ∧ ∃ y : Nat, (y ≤ 6 ∧ 6 - y < 6 - v) ∧ z = (rowK s y : Int) ∧ (v : Int) + 1 = (y : Int) := fun z hz => ⟨by simp only [inR]; omega, v + 1, by omega, hz, by omega⟩
 rw [e3]
 have hx : idxPre (k : Int) l.length := idx_nat hk
 have hb6 : 0 ≤ (v : Int) ∧ (v : Int) < bitsOf .i64 := ⟨by omega, by simp only [bitsOf]; omega⟩
 refine ⟨hx, hb6, by decide, fun hb => ?_, fun hb => hn _ ?_⟩
 · have hb' : s / P % 2 = 1 := by omega
   have hm := hB hb'
   have hp : 2 ^ mns s P < 9223372036854775808 := Nat.pow_lt_pow_right (a := 2) (by decide) hm
   have e4 : (2 ^ mns s P : Int) = ((2 ^ mns s P : Nat) : Int) := by rw [Int.natCast_pow]; try rfl
   rw [Int.toNat_natCast, e4]
   rw [if_pos hb'] at hR
   generalize 2 ^ mns s P = Q at *
   rw [Int.one_mul, Int.one_mul, bOr_nat (by omega) (by omega)]
   exact ⟨hx, ⟨hb6, by omega, by omega⟩, ⟨⟨by omega, by simp only [bitsOf]; omega⟩, by omega, by omega⟩, hn _ (by rw [hR])⟩
 · rw [hR, if_neg (by omega)]
theorem loop68t (l : List Int) (m : Int) (k : Nat) (ho : okL l) (hk : k < l.length) (hl : l.length ≤ 64) (R : Exit → St → Prop) : LoopOK X68 L68_2 (ht68 l m k) R := by
 refine loop_ok (X_ok _) (H := fun _ _ => none) [0, 1, 5, 6, 7, 8] (fun v => v ≤ 6) (jt68 l m k) (fun v => 6 - v) (ejt68 l m k) 100 fun (v : Nat) hv => ?_
 refine of_eq (q := True ∧ True ∧ ((v : Int) < 6 → True ∧ True ∧ idxPre (k : Int) l.length ∧ True ∧ True ∧ ((0 : Int) ≤ (v : Int) ∧ (v : Int) < bitsOf .i64) ∧ ¬(2 : Int) = 0 ∧ True ∧ ((l.getD k (0 : Int) / (2 : Int) ^ v).tmod (2 : Int) = 1 → True ∧ True ∧ True ∧ idxPre (k : Int) l.length ∧ True ∧ True ∧ (((0 : Int) ≤ (v : Int) ∧ (v : Int) < bitsOf .i64) ∧ (-9223372036854775808 : Int) ≤ 1 * 2 ^ v ∧ (1 : Int) * 2 ^ v ≤ 9223372036854775807) ∧ True ∧ (((0 : Int) ≤ bNot .i64 (l.getD k (0 : Int)) ((1 : Int) * 2 ^ v) ∧ bNot .i64 (l.getD k (0 : Int)) ((1 : Int) * 2 ^ v) < bitsOf .i64) ∧ (-9223372036854775808 : Int) ≤ 1 * 2 ^ (bNot .i64 (l.getD k (0 : Int)) ((1 : Int) * 2 ^ v)).toNat ∧ (1 : Int) * 2 ^ (bNot .i64 (l.getD k (0 : Int)) ((1 : Int) * 2 ^ v)).toNat ≤ 9223372036854775807) ∧ True ∧ True ∧ True ∧ inR .i64 ((v : Int) + 1) ∧ True ∧ ∃ (y : Nat), (y ≤ 6 ∧ (6 : Nat) - y < 6 - v) ∧ (l = l ∧ m = m ∧ True ∧ (k : Int) = (k : Int) ∧ bOr .i64 (↑(rowK (l.getD k (0 : Int)).toNat v) : Int) ((1 : Int) * 2 ^ (bNot .i64 (l.getD k (0 : Int)) ((1 : Int) * 2 ^ v)).toNat) = (↑(rowK (l.getD k (0 : Int)).toNat y) : Int) ∧ (v : Int) + 1 = (y : Int) ∧ True) ∧ brdK l m k = brdK l m k ∧ True) ∧ (¬(l.getD k (0 : Int) / (2 : Int) ^ v).tmod (2 : Int) = 1 → True ∧ inR .i64 ((v : Int) + 1) ∧ True ∧ ∃ (y : Nat), (y ≤ 6 ∧ (6 : Nat) - y < 6 - v) ∧ (l = l ∧ m = m ∧ True ∧ (k : Int) = (k : Int) ∧ (↑(rowK (l.getD k (0 : Int)).toNat v) : Int) = (↑(rowK (l.getD k (0 : Int)).toNat y) : Int) ∧ (v : Int) + 1 = (y : Int) ∧ True) ∧ brdK l m k = brdK l m k ∧ True)) ∧ (¬(v : Int) < 6 → ∃ (y : Unit), True ∧ (l = l ∧ m = m ∧ True ∧ (k : Int) = (k : Int) ∧ (↑(rowK (l.getD k (0 : Int)).toNat v) : Int) = (↑(row (l.getD k (0 : Int)).toNat) : Int) ∧ True) ∧ brdK l m k = brdK l m k ∧ True)) (by kernel_rfl) ?_
 simp only [zz]
 have hv : v ≤ 6 := hv
 have hf := okL_get ho k
 obtain ⟨s, hs⟩ : ∃ s : Nat, l.getD k 0 = s := ⟨(l.getD k 0).toNat, by omega⟩
 rw [hs] at hf ⊢
 simp only [Int.toNat_natCast]
 have hs64 : s < 64 := by omega
 refine ⟨fun h3 => ?_, fun h3 => by rw [show v = 6 by omega]; rfl⟩
 have hv6 : v < 6 := by omega
 have hR : rowK s (v + 1) = if s / 2 ^ v % 2 = 1 then rowK s v ||| 2 ^ mns s (2 ^ v) else rowK s v := rfl
 have hB := row_bit ⟨s, hs64⟩ ⟨v, hv6⟩
 simp only at hB
 have h2 : 2 ^ v < 64 := Nat.pow_lt_pow_right (a := 2) (by decide) hv6
 have e : (2 ^ v : Int) = ((2 ^ v : Nat) : Int) := by rw [Int.natCast_pow]; try rfl
 have e1 : ((s : Int) / 2 ^ v).tmod 2 = ((s / 2 ^ v % 2 : Nat) : Int) := bit_tmod
 rw [e1, e]
 generalize 2 ^ v = P at *
 have e3 : bNot .i64 (s : Int) (1 * (P : Int)) = ((mns s P : Nat) : Int) := by
   rw [Int.one_mul, bNot_nat (by omega) (by omega)]
 have hr := rowK_lt hs64 v (by omega)
 have hn : ∀ z : Int, z = (rowK s (v + 1) : Int) → inR .i64 ((v : Int) + 1) ∧ ∃ y : Nat, (y ≤ 6 ∧ 6 - y < 6 - v) ∧ z = (rowK s y : Int) ∧ (v : Int) + 1 = (y : Int) := fun z hz => ⟨by simp only [inR]; omega, v + 1, by omega, hz, by omega⟩
 rw [e3]
 have hx : idxPre (k : Int) l.length := idx_nat hk
 have hb6 : 0 ≤ (v : Int) ∧ (v : Int) < bitsOf .i64 := ⟨by omega, by simp only [bitsOf]; omega⟩
 refine ⟨hx, hb6, by decide, fun hb => ?_, fun hb => hn _ ?_⟩
 · have hb' : s / P % 2 = 1 := by omega
   have hm := hB hb'
   have hp : 2 ^ mns s P < 9223372036854775808 := Nat.pow_lt_pow_right (a := 2) (by decide) hm
   have e4 : (2 ^ mns s P : Int) = ((2 ^ mns s P : Nat) : Int) := by rw [Int.natCast_pow]; try rfl
   rw [Int.toNat_natCast, e4]
   rw [if_pos hb'] at hR
   generalize 2 ^ mns s P = Q at *
   rw [Int.one_mul, Int.one_mul, bOr_nat (by omega) (by omega)]
   exact ⟨hx, ⟨hb6, by omega, by omega⟩, ⟨⟨by omega, by simp only [bitsOf]; omega⟩, by omega, by omega⟩, hn _ (by rw [hR])⟩
 · rw [hR, if_neg (by omega)]
theorem loop68 (l : List Int) (m : Int) (ho : okL l) (hl : l.length ≤ 64) (R : Exit → St → Prop) : LoopOK X68 L68_0 (h68 l m) R := by
 refine loop_fams (X_ok _) [0, 1, 5, 6] (fm68 l m) (ex68 l m) 150 ⟨fun (k : Nat) hk => ?_, fun (k : Nat) hk => ?_, trivial⟩
 · have hL := fun h => loop68z l m k ho h hl (bodyR 0 (ex68 l m) R)
   refine of_eq (q := True ∧ True ∧ True ∧ True ∧ ((k : Int) < (l.length : Int) → True ∧ True ∧ idxPre (k : Int) l.length ∧ True ∧ (((0 : Int) ≤ l.getD k (0 : Int) ∧ l.getD k (0 : Int) < 64) ∧ True) ∧ True ∧ True ∧ (¬(↑(pc (Int.toNat (l.getD k (0 : Int)))) : Int) = m → True ∧ inR .i64 ((k : Int) + 1) ∧ True ∧ ((∃ (y : Nat), ((y ≤ l.length ∧ brdK l m y = []) ∧ l.length - y < l.length - k) ∧ (l = l ∧ m = m ∧ True ∧ (k : Int) + 1 = (y : Int) ∧ True) ∧ True) ∨ ∃ (y : Nat), (y ≤ l.length ∧ l.length - y < l.length - k) ∧ (l = l ∧ m = m ∧ False ∧ (k : Int) + 1 = (y : Int) ∧ True) ∧ False)) ∧ (¬¬(↑(pc (Int.toNat (l.getD k (0 : Int)))) : Int) = m → True ∧ True ∧ LoopOK X68 L68_2 (hz68 l m k) (bodyR (0 : Nat) (ex68 l m) R) ∧ (∃ (y : Nat), y ≤ 6 ∧ (l = l ∧ m = m ∧ True ∧ (k : Int) = (k : Int) ∧ (0 : Int) = (↑(rowK (l.getD k (0 : Int)).toNat y) : Int) ∧ (0 : Int) = (y : Int) ∧ True) ∧ True) ∧ (∀ (y : Unit), True → True ∧ True ∧ True ∧ sumPre (0 : Nat) [(↑(row (l.getD k (0 : Int)).toNat) : Int)].length (nat_lit 8) ∧ True ∧ True ∧ inR .i64 ((k : Int) + 1) ∧ True ∧ ((∃ (y : Nat), ((y ≤ l.length ∧ brdK l m y = []) ∧ l.length - y < l.length - k) ∧ (l = l ∧ m = m ∧ False ∧ (k : Int) + 1 = (y : Int) ∧ True) ∧ True) ∨ ∃ (y : Nat), (y ≤ l.length ∧ l.length - y < l.length - k) ∧ (l = l ∧ m = m ∧ True ∧ (k : Int) + 1 = (y : Int) ∧ True) ∧ [(↑(row (l.getD k (0 : Int)).toNat) : Int)] = brdK l m y ∧ True)) ∧ True)) ∧ (¬(k : Int) < (l.length : Int) → (∃ (y : Unit), brdK l m l.length = [] ∧ (True ∧ True) ∧ True) ∨ ∃ (y : Unit), True ∧ (False ∧ True) ∧ False)) (by kernel_rfl) ?_
   simp only [zz]
   obtain ⟨k1, k2⟩ := hk
   refine ⟨fun h => ⟨idx_nat (by omega), okL_get ho k, fun h2 => ⟨by simp only [inR]; omega, k + 1, ⟨⟨by omega, by rw [brdK, if_neg h2]; exact k2⟩, by omega⟩, by omega⟩, fun h2 => ⟨hL (by omega), ⟨0, by omega, rfl, rfl⟩, fun _ _ => ⟨by unfold sumPre; simp, by simp only [inR]; omega, k + 1, ⟨by omega, by omega⟩, by omega, by rw [brdK, if_pos (Classical.not_not.mp h2), k2] <;> rfl⟩⟩⟩, fun h => by rw [← show k = l.length by omega]; exact k2⟩
 · have hL := fun h => loop68t l m k ho h hl (bodyR 0 (ex68 l m) R)
   refine of_eq (q := True ∧ True ∧ True ∧ True ∧ ((k : Int) < (l.length : Int) → True ∧ True ∧ idxPre (k : Int) l.length ∧ True ∧ (((0 : Int) ≤ l.getD k (0 : Int) ∧ l.getD k (0 : Int) < 64) ∧ True) ∧ True ∧ True ∧ (¬(↑(pc (Int.toNat (l.getD k (0 : Int)))) : Int) = m → True ∧ inR .i64 ((k : Int) + 1) ∧ True ∧ ((∃ (y : Nat), ((y ≤ l.length ∧ brdK l m y = []) ∧ l.length - y < l.length - k) ∧ (l = l ∧ m = m ∧ False ∧ (k : Int) + 1 = (y : Int) ∧ True) ∧ True) ∨ ∃ (y : Nat), (y ≤ l.length ∧ l.length - y < l.length - k) ∧ (l = l ∧ m = m ∧ True ∧ (k : Int) + 1 = (y : Int) ∧ True) ∧ brdK l m k = brdK l m y ∧ True)) ∧ (¬¬(↑(pc (Int.toNat (l.getD k (0 : Int)))) : Int) = m → True ∧ True ∧ LoopOK X68 L68_2 (ht68 l m k) (bodyR (0 : Nat) (ex68 l m) R) ∧ (∃ (y : Nat), y ≤ 6 ∧ (l = l ∧ m = m ∧ True ∧ (k : Int) = (k : Int) ∧ (0 : Int) = (↑(rowK (l.getD k (0 : Int)).toNat y) : Int) ∧ (0 : Int) = (y : Int) ∧ True) ∧ brdK l m k = brdK l m k ∧ True) ∧ (∀ (y : Unit), True → True ∧ True ∧ True ∧ sumPre (brdK l m k).length [(↑(row (l.getD k (0 : Int)).toNat) : Int)].length (nat_lit 8) ∧ True ∧ True ∧ inR .i64 ((k : Int) + 1) ∧ True ∧ ((∃ (y : Nat), ((y ≤ l.length ∧ brdK l m y = []) ∧ l.length - y < l.length - k) ∧ (l = l ∧ m = m ∧ False ∧ (k : Int) + 1 = (y : Int) ∧ True) ∧ True) ∨ ∃ (y : Nat), (y ≤ l.length ∧ l.length - y < l.length - k) ∧ (l = l ∧ m = m ∧ True ∧ (k : Int) + 1 = (y : Int) ∧ True) ∧ brdK l m k ++ [(↑(row (l.getD k (0 : Int)).toNat) : Int)] = brdK l m y ∧ True)) ∧ True)) ∧ (¬(k : Int) < (l.length : Int) → (∃ (y : Unit), brdK l m l.length = [] ∧ (False ∧ True) ∧ True) ∨ ∃ (y : Unit), True ∧ (True ∧ True) ∧ brdK l m k = brdK l m l.length ∧ True)) (by kernel_rfl) ?_
   simp only [zz]
   have hk : k ≤ l.length := hk
   have hle := brdK_len l m k
   refine ⟨fun h => ⟨idx_nat (by omega), okL_get ho k, fun h2 => ⟨by simp only [inR]; omega, k + 1, ⟨by omega, by omega⟩, by omega, by rw [brdK, if_neg h2]⟩, fun h2 => ⟨hL (by omega), ⟨0, by omega, rfl, rfl⟩, fun _ _ => ⟨by unfold sumPre; simp; omega, by simp only [inR]; omega, k + 1, ⟨by omega, by omega⟩, by omega, by rw [brdK, if_pos (Classical.not_not.mp h2)] <;> rfl⟩⟩⟩, fun h => by rw [show k = l.length by omega]⟩
theorem call68 (l : List Int) (m : Int) (h : okL l ∧ l.length ≤ 64) : GCall Try.prog gl 68 true [.sl I64 l, .int .i64 m] [] [.sl I64 (brdK l m l.length)] [] := by
 refine gcall_of (X := X68) ((X_ok _)) (f := 68) (fn := Try.f68) (c := bodyOf Try.f68) (by kernel_rfl) (by kernel_rfl) (view := true) (rvs := [.tmp 4]) (by kernel_rfl) (H := (fun _ => some (h68 l m))) 80 (by kernel_rfl) ?_
 have hL := loop68 l m h.1 h.2
 refine of_eq (q := True ∧ True ∧ True ∧ LoopOK X68 L68_0 (h68 l m) (RetR X68 true true [ResultVar.tmp (4 : Tmp)] [AV.sl I64 (brdK l m l.length)] []) ∧ ((∃ (y : Nat), (y ≤ l.length ∧ brdK l m y = []) ∧ (l = l ∧ m = m ∧ True ∧ (0 : Int) = (y : Int) ∧ True) ∧ True) ∨ ∃ (y : Nat), y ≤ l.length ∧ (l = l ∧ m = m ∧ False ∧ (0 : Int) = (y : Int) ∧ True) ∧ False) ∧ (∀ (y : Unit), brdK l m l.length = [] → True ∧ True ∧ True ∧ (([] : List Int) = brdK l m l.length ∧ True) ∧ True) ∧ (∀ (y : Unit), True → True ∧ True ∧ True ∧ (brdK l m l.length = brdK l m l.length ∧ True) ∧ True) ∧ True) (by kernel_rfl) ?_
 simp only [zz]
 exact ⟨hL _, ⟨0, ⟨Nat.zero_le _, rfl⟩, rfl⟩, fun _ h => h.symm, fun _ _ => trivial⟩
def fm68N (l : List Int) (m : Int) : List Fam := [⟨Nat, fun k => k ≤ l.length, sz68 l m, fun k => l.length - k, fun k _ => some (hz68 l m k)⟩]
def ex68N : List (List Nat × Ex) := [([5], ⟨0, Unit, fun _ => True, fun _ => ⟨dd 5 ++ nl :: dd 43, []⟩⟩)]
def h68N (l : List Int) (m : Int) : Hint := ⟨chks 0 [0, 1, 5, 6] (fm68N l m), ex68N.map (·.2)⟩
theorem loop68N (l : List Int) (m : Int) (ho : okL l) (hl : l.length ≤ 64) (hN : brdK l m l.length = []) (R : Exit → St → Prop) : LoopOK X68 L68_0 (h68N l m) R := by
 refine loop_fams (X_ok _) [0, 1, 5, 6] (fm68N l m) ex68N 150 ⟨fun (k : Nat) hk => ?_, trivial⟩
 have hL := fun h => loop68z l m k ho h hl (bodyR 0 ex68N R)
 refine of_eq (q := True ∧ True ∧ True ∧ True ∧ ((k : Int) < (l.length : Int) → True ∧ True ∧ idxPre (k : Int) l.length ∧ True ∧ (((0 : Int) ≤ l.getD k (0 : Int) ∧ l.getD k (0 : Int) < 64) ∧ True) ∧ True ∧ True ∧ (¬(↑(pc (Int.toNat (l.getD k (0 : Int)))) : Int) = m → True ∧ inR .i64 ((k : Int) + 1) ∧ True ∧ ∃ (y : Nat), (y ≤ l.length ∧ l.length - y < l.length - k) ∧ (l = l ∧ m = m ∧ True ∧ (k : Int) + 1 = (y : Int) ∧ True) ∧ True) ∧ (¬¬(↑(pc (Int.toNat (l.getD k (0 : Int)))) : Int) = m → True ∧ True ∧ LoopOK X68 L68_2 (hz68 l m k) (bodyR (0 : Nat) ex68N R) ∧ (∃ (y : Nat), y ≤ 6 ∧ (l = l ∧ m = m ∧ True ∧ (k : Int) = (k : Int) ∧ (0 : Int) = (↑(rowK (l.getD k (0 : Int)).toNat y) : Int) ∧ (0 : Int) = (y : Int) ∧ True) ∧ True) ∧ (∀ (y : Unit), True → True ∧ True ∧ True ∧ sumPre (0 : Nat) [(↑(row (l.getD k (0 : Int)).toNat) : Int)].length (nat_lit 8) ∧ True ∧ True ∧ inR .i64 ((k : Int) + 1) ∧ True ∧ ∃ (y : Nat), (y ≤ l.length ∧ l.length - y < l.length - k) ∧ (l = l ∧ m = m ∧ False ∧ (k : Int) + 1 = (y : Int) ∧ True) ∧ True) ∧ True)) ∧ (¬(k : Int) < (l.length : Int) → ∃ (y : Unit), True ∧ (True ∧ True) ∧ True)) (by kernel_rfl) ?_
 simp only [zz]
 have hk : k ≤ l.length := hk
 have hn := brdK_nil.mp hN k
 exact ⟨fun h => ⟨idx_nat (by omega), okL_get ho k, fun h2 => ⟨by simp only [inR]; omega, k + 1, ⟨by omega, by omega⟩, by omega⟩, fun h2 => absurd (Classical.not_not.mp h2) (hn (by omega))⟩, fun _ => trivial⟩
theorem call68N (l : List Int) (m : Int) (h : (okL l ∧ l.length ≤ 64) ∧ brdK l m l.length = []) : GCall Try.prog gl 68 true [.sl I64 l, .int .i64 m] [] [nl] [] := by
 refine gcall_of (X := X68) ((X_ok _)) (f := 68) (fn := Try.f68) (c := bodyOf Try.f68) (by kernel_rfl) (by kernel_rfl) (view := false) (rvs := [.tmp 4]) (by kernel_rfl) (H := (fun _ => some (h68N l m))) 80 (by kernel_rfl) ?_
 have hL := loop68N l m h.1.1 h.1.2 h.2
 refine of_eq (q := True ∧ True ∧ True ∧ LoopOK X68 L68_0 (h68N l m) (RetR X68 true false [ResultVar.tmp (4 : Tmp)] [nl] []) ∧ (∃ (y : Nat), y ≤ l.length ∧ (l = l ∧ m = m ∧ True ∧ (0 : Int) = (y : Int) ∧ True) ∧ True) ∧ (∀ (y : Unit), True → True ∧ True ∧ True ∧ (True ∧ True) ∧ True) ∧ True) (by kernel_rfl) ?_
 simp only [zz]
 exact ⟨hL _, ⟨0, Nat.zero_le _, rfl⟩, fun _ _ => trivial⟩
def e68 : Entry Try.prog gl := entry2 68 ⟨Try.f68, by kernel_rfl, by kernel_rfl, by kernel_rfl⟩ SI I64 (fun l (_ : Int) => okL l ∧ l.length ≤ 64) true (fun l (m : Int) => [.sl I64 (brdK l m l.length)]) (fun _ _ => []) (fun l (m : Int) h => call68 l m h)
def e68N : Entry Try.prog gl := entry2 68 ⟨Try.f68, by kernel_rfl, by kernel_rfl, by kernel_rfl⟩ SI I64 (fun l (m : Int) => (okL l ∧ l.length ≤ 64) ∧ brdK l m l.length = []) true (fun _ _ => [nl]) (fun _ _ => []) (fun l (m : Int) h => call68N l m h)
end Go.Am.Sh

/- Shells: the hollow numbers, as the reference finds them. -/
namespace Go.Am.Sh
open Go Go.Am Go.Proofs
theorem brdK_length {l : List Int} {m : Nat} : ∀ {k : Nat}, k ≤ l.length → (brdK l m k).length = ((l.take k).filter fun s => pc s.toNat == m).length
 | 0, _ => by simp [brdK]
 | k + 1, h => by
   rw [take_getD (d := 0) (by omega), List.filter_append, List.length_append, ← brdK_length (by omega), brdK]
   by_cases e : pc (l.getD k 0).toNat = m
   · rw [if_pos (by omega), List.length_append, List.filter_cons_of_pos (by simp only [beq_iff_eq]; exact e)]; try rfl
   · rw [if_neg (by omega), List.filter_cons_of_neg (by simp only [beq_iff_eq]; exact e)]; try rfl
theorem brd_cnt {p : List Int} {m : Nat} (h : m ≤ (mxL p).toNat) : ((brd p m).length : Int) = (cnts p).getD m 0 := by
 unfold brd cnts
 rw [show fcs p = trueN (isF p) 64 from rfl, brdK_length (Nat.le_refl _)]
 unfold cntL
 rw [List.getD_eq_getElem?_getD, List.getElem?_map, List.getElem?_range (by omega)]
 rfl
theorem hoK_step {p : List Int} {k : Nat} (h : (k : Int) + 1 ≤ mxL p) : hoK p (k + 1) = hoK p k ++ [((brd p ((k : Int) + 1)).length : Int) - (rk (brd p ((k : Int) + 1)) : Int) - (rk (brd p ((k : Int) + 2)) : Int)] := by
 have e := brd_cnt (p := p) (m := k + 1) (by omega)
 rw [hoK, ← e, show (k : Int) + 1 + 1 = (k : Int) + 2 by omega]
 rfl
theorem hoK_one {p : List Int} (h : 1 ≤ mxL p) : hoK p 1 = [((brd p 1).length : Int) - (rk (brd p 1) : Int) - (rk (brd p 2) : Int)] := hoK_step (k := 0) (by omega)
noncomputable def L31_0 : Code := lp (bodyOf Try.f31) 0
def s31z (p : List Int) (_ : Unit) : St := ⟨dd 5 ++ .sl I64 (fcs p) :: .int .i64 (mxL p) :: nl :: .int .i64 0 :: dd 35, []⟩
def s31t (p : List Int) (k : Nat) : St := ⟨dd 5 ++ .sl I64 (fcs p) :: .int .i64 (mxL p) :: .own 0 0 :: .int .i64 k :: dd 35, [.sc 0 3 I64 (hoK p k)]⟩
def fm31 (p : List Int) : List Fam := [⟨Unit, fun _ => True, s31z p, fun _ => 10, fun _ _ => none⟩, ⟨Nat, fun k => 1 ≤ k ∧ (k : Int) ≤ mxL p, s31t p, fun k => (mxL p).toNat - k, fun _ _ => none⟩]
def ex31 (p : List Int) : List (List Nat × Ex) := [([7], ⟨0, Unit, fun _ => True, fun _ => ⟨dd 7 ++ .own 0 0 :: dd 36, [.sc 0 3 I64 (hoL p)]⟩⟩)]
noncomputable def H31 (p : List Int) : Nat → Option Hint := fun _ => some ⟨chks 0 [5, 6, 7, 8] (fm31 p), (ex31 p).map (·.2)⟩
noncomputable def XD0 (l : EL) (d : List (Nat × EL)) : Cy := mkD Try.prog tt gl l d 0 (fun _ => none)
theorem XD0_ok (l : EL) (d : List (Nat × EL)) : (XD0 l d).Ok := mkD_ok tt_ok l d 0 _
noncomputable abbrev X31 : Cy := XD0 [e35, e40, e68, e69] []
noncomputable abbrev X31e : Cy := XD0 [e35, e40, e68, e69] [(31, [e68N]), (39, [e69N])]
theorem loop31 (n : Int) (p : List Int) (h : cxOk n p) (R : Exit → St → Prop) : LoopOK X31 L31_0 ⟨chks 0 [5, 6, 7, 8] (fm31 p), (ex31 p).map (·.2)⟩ R := by
 have hlen : (fcs p).length ≤ 64 := fcs_len p
 have hoF := fcs_ok p
 obtain ⟨m1, m2⟩ := mxL_le p
 have eb : ∀ m, brdK (fcs p) m (fcs p).length = brd p m := fun _ => rfl
 refine loop_famsX [5, 6, 7, 8] (fm31 p) (ex31 p) 250 ⟨fun _ _ => ?_, fun (k : Nat) hk => ?_, trivial⟩
 · have m3 := mxL_pos h
   have hb := cnts_bdd p 1
   have hc := brd_cnt (p := p) (m := 1) (by omega)
   have hB1 : brd p 1 ≠ [] := brd_some h.ok (m := 1) (by decide) (by omega)
   have h1 := rk_le p 1
   have h2 := rk_le p 2
   have l1 := brd_len p 1
   have l2 := brd_len p 2
   by_cases hd : mxL p = 1
   · refine ⟨X31e, XD0_ok _ _, rfl, rfl, rfl, rfl, ?_⟩
     have hN := brd_none h.ok (m := 2) (by omega)
     refine of_eq (q := True ∧ True ∧ True ∧ ((0 : Int) < mxL p → True ∧ True ∧ inR .i64 (1 : Int) ∧ ((okL (fcs p) ∧ (fcs p).length ≤ 64) ∧ True) ∧ True ∧ True ∧ inR .i64 (2 : Int) ∧ (((okL (fcs p) ∧ (fcs p).length ≤ 64) ∧ brdK (fcs p) (2 : Int) (fcs p).length = []) ∧ True) ∧ True ∧ True ∧ True ∧ True ∧ True ∧ True ∧ ((((brdK (fcs p) (1 : Int) (fcs p).length).length < 1000000 ∧ ¬brdK (fcs p) (1 : Int) (fcs p).length = []) ∧ okR (brdK (fcs p) (1 : Int) (fcs p).length)) ∧ True) ∧ inR .i64 ((↑(brdK (fcs p) (1 : Int) (fcs p).length).length : Int) - (↑(rk (brdK (fcs p) (1 : Int) (fcs p).length)) : Int)) ∧ True ∧ ((True ∧ (True ∧ True) ∧ True) ∧ True) ∧ inR .i64 ((↑(brdK (fcs p) (1 : Int) (fcs p).length).length : Int) - (↑(rk (brdK (fcs p) (1 : Int) (fcs p).length)) : Int) - 0) ∧ True ∧ sumPre (0 : Nat) [(↑(brdK (fcs p) (1 : Int) (fcs p).length).length : Int) - (↑(rk (brdK (fcs p) (1 : Int) (fcs p).length)) : Int) - 0].length (nat_lit 8) ∧ True ∧ True ∧ inR .i64 (1 : Int) ∧ True ∧ ((∃ (y : Unit), (True ∧ (10 : Nat) < 10) ∧ (fcs p = fcs p ∧ mxL p = mxL p ∧ False ∧ (1 : Int) = 0 ∧ True) ∧ True) ∨ ∃ (y : Nat), (((1 : Nat) ≤ y ∧ (y : Int) ≤ mxL p) ∧ (mxL p).toNat - y < 10) ∧ (fcs p = fcs p ∧ mxL p = mxL p ∧ True ∧ (1 : Int) = (y : Int) ∧ True) ∧ [(↑(brdK (fcs p) (1 : Int) (fcs p).length).length : Int) - (↑(rk (brdK (fcs p) (1 : Int) (fcs p).length)) : Int) - 0] = hoK p y ∧ True)) ∧ (¬(0 : Int) < mxL p → ∃ (y : Unit), True ∧ (False ∧ True) ∧ False)) (by kernel_rfl) ?_
     simp only [zz]
     simp only [eb, hoF, hlen, hN, brd_ok, hB1, and_true, true_and, not_false_eq_true]
     refine ⟨fun _ => ⟨by simp only [inR]; omega, by simp only [inR]; omega, by omega, by simp only [inR]; omega, by simp only [inR]; omega, by unfold sumPre; simp, by simp only [inR]; omega, 1, ⟨⟨by omega, by omega⟩, by omega⟩, rfl, ?_⟩, fun h => by omega⟩
     rw [hoK_one m3, hN, rk_nil]; try rfl
   · refine ⟨X31, XD0_ok _ _, rfl, rfl, rfl, rfl, ?_⟩
     have hB2 : brd p 2 ≠ [] := brd_some h.ok (m := 2) (by decide) (by omega)
     refine of_eq (q := True ∧ True ∧ True ∧ ((0 : Int) < mxL p → True ∧ True ∧ inR .i64 (1 : Int) ∧ ((okL (fcs p) ∧ (fcs p).length ≤ 64) ∧ True) ∧ True ∧ True ∧ inR .i64 (2 : Int) ∧ ((okL (fcs p) ∧ (fcs p).length ≤ 64) ∧ True) ∧ True ∧ True ∧ True ∧ True ∧ True ∧ True ∧ ((((brdK (fcs p) (1 : Int) (fcs p).length).length < 1000000 ∧ ¬brdK (fcs p) (1 : Int) (fcs p).length = []) ∧ okR (brdK (fcs p) (1 : Int) (fcs p).length)) ∧ True) ∧ inR .i64 ((↑(brdK (fcs p) (1 : Int) (fcs p).length).length : Int) - (↑(rk (brdK (fcs p) (1 : Int) (fcs p).length)) : Int)) ∧ True ∧ ((((brdK (fcs p) (2 : Int) (fcs p).length).length < 1000000 ∧ ¬brdK (fcs p) (2 : Int) (fcs p).length = []) ∧ okR (brdK (fcs p) (2 : Int) (fcs p).length)) ∧ True) ∧ inR .i64 ((↑(brdK (fcs p) (1 : Int) (fcs p).length).length : Int) - (↑(rk (brdK (fcs p) (1 : Int) (fcs p).length)) : Int) - (↑(rk (brdK (fcs p) (2 : Int) (fcs p).length)) : Int)) ∧ True ∧ sumPre (0 : Nat) [(↑(brdK (fcs p) (1 : Int) (fcs p).length).length : Int) - (↑(rk (brdK (fcs p) (1 : Int) (fcs p).length)) : Int) - (↑(rk (brdK (fcs p) (2 : Int) (fcs p).length)) : Int)].length (nat_lit 8) ∧ True ∧ True ∧ inR .i64 (1 : Int) ∧ True ∧ ((∃ (y : Unit), (True ∧ (10 : Nat) < 10) ∧ (fcs p = fcs p ∧ mxL p = mxL p ∧ False ∧ (1 : Int) = 0 ∧ True) ∧ True) ∨ ∃ (y : Nat), (((1 : Nat) ≤ y ∧ (y : Int) ≤ mxL p) ∧ (mxL p).toNat - y < 10) ∧ (fcs p = fcs p ∧ mxL p = mxL p ∧ True ∧ (1 : Int) = (y : Int) ∧ True) ∧ [(↑(brdK (fcs p) (1 : Int) (fcs p).length).length : Int) - (↑(rk (brdK (fcs p) (1 : Int) (fcs p).length)) : Int) - (↑(rk (brdK (fcs p) (2 : Int) (fcs p).length)) : Int)] = hoK p y ∧ True)) ∧ (¬(0 : Int) < mxL p → ∃ (y : Unit), True ∧ (False ∧ True) ∧ False)) (by kernel_rfl) ?_
     simp only [zz]
     simp only [eb, hoF, hlen, brd_ok, hB1, hB2, and_true, true_and, not_false_eq_true]
     refine ⟨fun _ => ⟨by simp only [inR]; omega, by simp only [inR]; omega, by omega, by simp only [inR]; omega, by omega, by simp only [inR]; omega, by unfold sumPre; simp, by simp only [inR]; omega, 1, ⟨⟨by omega, by omega⟩, by omega⟩, rfl, (hoK_one m3).symm⟩, fun h => by omega⟩
 · obtain ⟨k1, k2⟩ := hk
   have hb := cnts_bdd p (k + 1)
   have h1 := rk_le p ((k : Int) + 1)
   have h2 := rk_le p ((k : Int) + 2)
   have l1 := brd_len p ((k : Int) + 1)
   have l2 := brd_len p ((k : Int) + 2)
   have hh := hoK_length p k
   have hB1 : (k : Int) < mxL p → ¬ brd p ((k : Int) + 1) = [] := fun h3 => brd_some h.ok (m := k + 1) (by omega) (by omega)
   have hB2 : (k : Int) + 1 < mxL p → ¬ brd p ((k : Int) + 2) = [] := fun h3 => brd_some h.ok (m := k + 2) (by omega) (by omega)
   by_cases hd : mxL p ≤ (k : Int) + 1
   · refine ⟨X31e, XD0_ok _ _, rfl, rfl, rfl, rfl, ?_⟩
     have hN := brd_none h.ok (m := (k : Int) + 2) (by omega)
     refine of_eq (q := True ∧ True ∧ True ∧ ((k : Int) < mxL p → True ∧ True ∧ inR .i64 ((k : Int) + 1) ∧ ((okL (fcs p) ∧ (fcs p).length ≤ 64) ∧ True) ∧ True ∧ True ∧ inR .i64 ((k : Int) + 2) ∧ (((okL (fcs p) ∧ (fcs p).length ≤ 64) ∧ brdK (fcs p) ((k : Int) + 2) (fcs p).length = []) ∧ True) ∧ True ∧ True ∧ True ∧ True ∧ True ∧ True ∧ ((((brdK (fcs p) ((k : Int) + 1) (fcs p).length).length < 1000000 ∧ ¬brdK (fcs p) ((k : Int) + 1) (fcs p).length = []) ∧ okR (brdK (fcs p) ((k : Int) + 1) (fcs p).length)) ∧ True) ∧ inR .i64 ((↑(brdK (fcs p) ((k : Int) + 1) (fcs p).length).length : Int) - (↑(rk (brdK (fcs p) ((k : Int) + 1) (fcs p).length)) : Int)) ∧ True ∧ ((True ∧ (True ∧ True) ∧ True) ∧ True) ∧ inR .i64 ((↑(brdK (fcs p) ((k : Int) + 1) (fcs p).length).length : Int) - (↑(rk (brdK (fcs p) ((k : Int) + 1) (fcs p).length)) : Int) - 0) ∧ True ∧ sumPre (hoK p k).length [(↑(brdK (fcs p) ((k : Int) + 1) (fcs p).length).length : Int) - (↑(rk (brdK (fcs p) ((k : Int) + 1) (fcs p).length)) : Int) - 0].length (nat_lit 8) ∧ True ∧ True ∧ inR .i64 ((k : Int) + 1) ∧ True ∧ ((∃ (y : Unit), (True ∧ (10 : Nat) < (mxL p).toNat - k) ∧ (fcs p = fcs p ∧ mxL p = mxL p ∧ False ∧ (k : Int) + 1 = 0 ∧ True) ∧ True) ∨ ∃ (y : Nat), (((1 : Nat) ≤ y ∧ (y : Int) ≤ mxL p) ∧ (mxL p).toNat - y < (mxL p).toNat - k) ∧ (fcs p = fcs p ∧ mxL p = mxL p ∧ True ∧ (k : Int) + 1 = (y : Int) ∧ True) ∧ hoK p k ++ [(↑(brdK (fcs p) ((k : Int) + 1) (fcs p).length).length : Int) - (↑(rk (brdK (fcs p) ((k : Int) + 1) (fcs p).length)) : Int) - 0] = hoK p y ∧ True)) ∧ (¬(k : Int) < mxL p → ∃ (y : Unit), True ∧ (True ∧ True) ∧ hoK p k = hoL p ∧ True)) (by kernel_rfl) ?_
     simp only [zz]
     simp only [eb, hoF, hlen, hN, brd_ok, and_true, true_and]
     refine ⟨fun h3 => ⟨by simp only [inR]; omega, by simp only [inR]; omega, ⟨by omega, hB1 h3⟩, by simp only [inR]; omega, by simp only [inR]; omega, by unfold sumPre; simp; omega, by simp only [inR]; omega, k + 1, ⟨⟨by omega, by omega⟩, by omega⟩, by omega, ?_⟩, fun h3 => by unfold hoL; rw [show (mxL p).toNat = k by omega]⟩
     rw [hoK_step (by omega), hN, rk_nil]; try rfl
   · refine ⟨X31, XD0_ok _ _, rfl, rfl, rfl, rfl, ?_⟩
     refine of_eq (q := True ∧ True ∧ True ∧ ((k : Int) < mxL p → True ∧ True ∧ inR .i64 ((k : Int) + 1) ∧ ((okL (fcs p) ∧ (fcs p).length ≤ 64) ∧ True) ∧ True ∧ True ∧ inR .i64 ((k : Int) + 2) ∧ ((okL (fcs p) ∧ (fcs p).length ≤ 64) ∧ True) ∧ True ∧ True ∧ True ∧ True ∧ True ∧ True ∧ ((((brdK (fcs p) ((k : Int) + 1) (fcs p).length).length < 1000000 ∧ ¬brdK (fcs p) ((k : Int) + 1) (fcs p).length = []) ∧ okR (brdK (fcs p) ((k : Int) + 1) (fcs p).length)) ∧ True) ∧ inR .i64 ((↑(brdK (fcs p) ((k : Int) + 1) (fcs p).length).length : Int) - (↑(rk (brdK (fcs p) ((k : Int) + 1) (fcs p).length)) : Int)) ∧ True ∧ ((((brdK (fcs p) ((k : Int) + 2) (fcs p).length).length < 1000000 ∧ ¬brdK (fcs p) ((k : Int) + 2) (fcs p).length = []) ∧ okR (brdK (fcs p) ((k : Int) + 2) (fcs p).length)) ∧ True) ∧ inR .i64 ((↑(brdK (fcs p) ((k : Int) + 1) (fcs p).length).length : Int) - (↑(rk (brdK (fcs p) ((k : Int) + 1) (fcs p).length)) : Int) - (↑(rk (brdK (fcs p) ((k : Int) + 2) (fcs p).length)) : Int)) ∧ True ∧ sumPre (hoK p k).length [(↑(brdK (fcs p) ((k : Int) + 1) (fcs p).length).length : Int) - (↑(rk (brdK (fcs p) ((k : Int) + 1) (fcs p).length)) : Int) - (↑(rk (brdK (fcs p) ((k : Int) + 2) (fcs p).length)) : Int)].length (nat_lit 8) ∧ True ∧ True ∧ inR .i64 ((k : Int) + 1) ∧ True ∧ ((∃ (y : Unit), (True ∧ (10 : Nat) < (mxL p).toNat - k) ∧ (fcs p = fcs p ∧ mxL p = mxL p ∧ False ∧ (k : Int) + 1 = 0 ∧ True) ∧ True) ∨ ∃ (y : Nat), (((1 : Nat) ≤ y ∧ (y : Int) ≤ mxL p) ∧ (mxL p).toNat - y < (mxL p).toNat - k) ∧ (fcs p = fcs p ∧ mxL p = mxL p ∧ True ∧ (k : Int) + 1 = (y : Int) ∧ True) ∧ hoK p k ++ [(↑(brdK (fcs p) ((k : Int) + 1) (fcs p).length).length : Int) - (↑(rk (brdK (fcs p) ((k : Int) + 1) (fcs p).length)) : Int) - (↑(rk (brdK (fcs p) ((k : Int) + 2) (fcs p).length)) : Int)] = hoK p y ∧ True)) ∧ (¬(k : Int) < mxL p → ∃ (y : Unit), True ∧ (True ∧ True) ∧ hoK p k = hoL p ∧ True)) (by kernel_rfl) ?_
     simp only [zz]
     simp only [eb, hoF, hlen, brd_ok, and_true, true_and]
     exact ⟨fun h3 => ⟨by simp only [inR]; omega, by simp only [inR]; omega, ⟨by omega, hB1 h3⟩, by simp only [inR]; omega, ⟨by omega, hB2 (by omega)⟩, by simp only [inR]; omega, by unfold sumPre; simp; omega, by simp only [inR]; omega, k + 1, ⟨⟨by omega, by omega⟩, by omega⟩, by omega, (hoK_step (by omega)).symm⟩, fun h3 => by unfold hoL; rw [show (mxL p).toNat = k by omega]⟩
theorem call31 (n : Int) (p : List Int) (h : cxOk n p) : GCall Try.prog gl 31 false [.int .i64 n, .sl I64 p] [] [.sl I64 (hoL p)] [] := by
 refine gcall_of (X := (X31)) ((XD0_ok _ _)) (f := 31) (fn := Try.f31) (c := bodyOf Try.f31) (by kernel_rfl) (by kernel_rfl) (view := true) (rvs := [.tmp 4]) (by kernel_rfl) (H := (H31 p)) 80 (by kernel_rfl) ?_
 have hL := loop31 n p h
 have hc := cnts_length p
 have hm := mxL_le p
 have hl := h.2.1.2
 refine of_eq (q := True ∧ True ∧ True ∧ ((numOk n ∧ okL p ∧ p.length < 1000000) ∧ True) ∧ True ∧ True ∧ True ∧ ((numOk n ∧ ((1 : Nat) ≤ p.length ∧ p.length ≤ 10) ∧ ∀ (k : Nat), k < p.length → goodAt n p k) ∧ True) ∧ True ∧ inR .i64 ((↑(cnts p).length : Int) - 1) ∧ True ∧ True ∧ True ∧ LoopOK X31 L31_0 { J := chks (0 : Nat) [(5 : Nat), (6 : Nat), (7 : Nat), (8 : Nat)] (fm31 p), exits := List.map (fun (x : List Nat × Ex) => x.snd) (ex31 p) } (RetR X31 false true [ResultVar.tmp (4 : Tmp)] [AV.sl I64 (hoL p)] []) ∧ ((∃ (y : Unit), True ∧ (facesL n p = fcs p ∧ (↑(cnts p).length : Int) - 1 = mxL p ∧ True ∧ (0 : Int) = 0 ∧ True) ∧ True) ∨ ∃ (y : Nat), ((1 : Nat) ≤ y ∧ (y : Int) ≤ mxL p) ∧ (facesL n p = fcs p ∧ (↑(cnts p).length : Int) - 1 = mxL p ∧ False ∧ (0 : Int) = (y : Int) ∧ True) ∧ False) ∧ (∀ (y : Unit), True → True ∧ True ∧ True ∧ (hoL p = hoL p ∧ True) ∧ True) ∧ True) (by kernel_rfl) ?_
 simp only [zz]
 exact ⟨⟨h.1, h.ok, by omega⟩, h, by simp only [inR]; omega, hL _, ⟨faces_fcs h, by omega⟩, fun _ _ => trivial⟩
end Go.Am.Sh

/- Shells: Link. -/
namespace Go.Am.Sh
open Go Go.Am Go.Proofs
def lnkG (p : List Int) (f x : Nat) : Bool := decide (x &&& f = 0) && isF p (x ||| f)
def lnkK (p : List Int) (f k : Nat) : List Bool := mk fun x => decide (x < k) && lnkG p f x
theorem lnkK_step {p : List Int} {f k : Nat} : (lnkK p f k).set k (lnkG p f k) = lnkK p f (k + 1) := by
 unfold lnkK
 rw [mk_set]
 refine mk_ext fun x _ => ?_
 by_cases e : x = k
 · subst e; rw [if_pos rfl]; simp
 · rw [if_neg e]
   have : (x < k) ↔ (x < k + 1) := by omega
   simp only [this]
noncomputable def L32_0 : Code := lp (bodyOf Try.f32) 0
def st32 (n : Int) (p : List Int) (f k : Nat) : St := ⟨dd 2 ++ .int .i64 f :: dd 5 ++ .ptr 0 0 [] :: .dead :: .ptr 1 0 [] :: dd 25 ++ .int .i64 k :: dd 21, [cxO n p, .bx (.ar .bool 64 (lnkK p f k))]⟩
def ex32 (p : List Int) (f : Nat) : List (List Nat × Ex) := [([10], ⟨0, Unit, fun _ => True, fun _ => ⟨dd 10 ++ .ptr 0 0 [] :: dd 47, [.bx (.ar .bool 64 (mk (lnkG p f)))]⟩⟩)]
noncomputable def H32 (n : Int) (p : List Int) (f : Nat) : Nat → Option Hint := fun _ => some ⟨chk 0 [2, 8, 10, 36] (fun k => k ≤ 64) (st32 n p f), (ex32 p f).map (·.2)⟩
theorem loop32 (n : Int) (p : List Int) (f : Nat) (h : cxOk n p) (hf : f < 64) (R : Exit → St → Prop) : LoopOK (X [e53, e70]) L32_0 ⟨chk 0 [2, 8, 10, 36] (fun k => k ≤ 64) (st32 n p f), (ex32 p f).map (·.2)⟩ R := by
 refine loop_ok (X_ok _) (H := fun _ _ => none) [2, 8, 10, 36] (fun k => k ≤ 64) (st32 n p f) (fun k => 64 - k) (ex32 p f) 100 fun (k : Nat) hk => ?_
 refine of_eq (q := True ∧ ((k : Int) < 64 → True ∧ True ∧ True ∧ True ∧ True ∧ True ∧ True ∧ True ∧ (bAnd .i64 (k : Int) (f : Int) = 0 → True ∧ True ∧ True ∧ True ∧ True ∧ True ∧ idxPre (bOr .i64 (k : Int) (f : Int)) (64 : Nat) ∧ True ∧ True ∧ idxPre (k : Int) (64 : Nat) ∧ True ∧ inR .i64 ((k : Int) + 1) ∧ True ∧ ∃ (y : Nat), (y ≤ 64 ∧ (64 : Nat) - y < 64 - k) ∧ ((f : Int) = (f : Int) ∧ True ∧ True ∧ (k : Int) + 1 = (y : Int) ∧ True) ∧ (n = n ∧ p = p ∧ mk (isF p) = mk (isF p) ∧ True) ∧ (lnkK p f k).set k ((mk (isF p)).getD (bOr .i64 (k : Int) (f : Int)).toNat false) = lnkK p f y ∧ True) ∧ (¬bAnd .i64 (k : Int) (f : Int) = 0 → True ∧ idxPre (k : Int) (64 : Nat) ∧ True ∧ inR .i64 ((k : Int) + 1) ∧ True ∧ ∃ (y : Nat), (y ≤ 64 ∧ (64 : Nat) - y < 64 - k) ∧ ((f : Int) = (f : Int) ∧ True ∧ True ∧ (k : Int) + 1 = (y : Int) ∧ True) ∧ (n = n ∧ p = p ∧ mk (isF p) = mk (isF p) ∧ True) ∧ (lnkK p f k).set k false = lnkK p f y ∧ True)) ∧ (¬(k : Int) < 64 → ∃ (y : Unit), True ∧ (True ∧ True) ∧ lnkK p f k = mk (lnkG p f) ∧ True)) (by kernel_rfl) ?_
 simp only [zz]
 have hk : k ≤ 64 := hk
 refine ⟨fun h3 => ?_, fun h3 => by rw [show k = 64 by omega]; exact mk_ext fun x hx => by rw [decide_eq_true hx]; rfl⟩
 have hk2 : k < 64 := by omega
 have ho : k ||| f < 64 := Nat.or_lt_two_pow (n := 6) hk2 hf
 rw [bAnd_nat (by omega) (by omega), bOr_nat (by omega) (by omega), Int.toNat_natCast, mk_getD ho]
 refine ⟨fun hb => ⟨by unfold idxPre; omega, by unfold idxPre; omega, by simp only [inR]; omega, k + 1, by omega, by omega, ?_⟩, fun hb => ⟨by unfold idxPre; omega, by simp only [inR]; omega, k + 1, by omega, by omega, ?_⟩⟩
 · have e : isF p (k ||| f) = lnkG p f k := by unfold lnkG; rw [decide_eq_true (show k &&& f = 0 by omega)]; try rfl
   rw [e]; exact lnkK_step
 · have e : false = lnkG p f k := by unfold lnkG; rw [decide_eq_false (show ¬ k &&& f = 0 by omega)]; try rfl
   rw [e]; exact lnkK_step
theorem call32 (n : Int) (p : List Int) (f : Nat) (h : cxOk n p) (hf : f < 64) (hi : isF p f = true) : GCall Try.prog gl 32 false [.int .i64 n, .sl I64 p, .int .i64 f] [] [.sl I64 (grL (lnkG p f)), .int .i64 0] [] := by
 refine gcall_of (X := X [e53, e70]) (X_ok [e53, e70]) (f := 32) (fn := Try.f32) (c := bodyOf Try.f32) (by kernel_rfl) (by kernel_rfl) (view := false) (rvs := [.tmp 6, .tmp 7]) (by kernel_rfl) (H := (H32 n p f)) 80 (by kernel_rfl) ?_
 have hL := loop32 n p f h hf
 refine of_eq (q := True ∧ True ∧ True ∧ True ∧ (CxP n p ∧ True) ∧ True ∧ True ∧ True ∧ True ∧ True ∧ True ∧ True ∧ (¬(0 : Int) = 0 → True ∧ True ∧ True ∧ True ∧ (([] : List Int) = grL (lnkG p f) ∧ (0 : Int) = 0 ∧ True) ∧ True) ∧ (¬¬(0 : Int) = 0 → True ∧ True ∧ True ∧ ((f : Int) < 0 → True ∧ True ∧ True ∧ True ∧ True ∧ True ∧ (([] : List Int) = grL (lnkG p f) ∧ (1 : Int) = 0 ∧ True) ∧ True) ∧ (¬(f : Int) < 0 → True ∧ True ∧ True ∧ True ∧ ((64 : Int) ≤ (f : Int) → True ∧ True ∧ True ∧ True ∧ (([] : List Int) = grL (lnkG p f) ∧ (1 : Int) = 0 ∧ True) ∧ True) ∧ (¬(64 : Int) ≤ (f : Int) → True ∧ True ∧ True ∧ True ∧ idxPre (f : Int) (64 : Nat) ∧ True ∧ True ∧ True ∧ ((!(mk (isF p)).getD f false) = true → True ∧ True ∧ True ∧ (([] : List Int) = grL (lnkG p f) ∧ (1 : Int) = 0 ∧ True) ∧ True) ∧ ((!(mk (isF p)).getD f false) = false → True ∧ True ∧ LoopOK (X [e53, e70]) L32_0 { J := chk (0 : Nat) [(2 : Nat), (8 : Nat), (10 : Nat), (36 : Nat)] (fun (k : Nat) => k ≤ 64) (st32 n p f), exits := List.map (fun (x : List Nat × Ex) => x.snd) (ex32 p f) } (RetR (X [e53, e70]) false false [ResultVar.tmp (6 : Tmp), ResultVar.tmp (7 : Tmp)] [AV.sl I64 (grL (lnkG p f)), AV.int .i64 (0 : Int)] []) ∧ (∃ (y : Nat), y ≤ 64 ∧ ((f : Int) = (f : Int) ∧ True ∧ True ∧ (0 : Int) = (y : Int) ∧ True) ∧ (n = n ∧ p = p ∧ mk (isF p) = mk (isF p) ∧ True) ∧ [false, false, false, false, false, false, false, false, false, false, false, false, false, false, false, false, false, false, false, false, false, false, false, false, false, false, false, false, false, false, false, false, false, false, false, false, false, false, false, false, false, false, false, false, false, false, false, false, false, false, false, false, false, false, false, false, false, false, false, false, false, false, false, false] = lnkK p f y ∧ True) ∧ (∀ (y : Unit), True → True ∧ ((mk (lnkG p f)).length = 64 ∧ True) ∧ True ∧ True ∧ True ∧ (trueN (grtB (gB (mk (lnkG p f)))) (64 : Nat) = grL (lnkG p f) ∧ (0 : Int) = 0 ∧ True) ∧ True) ∧ True))))) (by kernel_rfl) ?_
 simp only [zz]
 refine ⟨⟨h⟩, fun h => absurd trivial h, fun _ => ⟨fun hx => by omega, fun _ => ⟨fun hx => by omega, fun _ => ⟨by unfold idxPre; omega, fun hx => ?_, fun _ => ⟨hL _, ⟨0, Nat.zero_le _, rfl, ?_⟩, fun _ _ => ⟨mk_length _, grL_mk _⟩⟩⟩⟩⟩⟩
 · rw [mk_getD hf, hi] at hx; cases hx
 · rfl
end Go.Am.Sh

/- Shells: the reference's Link. -/
namespace Go.Am.Sh
open Go Go.Am Go.Proofs
def lkL (p : List Int) (f k : Nat) : List Int := trueN (lnkG p f) k
noncomputable def L34_0 : Code := lp (bodyOf Try.f34) 0
def sz34 (n : Int) (p : List Int) (f k : Nat) : St := ⟨.int .i64 n :: .sl I64 p :: .int .i64 f :: dd 4 ++ nl :: .int .i64 k :: dd 23, []⟩
def st34 (n : Int) (p : List Int) (f k : Nat) : St := ⟨.int .i64 n :: .sl I64 p :: .int .i64 f :: dd 4 ++ .own 0 0 :: .int .i64 k :: dd 23, [.sc 0 3 I64 (lkL p f k)]⟩
def fm34 (n : Int) (p : List Int) (f : Nat) : List Fam := [⟨Nat, fun k => k ≤ 2 ^ n.toNat ∧ lkL p f k = [], sz34 n p f, fun k => 2 ^ n.toNat - k, fun _ _ => none⟩, ⟨Nat, fun k => k ≤ 2 ^ n.toNat, st34 n p f, fun k => 2 ^ n.toNat - k, fun _ _ => none⟩]
def ex34 (n : Int) (p : List Int) (f : Nat) : List (List Nat × Ex) := [([7], ⟨0, Unit, fun _ => lkL p f (2 ^ n.toNat) = [], fun _ => ⟨dd 7 ++ nl :: dd 24, []⟩⟩), ([7], ⟨0, Unit, fun _ => True, fun _ => ⟨dd 7 ++ .own 0 0 :: dd 24, [.sc 0 3 I64 (lkL p f (2 ^ n.toNat))]⟩⟩)]
noncomputable def H34 (n : Int) (p : List Int) (f : Nat) : Nat → Option Hint := fun _ => some ⟨chks 0 [0, 1, 2, 7, 8] (fm34 n p f), (ex34 n p f).map (·.2)⟩
theorem loop34 (n : Int) (p : List Int) (f : Nat) (h : cxOk n p) (hf : f < 64) (R : Exit → St → Prop) : LoopOK (X [e33, e22]) L34_0 ⟨chks 0 [0, 1, 2, 7, 8] (fm34 n p f), (ex34 n p f).map (·.2)⟩ R := by
 refine loop_fams (X_ok _) [0, 1, 2, 7, 8] (fm34 n p f) (ex34 n p f) 150 ⟨fun (k : Nat) hk => ?_, fun (k : Nat) hk => ?_, trivial⟩
 · refine of_eq (q := True ∧ True ∧ (((0 : Int) ≤ n ∧ n < bitsOf .i64) ∧ (-9223372036854775808 : Int) ≤ 1 * 2 ^ n.toNat ∧ (1 : Int) * 2 ^ n.toNat ≤ 9223372036854775807) ∧ True ∧ ((k : Int) < 1 * 2 ^ n.toNat → True ∧ True ∧ True ∧ True ∧ True ∧ (bAnd .i64 (k : Int) (f : Int) = 0 → True ∧ True ∧ True ∧ True ∧ (((okL p ∧ p.length < 1000000) ∧ (0 : Int) ≤ bOr .i64 (k : Int) (f : Int) ∧ bOr .i64 (k : Int) (f : Int) < 64) ∧ True) ∧ True ∧ (isF p (bOr .i64 (k : Int) (f : Int)).toNat = true → True ∧ True ∧ True ∧ sumPre (0 : Nat) [(k : Int)].length (nat_lit 8) ∧ True ∧ True ∧ inR .i64 ((k : Int) + 1) ∧ True ∧ ((∃ (y : Nat), ((y ≤ 2 ^ n.toNat ∧ lkL p f y = []) ∧ (2 : Nat) ^ n.toNat - y < 2 ^ n.toNat - k) ∧ (n = n ∧ p = p ∧ (f : Int) = (f : Int) ∧ False ∧ (k : Int) + 1 = (y : Int) ∧ True) ∧ True) ∨ ∃ (y : Nat), (y ≤ 2 ^ n.toNat ∧ (2 : Nat) ^ n.toNat - y < 2 ^ n.toNat - k) ∧ (n = n ∧ p = p ∧ (f : Int) = (f : Int) ∧ True ∧ (k : Int) + 1 = (y : Int) ∧ True) ∧ [(k : Int)] = lkL p f y ∧ True)) ∧ (isF p (bOr .i64 (k : Int) (f : Int)).toNat = false → True ∧ inR .i64 ((k : Int) + 1) ∧ True ∧ ((∃ (y : Nat), ((y ≤ 2 ^ n.toNat ∧ lkL p f y = []) ∧ (2 : Nat) ^ n.toNat - y < 2 ^ n.toNat - k) ∧ (n = n ∧ p = p ∧ (f : Int) = (f : Int) ∧ True ∧ (k : Int) + 1 = (y : Int) ∧ True) ∧ True) ∨ ∃ (y : Nat), (y ≤ 2 ^ n.toNat ∧ (2 : Nat) ^ n.toNat - y < 2 ^ n.toNat - k) ∧ (n = n ∧ p = p ∧ (f : Int) = (f : Int) ∧ False ∧ (k : Int) + 1 = (y : Int) ∧ True) ∧ False))) ∧ (¬bAnd .i64 (k : Int) (f : Int) = 0 → True ∧ True ∧ inR .i64 ((k : Int) + 1) ∧ True ∧ ((∃ (y : Nat), ((y ≤ 2 ^ n.toNat ∧ lkL p f y = []) ∧ (2 : Nat) ^ n.toNat - y < 2 ^ n.toNat - k) ∧ (n = n ∧ p = p ∧ (f : Int) = (f : Int) ∧ True ∧ (k : Int) + 1 = (y : Int) ∧ True) ∧ True) ∨ ∃ (y : Nat), (y ≤ 2 ^ n.toNat ∧ (2 : Nat) ^ n.toNat - y < 2 ^ n.toNat - k) ∧ (n = n ∧ p = p ∧ (f : Int) = (f : Int) ∧ False ∧ (k : Int) + 1 = (y : Int) ∧ True) ∧ False))) ∧ (¬(k : Int) < 1 * 2 ^ n.toNat → (∃ (y : Unit), lkL p f ((2 : Nat) ^ n.toNat) = [] ∧ (True ∧ True) ∧ True) ∨ ∃ (y : Unit), True ∧ (False ∧ True) ∧ False)) (by kernel_rfl) ?_
   simp only [zz]
   obtain ⟨k1, k2⟩ := hk
   obtain ⟨p1, p2, p3⟩ := numOk_pow h.1
   obtain ⟨m1, m2⟩ := h.1
   have hl := h.2.1
   rw [Int.one_mul, ← p1]
   refine ⟨⟨⟨by omega, by simp only [bitsOf]; omega⟩, by omega, by omega⟩, fun h3 => ?_, fun h3 => ?_⟩
   · have hk64 : k < 64 := by omega
     have ho : k ||| f < 64 := Nat.or_lt_two_pow (n := 6) hk64 hf
     rw [bAnd_nat (by omega) (by omega), bOr_nat (by omega) (by omega), Int.toNat_natCast]
     have hg : k &&& f = 0 → lnkG p f k = isF p (k ||| f) := fun hz => by unfold lnkG; rw [decide_eq_true hz]; try rfl
     have hg0 : ¬ k &&& f = 0 → lnkG p f k = false := fun hz => by unfold lnkG; rw [decide_eq_false hz]; try rfl
     have hno : lnkG p f k = false → inR .i64 ((k : Int) + 1) ∧ ∃ y : Nat, ((y ≤ 2 ^ n.toNat ∧ lkL p f y = []) ∧ 2 ^ n.toNat - y < 2 ^ n.toNat - k) ∧ (k : Int) + 1 = (y : Int) := fun hb => ⟨by simp only [inR]; omega, k + 1, ⟨⟨by omega, by unfold lkL at k2 ⊢; rw [trueN, hb, k2]; rfl⟩, by omega⟩, by omega⟩
     refine ⟨fun hz => ⟨⟨⟨h.ok, by omega⟩, by omega, by omega⟩, fun hb => ⟨by unfold sumPre; simp, by simp only [inR]; omega, k + 1, by omega, by omega, ?_⟩, fun hb => hno (by rw [hg (by omega)]; exact hb)⟩, fun hz => hno (hg0 (by omega))⟩
     unfold lkL at k2 ⊢
     rw [trueN, if_pos (by rw [hg (by omega)]; exact hb), k2]; try rfl
   · rw [show 2 ^ n.toNat = k by omega]; exact k2
 · refine of_eq (q := True ∧ True ∧ (((0 : Int) ≤ n ∧ n < bitsOf .i64) ∧ (-9223372036854775808 : Int) ≤ 1 * 2 ^ n.toNat ∧ (1 : Int) * 2 ^ n.toNat ≤ 9223372036854775807) ∧ True ∧ ((k : Int) < 1 * 2 ^ n.toNat → True ∧ True ∧ True ∧ True ∧ True ∧ (bAnd .i64 (k : Int) (f : Int) = 0 → True ∧ True ∧ True ∧ True ∧ (((okL p ∧ p.length < 1000000) ∧ (0 : Int) ≤ bOr .i64 (k : Int) (f : Int) ∧ bOr .i64 (k : Int) (f : Int) < 64) ∧ True) ∧ True ∧ (isF p (bOr .i64 (k : Int) (f : Int)).toNat = true → True ∧ True ∧ True ∧ sumPre (lkL p f k).length [(k : Int)].length (nat_lit 8) ∧ True ∧ True ∧ inR .i64 ((k : Int) + 1) ∧ True ∧ ((∃ (y : Nat), ((y ≤ 2 ^ n.toNat ∧ lkL p f y = []) ∧ (2 : Nat) ^ n.toNat - y < 2 ^ n.toNat - k) ∧ (n = n ∧ p = p ∧ (f : Int) = (f : Int) ∧ False ∧ (k : Int) + 1 = (y : Int) ∧ True) ∧ True) ∨ ∃ (y : Nat), (y ≤ 2 ^ n.toNat ∧ (2 : Nat) ^ n.toNat - y < 2 ^ n.toNat - k) ∧ (n = n ∧ p = p ∧ (f : Int) = (f : Int) ∧ True ∧ (k : Int) + 1 = (y : Int) ∧ True) ∧ lkL p f k ++ [(k : Int)] = lkL p f y ∧ True)) ∧ (isF p (bOr .i64 (k : Int) (f : Int)).toNat = false → True ∧ inR .i64 ((k : Int) + 1) ∧ True ∧ ((∃ (y : Nat), ((y ≤ 2 ^ n.toNat ∧ lkL p f y = []) ∧ (2 : Nat) ^ n.toNat - y < 2 ^ n.toNat - k) ∧ (n = n ∧ p = p ∧ (f : Int) = (f : Int) ∧ False ∧ (k : Int) + 1 = (y : Int) ∧ True) ∧ True) ∨ ∃ (y : Nat), (y ≤ 2 ^ n.toNat ∧ (2 : Nat) ^ n.toNat - y < 2 ^ n.toNat - k) ∧ (n = n ∧ p = p ∧ (f : Int) = (f : Int) ∧ True ∧ (k : Int) + 1 = (y : Int) ∧ True) ∧ lkL p f k = lkL p f y ∧ True))) ∧ (¬bAnd .i64 (k : Int) (f : Int) = 0 → True ∧ True ∧ inR .i64 ((k : Int) + 1) ∧ True ∧ ((∃ (y : Nat), ((y ≤ 2 ^ n.toNat ∧ lkL p f y = []) ∧ (2 : Nat) ^ n.toNat - y < 2 ^ n.toNat - k) ∧ (n = n ∧ p = p ∧ (f : Int) = (f : Int) ∧ False ∧ (k : Int) + 1 = (y : Int) ∧ True) ∧ True) ∨ ∃ (y : Nat), (y ≤ 2 ^ n.toNat ∧ (2 : Nat) ^ n.toNat - y < 2 ^ n.toNat - k) ∧ (n = n ∧ p = p ∧ (f : Int) = (f : Int) ∧ True ∧ (k : Int) + 1 = (y : Int) ∧ True) ∧ lkL p f k = lkL p f y ∧ True))) ∧ (¬(k : Int) < 1 * 2 ^ n.toNat → (∃ (y : Unit), lkL p f ((2 : Nat) ^ n.toNat) = [] ∧ (False ∧ True) ∧ True) ∨ ∃ (y : Unit), True ∧ (True ∧ True) ∧ lkL p f k = lkL p f ((2 : Nat) ^ n.toNat) ∧ True)) (by kernel_rfl) ?_
   simp only [zz]
   have hk : k ≤ 2 ^ n.toNat := hk
   have hle : (lkL p f k).length ≤ k := trueN_len _ _
   obtain ⟨p1, p2, p3⟩ := numOk_pow h.1
   obtain ⟨m1, m2⟩ := h.1
   have hl := h.2.1
   rw [Int.one_mul, ← p1]
   refine ⟨⟨⟨by omega, by simp only [bitsOf]; omega⟩, by omega, by omega⟩, fun h3 => ?_, fun h3 => ?_⟩
   · have hk64 : k < 64 := by omega
     have ho : k ||| f < 64 := Nat.or_lt_two_pow (n := 6) hk64 hf
     rw [bAnd_nat (by omega) (by omega), bOr_nat (by omega) (by omega), Int.toNat_natCast]
     have hg : k &&& f = 0 → lnkG p f k = isF p (k ||| f) := fun hz => by unfold lnkG; rw [decide_eq_true hz]; try rfl
     have hg0 : ¬ k &&& f = 0 → lnkG p f k = false := fun hz => by unfold lnkG; rw [decide_eq_false hz]; try rfl
     have hno : lnkG p f k = false → inR .i64 ((k : Int) + 1) ∧ ∃ y : Nat, (y ≤ 2 ^ n.toNat ∧ 2 ^ n.toNat - y < 2 ^ n.toNat - k) ∧ (k : Int) + 1 = (y : Int) ∧ lkL p f k = lkL p f y := fun hb => ⟨by simp only [inR]; omega, k + 1, by omega, by omega, by unfold lkL; rw [trueN, hb]; rfl⟩
     refine ⟨fun hz => ⟨⟨⟨h.ok, by omega⟩, by omega, by omega⟩, fun hb => ⟨by unfold sumPre; simp; omega, by simp only [inR]; omega, k + 1, by omega, by omega, ?_⟩, fun hb => hno (by rw [hg (by omega)]; exact hb)⟩, fun hz => hno (hg0 (by omega))⟩
     unfold lkL
     rw [trueN, if_pos (by rw [hg (by omega)]; exact hb)]; try rfl
   · rw [show 2 ^ n.toNat = k by omega]
theorem call34 (n : Int) (p : List Int) (f : Nat) (h : cxOk n p) (hf : f < 64) : GCall Try.prog gl 34 false [.int .i64 n, .sl I64 p, .int .i64 f] [] [.sl I64 (pieL (lkL p f (2 ^ n.toNat)))] [] := by
 refine gcall_of (X := X [e33, e22]) (X_ok [e33, e22]) (f := 34) (fn := Try.f34) (c := bodyOf Try.f34) (by kernel_rfl) (by kernel_rfl) (view := true) (rvs := [.tmp 6]) (by kernel_rfl) (H := (H34 n p f)) 80 (by kernel_rfl) ?_
 have hL := loop34 n p f h hf
 refine of_eq (q := True ∧ True ∧ True ∧ LoopOK (X [e33, e22]) L34_0 { J := chks (0 : Nat) [(0 : Nat), (1 : Nat), (2 : Nat), (7 : Nat), (8 : Nat)] (fm34 n p f), exits := List.map (fun (x : List Nat × Ex) => x.snd) (ex34 n p f) } (RetR (X [e33, e22]) false true [ResultVar.tmp (6 : Tmp)] [AV.sl I64 (pieL (lkL p f ((2 : Nat) ^ n.toNat)))] []) ∧ ((∃ (y : Nat), (y ≤ 2 ^ n.toNat ∧ lkL p f y = []) ∧ (n = n ∧ p = p ∧ (f : Int) = (f : Int) ∧ True ∧ (0 : Int) = (y : Int) ∧ True) ∧ True) ∨ ∃ (y : Nat), y ≤ 2 ^ n.toNat ∧ (n = n ∧ p = p ∧ (f : Int) = (f : Int) ∧ False ∧ (0 : Int) = (y : Int) ∧ True) ∧ False) ∧ (∀ (y : Unit), lkL p f ((2 : Nat) ^ n.toNat) = [] → True ∧ (ok22 [] ∧ True) ∧ True ∧ True ∧ (pieL [] = pieL (lkL p f ((2 : Nat) ^ n.toNat)) ∧ True) ∧ True) ∧ (∀ (y : Unit), True → True ∧ (ok22 (lkL p f ((2 : Nat) ^ n.toNat)) ∧ True) ∧ True ∧ True ∧ (pieL (lkL p f ((2 : Nat) ^ n.toNat)) = pieL (lkL p f ((2 : Nat) ^ n.toNat)) ∧ True) ∧ True) ∧ True) (by kernel_rfl) ?_
 simp only [zz]
 obtain ⟨p1, p2, p3⟩ := numOk_pow h.1
 have hok : ok22 (lkL p f (2 ^ n.toNat)) := ⟨fun x hx => by
   obtain ⟨m, e, h2, _⟩ := trueN_mem hx
   omega, by have : (lkL p f (2 ^ n.toNat)).length ≤ 2 ^ n.toNat := trueN_len _ _; omega⟩
 exact ⟨hL _, ⟨0, ⟨Nat.zero_le _, rfl⟩, rfl⟩, fun _ he => ⟨by rw [← he]; exact hok, by rw [he]⟩, fun _ _ => hok⟩
end Go.Am.Sh

/- Shells: the reference's Dual. -/
namespace Go.Am.Sh
open Go Go.Am Go.Proofs
def dG (n : Int) (p : List Int) (x : Nat) : Bool := !isF p (mns (2 ^ n.toNat - 1) x)
noncomputable def L37_0 : Code := lp (bodyOf Try.f37) 0
def sz37 (n : Int) (p : List Int) (k : Nat) : St := ⟨.dead :: .sl I64 p :: dd 3 ++ nl :: .int .i64 ((2 ^ n.toNat - 1 : Nat) : Int) :: .int .i64 k :: dd 20, []⟩
def st37 (n : Int) (p : List Int) (k : Nat) : St := ⟨.dead :: .sl I64 p :: dd 3 ++ .own 0 0 :: .int .i64 ((2 ^ n.toNat - 1 : Nat) : Int) :: .int .i64 k :: dd 20, [.sc 0 3 I64 (trueN (dG n p) k)]⟩
def fm37 (n : Int) (p : List Int) : List Fam := [⟨Nat, fun k => k ≤ 2 ^ n.toNat ∧ trueN (dG n p) k = [], sz37 n p, fun k => 2 ^ n.toNat - k, fun _ _ => none⟩, ⟨Nat, fun k => k ≤ 2 ^ n.toNat, st37 n p, fun k => 2 ^ n.toNat - k, fun _ _ => none⟩]
def ex37 (n : Int) (p : List Int) : List (List Nat × Ex) := [([5], ⟨0, Unit, fun _ => trueN (dG n p) (2 ^ n.toNat) = [], fun _ => ⟨dd 5 ++ nl :: dd 22, []⟩⟩), ([5], ⟨0, Unit, fun _ => True, fun _ => ⟨dd 5 ++ .own 0 0 :: dd 22, [.sc 0 3 I64 (trueN (dG n p) (2 ^ n.toNat))]⟩⟩)]
noncomputable def H37 (n : Int) (p : List Int) : Nat → Option Hint := fun _ => some ⟨chks 0 [1, 5, 6, 7] (fm37 n p), (ex37 n p).map (·.2)⟩
theorem loop37 (n : Int) (p : List Int) (h : cxOk n p) (R : Exit → St → Prop) : LoopOK (X [e33, e22]) L37_0 ⟨chks 0 [1, 5, 6, 7] (fm37 n p), (ex37 n p).map (·.2)⟩ R := by
 refine loop_fams (X_ok _) [1, 5, 6, 7] (fm37 n p) (ex37 n p) 150 ⟨fun (k : Nat) hk => ?_, fun (k : Nat) hk => ?_, trivial⟩
 · refine of_eq (q := True ∧ True ∧ True ∧ ((k : Int) ≤ (↑((2 : Nat) ^ n.toNat - 1) : Int) → True ∧ True ∧ True ∧ True ∧ (((okL p ∧ p.length < 1000000) ∧ (0 : Int) ≤ bNot .i64 (↑((2 : Nat) ^ n.toNat - 1) : Int) (k : Int) ∧ bNot .i64 (↑((2 : Nat) ^ n.toNat - 1) : Int) (k : Int) < 64) ∧ True) ∧ True ∧ ((!isF p (bNot .i64 (↑((2 : Nat) ^ n.toNat - 1) : Int) (k : Int)).toNat) = true → True ∧ True ∧ True ∧ sumPre (0 : Nat) [(k : Int)].length (nat_lit 8) ∧ True ∧ True ∧ inR .i64 ((k : Int) + 1) ∧ True ∧ ((∃ (y : Nat), ((y ≤ 2 ^ n.toNat ∧ trueN (dG n p) y = []) ∧ (2 : Nat) ^ n.toNat - y < 2 ^ n.toNat - k) ∧ (p = p ∧ False ∧ (↑((2 : Nat) ^ n.toNat - 1) : Int) = (↑((2 : Nat) ^ n.toNat - 1) : Int) ∧ (k : Int) + 1 = (y : Int) ∧ True) ∧ True) ∨ ∃ (y : Nat), (y ≤ 2 ^ n.toNat ∧ (2 : Nat) ^ n.toNat - y < 2 ^ n.toNat - k) ∧ (p = p ∧ True ∧ (↑((2 : Nat) ^ n.toNat - 1) : Int) = (↑((2 : Nat) ^ n.toNat - 1) : Int) ∧ (k : Int) + 1 = (y : Int) ∧ True) ∧ [(k : Int)] = trueN (dG n p) y ∧ True)) ∧ ((!isF p (bNot .i64 (↑((2 : Nat) ^ n.toNat - 1) : Int) (k : Int)).toNat) = false → True ∧ inR .i64 ((k : Int) + 1) ∧ True ∧ ((∃ (y : Nat), ((y ≤ 2 ^ n.toNat ∧ trueN (dG n p) y = []) ∧ (2 : Nat) ^ n.toNat - y < 2 ^ n.toNat - k) ∧ (p = p ∧ True ∧ (↑((2 : Nat) ^ n.toNat - 1) : Int) = (↑((2 : Nat) ^ n.toNat - 1) : Int) ∧ (k : Int) + 1 = (y : Int) ∧ True) ∧ True) ∨ ∃ (y : Nat), (y ≤ 2 ^ n.toNat ∧ (2 : Nat) ^ n.toNat - y < 2 ^ n.toNat - k) ∧ (p = p ∧ False ∧ (↑((2 : Nat) ^ n.toNat - 1) : Int) = (↑((2 : Nat) ^ n.toNat - 1) : Int) ∧ (k : Int) + 1 = (y : Int) ∧ True) ∧ False))) ∧ (¬(k : Int) ≤ (↑((2 : Nat) ^ n.toNat - 1) : Int) → (∃ (y : Unit), trueN (dG n p) ((2 : Nat) ^ n.toNat) = [] ∧ (True ∧ True) ∧ True) ∨ ∃ (y : Unit), True ∧ (False ∧ True) ∧ False)) (by kernel_rfl) ?_
   simp only [zz]
   obtain ⟨k1, k2⟩ := hk
   obtain ⟨p1, p2, p3⟩ := numOk_pow h.1
   have hl := h.2.1
   refine ⟨fun h3 => ?_, fun h3 => by rw [show 2 ^ n.toNat = k by omega]; exact k2⟩
   have hm := mns_lt ⟨2 ^ n.toNat - 1, by omega⟩ ⟨k, by omega⟩
   simp only at hm
   have hg : dG n p k = !isF p (mns (2 ^ n.toNat - 1) k) := rfl
   rw [bNot_nat (by omega) (by omega), Int.toNat_natCast, ← hg]
   refine ⟨⟨⟨h.ok, by omega⟩, by omega, by omega⟩, fun hb => ⟨by unfold sumPre; simp, by simp only [inR]; omega, k + 1, by omega, by omega, ?_⟩, fun hb => ⟨by simp only [inR]; omega, k + 1, ⟨⟨by omega, by rw [trueN, hb, k2]; rfl⟩, by omega⟩, by omega⟩⟩
   rw [trueN, if_pos hb, k2]; try rfl
 · refine of_eq (q := True ∧ True ∧ True ∧ ((k : Int) ≤ (↑((2 : Nat) ^ n.toNat - 1) : Int) → True ∧ True ∧ True ∧ True ∧ (((okL p ∧ p.length < 1000000) ∧ (0 : Int) ≤ bNot .i64 (↑((2 : Nat) ^ n.toNat - 1) : Int) (k : Int) ∧ bNot .i64 (↑((2 : Nat) ^ n.toNat - 1) : Int) (k : Int) < 64) ∧ True) ∧ True ∧ ((!isF p (bNot .i64 (↑((2 : Nat) ^ n.toNat - 1) : Int) (k : Int)).toNat) = true → True ∧ True ∧ True ∧ sumPre (trueN (dG n p) k).length [(k : Int)].length (nat_lit 8) ∧ True ∧ True ∧ inR .i64 ((k : Int) + 1) ∧ True ∧ ((∃ (y : Nat), ((y ≤ 2 ^ n.toNat ∧ trueN (dG n p) y = []) ∧ (2 : Nat) ^ n.toNat - y < 2 ^ n.toNat - k) ∧ (p = p ∧ False ∧ (↑((2 : Nat) ^ n.toNat - 1) : Int) = (↑((2 : Nat) ^ n.toNat - 1) : Int) ∧ (k : Int) + 1 = (y : Int) ∧ True) ∧ True) ∨ ∃ (y : Nat), (y ≤ 2 ^ n.toNat ∧ (2 : Nat) ^ n.toNat - y < 2 ^ n.toNat - k) ∧ (p = p ∧ True ∧ (↑((2 : Nat) ^ n.toNat - 1) : Int) = (↑((2 : Nat) ^ n.toNat - 1) : Int) ∧ (k : Int) + 1 = (y : Int) ∧ True) ∧ trueN (dG n p) k ++ [(k : Int)] = trueN (dG n p) y ∧ True)) ∧ ((!isF p (bNot .i64 (↑((2 : Nat) ^ n.toNat - 1) : Int) (k : Int)).toNat) = false → True ∧ inR .i64 ((k : Int) + 1) ∧ True ∧ ((∃ (y : Nat), ((y ≤ 2 ^ n.toNat ∧ trueN (dG n p) y = []) ∧ (2 : Nat) ^ n.toNat - y < 2 ^ n.toNat - k) ∧ (p = p ∧ False ∧ (↑((2 : Nat) ^ n.toNat - 1) : Int) = (↑((2 : Nat) ^ n.toNat - 1) : Int) ∧ (k : Int) + 1 = (y : Int) ∧ True) ∧ True) ∨ ∃ (y : Nat), (y ≤ 2 ^ n.toNat ∧ (2 : Nat) ^ n.toNat - y < 2 ^ n.toNat - k) ∧ (p = p ∧ True ∧ (↑((2 : Nat) ^ n.toNat - 1) : Int) = (↑((2 : Nat) ^ n.toNat - 1) : Int) ∧ (k : Int) + 1 = (y : Int) ∧ True) ∧ trueN (dG n p) k = trueN (dG n p) y ∧ True))) ∧ (¬(k : Int) ≤ (↑((2 : Nat) ^ n.toNat - 1) : Int) → (∃ (y : Unit), trueN (dG n p) ((2 : Nat) ^ n.toNat) = [] ∧ (False ∧ True) ∧ True) ∨ ∃ (y : Unit), True ∧ (True ∧ True) ∧ trueN (dG n p) k = trueN (dG n p) ((2 : Nat) ^ n.toNat) ∧ True)) (by kernel_rfl) ?_
   simp only [zz]
   have hk : k ≤ 2 ^ n.toNat := hk
   have hle := trueN_len (dG n p) k
   obtain ⟨p1, p2, p3⟩ := numOk_pow h.1
   have hl := h.2.1
   refine ⟨fun h3 => ?_, fun h3 => by rw [show 2 ^ n.toNat = k by omega]⟩
   have hm := mns_lt ⟨2 ^ n.toNat - 1, by omega⟩ ⟨k, by omega⟩
   simp only at hm
   have hg : dG n p k = !isF p (mns (2 ^ n.toNat - 1) k) := rfl
   rw [bNot_nat (by omega) (by omega), Int.toNat_natCast, ← hg]
   refine ⟨⟨⟨h.ok, by omega⟩, by omega, by omega⟩, fun hb => ⟨by unfold sumPre; simp; omega, by simp only [inR]; omega, k + 1, by omega, by omega, ?_⟩, fun hb => ⟨by simp only [inR]; omega, k + 1, by omega, by omega, by rw [trueN, hb]; rfl⟩⟩
   rw [trueN, if_pos hb]; try rfl
theorem call37 (n : Int) (p : List Int) (h : cxOk n p) : GCall Try.prog gl 37 false [.int .i64 n, .sl I64 p] [] [.sl I64 (pieL (trueN (dG n p) (2 ^ n.toNat)))] [] := by
 refine gcall_of (X := X [e33, e22]) (X_ok [e33, e22]) (f := 37) (fn := Try.f37) (c := bodyOf Try.f37) (by kernel_rfl) (by kernel_rfl) (view := true) (rvs := [.tmp 4]) (by kernel_rfl) (H := (H37 n p)) 80 (by kernel_rfl) ?_
 have hL := loop37 n p h
 refine of_eq (q := True ∧ True ∧ True ∧ (((0 : Int) ≤ n ∧ n < bitsOf .i64) ∧ (-9223372036854775808 : Int) ≤ 1 * 2 ^ n.toNat ∧ (1 : Int) * 2 ^ n.toNat ≤ 9223372036854775807) ∧ inR .i64 ((1 : Int) * 2 ^ n.toNat - 1) ∧ True ∧ True ∧ LoopOK (X [e33, e22]) L37_0 { J := chks (0 : Nat) [(1 : Nat), (5 : Nat), (6 : Nat), (7 : Nat)] (fm37 n p), exits := List.map (fun (x : List Nat × Ex) => x.snd) (ex37 n p) } (RetR (X [e33, e22]) false true [ResultVar.tmp (4 : Tmp)] [AV.sl I64 (pieL (trueN (dG n p) ((2 : Nat) ^ n.toNat)))] []) ∧ ((∃ (y : Nat), (y ≤ 2 ^ n.toNat ∧ trueN (dG n p) y = []) ∧ (p = p ∧ True ∧ (1 : Int) * 2 ^ n.toNat - 1 = (↑((2 : Nat) ^ n.toNat - 1) : Int) ∧ (0 : Int) = (y : Int) ∧ True) ∧ True) ∨ ∃ (y : Nat), y ≤ 2 ^ n.toNat ∧ (p = p ∧ False ∧ (1 : Int) * 2 ^ n.toNat - 1 = (↑((2 : Nat) ^ n.toNat - 1) : Int) ∧ (0 : Int) = (y : Int) ∧ True) ∧ False) ∧ (∀ (y : Unit), trueN (dG n p) ((2 : Nat) ^ n.toNat) = [] → True ∧ (ok22 [] ∧ True) ∧ True ∧ True ∧ (pieL [] = pieL (trueN (dG n p) ((2 : Nat) ^ n.toNat)) ∧ True) ∧ True) ∧ (∀ (y : Unit), True → True ∧ (ok22 (trueN (dG n p) ((2 : Nat) ^ n.toNat)) ∧ True) ∧ True ∧ True ∧ (pieL (trueN (dG n p) ((2 : Nat) ^ n.toNat)) = pieL (trueN (dG n p) ((2 : Nat) ^ n.toNat)) ∧ True) ∧ True) ∧ True) (by kernel_rfl) ?_
 simp only [zz]
 obtain ⟨p1, p2, p3⟩ := numOk_pow h.1
 obtain ⟨m1, m2⟩ := h.1
 have hok : ok22 (trueN (dG n p) (2 ^ n.toNat)) := ⟨fun x hx => by
   obtain ⟨m, e, h2, _⟩ := trueN_mem hx
   omega, by have := trueN_len (dG n p) (2 ^ n.toNat); omega⟩
 rw [Int.one_mul, ← p1]
 exact ⟨⟨⟨by omega, by simp only [bitsOf]; omega⟩, by omega, by omega⟩, by simp only [inR]; omega, hL _, ⟨0, ⟨Nat.zero_le _, rfl⟩, by omega, rfl⟩, fun _ he => ⟨by rw [← he]; exact hok, by rw [he]⟩, fun _ _ => hok⟩
end Go.Am.Sh

/- Shells: links and duals, plain facts. -/
namespace Go.Am.Sh
open Go Go.Am Go.Proofs
theorem sub_iff {a b : Nat} : sub a b = true ↔ a &&& b = a := by
 unfold sub
 exact ⟨Nat.eq_of_beq_eq_true, fun h => by rw [h]; exact Nat.beq_refl a⟩
theorem sub_trans {a b c : Nat} (h1 : sub a b = true) (h2 : sub b c = true) : sub a c = true := by
 rw [sub_iff] at *
 rw [← h1, Nat.and_assoc, h2]
theorem isF_sub {p : List Int} {a b : Nat} (h : sub a b = true) (hb : isF p b = true) : isF p a = true := by
 rw [isF_iff] at *
 obtain ⟨i, h1, h2⟩ := hb
 exact ⟨i, h1, sub_trans h h2⟩
theorem isF_trueN {g : Nat → Bool} {k : Nat} (hg : ∀ x y, y < k → sub x y = true → g y = true → g x = true) {x : Nat} : isF (trueN g k) x = (decide (x < k) && g x) := by
 rw [Bool.eq_iff_iff, Bool.and_eq_true, decide_eq_true_eq]
 constructor
 · intro h
   obtain ⟨y, hy, h2⟩ := List.any_eq_true.mp h
   obtain ⟨z, rfl, h3, h4⟩ := trueN_mem hy
   have h2 : sub x z = true := h2
   exact ⟨Nat.lt_of_le_of_lt (sub_le h2) h3, hg x z h3 h2 h4⟩
 · rintro ⟨h1, h2⟩
   exact List.any_eq_true.mpr ⟨_, trueN_has h1 h2, by rw [Int.toNat_natCast]; exact sub_self x⟩
theorem lnkG_sub {p : List Int} {f x y : Nat} (h : sub x y = true) (hy : lnkG p f y = true) : lnkG p f x = true := by
 unfold lnkG at *
 rw [Bool.and_eq_true, decide_eq_true_eq] at *
 obtain ⟨h1, h2⟩ := hy
 have hs := sub_iff.mp h
 refine ⟨by rw [← hs, Nat.and_assoc, h1, Nat.and_zero], isF_sub (sub_iff.mpr ?_) h2⟩
 apply Nat.eq_of_testBit_eq
 intro i
 have hi : (x &&& y).testBit i = x.testBit i := by rw [hs]
 simp only [Nat.testBit_and, Nat.testBit_or] at hi ⊢
 cases h1 : x.testBit i <;> cases h2 : y.testBit i <;> cases h3 : f.testBit i <;> simp_all
theorem okL_trueN {g : Nat → Bool} {k : Nat} (hk : k ≤ 64) : okL (trueN g k) := fun s hs => by
 obtain ⟨n, rfl, h, _⟩ := trueN_mem hs
 omega
theorem lnk_pie {n : Int} {p : List Int} {f : Nat} (h : cxOk n p) : grL (lnkG p f) = pieL (lkL p f (2 ^ n.toNat)) := by
 have h2 := pow_le6 h.1
 obtain ⟨e1, e2, e3⟩ := numOk_pow h.1
 unfold lkL
 rw [← grL_pie (okL_trueN (by omega))]
 refine grL_ext fun x hx => ?_
 rw [isF_trueN fun x y _ h1 h2 => lnkG_sub h1 h2]
 cases hg : lnkG p f x with
 | false => rw [Bool.and_false]
 | true =>
   have : x < 2 ^ n.toNat := by
     unfold lnkG at hg
     rw [Bool.and_eq_true] at hg
     exact Nat.lt_of_le_of_lt Nat.left_le_or (isF_lt h hg.2)
   rw [decide_eq_true this]; try rfl
theorem dual_sub : ∀ n : Fin 7, ∀ x y : Fin 64, sub x.val y.val = true → sub (mns (2 ^ n.val - 1) y.val) (mns (2 ^ n.val - 1) x.val) = true := by decide +kernel
theorem dual_pie {n : Int} {p : List Int} (h : cxOk n p) : grL (duaG n p) = pieL (trueN (dG n p) (2 ^ n.toNat)) := by
 have h2 := pow_le6 h.1
 obtain ⟨e1, e2, e3⟩ := numOk_pow h.1
 rw [← grL_pie (okL_trueN (by omega))]
 refine grL_ext fun x hx => ?_
 rw [isF_trueN]
 · rfl
 · intro x y hy h1 h2
   unfold dG at *
   have hd := dual_sub ⟨n.toNat, by have := h.1.1; have := h.1.2; omega⟩ ⟨x, by have := sub_le h1; omega⟩ ⟨y, by omega⟩ h1
   simp only at hd
   cases hx : isF p (mns (2 ^ n.toNat - 1) x) with
   | false => rfl
   | true => rw [isF_sub hd hx] at h2; cases h2
/-- The greatest sets: the first one is empty just if the last one is. -/
theorem pie_zero {s : List Int} (h : pieL s ≠ []) : (pieL s).getD 0 0 = 0 ↔ (pieL s).getD ((pieL s).length - 1) 0 = 0 := by
 have hl : 0 < (pieL s).length := by
   cases hp : pieL s with
   | nil => exact absurd hp h
   | cons a l => simp
 have key : ∀ a b, a < (pieL s).length → b < (pieL s).length → (pieL s).getD a 0 = 0 → (pieL s).getD b 0 = 0 := by
   intro a b ha hb h0
   obtain ⟨x, h1, _, h3, h4⟩ := pie_mem (mem_getD (d := 0) ha)
   obtain ⟨y, g1, _, ⟨j, g3, g4⟩, _⟩ := pie_mem (mem_getD (d := 0) hb)
   have hx0 : x = 0 := by omega
   subst hx0
   rcases h4 j g3 with h5 | h5
   · omega
   · rw [sub_zero] at h5; cases h5
 exact ⟨key _ _ hl (by omega), key _ _ (by omega) hl⟩
end Go.Am.Sh

/- Shells: the law of the hollows. -/
namespace Go.Am.Sh
open Go Go.Am Go.Proofs
def lnOk (p : List Int) (f : Int) : Prop := 0 ≤ f ∧ f < 64 ∧ isF p f.toNat = true
instance (p : List Int) (f : Int) : Decidable (lnOk p f) := by unfold lnOk; infer_instance
def lnR (p : List Int) (f : Int) : List Int := if lnOk p f then grL (lnkG p f.toNat) else []
def lnE (p : List Int) (f : Int) : Int := if lnOk p f then 0 else 1
theorem call32v (n : Int) (p : List Int) (f : Int) (h : cxOk n p) (hi : ¬ lnOk p f) : GCall Try.prog gl 32 false [.int .i64 n, .sl I64 p, .int .i64 f] [] [.sl I64 [], .int .i64 1] [] := by
 refine gcall_of (X := X [e53, e70]) (X_ok [e53, e70]) (f := 32) (fn := Try.f32) (c := bodyOf Try.f32) (by kernel_rfl) (by kernel_rfl) (view := true) (rvs := [.tmp 6, .tmp 7]) (by kernel_rfl) (H := fun _ => none) 80 (by kernel_rfl) ?_
 refine of_eq (q := True ∧ True ∧ True ∧ True ∧ (CxP n p ∧ True) ∧ True ∧ True ∧ True ∧ True ∧ True ∧ True ∧ True ∧ (¬(0 : Int) = 0 → True ∧ True ∧ True ∧ True ∧ (([] : List Int) = [] ∧ (0 : Int) = 1 ∧ True) ∧ True) ∧ (¬¬(0 : Int) = 0 → True ∧ True ∧ True ∧ (f < 0 → True ∧ True ∧ True ∧ True ∧ True ∧ True ∧ (([] : List Int) = [] ∧ (1 : Int) = 1 ∧ True) ∧ True) ∧ (¬f < 0 → True ∧ True ∧ True ∧ True ∧ ((64 : Int) ≤ f → True ∧ True ∧ True ∧ True ∧ (([] : List Int) = [] ∧ (1 : Int) = 1 ∧ True) ∧ True) ∧ (¬(64 : Int) ≤ f → True ∧ True ∧ True ∧ True ∧ idxPre f (64 : Nat) ∧ True ∧ True ∧ True ∧ ((!(mk (isF p)).getD f.toNat false) = true → True ∧ True ∧ True ∧ (([] : List Int) = [] ∧ (1 : Int) = 1 ∧ True) ∧ True) ∧ ((!(mk (isF p)).getD f.toNat false) = false → True ∧ True ∧ False))))) (by kernel_rfl) ?_
 simp only [zz]
 unfold lnOk at hi
 refine ⟨⟨h⟩, fun h => absurd trivial h, fun _ => ⟨fun _ => trivial, fun h1 => ⟨fun _ => trivial, fun h2 => ⟨by unfold idxPre; omega, fun _ => trivial, fun h3 => hi ⟨by omega, by omega, ?_⟩⟩⟩⟩⟩
 rw [mk_getD (by omega)] at h3
 simpa using h3
theorem call32g (n : Int) (p : List Int) (f : Int) (h : cxOk n p) : GCall Try.prog gl 32 false [.int .i64 n, .sl I64 p, .int .i64 f] [] [.sl I64 (lnR p f), .int .i64 (lnE p f)] [] := by
 unfold lnR lnE
 by_cases hi : lnOk p f
 · rw [if_pos hi, if_pos hi]
   obtain ⟨h1, h2, h3⟩ := hi
   obtain ⟨k, rfl⟩ : ∃ k : Nat, f = k := ⟨f.toNat, by omega⟩
   exact call32 n p k h (by omega) h3
 · rw [if_neg hi, if_neg hi]; exact call32v n p f h hi
theorem call34g (n : Int) (p : List Int) (f : Int) (h : cxOk n p ∧ 0 ≤ f ∧ f < 64) : GCall Try.prog gl 34 false [.int .i64 n, .sl I64 p, .int .i64 f] [] [.sl I64 (grL (lnkG p f.toNat))] [] := by
 obtain ⟨k, rfl⟩ : ∃ k : Nat, f = k := ⟨f.toNat, by omega⟩
 rw [lnk_pie h.1]
 exact call34 n p k h.1 (by omega)
theorem call37g (n : Int) (p : List Int) (h : cxOk n p) : GCall Try.prog gl 37 false [.int .i64 n, .sl I64 p] [] [.sl I64 (grL (duaG n p))] [] := by
 rw [dual_pie h]
 exact call37 n p h
def e32 : Entry Try.prog gl := entry3 32 ⟨Try.f32, by kernel_rfl, by kernel_rfl, by kernel_rfl⟩ I64 SI I64 (fun (n : Int) p (_ : Int) => cxOk n p) false (fun _ p (f : Int) => [.sl I64 (lnR p f), .int .i64 (lnE p f)]) (fun _ _ _ => []) (fun (n : Int) p (f : Int) h => call32g n p f h)
def e34 : Entry Try.prog gl := entry3 34 ⟨Try.f34, by kernel_rfl, by kernel_rfl, by kernel_rfl⟩ I64 SI I64 (fun (n : Int) p (f : Int) => cxOk n p ∧ 0 ≤ f ∧ f < 64) false (fun _ p (f : Int) => [.sl I64 (grL (lnkG p f.toNat))]) (fun _ _ _ => []) (fun (n : Int) p (f : Int) h => call34g n p f h)
def e37 : Entry Try.prog gl := entry2 37 ⟨Try.f37, by kernel_rfl, by kernel_rfl, by kernel_rfl⟩ I64 SI (fun (n : Int) p => cxOk n p) false (fun (n : Int) p => [.sl I64 (grL (duaG n p))]) (fun _ _ => []) (fun (n : Int) p h => call37g n p h)
def e31 : Entry Try.prog gl := entry2 31 ⟨Try.f31, by kernel_rfl, by kernel_rfl, by kernel_rfl⟩ I64 SI (fun (n : Int) p => cxOk n p) false (fun _ p => [.sl I64 (hoL p)]) (fun _ _ => []) (fun (n : Int) p h => call31 n p h)
noncomputable abbrev E6 : EL := [e14, e30, e31, e23, e32, e33, e34, e35, e36, e37, e19]
noncomputable abbrev X6 : Cy := Xw E6 (fun t => Nat.beq t 88)
noncomputable def L6_0 : Code := lp (bodyOf Try.f6) 0
def s6 (n : Int) (p : List Int) (x : Int × Nat) : St := ⟨dd 2 ++ .int .i64 x.1 :: dd 4 ++ .int .i64 n :: .sl I64 p :: dd 2 ++ .int .i64 x.2 :: dd 140, []⟩
def in6 (x : Int × Nat) : Prop := x.2 ≤ 2
def ex6 (n : Int) (p : List Int) : List (List Nat × Ex) := [([7, 8], ⟨0, Unit, fun _ => True, fun _ => ⟨dd 7 ++ .int .i64 n :: .sl I64 p :: dd 143, []⟩⟩)]
def fm6 (n : Int) (p : List Int) : List Fam := [⟨Int × Nat, in6, s6 n p, fun x => 2 - x.2, fun _ _ => none⟩]
def h6 (n : Int) (p : List Int) : Hint := ⟨chks 0 [2, 7, 8, 11] (fm6 n p), (ex6 n p).map (·.2)⟩
noncomputable def R6 : Exit → St → Prop := RetR X6 true false [.tmp 6] [.tt] []
noncomputable def k6a (n : Int) (p : List Int) (k : Nat) : List It := opn [.code L6_0, .inv (chkm 0 [2, 7, 8, 11] (2 - k) (fm6 n p))]
noncomputable def k6b (n : Int) (p : List Int) (k : Nat) : List It := opn ((k6a n p k).drop 2)
noncomputable def k6c (n : Int) (p : List Int) (k : Nat) : List It := (k6b n p k).drop 3
theorem cxOk_faces {n : Int} {p : List Int} (h : cxOk n p) : 1 ≤ (facesL n p).length ∧ (facesL n p).length ≤ 64 := by
 rw [faces_fcs h]
 have h0 : isF p 0 = true := isF_iff.mpr ⟨0, by have := h.2.1.1; omega, sub_zero _⟩
 have := trueN_has (g := isF p) (k := 64) (x := 0) (by decide) h0
 exact ⟨List.length_pos_of_mem this, fcs_len p⟩
theorem part6c (n : Int) (p : List Int) (f : Int) (k : Nat) (h : cxOk n p) (hk : k < 2) : Sat X6 (bodyR 0 (ex6 n p) R6) (s6 n p (f, k)) (k6c n p k) := by
 refine .of_run (Xw_ok _ _) (H := nH) (n := 150) ?_
 refine of_eq (q := True ∧ True ∧ ((numOk n ∧ okL p ∧ p.length < 1000000) ∧ True) ∧ True ∧ True ∧ True ∧ True ∧ True ∧ True ∧ inR .u64 (↑(facesL n p).length : Int) ∧ ¬(↑(facesL n p).length : Int) = 0 ∧ inR .i64 ((modU .u64 f).tmod (↑(facesL n p).length : Int)) ∧ idxPre ((modU .u64 f).tmod (↑(facesL n p).length : Int)) (facesL n p).length ∧ True ∧ True ∧ True ∧ inR .i64 ((k : Int) + 1) ∧ True ∧ ∃ (y : Int × Nat), (in6 y ∧ (2 : Nat) - y.snd < 2 - k) ∧ ((facesL n p).getD ((modU .u64 f).tmod (↑(facesL n p).length : Int)).toNat (0 : Int) = y.fst ∧ n = n ∧ p = p ∧ (k : Int) + 1 = (y.snd : Int) ∧ True) ∧ True) (by kernel_rfl) ?_
 simp only [zz]
 have hc := cxOk_faces h
 have h1 := u64_nn f
 have h2 := Int.tmod_nonneg (a := modU .u64 f) ((facesL n p).length : Int) (u64_nn f)
 have h3 := Int.tmod_lt_of_pos (modU .u64 f) (show (0 : Int) < (facesL n p).length by omega)
 have hl := h.2.1.2
 exact ⟨⟨h.1, h.ok, by omega⟩, by simp only [inR]; omega, by omega, by simp only [inR]; omega, ⟨by omega, by omega⟩, by simp only [inR]; omega, ((facesL n p).getD ((modU .u64 f).tmod (facesL n p).length).toNat 0, k + 1), ⟨by unfold in6; simp only; omega, by simp only; omega⟩, rfl, by simp only; omega⟩
theorem part6b (n : Int) (p : List Int) (f : Int) (k : Nat) (h : cxOk n p) (hk : k < 2) : Sat X6 (bodyR 0 (ex6 n p) R6) (s6 n p (f, k)) ((k6a n p k).drop 2) := by
 refine .opn (.cut (Xw_ok _ _) 3 (H := nH) [2, 7, 8, 11] [⟨Unit, fun _ => True, fun _ => s6 n p (f, k), fun _ => 0, fun _ => nH⟩] 150 (by kernel_rfl) ?_ ⟨fun _ _ => part6c n p f k h hk, trivial⟩)
 refine of_eq (q := True ∧ True ∧ True ∧ ((numOk n ∧ ((1 : Nat) ≤ p.length ∧ p.length ≤ 10) ∧ ∀ (k : Nat), k < p.length → goodAt n p k) ∧ True) ∧ True ∧ True ∧ True ∧ True ∧ True ∧ True ∧ True ∧ True ∧ (f < 0 → True ∧ True ∧ True ∧ True ∧ True ∧ True ∧ (¬lnE p f = 1 → True ∧ True ∧ True ∧ (false = true ∧ True) ∧ True) ∧ (¬¬lnE p f = 1 → True ∧ True ∧ True ∧ True ∧ (¬(↑(lnR p f).length : Int) = 0 → True ∧ True ∧ (false = true ∧ True) ∧ True) ∧ (¬¬(↑(lnR p f).length : Int) = 0 → ∃ (y : Unit), True ∧ (f = f ∧ n = n ∧ p = p ∧ (k : Int) = (k : Int) ∧ True) ∧ True))) ∧ (¬f < 0 → True ∧ True ∧ (((0 : Int) ≤ n ∧ n < bitsOf .i64) ∧ (-9223372036854775808 : Int) ≤ 1 * 2 ^ n.toNat ∧ (1 : Int) * 2 ^ n.toNat ≤ 9223372036854775807) ∧ True ∧ True ∧ True ∧ ((1 : Int) * 2 ^ n.toNat ≤ f → True ∧ True ∧ True ∧ True ∧ (¬lnE p f = 1 → True ∧ True ∧ True ∧ (false = true ∧ True) ∧ True) ∧ (¬¬lnE p f = 1 → True ∧ True ∧ True ∧ True ∧ (¬(↑(lnR p f).length : Int) = 0 → True ∧ True ∧ (false = true ∧ True) ∧ True) ∧ (¬¬(↑(lnR p f).length : Int) = 0 → ∃ (y : Unit), True ∧ (f = f ∧ n = n ∧ p = p ∧ (k : Int) = (k : Int) ∧ True) ∧ True))) ∧ (¬(1 : Int) * 2 ^ n.toNat ≤ f → True ∧ True ∧ (((okL p ∧ p.length < 1000000) ∧ (0 : Int) ≤ f ∧ f < 64) ∧ True) ∧ True ∧ True ∧ ((!isF p f.toNat) = true → True ∧ True ∧ True ∧ (¬lnE p f = 1 → True ∧ True ∧ True ∧ (false = true ∧ True) ∧ True) ∧ (¬¬lnE p f = 1 → True ∧ True ∧ True ∧ True ∧ (¬(↑(lnR p f).length : Int) = 0 → True ∧ True ∧ (false = true ∧ True) ∧ True) ∧ (¬¬(↑(lnR p f).length : Int) = 0 → ∃ (y : Unit), True ∧ (f = f ∧ n = n ∧ p = p ∧ (k : Int) = (k : Int) ∧ True) ∧ True))) ∧ ((!isF p f.toNat) = false → True ∧ True ∧ True ∧ (¬lnE p f = 0 → True ∧ True ∧ True ∧ (false = true ∧ True) ∧ True) ∧ (¬¬lnE p f = 0 → True ∧ True ∧ True ∧ True ∧ ((cxOk n p ∧ (0 : Int) ≤ f ∧ f < 64) ∧ True) ∧ ((lnR p f).length + 1 ≤ 1000000000000000 ∧ True) ∧ True ∧ True ∧ ((!decide (lnR p f = grL (lnkG p f.toNat))) = true → True ∧ True ∧ (false = true ∧ True) ∧ True) ∧ ((!decide (lnR p f = grL (lnkG p f.toNat))) = false → ∃ (y : Unit), True ∧ (f = f ∧ n = n ∧ p = p ∧ (k : Int) = (k : Int) ∧ True) ∧ True)))))) (by kernel_rfl) ?_
 simp only [zz]
 have hE : lnE p f = if lnOk p f then 0 else 1 := rfl
 have hR : lnR p f = if lnOk p f then grL (lnkG p f.toNat) else [] := rfl
 have hlt : isF p f.toNat = true → f.toNat < 2 ^ n.toNat := fun hf => isF_lt h hf
 have hlen : (grL (lnkG p f.toNat)).length ≤ 64 := trueN_len _ _
 obtain ⟨e1, e2, e3⟩ := numOk_pow h.1
 obtain ⟨n1, n2⟩ := h.1
 have hl := h.2.1.2
 have hok := h.ok
 have hlo : lnOk p f ↔ (0 ≤ f ∧ f < 64 ∧ isF p f.toNat = true) := Iff.rfl
 have hb : 0 ≤ n ∧ n < bitsOf .i64 := ⟨by omega, by simp only [bitsOf]; omega⟩
 rw [← e1]
 generalize 2 ^ n.toNat = P at *
 refine ⟨h, fun h1 => ?_, fun h1 => ⟨⟨hb, by omega, by omega⟩, fun h2 => ?_, fun h2 => ⟨⟨⟨hok, by omega⟩, by omega, by omega⟩, fun h3 => ?_, fun h3 => ?_⟩⟩⟩
 · have hi : ¬ lnOk p f := fun hc => by have := hc.1; omega
   rw [if_neg hi] at hE hR
   rw [hE, hR]; simp
 · have hi : ¬ lnOk p f := fun hc => by have := hlt hc.2.2; omega
   rw [if_neg hi] at hE hR
   rw [hE, hR]; simp
 · have hi : ¬ lnOk p f := fun hc => by rw [hc.2.2] at h3; cases h3
   rw [if_neg hi] at hE hR
   rw [hE, hR]; simp
 · have hi : lnOk p f := ⟨by omega, by omega, by simpa using h3⟩
   rw [if_pos hi] at hE hR
   rw [hE, hR]
   exact ⟨fun h => absurd rfl h, fun _ => ⟨⟨h, by omega, by omega⟩, by omega, fun h => by simp at h, fun _ => trivial⟩⟩
theorem loop6 (n : Int) (p : List Int) (h : cxOk n p) (R : Exit → St → Prop) (hR : R = R6) : LoopOK X6 L6_0 (h6 n p) R := by
 subst hR
 refine loop_famsS [2, 7, 8, 11] (fm6 n p) (ex6 n p) ⟨fun x hx => ?_, trivial⟩
 obtain ⟨f, k⟩ := x
 refine .opn (.cut (Xw_ok _ _) 2 (H := nH) [2, 7, 8, 11] [⟨Unit, fun _ => k < 2, fun _ => s6 n p (f, k), fun _ => 0, fun _ => nH⟩] 150 (by kernel_rfl) ?_ ⟨fun _ hk => part6b n p f k h hk, trivial⟩)
 refine of_eq (q := True ∧ True ∧ ((k : Int) < 2 → ∃ (y : Unit), k < 2 ∧ (f = f ∧ n = n ∧ p = p ∧ (k : Int) = (k : Int) ∧ True) ∧ True) ∧ (¬(k : Int) < 2 → ∃ (y : Unit), True ∧ (n = n ∧ p = p ∧ True) ∧ True)) (by kernel_rfl) ?_
 simp only [zz]
 exact ⟨fun h => by omega, fun _ => trivial⟩
theorem call6 (n : Int) (l : List Int) (f : Int) (hl : l.length < 1000000000000000) : GCall Try.prog gl 6 true [.int .i64 n, .sl I64 l, .int .i64 f] [] [.tt] [] := by
 have hc := tm_cx n l
 have hL := loop6 (tmN n) (tmP n l) hc R6 rfl
 refine gcall_of (X := X6) ((Xw_ok _ _)) (f := 6) (fn := Try.f6) (c := bodyOf Try.f6) (by kernel_rfl) (by kernel_rfl) (view := false) (rvs := [.tmp 6]) (by kernel_rfl) (H := (fun _ => some (h6 (tmN n) (tmP n l)))) 200 (by kernel_rfl) ?_
 refine of_eq (q := True ∧ True ∧ True ∧ (l.length + 1 ≤ 1000000000000000 ∧ True) ∧ True ∧ True ∧ True ∧ True ∧ True ∧ True ∧ True ∧ ((numOk (tmN n) ∧ ((1 : Nat) ≤ (tmP n l).length ∧ (tmP n l).length ≤ 10) ∧ ∀ (k : Nat), k < (tmP n l).length → goodAt (tmN n) (tmP n l) k) ∧ True) ∧ True ∧ True ∧ True ∧ True ∧ True ∧ True ∧ True ∧ True ∧ (¬(0 : Int) = 0 → True ∧ True ∧ True ∧ (false = true ∧ True) ∧ True) ∧ (¬¬(0 : Int) = 0 → True ∧ True ∧ True ∧ ((numOk (tmN n) ∧ ((1 : Nat) ≤ (tmP n l).length ∧ (tmP n l).length ≤ 10) ∧ ∀ (k : Nat), k < (tmP n l).length → goodAt (tmN n) (tmP n l) k) ∧ True) ∧ ((hoL (tmP n l)).length + 1 ≤ 1000000000000000 ∧ True) ∧ True ∧ True ∧ ((!decide (hoL (tmP n l) = hoL (tmP n l))) = true → True ∧ True ∧ (false = true ∧ True) ∧ True) ∧ ((!decide (hoL (tmP n l) = hoL (tmP n l))) = false → True ∧ LoopOK X6 L6_0 (h6 (tmN n) (tmP n l)) R6 ∧ (∃ (y : Int × Nat), in6 y ∧ (f = y.fst ∧ tmN n = tmN n ∧ tmP n l = tmP n l ∧ (0 : Int) = (y.snd : Int) ∧ True) ∧ True) ∧ (∀ (y : Unit), True → True ∧ True ∧ ((numOk (tmN n) ∧ ((1 : Nat) ≤ (tmP n l).length ∧ (tmP n l).length ≤ 10) ∧ ∀ (k : Nat), k < (tmP n l).length → goodAt (tmN n) (tmP n l) k) ∧ True) ∧ True ∧ True ∧ True ∧ True ∧ True ∧ True ∧ True ∧ ((numOk (tmN n) ∧ ((1 : Nat) ≤ (tmP n l).length ∧ (tmP n l).length ≤ 10) ∧ ∀ (k : Nat), k < (tmP n l).length → goodAt (tmN n) (tmP n l) k) ∧ True) ∧ True ∧ True ∧ True ∧ True ∧ True ∧ ((↑(grL (duaG (tmN n) (tmP n l))).length : Int) = 0 → True ∧ True ∧ True ∧ True ∧ True ∧ (fewE (grL (duaG (tmN n) (tmP n l))) = 4 → True ∧ True ∧ True ∧ True ∧ True ∧ ((↑(fewR (grL (duaG (tmN n) (tmP n l)))).length : Int) = 0 → (True ∧ True) ∧ True ∧ True ∧ True ∧ (true = true ∧ True) ∧ True) ∧ (¬(↑(fewR (grL (duaG (tmN n) (tmP n l)))).length : Int) = 0 → True ∧ True ∧ True ∧ (false = true ∧ True) ∧ True)) ∧ (¬fewE (grL (duaG (tmN n) (tmP n l))) = 4 → True ∧ True ∧ True ∧ True ∧ True ∧ (false = true ∧ True) ∧ True)) ∧ (¬(↑(grL (duaG (tmN n) (tmP n l))).length : Int) = 0 → True ∧ True ∧ True ∧ inR .i64 ((↑(grL (duaG (tmN n) (tmP n l))).length : Int) - 1) ∧ idxPre ((↑(grL (duaG (tmN n) (tmP n l))).length : Int) - 1) (grL (duaG (tmN n) (tmP n l))).length ∧ True ∧ True ∧ True ∧ True ∧ ((grL (duaG (tmN n) (tmP n l))).getD ((↑(grL (duaG (tmN n) (tmP n l))).length : Int) - 1).toNat (0 : Int) = 0 → True ∧ True ∧ True ∧ (fewE (grL (duaG (tmN n) (tmP n l))) = 4 → True ∧ True ∧ True ∧ True ∧ True ∧ ((↑(fewR (grL (duaG (tmN n) (tmP n l)))).length : Int) = 0 → (True ∧ True) ∧ True ∧ True ∧ True ∧ (true = true ∧ True) ∧ True) ∧ (¬(↑(fewR (grL (duaG (tmN n) (tmP n l)))).length : Int) = 0 → True ∧ True ∧ True ∧ (false = true ∧ True) ∧ True)) ∧ (¬fewE (grL (duaG (tmN n) (tmP n l))) = 4 → True ∧ True ∧ True ∧ True ∧ True ∧ (false = true ∧ True) ∧ True)) ∧ (¬(grL (duaG (tmN n) (tmP n l))).getD ((↑(grL (duaG (tmN n) (tmP n l))).length : Int) - 1).toNat (0 : Int) = 0 → True ∧ True ∧ True ∧ True ∧ ((10 : Int) < (↑(grL (duaG (tmN n) (tmP n l))).length : Int) → True ∧ True ∧ True ∧ (fewE (grL (duaG (tmN n) (tmP n l))) = 8 → True ∧ True ∧ True ∧ True ∧ True ∧ ((↑(fewR (grL (duaG (tmN n) (tmP n l)))).length : Int) = 0 → (True ∧ True) ∧ True ∧ True ∧ True ∧ (true = true ∧ True) ∧ True) ∧ (¬(↑(fewR (grL (duaG (tmN n) (tmP n l)))).length : Int) = 0 → True ∧ True ∧ True ∧ (false = true ∧ True) ∧ True)) ∧ (¬fewE (grL (duaG (tmN n) (tmP n l))) = 8 → True ∧ True ∧ True ∧ True ∧ True ∧ (false = true ∧ True) ∧ True)) ∧ (¬(10 : Int) < (↑(grL (duaG (tmN n) (tmP n l))).length : Int) → True ∧ True ∧ True ∧ (fewE (grL (duaG (tmN n) (tmP n l))) = 0 → True ∧ True ∧ ((fewR (grL (duaG (tmN n) (tmP n l)))).length + 1 ≤ 1000000000000000 ∧ True) ∧ True ∧ True ∧ (decide (fewR (grL (duaG (tmN n) (tmP n l))) = grL (duaG (tmN n) (tmP n l))) = true → (True ∧ True) ∧ True ∧ True ∧ True ∧ (true = true ∧ True) ∧ True) ∧ (decide (fewR (grL (duaG (tmN n) (tmP n l))) = grL (duaG (tmN n) (tmP n l))) = false → True ∧ True ∧ True ∧ (false = true ∧ True) ∧ True)) ∧ (¬fewE (grL (duaG (tmN n) (tmP n l))) = 0 → True ∧ True ∧ True ∧ True ∧ True ∧ (false = true ∧ True) ∧ True))))) ∧ True))) (by kernel_rfl) ?_
 simp only [zz]
 have hz := pie_zero (s := trueN (dG (tmN n) (tmP n l)) (2 ^ (tmN n).toNat))
 rw [← dual_pie hc] at hz
 have hlen : (grL (duaG (tmN n) (tmP n l))).length ≤ 64 := trueN_len _ _
 have hho : (hoL (tmP n l)).length ≤ 6 := by
   have := hoK_length (tmP n l) (mxL (tmP n l)).toNat
   have h2 := mxL_le (tmP n l)
   show (hoK _ _).length ≤ 6
   omega
 generalize grL (duaG (tmN n) (tmP n l)) = L at *
 refine ⟨by omega, hc, fun h => absurd trivial h, fun _ => ⟨hc, by omega, fun h => by simp at h, fun _ => ⟨hL, ⟨(f, 0), Nat.zero_le _, rfl, rfl⟩, fun _ _ => ⟨hc, hc, ?_⟩⟩⟩⟩
 have hE : fewE L = if L = [] ∨ L.getD 0 0 = 0 then 4 else if 10 < L.length then 8 else 0 := rfl
 have hR : fewR L = if fewE L = 0 then L else [] := rfl
 have h0 : L.length = 0 ↔ L = [] := List.length_eq_zero_iff
 have hi : ((L.length : Int) - 1).toNat = L.length - 1 := by omega
 rw [hi]
 (repeat' first | with_reducible exact trivial | with_reducible apply And.intro | intro _)
 all_goals first | (simp only [inR]; omega) | (unfold idxPre; omega) | grind
end Go.Am.Sh

/- Shells: from the laws' contracts to the given statements: what all laws share. -/
namespace Go.Proofs.Ytfpoonbcnabihaa
open Go Go.ChangeShapes Go.WideShapes Go.ChangeAt Go.RowKit Go.Am Go.Am.Sh
theorem own : ownKnob Try.prog.godebug = none := by kernel_rfl
theorem laidOut : laidOutB Try.prog = true := by kernel_rfl
theorem u3 : Try.prog.underlying 3 = some (.int .i64) := by kernel_rfl
theorem u4 : Try.prog.underlying 4 = some .bool := by kernel_rfl
theorem u22 : Try.prog.underlying 22 = some (.slice 3) := by kernel_rfl
theorem tyOk3 : TyOk Try.prog 3 I64 := u3
theorem tyOk22 : TyOk Try.prog 22 (.sl I64) := ⟨3, u22, u3, by kernel_rfl, by decide, of_decide_eq_true (by kernel_rfl)⟩
theorem reach_le {l : List Nat} (h : l.all (fun x => decide (x ≤ reachBytes)) = true) : ∀ n ∈ l, n ≤ 140737488355328 := fun n hn => by
 have := of_decide_eq_true (List.all_eq_true.mp h n hn)
 have e : reachBytes = 140737488351232 := rfl
 omega
theorem glob_of {W : World} : GlobOk gl (fun b => b < W.heap.size) W := fun g p hp => by cases hp
end Go.Proofs.Ytfpoonbcnabihaa
