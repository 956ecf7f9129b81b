/- Part B4 of the proof that the law named in the last file returns true at every input and leaves its arguments as they were; no condition of its own. -/
import Derived.Test.YtfpoonbcnabihaaB3
import Derived.Test.YtfpoonbcnabihaaA2
import Derived.Test.YtfpoonbcnabihaaRows
import Derived.WalkKit
import Derived.ProofKit
import Derived.OpenShut
import Derived.SizedLaws
import Derived.ChangeOld
import Derived.Below
import Derived.Stop.Joined
set_option linter.unusedSimpArgs false
set_option linter.unusedVariables false
/- Shells: a shelling is searched. -/
namespace Go.Am.Sh
open Go Go.Am Go.Proofs
noncomputable def Xb (l : EL) (m0 : Nat) (bs : List Nat) (dr : Nat → Option Nat) : Cy := { mkX Try.prog tt gl l m0 dr with bs := bs }
theorem Xb_ok (l : EL) (m0 : Nat) (bs : List Nat) (dr : Nat → Option Nat) : (Xb l m0 bs dr).Ok := (mkX_ok tt_ok l m0 dr).bump bs
abbrev Mm := List (Int × Bool)
abbrev Res := Bool × List Int × Mm
def mg (m : Mm) (d : Int) : Bool := (mGet I64 m d).getD false
def mp (m : Mm) (d : Int) : Mm := mPut I64 m d true
/-- The first rounds, until one comes to an end. -/
def lpK (p : List Int) (f : Nat → List Int → Mm → Res) (D : Nat) (l : List Int) (m : Mm) : Nat → Res
 | 0 => (false, l, m)
 | k + 1 => if (lpK p f D l m k).1 = true then lpK p f D l m k else if D / 2 ^ k % 2 = 1 ∨ flw p D k = false then lpK p f D l m k else
     if (f (D ||| 2 ^ k) (l ++ [(k : Int)]) (lpK p f D l m k).2.2).1 = true then f (D ||| 2 ^ k) (l ++ [(k : Int)]) (lpK p f D l m k).2.2
     else (false, l, (f (D ||| 2 ^ k) (l ++ [(k : Int)]) (lpK p f D l m k).2.2).2.2)
/-- The search; as many levels as pieces are left. -/
def gr (p : List Int) : Nat → Nat → List Int → Mm → Res
 | 0, _, l, m => (true, l, m)
 | n + 1, D, l, m => if mg m D = true then (false, l, m) else if (lpK p (gr p n) D l m p.length).1 = true then lpK p (gr p n) D l m p.length else (false, l, mp (lpK p (gr p n) D l m p.length).2.2 D)
theorem gr_list {p : List Int} {n D : Nat} {l : List Int} {m : Mm} (h : (gr p n D l m).1 = false) : (gr p n D l m).2.1 = l := by
 cases n with
 | zero => cases h
 | succ n =>
   rw [gr] at h ⊢
   split
   · rfl
   · rename_i h1; rw [if_neg h1] at h
     split
     · rename_i h2; rw [if_pos h2, h2] at h; cases h
     · rfl
theorem lpK_stop {p : List Int} {f : Nat → List Int → Mm → Res} {D : Nat} {l : List Int} {m : Mm} {k : Nat} (h : (lpK p f D l m k).1 = true) : ∀ j, lpK p f D l m (k + j) = lpK p f D l m k
 | 0 => rfl
 | j + 1 => by rw [show k + (j + 1) = k + j + 1 by omega, lpK, lpK_stop h j, if_pos h]
def clo55 (a b c d : Nat) : AV := .clo 55 [] [.ptr a 0 [], .ptr b 0 [], .ptr c 0 [], .ptr d 0 []]
def mmO (m : Mm) : Ob := .mo I64 .bool m
def gS (v : Nat) (n : Int) (p l : List Int) (m : Mm) : List Ob := [.bx (.own 1 v), .sc v 3 I64 l, .bx (.ptr 3 0 []), cxO n p, .bx (.mp 5), mmO m, .bx (clo55 0 2 4 6)]
def aS (D : Int) : List AV := [.int .i64 D, .ptr 0 0 [], .ptr 2 0 [], .ptr 4 0 [], .ptr 6 0 []]
structure pre55 (n : Int) (p : List Int) (lv D : Nat) (l : List Int) : Prop where
 h : cxOk n p
 D : D < 2 ^ p.length
 l : l.length + lv = p.length
def GS (lv : Nat) : Prop := ∀ (n : Int) (p : List Int) (D : Nat) (l : List Int) (m : Mm), pre55 n p lv D l → GCall Try.prog gl 55 false (aS D) (gS 0 n p l m) [.bool (gr p lv D l m).1] (gS 1 n p (gr p lv D l m).2.1 (gr p lv D l m).2.2)
def unMm : Ob → Option Mm
 | .mo k v m => (if h : k = I64 ∧ v = .bool then some (by obtain ⟨rfl, rfl⟩ := h; exact m) else none)
 | _ => none
def unSc : Ob → Option (List Int)
 | .sc _ _ e xs => castL e I64 xs
 | _ => none
abbrev G5 := Int × Cx3 × List Int × Mm
def get55 (xs : List AV) (obs : List Ob) : Option G5 :=
 match xs with
 | .int .i64 d :: _ => (match unSc (obs.getD 1 .gone), unCx (obs.getD 3 .gone), unMm (obs.getD 5 .gone) with
   | some l, some x, some m => some (d, x, l, m)
   | _, _, _ => none)
 | _ => none
def gSq (v : Nat) (x : Cx3) (l : List Int) (m : Mm) : List Ob := [.bx (.own 1 v), .sc v 3 I64 l, .bx (.ptr 3 0 []), cxQ x, .bx (.mp 5), mmO m, .bx (clo55 0 2 4 6)]
structure ok55 (lv : Nat) (x : G5) : Prop where
 h : okC x.2.1
 d : 0 ≤ x.1
 p : pre55 x.2.1.1 x.2.1.2.1 lv x.1.toNat x.2.2.1
def e55S (lv : Nat) (h : GS lv) : Entry Try.prog gl := entryW 55 ⟨Try.f55, by kernel_rfl, by kernel_rfl, by kernel_rfl⟩ true get55 (ok55 lv) false (fun x => aS x.1) (fun x => gSq 0 x.2.1 x.2.2.1 x.2.2.2) (fun x => [.bool (gr x.2.1.2.1 lv x.1.toNat x.2.2.1 x.2.2.2).1])
 (fun x => gSq 1 x.2.1 (gr x.2.1.2.1 lv x.1.toNat x.2.2.1 x.2.2.2).2.1 (gr x.2.1.2.1 lv x.1.toNat x.2.2.1 x.2.2.2).2.2) (fun x hx => by
   have := h _ _ _ _ x.2.2.2 hx.p
   rw [Int.toNat_of_nonneg hx.d] at this
   have e : ∀ v l m, gSq v x.2.1 l m = gS v x.2.1.1 x.2.1.2.1 l m := fun v l m => by unfold gSq gS; rw [cxQ_ok hx.h]
   rw [e, e]; exact this)
noncomputable abbrev X55 (es : EL) : Cy := Xb es 7 [1] (fun _ => none)
theorem gS0 : GS 0 := by
 intro n p D l m hp
 refine gcall_of (X := (X55 [e56])) ((Xb_ok _ _ _ _)) (f := 55) (fn := Try.f55) (c := bodyOf Try.f55) (by kernel_rfl) (by kernel_rfl) (view := false) (rvs := [.tmp 6]) (by kernel_rfl) (H := fun _ => none) 80 (by kernel_rfl) ?_
 refine of_eq (q := True ∧ True ∧ True ∧ True ∧ True ∧ True ∧ True ∧ True ∧ True ∧ ((l.length : Int) = (p.length : Int) → True ∧ True ∧ (true = true ∧ True) ∧ True ∧ l = (gr p (0 : Nat) D l m).snd.fst ∧ True ∧ (n = n ∧ p = p ∧ mk (isF p) = mk (isF p) ∧ True) ∧ True ∧ m = (gr p (0 : Nat) D l m).snd.snd ∧ (True ∧ True ∧ True ∧ True ∧ True ∧ True) ∧ True) ∧ (¬(l.length : Int) = (p.length : Int) → True ∧ True ∧ True ∧ ((mGet I64 m (D : Int)).getD false = true → True ∧ True ∧ (false = true ∧ True) ∧ True ∧ l = (gr p (0 : Nat) D l m).snd.fst ∧ True ∧ (n = n ∧ p = p ∧ mk (isF p) = mk (isF p) ∧ True) ∧ True ∧ m = (gr p (0 : Nat) D l m).snd.snd ∧ (True ∧ True ∧ True ∧ True ∧ True ∧ True) ∧ True) ∧ ((mGet I64 m (D : Int)).getD false = false → True ∧ True ∧ True ∧ True ∧ True ∧ True ∧ False))) (by kernel_rfl) ?_
 simp only [zz]
 have h1 := hp.l
 exact ⟨fun _ => ⟨rfl, rfl⟩, fun h => absurd (by omega) h⟩
noncomputable def L55_0 : Code := lp (bodyOf Try.f55) 0
theorem or_pow10 {D k : Nat} (hD : D < 1024) (hk : k < 10) : bOr .i64 (D : Int) (1 * 2 ^ k) = ((D ||| 2 ^ k : Nat) : Int) ∧ D ||| 2 ^ k < 1024 ∧ (1 : Int) * 2 ^ k ≤ 512 ∧ (0 : Int) ≤ 1 * 2 ^ k := by
 have h2 : 2 ^ k ≤ 2 ^ 9 := Nat.pow_le_pow_right (by decide) (by omega)
 have e : (2 ^ k : Int) = ((2 ^ k : Nat) : Int) := by rw [Int.natCast_pow]; try rfl
 have h3 : D ||| 2 ^ k < 2 ^ 10 := Nat.or_lt_two_pow hD (by omega)
 have hb : bOr .i64 (D : Int) ((2 ^ k : Nat) : Int) = ((D ||| 2 ^ k : Nat) : Int) := bOr_nat (by omega) (by omega)
 rw [Int.one_mul, e]
 refine ⟨hb, by omega, ?_, Int.natCast_nonneg _⟩
 generalize 2 ^ k = P at *
 omega
theorem lpK_go {p : List Int} {f : Nat → List Int → Mm → Res} {D : Nat} {l : List Int} {m : Mm} {k : Nat} (h : (lpK p f D l m k).1 = false) : lpK p f D l m (k + 1) = if D / 2 ^ k % 2 = 1 ∨ flw p D k = false then lpK p f D l m k else
     if (f (D ||| 2 ^ k) (l ++ [(k : Int)]) (lpK p f D l m k).2.2).1 = true then f (D ||| 2 ^ k) (l ++ [(k : Int)]) (lpK p f D l m k).2.2
     else (false, l, (f (D ||| 2 ^ k) (l ++ [(k : Int)]) (lpK p f D l m k).2.2).2.2) := by rw [lpK, if_neg (by simp [h])]
theorem pre_D {n : Int} {p : List Int} {lv D : Nat} {l : List Int} (h : pre55 n p lv D l) : D < 1024 := by
 have := Nat.pow_le_pow_right (show 0 < 2 by decide) h.h.2.1.2
 have := h.D
 omega
def stS (v : Nat) (n : Int) (p : List Int) (f : Nat → List Int → Mm → Res) (D : Nat) (l : List Int) (m : Mm) (k : Nat) : St := ⟨aS D ++ dd 18 ++ .int .i64 p.length :: .int .i64 k :: dd 34, gS v n p l (lpK p f D l m k).2.2⟩
def inS (p : List Int) (f : Nat → List Int → Mm → Res) (D : Nat) (l : List Int) (m : Mm) (k : Nat) : Prop := k ≤ p.length ∧ (lpK p f D l m k).1 = false
def fmS (n : Int) (p : List Int) (f : Nat → List Int → Mm → Res) (D : Nat) (l : List Int) (m : Mm) : List Fam := [⟨Nat, inS p f D l m, stS 0 n p f D l m, fun k => p.length - k, fun _ _ => none⟩, ⟨Nat, inS p f D l m, stS 1 n p f D l m, fun k => p.length - k, fun _ _ => none⟩]
def exS (n : Int) (p : List Int) (f : Nat → List Int → Mm → Res) (D : Nat) (l : List Int) (m : Mm) : List (List Nat × Ex) := [([0, 1, 2, 3, 4], ⟨0, Unit, fun _ => (lpK p f D l m p.length).1 = false, fun _ => ⟨aS D ++ dd 54, gS 0 n p l (lpK p f D l m p.length).2.2⟩⟩), ([0, 1, 2, 3, 4], ⟨0, Unit, fun _ => (lpK p f D l m p.length).1 = false, fun _ => ⟨aS D ++ dd 54, gS 1 n p l (lpK p f D l m p.length).2.2⟩⟩)]
def hS (n : Int) (p : List Int) (f : Nat → List Int → Mm → Res) (D : Nat) (l : List Int) (m : Mm) : Hint := ⟨chks 7 [0, 1, 2, 3, 4, 23, 24] (fmS n p f D l m), (exS n p f D l m).map (·.2)⟩
noncomputable def HS (n : Int) (p : List Int) (f : Nat → List Int → Mm → Res) (D : Nat) (l : List Int) (m : Mm) : Nat → Option Hint := fun _ => some (hS n p f D l m)
theorem loopS (lv : Nat) (h' : GS lv) (n : Int) (p : List Int) (D : Nat) (l : List Int) (m : Mm) (hp : pre55 n p (lv + 1) D l) (hm : ¬ mg m D = true) : LoopOK (X55 [e56, e55S lv h']) L55_0 (hS n p (gr p lv) D l m)
   (RetR (X55 [e56, e55S lv h']) false false [.tmp 6] [.bool (gr p (lv + 1) D l m).1] (gS 1 n p (gr p (lv + 1) D l m).2.1 (gr p (lv + 1) D l m).2.2)) := by
 refine loop_fams (Xb_ok _ _ _ _) [0, 1, 2, 3, 4, 23, 24] (fmS n p (gr p lv) D l m) (exS n p (gr p lv) D l m) 150 ⟨fun (k : Nat) hk => ?_, fun (k : Nat) hk => ?_, trivial⟩
 · refine of_eq (q := True ∧ ((k : Int) < (p.length : Int) → True ∧ True ∧ True ∧ True ∧ inR .u64 (k : Int) ∧ ((0 : Int) ≤ (k : Int) ∧ (k : Int) < bitsOf .i64) ∧ True ∧ True ∧ True ∧ (bAnd .i64 ((D : Int) / (2 : Int) ^ k) (1 : Int) = 1 → True ∧ inR .i64 ((k : Int) + 1) ∧ True ∧ ((∃ (y : Nat), (inS p (gr p lv) D l m y ∧ p.length - y < p.length - k) ∧ ((D : Int) = (D : Int) ∧ True ∧ True ∧ True ∧ True ∧ (p.length : Int) = (p.length : Int) ∧ (k : Int) + 1 = (y : Int) ∧ True) ∧ True ∧ l = l ∧ True ∧ (n = n ∧ p = p ∧ mk (isF p) = mk (isF p) ∧ True) ∧ True ∧ (lpK p (gr p lv) D l m k).snd.snd = (lpK p (gr p lv) D l m y).snd.snd ∧ (True ∧ True ∧ True ∧ True ∧ True ∧ True) ∧ True) ∨ ∃ (y : Nat), (inS p (gr p lv) D l m y ∧ p.length - y < p.length - k) ∧ ((D : Int) = (D : Int) ∧ True ∧ True ∧ True ∧ True ∧ (p.length : Int) = (p.length : Int) ∧ (k : Int) + 1 = (y : Int) ∧ True) ∧ False ∧ False ∧ True ∧ (n = n ∧ p = p ∧ mk (isF p) = mk (isF p) ∧ True) ∧ True ∧ (lpK p (gr p lv) D l m k).snd.snd = (lpK p (gr p lv) D l m y).snd.snd ∧ (True ∧ True ∧ True ∧ True ∧ True ∧ True) ∧ True)) ∧ (¬bAnd .i64 ((D : Int) / (2 : Int) ^ k) (1 : Int) = 1 → True ∧ True ∧ True ∧ ((ok56 ((D : Int), (k : Int), n, p, mk (isF p)) ∧ (True ∧ (D : Int) = (D : Int) ∧ (k : Int) = (k : Int) ∧ True) ∧ (n = n ∧ p = p ∧ mk (isF p) = mk (isF p) ∧ True) ∧ True) ∧ True ∧ True) ∧ True ∧ True ∧ ((!flw p D k) = true → inR .i64 ((k : Int) + 1) ∧ True ∧ ((∃ (y : Nat), (inS p (gr p lv) D l m y ∧ p.length - y < p.length - k) ∧ ((D : Int) = (D : Int) ∧ True ∧ True ∧ True ∧ True ∧ (p.length : Int) = (p.length : Int) ∧ (k : Int) + 1 = (y : Int) ∧ True) ∧ True ∧ l = l ∧ True ∧ (n = n ∧ p = p ∧ mk (isF p) = mk (isF p) ∧ True) ∧ True ∧ (lpK p (gr p lv) D l m k).snd.snd = (lpK p (gr p lv) D l m y).snd.snd ∧ (True ∧ True ∧ True ∧ True ∧ True ∧ True) ∧ True) ∨ ∃ (y : Nat), (inS p (gr p lv) D l m y ∧ p.length - y < p.length - k) ∧ ((D : Int) = (D : Int) ∧ True ∧ True ∧ True ∧ True ∧ (p.length : Int) = (p.length : Int) ∧ (k : Int) + 1 = (y : Int) ∧ True) ∧ False ∧ False ∧ True ∧ (n = n ∧ p = p ∧ mk (isF p) = mk (isF p) ∧ True) ∧ True ∧ (lpK p (gr p lv) D l m k).snd.snd = (lpK p (gr p lv) D l m y).snd.snd ∧ (True ∧ True ∧ True ∧ True ∧ True ∧ True) ∧ True)) ∧ ((!flw p D k) = false → True ∧ True ∧ True ∧ sumPre l.length [(k : Int)].length (nat_lit 8) ∧ True ∧ True ∧ True ∧ True ∧ inR .u64 (k : Int) ∧ (((0 : Int) ≤ (k : Int) ∧ (k : Int) < bitsOf .i64) ∧ (-9223372036854775808 : Int) ≤ 1 * 2 ^ k ∧ (1 : Int) * 2 ^ k ≤ 9223372036854775807) ∧ True ∧ ((ok55 lv (bOr .i64 (D : Int) ((1 : Int) * 2 ^ k), (n, p, mk (isF p)), l ++ [(k : Int)], (lpK p (gr p lv) D l m k).snd.snd) ∧ (bOr .i64 (D : Int) ((1 : Int) * 2 ^ k) = bOr .i64 (D : Int) ((1 : Int) * 2 ^ k) ∧ True ∧ True ∧ True ∧ True ∧ True) ∧ True ∧ l ++ [(k : Int)] = l ++ [(k : Int)] ∧ True ∧ (n = n ∧ p = p ∧ mk (isF p) = mk (isF p) ∧ True) ∧ True ∧ (lpK p (gr p lv) D l m k).snd.snd = (lpK p (gr p lv) D l m k).snd.snd ∧ (True ∧ True ∧ True ∧ True ∧ True ∧ True) ∧ True) ∧ True ∧ True ∧ True ∧ True ∧ True ∧ True ∧ True ∧ True) ∧ ((gr p lv (bOr .i64 (D : Int) ((1 : Int) * 2 ^ k)).toNat (l ++ [(k : Int)]) (lpK p (gr p lv) D l m k).snd.snd).fst = true → True ∧ True ∧ (true = (gr p (lv + 1) D l m).fst ∧ True) ∧ True ∧ (gr p lv (bOr .i64 (D : Int) ((1 : Int) * 2 ^ k)).toNat (l ++ [(k : Int)]) (lpK p (gr p lv) D l m k).snd.snd).snd.fst = (gr p (lv + 1) D l m).snd.fst ∧ True ∧ (n = n ∧ p = p ∧ mk (isF p) = mk (isF p) ∧ True) ∧ True ∧ (gr p lv (bOr .i64 (D : Int) ((1 : Int) * 2 ^ k)).toNat (l ++ [(k : Int)]) (lpK p (gr p lv) D l m k).snd.snd).snd.snd = (gr p (lv + 1) D l m).snd.snd ∧ (True ∧ True ∧ True ∧ True ∧ True ∧ True) ∧ True) ∧ ((gr p lv (bOr .i64 (D : Int) ((1 : Int) * 2 ^ k)).toNat (l ++ [(k : Int)]) (lpK p (gr p lv) D l m k).snd.snd).fst = false → True ∧ True ∧ True ∧ inR .i64 ((↑(gr p lv (bOr .i64 (D : Int) ((1 : Int) * 2 ^ k)).toNat (l ++ [(k : Int)]) (lpK p (gr p lv) D l m k).snd.snd).snd.fst.length : Int) - 1) ∧ ((0 : Int) ≤ (↑(gr p lv (bOr .i64 (D : Int) ((1 : Int) * 2 ^ k)).toNat (l ++ [(k : Int)]) (lpK p (gr p lv) D l m k).snd.snd).snd.fst.length : Int) - 1 ∧ (↑(gr p lv (bOr .i64 (D : Int) ((1 : Int) * 2 ^ k)).toNat (l ++ [(k : Int)]) (lpK p (gr p lv) D l m k).snd.snd).snd.fst.length : Int) - 1 ≤ (↑(gr p lv (bOr .i64 (D : Int) ((1 : Int) * 2 ^ k)).toNat (l ++ [(k : Int)]) (lpK p (gr p lv) D l m k).snd.snd).snd.fst.length : Int)) ∧ True ∧ inR .i64 ((k : Int) + 1) ∧ True ∧ ((∃ (y : Nat), (inS p (gr p lv) D l m y ∧ p.length - y < p.length - k) ∧ ((D : Int) = (D : Int) ∧ True ∧ True ∧ True ∧ True ∧ (p.length : Int) = (p.length : Int) ∧ (k : Int) + 1 = (y : Int) ∧ True) ∧ False ∧ False ∧ True ∧ (n = n ∧ p = p ∧ mk (isF p) = mk (isF p) ∧ True) ∧ True ∧ (gr p lv (bOr .i64 (D : Int) ((1 : Int) * 2 ^ k)).toNat (l ++ [(k : Int)]) (lpK p (gr p lv) D l m k).snd.snd).snd.snd = (lpK p (gr p lv) D l m y).snd.snd ∧ (True ∧ True ∧ True ∧ True ∧ True ∧ True) ∧ True) ∨ ∃ (y : Nat), (inS p (gr p lv) D l m y ∧ p.length - y < p.length - k) ∧ ((D : Int) = (D : Int) ∧ True ∧ True ∧ True ∧ True ∧ (p.length : Int) = (p.length : Int) ∧ (k : Int) + 1 = (y : Int) ∧ True) ∧ True ∧ List.take ((↑(gr p lv (bOr .i64 (D : Int) ((1 : Int) * 2 ^ k)).toNat (l ++ [(k : Int)]) (lpK p (gr p lv) D l m k).snd.snd).snd.fst.length : Int) - 1).toNat (gr p lv (bOr .i64 (D : Int) ((1 : Int) * 2 ^ k)).toNat (l ++ [(k : Int)]) (lpK p (gr p lv) D l m k).snd.snd).snd.fst = l ∧ True ∧ (n = n ∧ p = p ∧ mk (isF p) = mk (isF p) ∧ True) ∧ True ∧ (gr p lv (bOr .i64 (D : Int) ((1 : Int) * 2 ^ k)).toNat (l ++ [(k : Int)]) (lpK p (gr p lv) D l m k).snd.snd).snd.snd = (lpK p (gr p lv) D l m y).snd.snd ∧ (True ∧ True ∧ True ∧ True ∧ True ∧ True) ∧ True))))) ∧ (¬(k : Int) < (p.length : Int) → (∃ (y : Unit), (lpK p (gr p lv) D l m p.length).fst = false ∧ ((D : Int) = (D : Int) ∧ True ∧ True ∧ True ∧ True ∧ True) ∧ True ∧ l = l ∧ True ∧ (n = n ∧ p = p ∧ mk (isF p) = mk (isF p) ∧ True) ∧ True ∧ (lpK p (gr p lv) D l m k).snd.snd = (lpK p (gr p lv) D l m p.length).snd.snd ∧ (True ∧ True ∧ True ∧ True ∧ True ∧ True) ∧ True) ∨ ∃ (y : Unit), (lpK p (gr p lv) D l m p.length).fst = false ∧ ((D : Int) = (D : Int) ∧ True ∧ True ∧ True ∧ True ∧ True) ∧ False ∧ False ∧ True ∧ (n = n ∧ p = p ∧ mk (isF p) = mk (isF p) ∧ True) ∧ True ∧ (lpK p (gr p lv) D l m k).snd.snd = (lpK p (gr p lv) D l m p.length).snd.snd ∧ (True ∧ True ∧ True ∧ True ∧ True ∧ True) ∧ True)) (by kernel_rfl) ?_
   simp only [zz]
   obtain ⟨k1, k2⟩ := hk
   have hl := hp.l
   have hc := hp.h.2.1
   have hD := pre_D hp
   refine ⟨fun h => ?_, fun h => by rw [show p.length = k by omega]; exact ⟨k2, rfl⟩⟩
   have hkp : k < p.length := by omega
   have hb := or_pow10 hD (k := k) (by omega)
   have hst := lpK_go k2
   rw [bit_shr hD, hb.1, Int.toNat_natCast]
   have hskip : (D / 2 ^ k % 2 = 1 ∨ flw p D k = false) → inR .i64 ((k : Int) + 1) ∧ ∃ y : Nat, (inS p (gr p lv) D l m y ∧ p.length - y < p.length - k) ∧ (k : Int) + 1 = (y : Int) ∧ (lpK p (gr p lv) D l m k).2.2 = (lpK p (gr p lv) D l m y).2.2 := fun hh => by
     rw [if_pos hh] at hst
     exact ⟨by simp only [inR]; omega, k + 1, ⟨⟨by omega, by rw [hst]; exact k2⟩, by omega⟩, by omega, by rw [hst]⟩
   refine ⟨by simp only [inR]; omega, ⟨by omega, by simp only [bitsOf]; omega⟩, fun hx => hskip (.inl (by omega)), fun hx => ⟨⟨⟨hp.h, rfl⟩, ⟨by simp only; omega, by simp only; omega⟩, ⟨by simp only; omega, by simp only; omega⟩⟩, fun hx2 => hskip (.inr (by simpa using hx2)), fun hx2 => ?_⟩⟩
   have hx2 : flw p D k = true := by simpa using hx2
   rw [if_neg (by simp [hx2]; omega)] at hst
   have hlt : D ||| 2 ^ k < 2 ^ p.length := Nat.or_lt_two_pow hp.D (Nat.pow_lt_pow_right (by decide) hkp)
   have hpre : pre55 n p lv (D ||| 2 ^ k) (l ++ [(k : Int)]) := ⟨hp.h, hlt, by simp; omega⟩
   refine ⟨by unfold sumPre; simp; omega, by simp only [inR]; omega, ⟨⟨by omega, by simp only [bitsOf]; omega⟩, by omega, by omega⟩, ⟨⟨hp.h, rfl⟩, by simp only; omega, hpre⟩, fun hr => ?_, fun hr => ?_⟩
   · have hr : (gr p lv (D ||| 2 ^ k) (l ++ [(k : Int)]) (lpK p (gr p lv) D l m k).2.2).1 = true := hr
     rw [if_pos hr] at hst
     have hs := lpK_stop (k := k + 1) (by rw [hst]; exact hr) (p.length - (k + 1))
     rw [show k + 1 + (p.length - (k + 1)) = p.length by omega, hst] at hs
     have e : gr p (lv + 1) D l m = gr p lv (D ||| 2 ^ k) (l ++ [(k : Int)]) (lpK p (gr p lv) D l m k).2.2 := by rw [gr, if_neg hm, hs, if_pos hr]
     rw [e]
     exact ⟨hr.symm, rfl, rfl⟩
   · have hr : (gr p lv (D ||| 2 ^ k) (l ++ [(k : Int)]) (lpK p (gr p lv) D l m k).2.2).1 = false := hr
     rw [if_neg (by simp [hr])] at hst
     have h2 := gr_list hr
     have q1 : inR .i64 (((gr p lv (D ||| 2 ^ k) (l ++ [(k : Int)]) (lpK p (gr p lv) D l m k).2.2).2.1.length : Int) - 1) := by rw [h2]; simp only [inR]; simp; omega
     have q2 : 0 ≤ ((gr p lv (D ||| 2 ^ k) (l ++ [(k : Int)]) (lpK p (gr p lv) D l m k).2.2).2.1.length : Int) - 1 ∧ ((gr p lv (D ||| 2 ^ k) (l ++ [(k : Int)]) (lpK p (gr p lv) D l m k).2.2).2.1.length : Int) - 1 ≤ ((gr p lv (D ||| 2 ^ k) (l ++ [(k : Int)]) (lpK p (gr p lv) D l m k).2.2).2.1.length : Int) := by rw [h2]; simp; omega
     have q3 : (gr p lv (D ||| 2 ^ k) (l ++ [(k : Int)]) (lpK p (gr p lv) D l m k).2.2).2.1.take (((gr p lv (D ||| 2 ^ k) (l ++ [(k : Int)]) (lpK p (gr p lv) D l m k).2.2).2.1.length : Int) - 1).toNat = l := by rw [h2]; simp
     have q4 : (gr p lv (D ||| 2 ^ k) (l ++ [(k : Int)]) (lpK p (gr p lv) D l m k).2.2).2.2 = (lpK p (gr p lv) D l m (k + 1)).2.2 := by rw [hst]
     exact ⟨q1, q2, by simp only [inR]; omega, k + 1, ⟨⟨by omega, by rw [hst]⟩, by omega⟩, by omega, q3, q4⟩
 · refine of_eq (q := True ∧ ((k : Int) < (p.length : Int) → True ∧ True ∧ True ∧ True ∧ inR .u64 (k : Int) ∧ ((0 : Int) ≤ (k : Int) ∧ (k : Int) < bitsOf .i64) ∧ True ∧ True ∧ True ∧ (bAnd .i64 ((D : Int) / (2 : Int) ^ k) (1 : Int) = 1 → True ∧ inR .i64 ((k : Int) + 1) ∧ True ∧ ((∃ (y : Nat), (inS p (gr p lv) D l m y ∧ p.length - y < p.length - k) ∧ ((D : Int) = (D : Int) ∧ True ∧ True ∧ True ∧ True ∧ (p.length : Int) = (p.length : Int) ∧ (k : Int) + 1 = (y : Int) ∧ True) ∧ False ∧ False ∧ True ∧ (n = n ∧ p = p ∧ mk (isF p) = mk (isF p) ∧ True) ∧ True ∧ (lpK p (gr p lv) D l m k).snd.snd = (lpK p (gr p lv) D l m y).snd.snd ∧ (True ∧ True ∧ True ∧ True ∧ True ∧ True) ∧ True) ∨ ∃ (y : Nat), (inS p (gr p lv) D l m y ∧ p.length - y < p.length - k) ∧ ((D : Int) = (D : Int) ∧ True ∧ True ∧ True ∧ True ∧ (p.length : Int) = (p.length : Int) ∧ (k : Int) + 1 = (y : Int) ∧ True) ∧ True ∧ l = l ∧ True ∧ (n = n ∧ p = p ∧ mk (isF p) = mk (isF p) ∧ True) ∧ True ∧ (lpK p (gr p lv) D l m k).snd.snd = (lpK p (gr p lv) D l m y).snd.snd ∧ (True ∧ True ∧ True ∧ True ∧ True ∧ True) ∧ True)) ∧ (¬bAnd .i64 ((D : Int) / (2 : Int) ^ k) (1 : Int) = 1 → True ∧ True ∧ True ∧ ((ok56 ((D : Int), (k : Int), n, p, mk (isF p)) ∧ (True ∧ (D : Int) = (D : Int) ∧ (k : Int) = (k : Int) ∧ True) ∧ (n = n ∧ p = p ∧ mk (isF p) = mk (isF p) ∧ True) ∧ True) ∧ True ∧ True) ∧ True ∧ True ∧ ((!flw p D k) = true → inR .i64 ((k : Int) + 1) ∧ True ∧ ((∃ (y : Nat), (inS p (gr p lv) D l m y ∧ p.length - y < p.length - k) ∧ ((D : Int) = (D : Int) ∧ True ∧ True ∧ True ∧ True ∧ (p.length : Int) = (p.length : Int) ∧ (k : Int) + 1 = (y : Int) ∧ True) ∧ False ∧ False ∧ True ∧ (n = n ∧ p = p ∧ mk (isF p) = mk (isF p) ∧ True) ∧ True ∧ (lpK p (gr p lv) D l m k).snd.snd = (lpK p (gr p lv) D l m y).snd.snd ∧ (True ∧ True ∧ True ∧ True ∧ True ∧ True) ∧ True) ∨ ∃ (y : Nat), (inS p (gr p lv) D l m y ∧ p.length - y < p.length - k) ∧ ((D : Int) = (D : Int) ∧ True ∧ True ∧ True ∧ True ∧ (p.length : Int) = (p.length : Int) ∧ (k : Int) + 1 = (y : Int) ∧ True) ∧ True ∧ l = l ∧ True ∧ (n = n ∧ p = p ∧ mk (isF p) = mk (isF p) ∧ True) ∧ True ∧ (lpK p (gr p lv) D l m k).snd.snd = (lpK p (gr p lv) D l m y).snd.snd ∧ (True ∧ True ∧ True ∧ True ∧ True ∧ True) ∧ True)) ∧ ((!flw p D k) = false → True ∧ True ∧ True ∧ sumPre l.length [(k : Int)].length (nat_lit 8) ∧ True ∧ True ∧ True ∧ True ∧ inR .u64 (k : Int) ∧ (((0 : Int) ≤ (k : Int) ∧ (k : Int) < bitsOf .i64) ∧ (-9223372036854775808 : Int) ≤ 1 * 2 ^ k ∧ (1 : Int) * 2 ^ k ≤ 9223372036854775807) ∧ True ∧ ((ok55 lv (bOr .i64 (D : Int) ((1 : Int) * 2 ^ k), (n, p, mk (isF p)), l ++ [(k : Int)], (lpK p (gr p lv) D l m k).snd.snd) ∧ (bOr .i64 (D : Int) ((1 : Int) * 2 ^ k) = bOr .i64 (D : Int) ((1 : Int) * 2 ^ k) ∧ True ∧ True ∧ True ∧ True ∧ True) ∧ True ∧ l ++ [(k : Int)] = l ++ [(k : Int)] ∧ True ∧ (n = n ∧ p = p ∧ mk (isF p) = mk (isF p) ∧ True) ∧ True ∧ (lpK p (gr p lv) D l m k).snd.snd = (lpK p (gr p lv) D l m k).snd.snd ∧ (True ∧ True ∧ True ∧ True ∧ True ∧ True) ∧ True) ∧ True ∧ True ∧ True ∧ True ∧ True ∧ True ∧ True ∧ True) ∧ ((gr p lv (bOr .i64 (D : Int) ((1 : Int) * 2 ^ k)).toNat (l ++ [(k : Int)]) (lpK p (gr p lv) D l m k).snd.snd).fst = true → True ∧ True ∧ (true = (gr p (lv + 1) D l m).fst ∧ True) ∧ True ∧ (gr p lv (bOr .i64 (D : Int) ((1 : Int) * 2 ^ k)).toNat (l ++ [(k : Int)]) (lpK p (gr p lv) D l m k).snd.snd).snd.fst = (gr p (lv + 1) D l m).snd.fst ∧ True ∧ (n = n ∧ p = p ∧ mk (isF p) = mk (isF p) ∧ True) ∧ True ∧ (gr p lv (bOr .i64 (D : Int) ((1 : Int) * 2 ^ k)).toNat (l ++ [(k : Int)]) (lpK p (gr p lv) D l m k).snd.snd).snd.snd = (gr p (lv + 1) D l m).snd.snd ∧ (True ∧ True ∧ True ∧ True ∧ True ∧ True) ∧ True) ∧ ((gr p lv (bOr .i64 (D : Int) ((1 : Int) * 2 ^ k)).toNat (l ++ [(k : Int)]) (lpK p (gr p lv) D l m k).snd.snd).fst = false → True ∧ True ∧ True ∧ inR .i64 ((↑(gr p lv (bOr .i64 (D : Int) ((1 : Int) * 2 ^ k)).toNat (l ++ [(k : Int)]) (lpK p (gr p lv) D l m k).snd.snd).snd.fst.length : Int) - 1) ∧ ((0 : Int) ≤ (↑(gr p lv (bOr .i64 (D : Int) ((1 : Int) * 2 ^ k)).toNat (l ++ [(k : Int)]) (lpK p (gr p lv) D l m k).snd.snd).snd.fst.length : Int) - 1 ∧ (↑(gr p lv (bOr .i64 (D : Int) ((1 : Int) * 2 ^ k)).toNat (l ++ [(k : Int)]) (lpK p (gr p lv) D l m k).snd.snd).snd.fst.length : Int) - 1 ≤ (↑(gr p lv (bOr .i64 (D : Int) ((1 : Int) * 2 ^ k)).toNat (l ++ [(k : Int)]) (lpK p (gr p lv) D l m k).snd.snd).snd.fst.length : Int)) ∧ True ∧ inR .i64 ((k : Int) + 1) ∧ True ∧ ((∃ (y : Nat), (inS p (gr p lv) D l m y ∧ p.length - y < p.length - k) ∧ ((D : Int) = (D : Int) ∧ True ∧ True ∧ True ∧ True ∧ (p.length : Int) = (p.length : Int) ∧ (k : Int) + 1 = (y : Int) ∧ True) ∧ False ∧ False ∧ True ∧ (n = n ∧ p = p ∧ mk (isF p) = mk (isF p) ∧ True) ∧ True ∧ (gr p lv (bOr .i64 (D : Int) ((1 : Int) * 2 ^ k)).toNat (l ++ [(k : Int)]) (lpK p (gr p lv) D l m k).snd.snd).snd.snd = (lpK p (gr p lv) D l m y).snd.snd ∧ (True ∧ True ∧ True ∧ True ∧ True ∧ True) ∧ True) ∨ ∃ (y : Nat), (inS p (gr p lv) D l m y ∧ p.length - y < p.length - k) ∧ ((D : Int) = (D : Int) ∧ True ∧ True ∧ True ∧ True ∧ (p.length : Int) = (p.length : Int) ∧ (k : Int) + 1 = (y : Int) ∧ True) ∧ True ∧ List.take ((↑(gr p lv (bOr .i64 (D : Int) ((1 : Int) * 2 ^ k)).toNat (l ++ [(k : Int)]) (lpK p (gr p lv) D l m k).snd.snd).snd.fst.length : Int) - 1).toNat (gr p lv (bOr .i64 (D : Int) ((1 : Int) * 2 ^ k)).toNat (l ++ [(k : Int)]) (lpK p (gr p lv) D l m k).snd.snd).snd.fst = l ∧ True ∧ (n = n ∧ p = p ∧ mk (isF p) = mk (isF p) ∧ True) ∧ True ∧ (gr p lv (bOr .i64 (D : Int) ((1 : Int) * 2 ^ k)).toNat (l ++ [(k : Int)]) (lpK p (gr p lv) D l m k).snd.snd).snd.snd = (lpK p (gr p lv) D l m y).snd.snd ∧ (True ∧ True ∧ True ∧ True ∧ True ∧ True) ∧ True))))) ∧ (¬(k : Int) < (p.length : Int) → (∃ (y : Unit), (lpK p (gr p lv) D l m p.length).fst = false ∧ ((D : Int) = (D : Int) ∧ True ∧ True ∧ True ∧ True ∧ True) ∧ False ∧ False ∧ True ∧ (n = n ∧ p = p ∧ mk (isF p) = mk (isF p) ∧ True) ∧ True ∧ (lpK p (gr p lv) D l m k).snd.snd = (lpK p (gr p lv) D l m p.length).snd.snd ∧ (True ∧ True ∧ True ∧ True ∧ True ∧ True) ∧ True) ∨ ∃ (y : Unit), (lpK p (gr p lv) D l m p.length).fst = false ∧ ((D : Int) = (D : Int) ∧ True ∧ True ∧ True ∧ True ∧ True) ∧ True ∧ l = l ∧ True ∧ (n = n ∧ p = p ∧ mk (isF p) = mk (isF p) ∧ True) ∧ True ∧ (lpK p (gr p lv) D l m k).snd.snd = (lpK p (gr p lv) D l m p.length).snd.snd ∧ (True ∧ True ∧ True ∧ True ∧ True ∧ True) ∧ True)) (by kernel_rfl) ?_
   simp only [zz]
   obtain ⟨k1, k2⟩ := hk
   have hl := hp.l
   have hc := hp.h.2.1
   have hD := pre_D hp
   refine ⟨fun h => ?_, fun h => by rw [show p.length = k by omega]; exact ⟨k2, rfl⟩⟩
   have hkp : k < p.length := by omega
   have hb := or_pow10 hD (k := k) (by omega)
   have hst := lpK_go k2
   rw [bit_shr hD, hb.1, Int.toNat_natCast]
   have hskip : (D / 2 ^ k % 2 = 1 ∨ flw p D k = false) → inR .i64 ((k : Int) + 1) ∧ ∃ y : Nat, (inS p (gr p lv) D l m y ∧ p.length - y < p.length - k) ∧ (k : Int) + 1 = (y : Int) ∧ (lpK p (gr p lv) D l m k).2.2 = (lpK p (gr p lv) D l m y).2.2 := fun hh => by
     rw [if_pos hh] at hst
     exact ⟨by simp only [inR]; omega, k + 1, ⟨⟨by omega, by rw [hst]; exact k2⟩, by omega⟩, by omega, by rw [hst]⟩
   refine ⟨by simp only [inR]; omega, ⟨by omega, by simp only [bitsOf]; omega⟩, fun hx => hskip (.inl (by omega)), fun hx => ⟨⟨⟨hp.h, rfl⟩, ⟨by simp only; omega, by simp only; omega⟩, ⟨by simp only; omega, by simp only; omega⟩⟩, fun hx2 => hskip (.inr (by simpa using hx2)), fun hx2 => ?_⟩⟩
   have hx2 : flw p D k = true := by simpa using hx2
   rw [if_neg (by simp [hx2]; omega)] at hst
   have hlt : D ||| 2 ^ k < 2 ^ p.length := Nat.or_lt_two_pow hp.D (Nat.pow_lt_pow_right (by decide) hkp)
   have hpre : pre55 n p lv (D ||| 2 ^ k) (l ++ [(k : Int)]) := ⟨hp.h, hlt, by simp; omega⟩
   refine ⟨by unfold sumPre; simp; omega, by simp only [inR]; omega, ⟨⟨by omega, by simp only [bitsOf]; omega⟩, by omega, by omega⟩, ⟨⟨hp.h, rfl⟩, by simp only; omega, hpre⟩, fun hr => ?_, fun hr => ?_⟩
   · have hr : (gr p lv (D ||| 2 ^ k) (l ++ [(k : Int)]) (lpK p (gr p lv) D l m k).2.2).1 = true := hr
     rw [if_pos hr] at hst
     have hs := lpK_stop (k := k + 1) (by rw [hst]; exact hr) (p.length - (k + 1))
     rw [show k + 1 + (p.length - (k + 1)) = p.length by omega, hst] at hs
     have e : gr p (lv + 1) D l m = gr p lv (D ||| 2 ^ k) (l ++ [(k : Int)]) (lpK p (gr p lv) D l m k).2.2 := by rw [gr, if_neg hm, hs, if_pos hr]
     rw [e]
     exact ⟨hr.symm, rfl, rfl⟩
   · have hr : (gr p lv (D ||| 2 ^ k) (l ++ [(k : Int)]) (lpK p (gr p lv) D l m k).2.2).1 = false := hr
     rw [if_neg (by simp [hr])] at hst
     have h2 := gr_list hr
     have q1 : inR .i64 (((gr p lv (D ||| 2 ^ k) (l ++ [(k : Int)]) (lpK p (gr p lv) D l m k).2.2).2.1.length : Int) - 1) := by rw [h2]; simp only [inR]; simp; omega
     have q2 : 0 ≤ ((gr p lv (D ||| 2 ^ k) (l ++ [(k : Int)]) (lpK p (gr p lv) D l m k).2.2).2.1.length : Int) - 1 ∧ ((gr p lv (D ||| 2 ^ k) (l ++ [(k : Int)]) (lpK p (gr p lv) D l m k).2.2).2.1.length : Int) - 1 ≤ ((gr p lv (D ||| 2 ^ k) (l ++ [(k : Int)]) (lpK p (gr p lv) D l m k).2.2).2.1.length : Int) := by rw [h2]; simp; omega
     have q3 : (gr p lv (D ||| 2 ^ k) (l ++ [(k : Int)]) (lpK p (gr p lv) D l m k).2.2).2.1.take (((gr p lv (D ||| 2 ^ k) (l ++ [(k : Int)]) (lpK p (gr p lv) D l m k).2.2).2.1.length : Int) - 1).toNat = l := by rw [h2]; simp
     have q4 : (gr p lv (D ||| 2 ^ k) (l ++ [(k : Int)]) (lpK p (gr p lv) D l m k).2.2).2.2 = (lpK p (gr p lv) D l m (k + 1)).2.2 := by rw [hst]
     exact ⟨q1, q2, by simp only [inR]; omega, k + 1, ⟨⟨by omega, by rw [hst]⟩, by omega⟩, by omega, q3, q4⟩
theorem gS1 (lv : Nat) (h' : GS lv) : GS (lv + 1) := by
 intro n p D l m hp
 have hL := fun hm => loopS lv h' n p D l m hp hm
 refine gcall_of (X := (X55 [e56, e55S lv h'])) ((Xb_ok _ _ _ _)) (f := 55) (fn := Try.f55) (c := bodyOf Try.f55) (by kernel_rfl) (by kernel_rfl) (view := false) (rvs := [.tmp 6]) (by kernel_rfl) (H := (HS n p (gr p lv) D l m)) 80 (by kernel_rfl) ?_
 refine of_eq (q := True ∧ True ∧ True ∧ True ∧ True ∧ True ∧ True ∧ True ∧ True ∧ ((l.length : Int) = (p.length : Int) → True ∧ True ∧ (true = (gr p (lv + 1) D l m).fst ∧ True) ∧ True ∧ l = (gr p (lv + 1) D l m).snd.fst ∧ True ∧ (n = n ∧ p = p ∧ mk (isF p) = mk (isF p) ∧ True) ∧ True ∧ m = (gr p (lv + 1) D l m).snd.snd ∧ (True ∧ True ∧ True ∧ True ∧ True ∧ True) ∧ True) ∧ (¬(l.length : Int) = (p.length : Int) → True ∧ True ∧ True ∧ ((mGet I64 m (D : Int)).getD false = true → True ∧ True ∧ (false = (gr p (lv + 1) D l m).fst ∧ True) ∧ True ∧ l = (gr p (lv + 1) D l m).snd.fst ∧ True ∧ (n = n ∧ p = p ∧ mk (isF p) = mk (isF p) ∧ True) ∧ True ∧ m = (gr p (lv + 1) D l m).snd.snd ∧ (True ∧ True ∧ True ∧ True ∧ True ∧ True) ∧ True) ∧ ((mGet I64 m (D : Int)).getD false = false → True ∧ True ∧ True ∧ True ∧ True ∧ True ∧ LoopOK (X55 [e56, e55S lv h']) L55_0 (hS n p (gr p lv) D l m) (RetR (X55 [e56, e55S lv h']) false false [ResultVar.tmp (6 : Tmp)] [AV.bool (gr p (lv + 1) D l m).fst] (gS (1 : Nat) n p (gr p (lv + 1) D l m).snd.fst (gr p (lv + 1) D l m).snd.snd)) ∧ ((∃ (y : Nat), inS p (gr p lv) D l m y ∧ ((D : Int) = (D : Int) ∧ True ∧ True ∧ True ∧ True ∧ (p.length : Int) = (p.length : Int) ∧ (0 : Int) = (y : Int) ∧ True) ∧ True ∧ l = l ∧ True ∧ (n = n ∧ p = p ∧ mk (isF p) = mk (isF p) ∧ True) ∧ True ∧ m = (lpK p (gr p lv) D l m y).snd.snd ∧ (True ∧ True ∧ True ∧ True ∧ True ∧ True) ∧ True) ∨ ∃ (y : Nat), inS p (gr p lv) D l m y ∧ ((D : Int) = (D : Int) ∧ True ∧ True ∧ True ∧ True ∧ (p.length : Int) = (p.length : Int) ∧ (0 : Int) = (y : Int) ∧ True) ∧ False ∧ False ∧ True ∧ (n = n ∧ p = p ∧ mk (isF p) = mk (isF p) ∧ True) ∧ True ∧ m = (lpK p (gr p lv) D l m y).snd.snd ∧ (True ∧ True ∧ True ∧ True ∧ True ∧ True) ∧ True) ∧ (∀ (y : Unit), (lpK p (gr p lv) D l m p.length).fst = false → True ∧ True ∧ True ∧ True ∧ True ∧ (false = (gr p (lv + 1) D l m).fst ∧ True) ∧ True ∧ l = (gr p (lv + 1) D l m).snd.fst ∧ True ∧ (n = n ∧ p = p ∧ mk (isF p) = mk (isF p) ∧ True) ∧ True ∧ mPut I64 (lpK p (gr p lv) D l m p.length).snd.snd (D : Int) true = (gr p (lv + 1) D l m).snd.snd ∧ (True ∧ True ∧ True ∧ True ∧ True ∧ True) ∧ True) ∧ (∀ (y : Unit), (lpK p (gr p lv) D l m p.length).fst = false → True ∧ True ∧ True ∧ True ∧ True ∧ (false = (gr p (lv + 1) D l m).fst ∧ True) ∧ True ∧ l = (gr p (lv + 1) D l m).snd.fst ∧ True ∧ (n = n ∧ p = p ∧ mk (isF p) = mk (isF p) ∧ True) ∧ True ∧ mPut I64 (lpK p (gr p lv) D l m p.length).snd.snd (D : Int) true = (gr p (lv + 1) D l m).snd.snd ∧ (True ∧ True ∧ True ∧ True ∧ True ∧ True) ∧ True) ∧ True))) (by kernel_rfl) ?_
 simp only [zz]
 have hl := hp.l
 have hg : mg m D = (mGet I64 m D).getD false := rfl
 refine ⟨fun h => by omega, fun _ => ⟨fun h => ?_, fun h => ⟨hL (by rw [hg, h]; simp) , ⟨0, ⟨Nat.zero_le _, rfl⟩, rfl, rfl⟩, fun _ hf => ?_, fun _ hf => ?_⟩⟩⟩
 · rw [gr, hg, if_pos h]; exact ⟨rfl, rfl, rfl⟩
 · rw [gr, hg, if_neg (by simp [h]), if_neg (by simp [hf])]; exact ⟨rfl, rfl, rfl⟩
 · rw [gr, hg, if_neg (by simp [h]), if_neg (by simp [hf])]; exact ⟨rfl, rfl, rfl⟩
theorem gS_all : ∀ lv, GS lv
 | 0 => gS0
 | lv + 1 => gS1 lv (gS_all lv)
def gN (n : Int) (p : List Int) (m : Mm) : List Ob := [.bx nl, .bx (.ptr 2 0 []), cxO n p, .bx (.mp 4), mmO m, .bx (clo55 0 1 3 5)]
def gO (n : Int) (p l : List Int) (m : Mm) : List Ob := [.bx (.own 6 0), .bx (.ptr 2 0 []), cxO n p, .bx (.mp 4), mmO m, .bx (clo55 0 1 3 5), .sc 0 3 I64 l]
def aN (D : Int) : List AV := [.int .i64 D, .ptr 0 0 [], .ptr 1 0 [], .ptr 3 0 [], .ptr 5 0 []]
def sN (n : Int) (p : List Int) (D : Nat) (m : Mm) (k : Nat) : St := ⟨aN D ++ dd 18 ++ .int .i64 p.length :: .int .i64 k :: dd 34, gN n p m⟩
def sO (n : Int) (p : List Int) (f : Nat → List Int → Mm → Res) (D : Nat) (m : Mm) (k : Nat) : St := ⟨aN D ++ dd 18 ++ .int .i64 p.length :: .int .i64 k :: dd 34, gO n p [] (lpK p f D [] m k).2.2⟩
def fmN (n : Int) (p : List Int) (f : Nat → List Int → Mm → Res) (D : Nat) (m : Mm) : List Fam := [⟨Nat, fun k => k = 0, sN n p D m, fun k => p.length - k, fun _ _ => none⟩, ⟨Nat, inS p f D [] m, sO n p f D m, fun k => p.length - k, fun _ _ => none⟩]
def exN (n : Int) (p : List Int) (f : Nat → List Int → Mm → Res) (D : Nat) (m : Mm) : List (List Nat × Ex) := [([0, 1, 2, 3, 4], ⟨0, Unit, fun _ => (lpK p f D [] m p.length).1 = false, fun _ => ⟨aN D ++ dd 54, gO n p [] (lpK p f D [] m p.length).2.2⟩⟩)]
def hN (n : Int) (p : List Int) (f : Nat → List Int → Mm → Res) (D : Nat) (m : Mm) : Hint := ⟨chks 6 [0, 1, 2, 3, 4, 23, 24] (fmN n p f D m), (exN n p f D m).map (·.2)⟩
noncomputable def HN (n : Int) (p : List Int) (f : Nat → List Int → Mm → Res) (D : Nat) (m : Mm) : Nat → Option Hint := fun _ => some (hN n p f D m)
noncomputable abbrev XN (lv : Nat) : Cy := Xb [e56, e55S lv (gS_all lv)] 6 [] (fun _ => none)
theorem flw_zero (p : List Int) (k : Nat) : flw p 0 k = true := by
 refine decide_eq_true fun j _ h => ?_
 rw [Nat.zero_div] at h; cases h
theorem loopN (lv : Nat) (n : Int) (p : List Int) (D : Nat) (m : Mm) (hp : pre55 n p (lv + 1) D []) (hD0 : D = 0) (hm : ¬ mg m D = true) : LoopOK (XN lv) L55_0 (hN n p (gr p lv) D m)
   (RetR (XN lv) false false [.tmp 6] [.bool (gr p (lv + 1) D [] m).1] (gO n p (gr p (lv + 1) D [] m).2.1 (gr p (lv + 1) D [] m).2.2)) := by
 refine loop_fams (Xb_ok _ _ _ _) [0, 1, 2, 3, 4, 23, 24] (fmN n p (gr p lv) D m) (exN n p (gr p lv) D m) 150 ⟨fun (k : Nat) hk => ?_, fun (k : Nat) hk => ?_, trivial⟩
 · refine of_eq (q := True ∧ ((k : Int) < (p.length : Int) → True ∧ True ∧ True ∧ True ∧ inR .u64 (k : Int) ∧ ((0 : Int) ≤ (k : Int) ∧ (k : Int) < bitsOf .i64) ∧ True ∧ True ∧ True ∧ (bAnd .i64 ((D : Int) / (2 : Int) ^ k) (1 : Int) = 1 → True ∧ inR .i64 ((k : Int) + 1) ∧ True ∧ ((∃ (y : Nat), (y = 0 ∧ p.length - y < p.length - k) ∧ ((D : Int) = (D : Int) ∧ True ∧ True ∧ True ∧ True ∧ (p.length : Int) = (p.length : Int) ∧ (k : Int) + 1 = (y : Int) ∧ True) ∧ True ∧ True ∧ (n = n ∧ p = p ∧ mk (isF p) = mk (isF p) ∧ True) ∧ True ∧ m = m ∧ (True ∧ True ∧ True ∧ True ∧ True ∧ True) ∧ True) ∨ ∃ (y : Nat), (inS p (gr p lv) D [] m y ∧ p.length - y < p.length - k) ∧ ((D : Int) = (D : Int) ∧ True ∧ True ∧ True ∧ True ∧ (p.length : Int) = (p.length : Int) ∧ (k : Int) + 1 = (y : Int) ∧ True) ∧ False ∧ True ∧ (n = n ∧ p = p ∧ mk (isF p) = mk (isF p) ∧ True) ∧ True ∧ m = (lpK p (gr p lv) D [] m y).snd.snd ∧ (True ∧ True ∧ True ∧ True ∧ True ∧ True) ∧ False)) ∧ (¬bAnd .i64 ((D : Int) / (2 : Int) ^ k) (1 : Int) = 1 → True ∧ True ∧ True ∧ ((ok56 ((D : Int), (k : Int), n, p, mk (isF p)) ∧ (True ∧ (D : Int) = (D : Int) ∧ (k : Int) = (k : Int) ∧ True) ∧ (n = n ∧ p = p ∧ mk (isF p) = mk (isF p) ∧ True) ∧ True) ∧ True ∧ True) ∧ True ∧ True ∧ ((!flw p D k) = true → inR .i64 ((k : Int) + 1) ∧ True ∧ ((∃ (y : Nat), (y = 0 ∧ p.length - y < p.length - k) ∧ ((D : Int) = (D : Int) ∧ True ∧ True ∧ True ∧ True ∧ (p.length : Int) = (p.length : Int) ∧ (k : Int) + 1 = (y : Int) ∧ True) ∧ True ∧ True ∧ (n = n ∧ p = p ∧ mk (isF p) = mk (isF p) ∧ True) ∧ True ∧ m = m ∧ (True ∧ True ∧ True ∧ True ∧ True ∧ True) ∧ True) ∨ ∃ (y : Nat), (inS p (gr p lv) D [] m y ∧ p.length - y < p.length - k) ∧ ((D : Int) = (D : Int) ∧ True ∧ True ∧ True ∧ True ∧ (p.length : Int) = (p.length : Int) ∧ (k : Int) + 1 = (y : Int) ∧ True) ∧ False ∧ True ∧ (n = n ∧ p = p ∧ mk (isF p) = mk (isF p) ∧ True) ∧ True ∧ m = (lpK p (gr p lv) D [] m y).snd.snd ∧ (True ∧ True ∧ True ∧ True ∧ True ∧ True) ∧ False)) ∧ ((!flw p D k) = false → True ∧ True ∧ True ∧ sumPre (0 : Nat) [(k : Int)].length (nat_lit 8) ∧ True ∧ True ∧ True ∧ True ∧ inR .u64 (k : Int) ∧ (((0 : Int) ≤ (k : Int) ∧ (k : Int) < bitsOf .i64) ∧ (-9223372036854775808 : Int) ≤ 1 * 2 ^ k ∧ (1 : Int) * 2 ^ k ≤ 9223372036854775807) ∧ True ∧ ((ok55 lv (bOr .i64 (D : Int) ((1 : Int) * 2 ^ k), (n, p, mk (isF p)), [(k : Int)], m) ∧ (bOr .i64 (D : Int) ((1 : Int) * 2 ^ k) = bOr .i64 (D : Int) ((1 : Int) * 2 ^ k) ∧ True ∧ True ∧ True ∧ True ∧ True) ∧ True ∧ [(k : Int)] = [(k : Int)] ∧ True ∧ (n = n ∧ p = p ∧ mk (isF p) = mk (isF p) ∧ True) ∧ True ∧ m = m ∧ (True ∧ True ∧ True ∧ True ∧ True ∧ True) ∧ True) ∧ True ∧ True ∧ True ∧ True ∧ True ∧ True ∧ True ∧ True) ∧ ((gr p lv (bOr .i64 (D : Int) ((1 : Int) * 2 ^ k)).toNat [(k : Int)] m).fst = true → True ∧ True ∧ (true = (gr p (lv + 1) D [] m).fst ∧ True) ∧ True ∧ True ∧ (n = n ∧ p = p ∧ mk (isF p) = mk (isF p) ∧ True) ∧ True ∧ (gr p lv (bOr .i64 (D : Int) ((1 : Int) * 2 ^ k)).toNat [(k : Int)] m).snd.snd = (gr p (lv + 1) D [] m).snd.snd ∧ (True ∧ True ∧ True ∧ True ∧ True ∧ True) ∧ (gr p lv (bOr .i64 (D : Int) ((1 : Int) * 2 ^ k)).toNat [(k : Int)] m).snd.fst = (gr p (lv + 1) D [] m).snd.fst ∧ True) ∧ ((gr p lv (bOr .i64 (D : Int) ((1 : Int) * 2 ^ k)).toNat [(k : Int)] m).fst = false → True ∧ True ∧ True ∧ inR .i64 ((↑(gr p lv (bOr .i64 (D : Int) ((1 : Int) * 2 ^ k)).toNat [(k : Int)] m).snd.fst.length : Int) - 1) ∧ ((0 : Int) ≤ (↑(gr p lv (bOr .i64 (D : Int) ((1 : Int) * 2 ^ k)).toNat [(k : Int)] m).snd.fst.length : Int) - 1 ∧ (↑(gr p lv (bOr .i64 (D : Int) ((1 : Int) * 2 ^ k)).toNat [(k : Int)] m).snd.fst.length : Int) - 1 ≤ (↑(gr p lv (bOr .i64 (D : Int) ((1 : Int) * 2 ^ k)).toNat [(k : Int)] m).snd.fst.length : Int)) ∧ True ∧ inR .i64 ((k : Int) + 1) ∧ True ∧ ((∃ (y : Nat), (y = 0 ∧ p.length - y < p.length - k) ∧ ((D : Int) = (D : Int) ∧ True ∧ True ∧ True ∧ True ∧ (p.length : Int) = (p.length : Int) ∧ (k : Int) + 1 = (y : Int) ∧ True) ∧ False ∧ True ∧ (n = n ∧ p = p ∧ mk (isF p) = mk (isF p) ∧ True) ∧ True ∧ (gr p lv (bOr .i64 (D : Int) ((1 : Int) * 2 ^ k)).toNat [(k : Int)] m).snd.snd = m ∧ (True ∧ True ∧ True ∧ True ∧ True ∧ True) ∧ True) ∨ ∃ (y : Nat), (inS p (gr p lv) D [] m y ∧ p.length - y < p.length - k) ∧ ((D : Int) = (D : Int) ∧ True ∧ True ∧ True ∧ True ∧ (p.length : Int) = (p.length : Int) ∧ (k : Int) + 1 = (y : Int) ∧ True) ∧ True ∧ True ∧ (n = n ∧ p = p ∧ mk (isF p) = mk (isF p) ∧ True) ∧ True ∧ (gr p lv (bOr .i64 (D : Int) ((1 : Int) * 2 ^ k)).toNat [(k : Int)] m).snd.snd = (lpK p (gr p lv) D [] m y).snd.snd ∧ (True ∧ True ∧ True ∧ True ∧ True ∧ True) ∧ List.take ((↑(gr p lv (bOr .i64 (D : Int) ((1 : Int) * 2 ^ k)).toNat [(k : Int)] m).snd.fst.length : Int) - 1).toNat (gr p lv (bOr .i64 (D : Int) ((1 : Int) * 2 ^ k)).toNat [(k : Int)] m).snd.fst = [] ∧ True))))) ∧ (¬(k : Int) < (p.length : Int) → ∃ (y : Unit), (lpK p (gr p lv) D [] m p.length).fst = false ∧ ((D : Int) = (D : Int) ∧ True ∧ True ∧ True ∧ True ∧ True) ∧ False ∧ True ∧ (n = n ∧ p = p ∧ mk (isF p) = mk (isF p) ∧ True) ∧ True ∧ m = (lpK p (gr p lv) D [] m p.length).snd.snd ∧ (True ∧ True ∧ True ∧ True ∧ True ∧ True) ∧ False)) (by kernel_rfl) ?_
   simp only [zz]
   have hk : k = 0 := hk
   have hl : lv + 1 = p.length := by have := hp.l; simpa using this
   have hc := hp.h.2.1
   have hD := pre_D hp
   refine ⟨fun h => ?_, fun h => by omega⟩
   have hkp : k < p.length := by omega
   have hb := or_pow10 hD (k := k) (by omega)
   have e0 : lpK p (gr p lv) D [] m k = (false, [], m) := by rw [hk]; try rfl
   have hst := lpK_go (p := p) (f := gr p lv) (D := D) (l := []) (m := m) (k := k) (by rw [e0])
   have hf : flw p D k = true := by rw [hD0]; exact flw_zero p k
   have hz : D / 2 ^ k % 2 = 0 := by rw [hD0, Nat.zero_div]
   rw [if_neg (by rw [hz, hf]; simp), e0] at hst
   simp only [List.nil_append] at hst
   rw [bit_shr hD, hb.1, Int.toNat_natCast, hz, hf]
   have hlt : D ||| 2 ^ k < 2 ^ p.length := Nat.or_lt_two_pow hp.D (Nat.pow_lt_pow_right (by decide) hkp)
   have hpre : pre55 n p lv (D ||| 2 ^ k) [(k : Int)] := ⟨hp.h, hlt, by simp; omega⟩
   refine ⟨by simp only [inR]; omega, ⟨by omega, by simp only [bitsOf]; omega⟩, fun hx => absurd hx (by decide), fun hx => ⟨⟨⟨hp.h, rfl⟩, ⟨by simp only; omega, by simp only; omega⟩, ⟨by simp only; omega, by simp only; omega⟩⟩, fun hx2 => absurd hx2 (by decide), fun hx2 => ?_⟩⟩
   refine ⟨by unfold sumPre; simp, by simp only [inR]; omega, ⟨⟨by omega, by simp only [bitsOf]; omega⟩, by omega, by omega⟩, ⟨⟨hp.h, rfl⟩, by simp only; omega, hpre⟩, fun hr => ?_, fun hr => ?_⟩
   · have hr : (gr p lv (D ||| 2 ^ k) [(k : Int)] m).1 = true := hr
     rw [if_pos hr] at hst
     have hs := lpK_stop (k := k + 1) (by rw [hst]; exact hr) (p.length - (k + 1))
     rw [show k + 1 + (p.length - (k + 1)) = p.length by omega, hst] at hs
     have e : gr p (lv + 1) D [] m = gr p lv (D ||| 2 ^ k) [(k : Int)] m := by rw [gr, if_neg hm, hs, if_pos hr]
     rw [e]
     exact ⟨hr.symm, rfl, rfl⟩
   · have hr : (gr p lv (D ||| 2 ^ k) [(k : Int)] m).1 = false := hr
     rw [if_neg (by simp [hr])] at hst
     have h2 := gr_list hr
     have q1 : inR .i64 (((gr p lv (D ||| 2 ^ k) [(k : Int)] m).2.1.length : Int) - 1) := by rw [h2]; simp only [inR]; simp
     have q2 : 0 ≤ ((gr p lv (D ||| 2 ^ k) [(k : Int)] m).2.1.length : Int) - 1 ∧ ((gr p lv (D ||| 2 ^ k) [(k : Int)] m).2.1.length : Int) - 1 ≤ ((gr p lv (D ||| 2 ^ k) [(k : Int)] m).2.1.length : Int) := by rw [h2]; simp
     have q3 : (gr p lv (D ||| 2 ^ k) [(k : Int)] m).2.1.take (((gr p lv (D ||| 2 ^ k) [(k : Int)] m).2.1.length : Int) - 1).toNat = [] := by rw [h2]; simp
     have q4 : (gr p lv (D ||| 2 ^ k) [(k : Int)] m).2.2 = (lpK p (gr p lv) D [] m (k + 1)).2.2 := by rw [hst]
     exact ⟨q1, q2, by simp only [inR]; omega, k + 1, ⟨⟨by omega, by rw [hst]⟩, by omega⟩, by omega, q4, q3⟩
 · refine of_eq (q := True ∧ ((k : Int) < (p.length : Int) → True ∧ True ∧ True ∧ True ∧ inR .u64 (k : Int) ∧ ((0 : Int) ≤ (k : Int) ∧ (k : Int) < bitsOf .i64) ∧ True ∧ True ∧ True ∧ (bAnd .i64 ((D : Int) / (2 : Int) ^ k) (1 : Int) = 1 → True ∧ inR .i64 ((k : Int) + 1) ∧ True ∧ ((∃ (y : Nat), (y = 0 ∧ p.length - y < p.length - k) ∧ ((D : Int) = (D : Int) ∧ True ∧ True ∧ True ∧ True ∧ (p.length : Int) = (p.length : Int) ∧ (k : Int) + 1 = (y : Int) ∧ True) ∧ False ∧ True ∧ (n = n ∧ p = p ∧ mk (isF p) = mk (isF p) ∧ True) ∧ True ∧ (lpK p (gr p lv) D [] m k).snd.snd = m ∧ (True ∧ True ∧ True ∧ True ∧ True ∧ True) ∧ True) ∨ ∃ (y : Nat), (inS p (gr p lv) D [] m y ∧ p.length - y < p.length - k) ∧ ((D : Int) = (D : Int) ∧ True ∧ True ∧ True ∧ True ∧ (p.length : Int) = (p.length : Int) ∧ (k : Int) + 1 = (y : Int) ∧ True) ∧ True ∧ True ∧ (n = n ∧ p = p ∧ mk (isF p) = mk (isF p) ∧ True) ∧ True ∧ (lpK p (gr p lv) D [] m k).snd.snd = (lpK p (gr p lv) D [] m y).snd.snd ∧ (True ∧ True ∧ True ∧ True ∧ True ∧ True) ∧ ([] : List Int) = [] ∧ True)) ∧ (¬bAnd .i64 ((D : Int) / (2 : Int) ^ k) (1 : Int) = 1 → True ∧ True ∧ True ∧ ((ok56 ((D : Int), (k : Int), n, p, mk (isF p)) ∧ (True ∧ (D : Int) = (D : Int) ∧ (k : Int) = (k : Int) ∧ True) ∧ (n = n ∧ p = p ∧ mk (isF p) = mk (isF p) ∧ True) ∧ True) ∧ True ∧ True) ∧ True ∧ True ∧ ((!flw p D k) = true → inR .i64 ((k : Int) + 1) ∧ True ∧ ((∃ (y : Nat), (y = 0 ∧ p.length - y < p.length - k) ∧ ((D : Int) = (D : Int) ∧ True ∧ True ∧ True ∧ True ∧ (p.length : Int) = (p.length : Int) ∧ (k : Int) + 1 = (y : Int) ∧ True) ∧ False ∧ True ∧ (n = n ∧ p = p ∧ mk (isF p) = mk (isF p) ∧ True) ∧ True ∧ (lpK p (gr p lv) D [] m k).snd.snd = m ∧ (True ∧ True ∧ True ∧ True ∧ True ∧ True) ∧ True) ∨ ∃ (y : Nat), (inS p (gr p lv) D [] m y ∧ p.length - y < p.length - k) ∧ ((D : Int) = (D : Int) ∧ True ∧ True ∧ True ∧ True ∧ (p.length : Int) = (p.length : Int) ∧ (k : Int) + 1 = (y : Int) ∧ True) ∧ True ∧ True ∧ (n = n ∧ p = p ∧ mk (isF p) = mk (isF p) ∧ True) ∧ True ∧ (lpK p (gr p lv) D [] m k).snd.snd = (lpK p (gr p lv) D [] m y).snd.snd ∧ (True ∧ True ∧ True ∧ True ∧ True ∧ True) ∧ ([] : List Int) = [] ∧ True)) ∧ ((!flw p D k) = false → True ∧ True ∧ True ∧ sumPre ([] : List Int).length [(k : Int)].length (nat_lit 8) ∧ True ∧ True ∧ True ∧ True ∧ inR .u64 (k : Int) ∧ (((0 : Int) ≤ (k : Int) ∧ (k : Int) < bitsOf .i64) ∧ (-9223372036854775808 : Int) ≤ 1 * 2 ^ k ∧ (1 : Int) * 2 ^ k ≤ 9223372036854775807) ∧ True ∧ ((ok55 lv (bOr .i64 (D : Int) ((1 : Int) * 2 ^ k), (n, p, mk (isF p)), [] ++ [(k : Int)], (lpK p (gr p lv) D [] m k).snd.snd) ∧ (bOr .i64 (D : Int) ((1 : Int) * 2 ^ k) = bOr .i64 (D : Int) ((1 : Int) * 2 ^ k) ∧ True ∧ True ∧ True ∧ True ∧ True) ∧ True ∧ [] ++ [(k : Int)] = [] ++ [(k : Int)] ∧ True ∧ (n = n ∧ p = p ∧ mk (isF p) = mk (isF p) ∧ True) ∧ True ∧ (lpK p (gr p lv) D [] m k).snd.snd = (lpK p (gr p lv) D [] m k).snd.snd ∧ (True ∧ True ∧ True ∧ True ∧ True ∧ True) ∧ True) ∧ True ∧ True ∧ True ∧ True ∧ True ∧ True ∧ True ∧ True) ∧ ((gr p lv (bOr .i64 (D : Int) ((1 : Int) * 2 ^ k)).toNat ([] ++ [(k : Int)]) (lpK p (gr p lv) D [] m k).snd.snd).fst = true → True ∧ True ∧ (true = (gr p (lv + 1) D [] m).fst ∧ True) ∧ True ∧ True ∧ (n = n ∧ p = p ∧ mk (isF p) = mk (isF p) ∧ True) ∧ True ∧ (gr p lv (bOr .i64 (D : Int) ((1 : Int) * 2 ^ k)).toNat ([] ++ [(k : Int)]) (lpK p (gr p lv) D [] m k).snd.snd).snd.snd = (gr p (lv + 1) D [] m).snd.snd ∧ (True ∧ True ∧ True ∧ True ∧ True ∧ True) ∧ (gr p lv (bOr .i64 (D : Int) ((1 : Int) * 2 ^ k)).toNat ([] ++ [(k : Int)]) (lpK p (gr p lv) D [] m k).snd.snd).snd.fst = (gr p (lv + 1) D [] m).snd.fst ∧ True) ∧ ((gr p lv (bOr .i64 (D : Int) ((1 : Int) * 2 ^ k)).toNat ([] ++ [(k : Int)]) (lpK p (gr p lv) D [] m k).snd.snd).fst = false → True ∧ True ∧ True ∧ inR .i64 ((↑(gr p lv (bOr .i64 (D : Int) ((1 : Int) * 2 ^ k)).toNat ([] ++ [(k : Int)]) (lpK p (gr p lv) D [] m k).snd.snd).snd.fst.length : Int) - 1) ∧ ((0 : Int) ≤ (↑(gr p lv (bOr .i64 (D : Int) ((1 : Int) * 2 ^ k)).toNat ([] ++ [(k : Int)]) (lpK p (gr p lv) D [] m k).snd.snd).snd.fst.length : Int) - 1 ∧ (↑(gr p lv (bOr .i64 (D : Int) ((1 : Int) * 2 ^ k)).toNat ([] ++ [(k : Int)]) (lpK p (gr p lv) D [] m k).snd.snd).snd.fst.length : Int) - 1 ≤ (↑(gr p lv (bOr .i64 (D : Int) ((1 : Int) * 2 ^ k)).toNat ([] ++ [(k : Int)]) (lpK p (gr p lv) D [] m k).snd.snd).snd.fst.length : Int)) ∧ True ∧ inR .i64 ((k : Int) + 1) ∧ True ∧ ((∃ (y : Nat), (y = 0 ∧ p.length - y < p.length - k) ∧ ((D : Int) = (D : Int) ∧ True ∧ True ∧ True ∧ True ∧ (p.length : Int) = (p.length : Int) ∧ (k : Int) + 1 = (y : Int) ∧ True) ∧ False ∧ True ∧ (n = n ∧ p = p ∧ mk (isF p) = mk (isF p) ∧ True) ∧ True ∧ (gr p lv (bOr .i64 (D : Int) ((1 : Int) * 2 ^ k)).toNat ([] ++ [(k : Int)]) (lpK p (gr p lv) D [] m k).snd.snd).snd.snd = m ∧ (True ∧ True ∧ True ∧ True ∧ True ∧ True) ∧ True) ∨ ∃ (y : Nat), (inS p (gr p lv) D [] m y ∧ p.length - y < p.length - k) ∧ ((D : Int) = (D : Int) ∧ True ∧ True ∧ True ∧ True ∧ (p.length : Int) = (p.length : Int) ∧ (k : Int) + 1 = (y : Int) ∧ True) ∧ True ∧ True ∧ (n = n ∧ p = p ∧ mk (isF p) = mk (isF p) ∧ True) ∧ True ∧ (gr p lv (bOr .i64 (D : Int) ((1 : Int) * 2 ^ k)).toNat ([] ++ [(k : Int)]) (lpK p (gr p lv) D [] m k).snd.snd).snd.snd = (lpK p (gr p lv) D [] m y).snd.snd ∧ (True ∧ True ∧ True ∧ True ∧ True ∧ True) ∧ List.take ((↑(gr p lv (bOr .i64 (D : Int) ((1 : Int) * 2 ^ k)).toNat ([] ++ [(k : Int)]) (lpK p (gr p lv) D [] m k).snd.snd).snd.fst.length : Int) - 1).toNat (gr p lv (bOr .i64 (D : Int) ((1 : Int) * 2 ^ k)).toNat ([] ++ [(k : Int)]) (lpK p (gr p lv) D [] m k).snd.snd).snd.fst = [] ∧ True))))) ∧ (¬(k : Int) < (p.length : Int) → ∃ (y : Unit), (lpK p (gr p lv) D [] m p.length).fst = false ∧ ((D : Int) = (D : Int) ∧ True ∧ True ∧ True ∧ True ∧ True) ∧ True ∧ True ∧ (n = n ∧ p = p ∧ mk (isF p) = mk (isF p) ∧ True) ∧ True ∧ (lpK p (gr p lv) D [] m k).snd.snd = (lpK p (gr p lv) D [] m p.length).snd.snd ∧ (True ∧ True ∧ True ∧ True ∧ True ∧ True) ∧ ([] : List Int) = [] ∧ True)) (by kernel_rfl) ?_
   simp only [zz]
   obtain ⟨k1, k2⟩ := hk
   have hl : lv + 1 = p.length := by have := hp.l; simpa using this
   have hc := hp.h.2.1
   have hD := pre_D hp
   refine ⟨fun h => ?_, fun h => by rw [show p.length = k by omega]; exact ⟨k2, rfl⟩⟩
   have hkp : k < p.length := by omega
   have hb := or_pow10 hD (k := k) (by omega)
   have hst := lpK_go k2
   rw [bit_shr hD, hb.1, Int.toNat_natCast]
   have hskip : (D / 2 ^ k % 2 = 1 ∨ flw p D k = false) → inR .i64 ((k : Int) + 1) ∧ ∃ y : Nat, (inS p (gr p lv) D [] m y ∧ p.length - y < p.length - k) ∧ (k : Int) + 1 = (y : Int) ∧ (lpK p (gr p lv) D [] m k).2.2 = (lpK p (gr p lv) D [] m y).2.2 := fun hh => by
     rw [if_pos hh] at hst
     exact ⟨by simp only [inR]; omega, k + 1, ⟨⟨by omega, by rw [hst]; exact k2⟩, by omega⟩, by omega, by rw [hst]⟩
   refine ⟨by simp only [inR]; omega, ⟨by omega, by simp only [bitsOf]; omega⟩, fun hx => hskip (.inl (by omega)), fun hx => ⟨⟨⟨hp.h, rfl⟩, ⟨by simp only; omega, by simp only; omega⟩, ⟨by simp only; omega, by simp only; omega⟩⟩, fun hx2 => hskip (.inr (by simpa using hx2)), fun hx2 => ?_⟩⟩
   have hx2 : flw p D k = true := by simpa using hx2
   rw [if_neg (by simp [hx2]; omega)] at hst
   have hlt : D ||| 2 ^ k < 2 ^ p.length := Nat.or_lt_two_pow hp.D (Nat.pow_lt_pow_right (by decide) hkp)
   have hpre : pre55 n p lv (D ||| 2 ^ k) ([] ++ [(k : Int)]) := ⟨hp.h, hlt, by simp; omega⟩
   refine ⟨by unfold sumPre; simp, by simp only [inR]; omega, ⟨⟨by omega, by simp only [bitsOf]; omega⟩, by omega, by omega⟩, ⟨⟨hp.h, rfl⟩, by simp only; omega, hpre⟩, fun hr => ?_, fun hr => ?_⟩
   · have hr : (gr p lv (D ||| 2 ^ k) ([] ++ [(k : Int)]) (lpK p (gr p lv) D [] m k).2.2).1 = true := hr
     rw [if_pos hr] at hst
     have hs := lpK_stop (k := k + 1) (by rw [hst]; exact hr) (p.length - (k + 1))
     rw [show k + 1 + (p.length - (k + 1)) = p.length by omega, hst] at hs
     have e : gr p (lv + 1) D [] m = gr p lv (D ||| 2 ^ k) ([] ++ [(k : Int)]) (lpK p (gr p lv) D [] m k).2.2 := by rw [gr, if_neg hm, hs, if_pos hr]
     rw [e]
     exact ⟨hr.symm, rfl, rfl⟩
   · have hr : (gr p lv (D ||| 2 ^ k) ([] ++ [(k : Int)]) (lpK p (gr p lv) D [] m k).2.2).1 = false := hr
     rw [if_neg (by rw [hr]; simp)] at hst
     have h2 := gr_list hr
     have q1 : inR .i64 (((gr p lv (D ||| 2 ^ k) ([] ++ [(k : Int)]) (lpK p (gr p lv) D [] m k).2.2).2.1.length : Int) - 1) := by rw [h2]; simp only [inR]; simp
     have q2 : 0 ≤ ((gr p lv (D ||| 2 ^ k) ([] ++ [(k : Int)]) (lpK p (gr p lv) D [] m k).2.2).2.1.length : Int) - 1 ∧ ((gr p lv (D ||| 2 ^ k) ([] ++ [(k : Int)]) (lpK p (gr p lv) D [] m k).2.2).2.1.length : Int) - 1 ≤ ((gr p lv (D ||| 2 ^ k) ([] ++ [(k : Int)]) (lpK p (gr p lv) D [] m k).2.2).2.1.length : Int) := by rw [h2]; simp
     have q3 : (gr p lv (D ||| 2 ^ k) ([] ++ [(k : Int)]) (lpK p (gr p lv) D [] m k).2.2).2.1.take (((gr p lv (D ||| 2 ^ k) ([] ++ [(k : Int)]) (lpK p (gr p lv) D [] m k).2.2).2.1.length : Int) - 1).toNat = [] := by rw [h2]; simp
     have q4 : (gr p lv (D ||| 2 ^ k) ([] ++ [(k : Int)]) (lpK p (gr p lv) D [] m k).2.2).2.2 = (lpK p (gr p lv) D [] m (k + 1)).2.2 := by rw [hst]
     exact ⟨q1, q2, by simp only [inR]; omega, k + 1, ⟨⟨by omega, by rw [hst]⟩, by omega⟩, by omega, q4, q3⟩
theorem call55 (lv : Nat) (n : Int) (p : List Int) (D : Nat) (m : Mm) (hp : pre55 n p (lv + 1) D []) (hD0 : D = 0) (hm : ¬ mg m D = true) : GCall Try.prog gl 55 false (aN D) (gN n p m) [.bool (gr p (lv + 1) D [] m).1] (gO n p (gr p (lv + 1) D [] m).2.1 (gr p (lv + 1) D [] m).2.2) := by
 refine gcall_of (X := (XN lv)) ((Xb_ok _ _ _ _)) (f := 55) (fn := Try.f55) (c := bodyOf Try.f55) (by kernel_rfl) (by kernel_rfl) (view := false) (rvs := [.tmp 6]) (by kernel_rfl) (H := (HN n p (gr p lv) D m)) 80 (by kernel_rfl) ?_
 have hL := loopN lv n p D m hp hD0 hm
 refine of_eq (q := True ∧ True ∧ True ∧ True ∧ True ∧ True ∧ True ∧ True ∧ True ∧ ((0 : Int) = (p.length : Int) → True ∧ True ∧ (true = (gr p (lv + 1) D [] m).fst ∧ True) ∧ False ∧ True ∧ (n = n ∧ p = p ∧ mk (isF p) = mk (isF p) ∧ True) ∧ True ∧ m = (gr p (lv + 1) D [] m).snd.snd ∧ (True ∧ True ∧ True ∧ True ∧ True ∧ True) ∧ False) ∧ (¬(0 : Int) = (p.length : Int) → True ∧ True ∧ True ∧ ((mGet I64 m (D : Int)).getD false = true → True ∧ True ∧ (false = (gr p (lv + 1) D [] m).fst ∧ True) ∧ False ∧ True ∧ (n = n ∧ p = p ∧ mk (isF p) = mk (isF p) ∧ True) ∧ True ∧ m = (gr p (lv + 1) D [] m).snd.snd ∧ (True ∧ True ∧ True ∧ True ∧ True ∧ True) ∧ False) ∧ ((mGet I64 m (D : Int)).getD false = false → True ∧ True ∧ True ∧ True ∧ True ∧ True ∧ LoopOK (XN lv) L55_0 (hN n p (gr p lv) D m) (RetR (XN lv) false false [ResultVar.tmp (6 : Tmp)] [AV.bool (gr p (lv + 1) D [] m).fst] (gO n p (gr p (lv + 1) D [] m).snd.fst (gr p (lv + 1) D [] m).snd.snd)) ∧ ((∃ (y : Nat), y = 0 ∧ ((D : Int) = (D : Int) ∧ True ∧ True ∧ True ∧ True ∧ (p.length : Int) = (p.length : Int) ∧ (0 : Int) = (y : Int) ∧ True) ∧ True ∧ True ∧ (n = n ∧ p = p ∧ mk (isF p) = mk (isF p) ∧ True) ∧ True ∧ m = m ∧ (True ∧ True ∧ True ∧ True ∧ True ∧ True) ∧ True) ∨ ∃ (y : Nat), inS p (gr p lv) D [] m y ∧ ((D : Int) = (D : Int) ∧ True ∧ True ∧ True ∧ True ∧ (p.length : Int) = (p.length : Int) ∧ (0 : Int) = (y : Int) ∧ True) ∧ False ∧ True ∧ (n = n ∧ p = p ∧ mk (isF p) = mk (isF p) ∧ True) ∧ True ∧ m = (lpK p (gr p lv) D [] m y).snd.snd ∧ (True ∧ True ∧ True ∧ True ∧ True ∧ True) ∧ False) ∧ (∀ (y : Unit), (lpK p (gr p lv) D [] m p.length).fst = false → True ∧ True ∧ True ∧ True ∧ True ∧ (false = (gr p (lv + 1) D [] m).fst ∧ True) ∧ True ∧ True ∧ (n = n ∧ p = p ∧ mk (isF p) = mk (isF p) ∧ True) ∧ True ∧ mPut I64 (lpK p (gr p lv) D [] m p.length).snd.snd (D : Int) true = (gr p (lv + 1) D [] m).snd.snd ∧ (True ∧ True ∧ True ∧ True ∧ True ∧ True) ∧ ([] : List Int) = (gr p (lv + 1) D [] m).snd.fst ∧ True) ∧ True))) (by kernel_rfl) ?_
 simp only [zz]
 have hl : lv + 1 = p.length := by have := hp.l; simpa using this
 have hg : mg m D = (mGet I64 m D).getD false := rfl
 refine ⟨fun h => by omega, fun _ => ⟨fun h => hm (by rw [hg]; exact h), fun h => ⟨hL, ⟨0, rfl, rfl⟩, fun _ hf => ?_⟩⟩⟩
 rw [gr, if_neg hm, if_neg (by simp [hf])]; exact ⟨rfl, rfl, rfl⟩
end Go.Am.Sh

/- Shells: Shell. -/
namespace Go.Am.Sh
open Go Go.Am Go.Proofs
def isNl : Ob → Bool
 | .bx (.vv _) => true
 | _ => false
abbrev G5n := Int × Cx3 × Mm
def get55n (xs : List AV) (obs : List Ob) : Option G5n :=
 match xs with
 | .int .i64 d :: _ => (match isNl (obs.getD 0 .gone), unCx (obs.getD 2 .gone), unMm (obs.getD 4 .gone) with
   | true, some x, some m => some (d, x, m)
   | _, _, _ => none)
 | _ => none
structure ok55n (x : G5n) : Prop where
 h : okC x.2.1
 d : x.1 = 0
 m : x.2.2 = []
def gNq (x : Cx3) (m : Mm) : List Ob := [.bx nl, .bx (.ptr 2 0 []), cxQ x, .bx (.mp 4), mmO m, .bx (clo55 0 1 3 5)]
def gOq (x : Cx3) (l : List Int) (m : Mm) : List Ob := [.bx (.own 6 0), .bx (.ptr 2 0 []), cxQ x, .bx (.mp 4), mmO m, .bx (clo55 0 1 3 5), .sc 0 3 I64 l]
def grow (p : List Int) : Res := gr p p.length 0 [] []
theorem call55N (n : Int) (p : List Int) (h : cxOk n p) : GCall Try.prog gl 55 false (aN 0) (gN n p []) [.bool (grow p).1] (gO n p (grow p).2.1 (grow p).2.2) := by
 have hl := h.2.1.1
 obtain ⟨lv, hlv⟩ : ∃ lv, p.length = lv + 1 := ⟨p.length - 1, by omega⟩
 have := call55 lv n p 0 [] ⟨h, by have := Nat.pow_le_pow_right (show 0 < 2 by decide) hl; omega, by simp; omega⟩ rfl (by simp [mg, mGet])
 rw [← hlv] at this
 exact this
def e55N : Entry Try.prog gl := entryW 55 ⟨Try.f55, by kernel_rfl, by kernel_rfl, by kernel_rfl⟩ true get55n ok55n false (fun x => aN x.1) (fun x => gNq x.2.1 x.2.2) (fun x => [.bool (grow x.2.1.2.1).1])
 (fun x => gOq x.2.1 (grow x.2.1.2.1).2.1 (grow x.2.1.2.1).2.2) (fun x hx => by
   have := call55N _ _ hx.h.h
   have e : gNq x.2.1 [] = gN x.2.1.1 x.2.1.2.1 [] := by unfold gNq gN; rw [cxQ_ok hx.h]
   have e2 : ∀ l m, gOq x.2.1 l m = gO x.2.1.1 x.2.1.2.1 l m := fun l m => by unfold gOq gO; rw [cxQ_ok hx.h]
   rw [hx.d, hx.m, e, e2]; exact this)
def shB (p : List Int) : Bool := pure p && (grow p).1
def shL (p : List Int) : List Int := if pure p = true then (grow p).2.1 else []
theorem call15 (n : Int) (p : List Int) (h : cxOk n p) : GCall Try.prog gl 15 true [.int .i64 n, .sl I64 p] [] [.sl I64 (shL p), .bool (shB p), .int .i64 0] [] := by
 refine gcall_of (X := X [e53, e54, e55N]) (X_ok [e53, e54, e55N]) (f := 15) (fn := Try.f15) (c := bodyOf Try.f15) (by kernel_rfl) (by kernel_rfl) (view := true) (rvs := [.tmp 4, .tmp 5, .tmp 6]) (by kernel_rfl) (H := fun _ => none) 80 (by kernel_rfl) ?_
 refine of_eq (q := True ∧ True ∧ True ∧ True ∧ True ∧ (CxP n p ∧ True) ∧ True ∧ True ∧ True ∧ True ∧ True ∧ True ∧ True ∧ True ∧ (¬(0 : Int) = 0 → True ∧ True ∧ True ∧ True ∧ True ∧ (([] : List Int) = shL p ∧ false = shB p ∧ (0 : Int) = 0 ∧ True) ∧ True) ∧ (¬¬(0 : Int) = 0 → True ∧ ((okC (n, p, mk (isF p)) ∧ (True ∧ True) ∧ (n = n ∧ p = p ∧ mk (isF p) = mk (isF p) ∧ True) ∧ True) ∧ True ∧ True) ∧ True ∧ ((!pure p) = true → True ∧ True ∧ True ∧ True ∧ (([] : List Int) = shL p ∧ false = shB p ∧ (0 : Int) = 0 ∧ True) ∧ True) ∧ ((!pure p) = false → True ∧ True ∧ True ∧ True ∧ True ∧ True ∧ True ∧ True ∧ ((ok55n ((0 : Int), (n, p, mk (isF p)), []) ∧ ((0 : Int) = 0 ∧ True ∧ True ∧ True ∧ True ∧ True) ∧ True ∧ True ∧ (n = n ∧ p = p ∧ mk (isF p) = mk (isF p) ∧ True) ∧ True ∧ ([] : List (Int × Bool)) = [] ∧ (True ∧ True ∧ True ∧ True ∧ True ∧ True) ∧ True) ∧ True ∧ True ∧ True ∧ True ∧ True ∧ True ∧ True) ∧ True ∧ True ∧ True ∧ True ∧ True ∧ True ∧ True ∧ ((grow p).snd.fst = shL p ∧ (grow p).fst = shB p ∧ (0 : Int) = 0 ∧ True) ∧ True))) (by kernel_rfl) ?_
 simp only [zz]
 refine ⟨⟨h⟩, fun h => absurd trivial h, fun _ => ⟨⟨h, rfl⟩, fun hp => ?_, fun hp => ⟨⟨⟨h, rfl⟩, rfl, rfl⟩, ?_⟩⟩⟩
 · have hp : pure p = false := by simpa using hp
   simp [shL, shB, hp]
 · have hp : pure p = true := by simpa using hp
   simp [shL, shB, hp]
end Go.Am.Sh

/- Shells: awake. -/
namespace Go.Am.Sh
open Go Go.Am Go.Proofs
def e15 : Entry Try.prog gl := entry2 15 ⟨Try.f15, by kernel_rfl, by kernel_rfl, by kernel_rfl⟩ I64 SI (fun (n : Int) p => cxOk n p) true (fun _ p => [.sl I64 (shL p), .bool (shB p), .int .i64 0]) (fun _ _ => []) (fun (n : Int) p h => call15 n p h)
def e38 : Entry Try.prog gl := entry2 38 ⟨Try.f38, by kernel_rfl, by kernel_rfl, by kernel_rfl⟩ I64 SI (fun (n : Int) p => cxOk n p) false (fun _ p => [.sl I64 (cnts p), .int .i64 0]) (fun _ _ => []) (fun (n : Int) p h => call38 n p h)
def e27 : Entry Try.prog gl := entry2 27 ⟨Try.f27, by kernel_rfl, by kernel_rfl, by kernel_rfl⟩ I64 SI (fun (n : Int) p => cxOk n p) false (fun _ p => [.sl I64 (hsL p), .int .i64 0]) (fun _ _ => []) (fun (n : Int) p h => call27 n p h)
def e30 : Entry Try.prog gl := entry2 30 ⟨Try.f30, by kernel_rfl, by kernel_rfl, by kernel_rfl⟩ I64 SI (fun (n : Int) p => cxOk n p) false (fun _ p => [.sl I64 (hoL p), .int .i64 0]) (fun _ _ => []) (fun (n : Int) p h => call30 n p h)
def e36 : Entry Try.prog gl := entry2 36 ⟨Try.f36, by kernel_rfl, by kernel_rfl, by kernel_rfl⟩ I64 SI (fun (n : Int) p => cxOk n p) false (fun (n : Int) p => [.sl I64 (fewR (grL (duaG n p))), .int .i64 (fewE (grL (duaG n p)))]) (fun _ _ => []) (fun (n : Int) p h => call36 n p h)
def e24 : Entry Try.prog gl := entry2 24 ⟨Try.f24, by kernel_rfl, by kernel_rfl, by kernel_rfl⟩ I64 I64 (fun (n d : Int) => momOk n d) true (fun (n d : Int) => [.sl I64 (momL n d), .int .i64 0]) (fun _ _ => []) (fun (n d : Int) h => call24 n d h)
instance (n : Int) (p : List Int) (k : Nat) : Decidable (goodAt n p k) := by unfold goodAt; infer_instance
instance (n : Int) (p : List Int) : Decidable (cxOk n p) := by unfold cxOk numOk; infer_instance
theorem call19 : GCall Try.prog gl 19 true [] [] [.tt] [] := by
 have f1 : cxOk 3 [3, 5, 6] := by decide +kernel
 have f2 : cxOk 3 [7] := by decide +kernel
 have f3 : cxOk 4 [3, 12] := by decide +kernel
 have f4 : cnts [3, 5, 6] = [1, 3, 3] := by kernel_rfl
 have f5 : hsL [3, 5, 6] = [1, 1, 1] := by kernel_rfl
 have f6 : hoL [3, 5, 6] = [0, 1] := by kernel_rfl
 have f7 : shL [7] = [0] := by kernel_rfl
 have f8 : fewR (grL (duaG 4 [3, 12])) = [5, 6, 9, 10] := by kernel_rfl
 have f9 : fewE (grL (duaG 4 [3, 12])) = 0 := by kernel_rfl
 refine gcall_of (X := X [e38, e27, e30, e15, e36, e24, e23]) (X_ok [e38, e27, e30, e15, e36, e24, e23]) (f := 19) (fn := Try.f19) (c := bodyOf Try.f19) (by kernel_rfl) (by kernel_rfl) (view := false) (rvs := [.tmp 0]) (by kernel_rfl) (H := fun _ => none) 200 (by kernel_rfl) ?_
 refine of_eq (q := True ∧ True ∧ ((numOk (3 : Int) ∧ ((1 : Nat) ≤ [(3 : Int), (5 : Int), (6 : Int)].length ∧ [(3 : Int), (5 : Int), (6 : Int)].length ≤ 10) ∧ ∀ (k : Nat), k < [(3 : Int), (5 : Int), (6 : Int)].length → goodAt (3 : Int) [(3 : Int), (5 : Int), (6 : Int)] k) ∧ True) ∧ True ∧ True ∧ True ∧ True ∧ True ∧ True ∧ ((numOk (3 : Int) ∧ ((1 : Nat) ≤ [(3 : Int), (5 : Int), (6 : Int)].length ∧ [(3 : Int), (5 : Int), (6 : Int)].length ≤ 10) ∧ ∀ (k : Nat), k < [(3 : Int), (5 : Int), (6 : Int)].length → goodAt (3 : Int) [(3 : Int), (5 : Int), (6 : Int)] k) ∧ True) ∧ True ∧ True ∧ True ∧ True ∧ True ∧ True ∧ ((numOk (3 : Int) ∧ ((1 : Nat) ≤ [(3 : Int), (5 : Int), (6 : Int)].length ∧ [(3 : Int), (5 : Int), (6 : Int)].length ≤ 10) ∧ ∀ (k : Nat), k < [(3 : Int), (5 : Int), (6 : Int)].length → goodAt (3 : Int) [(3 : Int), (5 : Int), (6 : Int)] k) ∧ True) ∧ True ∧ True ∧ True ∧ True ∧ True ∧ True ∧ ((numOk (3 : Int) ∧ ((1 : Nat) ≤ [(7 : Int)].length ∧ [(7 : Int)].length ≤ 10) ∧ ∀ (k : Nat), k < [(7 : Int)].length → goodAt (3 : Int) [(7 : Int)] k) ∧ True) ∧ True ∧ True ∧ True ∧ True ∧ True ∧ True ∧ True ∧ True ∧ ((numOk (4 : Int) ∧ ((1 : Nat) ≤ [(3 : Int), (12 : Int)].length ∧ [(3 : Int), (12 : Int)].length ≤ 10) ∧ ∀ (k : Nat), k < [(3 : Int), (12 : Int)].length → goodAt (4 : Int) [(3 : Int), (12 : Int)] k) ∧ True) ∧ True ∧ True ∧ True ∧ True ∧ True ∧ (((2 : Int) ≤ 3 ∧ (3 : Int) < 5 ∧ (5 : Int) ≤ 6) ∧ True) ∧ True ∧ True ∧ True ∧ True ∧ True ∧ True ∧ True ∧ True ∧ ((0 : Int) = 0 → True ∧ True ∧ ((cnts [(3 : Int), (5 : Int), (6 : Int)]).length + 1 ≤ 1000000000000000 ∧ True) ∧ True ∧ True ∧ (true = true → True ∧ True ∧ True ∧ True ∧ ((0 : Int) = 0 → True ∧ True ∧ ((hsL [(3 : Int), (5 : Int), (6 : Int)]).length + 1 ≤ 1000000000000000 ∧ True) ∧ True ∧ True ∧ (true = true → True ∧ True ∧ True ∧ True ∧ ((0 : Int) = 0 → True ∧ True ∧ ((hoL [(3 : Int), (5 : Int), (6 : Int)]).length + 1 ≤ 1000000000000000 ∧ True) ∧ True ∧ True ∧ (true = true → True ∧ True ∧ True ∧ True ∧ ((0 : Int) = 0 → True ∧ True ∧ True ∧ (true = true → True ∧ True ∧ ((shL [(7 : Int)]).length + 1 ≤ 1000000000000000 ∧ True) ∧ True ∧ True ∧ (true = true → True ∧ True ∧ True ∧ True ∧ (fewE (grL (duaG (4 : Int) [(3 : Int), (12 : Int)])) = 0 → True ∧ True ∧ ((fewR (grL (duaG (4 : Int) [(3 : Int), (12 : Int)]))).length + 1 ≤ 1000000000000000 ∧ True) ∧ True ∧ True ∧ (true = true → True ∧ True ∧ True ∧ True ∧ ((0 : Int) = 0 → True ∧ True ∧ True ∧ True ∧ True ∧ True ∧ (true = true ∧ True) ∧ True) ∧ (¬(0 : Int) = 0 → True ∧ True ∧ True ∧ (false = true ∧ True) ∧ True)) ∧ (true = false → True ∧ True ∧ True ∧ True ∧ True ∧ (false = true ∧ True) ∧ True)) ∧ (¬fewE (grL (duaG (4 : Int) [(3 : Int), (12 : Int)])) = 0 → True ∧ True ∧ True ∧ True ∧ True ∧ True ∧ True ∧ (false = true ∧ True) ∧ True)) ∧ (true = false → True ∧ True ∧ True ∧ True ∧ True ∧ True ∧ True ∧ True ∧ True ∧ (false = true ∧ True) ∧ True)) ∧ (true = false → True ∧ True ∧ True ∧ True ∧ True ∧ True ∧ True ∧ True ∧ True ∧ True ∧ True ∧ (false = true ∧ True) ∧ True)) ∧ (¬(0 : Int) = 0 → True ∧ True ∧ True ∧ True ∧ True ∧ True ∧ True ∧ True ∧ True ∧ True ∧ True ∧ True ∧ True ∧ (false = true ∧ True) ∧ True)) ∧ (true = false → True ∧ True ∧ True ∧ True ∧ True ∧ True ∧ True ∧ True ∧ True ∧ True ∧ True ∧ True ∧ True ∧ True ∧ True ∧ (false = true ∧ True) ∧ True)) ∧ (¬(0 : Int) = 0 → True ∧ True ∧ True ∧ True ∧ True ∧ True ∧ True ∧ True ∧ True ∧ True ∧ True ∧ True ∧ True ∧ True ∧ True ∧ True ∧ True ∧ (false = true ∧ True) ∧ True)) ∧ (true = false → True ∧ True ∧ True ∧ True ∧ True ∧ True ∧ True ∧ True ∧ True ∧ True ∧ True ∧ True ∧ True ∧ True ∧ True ∧ True ∧ True ∧ True ∧ True ∧ (false = true ∧ True) ∧ True)) ∧ (¬(0 : Int) = 0 → True ∧ True ∧ True ∧ True ∧ True ∧ True ∧ True ∧ True ∧ True ∧ True ∧ True ∧ True ∧ True ∧ True ∧ True ∧ True ∧ True ∧ True ∧ True ∧ True ∧ True ∧ (false = true ∧ True) ∧ True)) ∧ (true = false → True ∧ True ∧ True ∧ True ∧ True ∧ True ∧ True ∧ True ∧ True ∧ True ∧ True ∧ True ∧ True ∧ True ∧ True ∧ True ∧ True ∧ True ∧ True ∧ True ∧ True ∧ True ∧ True ∧ (false = true ∧ True) ∧ True)) ∧ (¬(0 : Int) = 0 → True ∧ True ∧ True ∧ True ∧ True ∧ True ∧ True ∧ True ∧ True ∧ True ∧ True ∧ True ∧ True ∧ True ∧ True ∧ True ∧ True ∧ True ∧ True ∧ True ∧ True ∧ True ∧ True ∧ True ∧ True ∧ (false = true ∧ True) ∧ True)) (by kernel_rfl) ?_
 rw [f4, f5, f6, f7, f8, f9]
 simp
 exact ⟨⟨f1.1, f1.2.2⟩, ⟨f2.1, f2.2.2 0 (by decide)⟩, f3.1, f3.2.2⟩
def e19 : Entry Try.prog gl where
 f := 19
 lend := false
 en := ⟨Try.f19, by kernel_rfl, by kernel_rfl, by kernel_rfl⟩
 go := fun args ob0 => match args, ob0 with
   | [], [] => some (True, true, [.tt], [])
   | _, _ => none
 ok := by
   intro args ob0 p s r o h hp
   split at h <;> try (cases h; done)
   injection h with h; injection h with h1 h2; injection h2 with h2 h3; injection h3 with h3 h4
   subst h1 h2 h3 h4
   exact call19
end Go.Am.Sh

/- Shells: the reference's shellings. -/
namespace Go.Am.Sh
open Go Go.Am Go.Proofs
def puN (p : List Int) (k : Nat) : Prop := ∀ i, i < k → pc (p.getD i 0).toNat = pc (p.getD 0 0).toNat
instance (p k) : Decidable (puN p k) := by unfold puN; infer_instance
def puB (p : List Int) : Bool := decide (puN p p.length)
structure ok10 (p : List Int) : Prop where
 h : okL p
 l : p.length ≤ 10
def fnd (p : List Int) (D s e : Nat) : Nat → Bool
 | 0 => false
 | g + 1 => fnd p D s e g || (decide (D / 2 ^ g % 2 = 1) && decide (pc (mns s (p.getD g 0).toNat) = 1) && decide (mns s (p.getD g 0).toNat &&& e = 0))
def nxN (p : List Int) (D i k : Nat) : Prop := ∀ e, e < k → D / 2 ^ e % 2 = 1 → fnd p D (p.getD i 0).toNat (p.getD e 0).toNat p.length = true
instance (p D i k) : Decidable (nxN p D i k) := by unfold nxN; infer_instance
def nxB (p : List Int) (D i : Nat) : Bool := decide (nxN p D i p.length)
theorem bit_tmod {D k : Nat} : ((D : Int) / 2 ^ k).tmod 2 = ((D / 2 ^ k % 2 : Nat) : Int) := by
 have e : (2 ^ k : Int) = ((2 ^ k : Nat) : Int) := by rw [Int.natCast_pow]; try rfl
 rw [e]
 generalize 2 ^ k = P
 have e1 : (D : Int) / (P : Int) = ((D / P : Nat) : Int) := by rw [Int.natCast_ediv]
 rw [e1, Int.tmod_eq_emod_of_nonneg (Int.natCast_nonneg _)]
 omega
structure ok57 (p : List Int) (D i : Int) : Prop where
 h : ok10 p
 D : 0 ≤ D ∧ D < 1024
 i : 0 ≤ i ∧ i < p.length
def sgB (p : List Int) (i : Int) : Bool := decide (0 ≤ i ∧ i < p.length)
/-- The set of the first k pieces of an order, if they are a shelling so far. -/
def sgK (p o : List Int) : Nat → Option Nat
 | 0 => some 0
 | k + 1 => (sgK p o k).bind fun D => if sgB p (o.getD k 0) = true ∧ D / 2 ^ (o.getD k 0).toNat % 2 = 0 ∧ nxB p D (o.getD k 0).toNat = true then some (D ||| 2 ^ (o.getD k 0).toNat) else none
def sgR (p o : List Int) : Bool := (sgK p o o.length).isSome && decide (o.length = p.length) && puB p
end Go.Am.Sh

/- Shells: the reference's Check. -/
namespace Go.Am.Sh
open Go Go.Am Go.Proofs
theorem pow_le6 {n : Int} (h : numOk n) : (2 ^ n.toNat : Int) ≤ 64 := by
 obtain ⟨e1, e2, e3⟩ := numOk_pow h
 omega
end Go.Am.Sh

/- Shells: the law of the moment complexes. -/
namespace Go.Am.Sh
open Go Go.Am Go.Proofs
/-- How many of a list have all of a set. -/
def cntM (x : Nat) (p : List Int) (j : Nat) : Nat := ((p.take j).filter fun s => decide (mns x s.toNat = 0)).length
structure mf (n d : Int) : Prop where
 m : momOk n d
 len : 1 ≤ (momL n d).length ∧ (momL n d).length ≤ 10
 hl : ((hsL (momL n d)).length : Int) = d + 1
 hs : ∀ k, k < d.toNat + 1 → (hsL (momL n d)).getD k 0 = (hsL (momL n d)).getD (d.toNat - k) 0
 sh : shB (momL n d) = true
 sg : sgR (momL n d) (shL (momL n d)) = true
 sl : (shL (momL n d)).length ≤ 10
 two : ∀ k, k < (fcs (momL n d)).length → (pc ((fcs (momL n d)).getD k 0).toNat : Int) = d - 1 → cntM ((fcs (momL n d)).getD k 0).toNat (momL n d) (momL n d).length = 2
instance (n d : Int) : Decidable (momOk n d) := by unfold momOk; infer_instance
theorem u64_nn (n : Int) : 0 ≤ modU .u64 n := by
 show 0 ≤ n % 18446744073709551616
 omega
end Go.Am.Sh

/- Shells: the reference's Pieces. -/
namespace Go.Am.Sh
open Go Go.Am Go.Proofs
/-- Set x is one of the first k of a list. -/
def inK (s : List Int) (x : Nat) : Nat → Bool
 | 0 => false
 | k + 1 => inK s x k || decide (s.getD k 0 = x)
/-- Set x is no part of another of the first k. -/
def mxS (s : List Int) (x : Nat) : Nat → Bool
 | 0 => true
 | k + 1 => mxS s x k && (decide (s.getD k 0 = x) || !sub x (s.getD k 0).toNat)
def pieB (s : List Int) (x : Nat) : Bool := inK s x s.length && mxS s x s.length
def pieL (s : List Int) : List Int := trueN (pieB s) 64
structure ok22 (s : List Int) : Prop where
 h : okL s
 l : s.length < 1000000
noncomputable def L22_0 : Code := lp (bodyOf Try.f22) 0
noncomputable def L22_2 : Code := lp (bodyOf Try.f22) 2
def sz22 (s : List Int) (k : Nat) : St := ⟨.sl I64 s :: dd 2 ++ nl :: .int .i64 k :: dd 49, []⟩
def jz22 (s : List Int) (k i : Nat) : St := ⟨.sl I64 s :: dd 2 ++ nl :: .int .i64 k :: .bool (inK s k i) :: .bool (mxS s k i) :: .int .i64 i :: dd 46, []⟩
def ejz22 (s : List Int) (k : Nat) : List (List Nat × Ex) := [([0, 3, 4, 5, 6], ⟨2, Unit, fun _ => True, fun _ => ⟨.sl I64 s :: dd 2 ++ nl :: .int .i64 k :: .bool (inK s k s.length) :: .bool (mxS s k s.length) :: dd 47, []⟩⟩)]
def hz22 (s : List Int) (k : Nat) : Hint := ⟨chk 0 [0, 3, 4, 5, 6, 7] (fun i => i ≤ s.length) (jz22 s k), (ejz22 s k).map (·.2)⟩
theorem loop22z (s : List Int) (k : Nat) (h : ok22 s) (hk : k < 64) (R : Exit → St → Prop) : LoopOK (X [e63]) L22_2 (hz22 s k) R := by
 refine loop_ok (X_ok _) (H := fun _ _ => none) [0, 3, 4, 5, 6, 7] (fun i => i ≤ s.length) (jz22 s k) (fun i => s.length - i) (ejz22 s k) 150 fun (i : Nat) hi => ?_
 refine of_eq (q := True ∧ True ∧ True ∧ True ∧ ((i : Int) < (s.length : Int) → True ∧ True ∧ (inK s k i = true → True ∧ True ∧ True ∧ True ∧ (mxS s k i = true → True ∧ True ∧ idxPre (i : Int) s.length ∧ True ∧ True ∧ True ∧ True ∧ (s.getD i (0 : Int) = (k : Int) → True ∧ True ∧ True ∧ True ∧ inR .i64 ((i : Int) + 1) ∧ True ∧ ∃ (y : Nat), (y ≤ s.length ∧ s.length - y < s.length - i) ∧ (s = s ∧ True ∧ (k : Int) = (k : Int) ∧ true = inK s k y ∧ true = mxS s k y ∧ (i : Int) + 1 = (y : Int) ∧ True) ∧ True) ∧ (¬s.getD i (0 : Int) = (k : Int) → True ∧ True ∧ True ∧ idxPre (i : Int) s.length ∧ True ∧ ((((0 : Int) ≤ (k : Int) ∧ (k : Int) < 64) ∧ (0 : Int) ≤ s.getD i (0 : Int) ∧ s.getD i (0 : Int) < 64) ∧ True) ∧ True ∧ True ∧ True ∧ True ∧ True ∧ inR .i64 ((i : Int) + 1) ∧ True ∧ ∃ (y : Nat), (y ≤ s.length ∧ s.length - y < s.length - i) ∧ (s = s ∧ True ∧ (k : Int) = (k : Int) ∧ true = inK s k y ∧ (!sub k (Int.toNat (s.getD i (0 : Int)))) = mxS s k y ∧ (i : Int) + 1 = (y : Int) ∧ True) ∧ True)) ∧ (mxS s k i = false → True ∧ True ∧ True ∧ inR .i64 ((i : Int) + 1) ∧ True ∧ ∃ (y : Nat), (y ≤ s.length ∧ s.length - y < s.length - i) ∧ (s = s ∧ True ∧ (k : Int) = (k : Int) ∧ true = inK s k y ∧ false = mxS s k y ∧ (i : Int) + 1 = (y : Int) ∧ True) ∧ True)) ∧ (inK s k i = false → True ∧ True ∧ idxPre (i : Int) s.length ∧ True ∧ True ∧ True ∧ True ∧ True ∧ True ∧ True ∧ (mxS s k i = true → True ∧ True ∧ idxPre (i : Int) s.length ∧ True ∧ True ∧ True ∧ True ∧ (s.getD i (0 : Int) = (k : Int) → True ∧ True ∧ True ∧ True ∧ inR .i64 ((i : Int) + 1) ∧ True ∧ ∃ (y : Nat), (y ≤ s.length ∧ s.length - y < s.length - i) ∧ (s = s ∧ True ∧ (k : Int) = (k : Int) ∧ decide (s.getD i (0 : Int) = (k : Int)) = inK s k y ∧ true = mxS s k y ∧ (i : Int) + 1 = (y : Int) ∧ True) ∧ True) ∧ (¬s.getD i (0 : Int) = (k : Int) → True ∧ True ∧ True ∧ idxPre (i : Int) s.length ∧ True ∧ ((((0 : Int) ≤ (k : Int) ∧ (k : Int) < 64) ∧ (0 : Int) ≤ s.getD i (0 : Int) ∧ s.getD i (0 : Int) < 64) ∧ True) ∧ True ∧ True ∧ True ∧ True ∧ True ∧ inR .i64 ((i : Int) + 1) ∧ True ∧ ∃ (y : Nat), (y ≤ s.length ∧ s.length - y < s.length - i) ∧ (s = s ∧ True ∧ (k : Int) = (k : Int) ∧ decide (s.getD i (0 : Int) = (k : Int)) = inK s k y ∧ (!sub k (Int.toNat (s.getD i (0 : Int)))) = mxS s k y ∧ (i : Int) + 1 = (y : Int) ∧ True) ∧ True)) ∧ (mxS s k i = false → True ∧ True ∧ True ∧ inR .i64 ((i : Int) + 1) ∧ True ∧ ∃ (y : Nat), (y ≤ s.length ∧ s.length - y < s.length - i) ∧ (s = s ∧ True ∧ (k : Int) = (k : Int) ∧ decide (s.getD i (0 : Int) = (k : Int)) = inK s k y ∧ false = mxS s k y ∧ (i : Int) + 1 = (y : Int) ∧ True) ∧ True))) ∧ (¬(i : Int) < (s.length : Int) → ∃ (y : Unit), True ∧ (s = s ∧ True ∧ (k : Int) = (k : Int) ∧ inK s k i = inK s k s.length ∧ mxS s k i = mxS s k s.length ∧ True) ∧ True)) (by kernel_rfl) ?_
 simp only [zz]
 have hi : i ≤ s.length := hi
 obtain ⟨q1, q2⟩ := okL_get h.h i
 have hl := h.l
 refine ⟨fun hlt => ?_, fun hlt => by rw [show s.length = i by omega]; exact ⟨rfl, rfl⟩⟩
 have hx : idxPre (i : Int) s.length := idx_nat (by omega)
 have hn : ∀ b c, b = inK s k (i + 1) → c = mxS s k (i + 1) → inR .i64 ((i : Int) + 1) ∧ ∃ y : Nat, (y ≤ s.length ∧ s.length - y < s.length - i) ∧ b = inK s k y ∧ c = mxS s k y ∧ (i : Int) + 1 = (y : Int) := fun b c hb hc => ⟨by simp only [inR]; omega, i + 1, by omega, hb, hc, by omega⟩
 have hr : (0 ≤ (k : Int) ∧ (k : Int) < 64) ∧ 0 ≤ s.getD i 0 ∧ s.getD i 0 < 64 := ⟨⟨by omega, by omega⟩, q1, q2⟩
 refine ⟨fun hI => ⟨fun hM => ⟨hx, fun he => hn _ _ ?_ ?_, fun he => ⟨hx, hr, hn _ _ ?_ ?_⟩⟩, fun hM => hn _ _ ?_ ?_⟩, fun hI => ⟨hx, fun hM => ⟨hx, fun he => hn _ _ ?_ ?_, fun he => ⟨hx, hr, hn _ _ ?_ ?_⟩⟩, fun hM => hn _ _ ?_ ?_⟩⟩
 · rw [inK, hI]; try rfl
 · rw [mxS, hM, decide_eq_true he]; try rfl
 · rw [inK, hI]; try rfl
 · rw [mxS, hM, decide_eq_false he]; try rfl
 · rw [inK, hI]; try rfl
 · rw [mxS, hM]; try rfl
 · rw [inK, hI]; try rfl
 · rw [mxS, hM, decide_eq_true he]; try rfl
 · rw [inK, hI]; try rfl
 · rw [mxS, hM, decide_eq_false he]; try rfl
 · rw [inK, hI]; try rfl
 · rw [mxS, hM]; try rfl
def st22 (s : List Int) (k : Nat) : St := ⟨.sl I64 s :: dd 2 ++ .own 0 0 :: .int .i64 k :: dd 49, [.sc 0 3 I64 (trueN (pieB s) k)]⟩
def jt22 (s : List Int) (k i : Nat) : St := ⟨.sl I64 s :: dd 2 ++ .own 0 0 :: .int .i64 k :: .bool (inK s k i) :: .bool (mxS s k i) :: .int .i64 i :: dd 46, [.sc 0 3 I64 (trueN (pieB s) k)]⟩
def ejt22 (s : List Int) (k : Nat) : List (List Nat × Ex) := [([0, 3, 4, 5, 6], ⟨2, Unit, fun _ => True, fun _ => ⟨.sl I64 s :: dd 2 ++ .own 0 0 :: .int .i64 k :: .bool (inK s k s.length) :: .bool (mxS s k s.length) :: dd 47, [.sc 0 3 I64 (trueN (pieB s) k)]⟩⟩)]
def ht22 (s : List Int) (k : Nat) : Hint := ⟨chk 0 [0, 3, 4, 5, 6, 7] (fun i => i ≤ s.length) (jt22 s k), (ejt22 s k).map (·.2)⟩
theorem loop22t (s : List Int) (k : Nat) (h : ok22 s) (hk : k < 64) (R : Exit → St → Prop) : LoopOK (X [e63]) L22_2 (ht22 s k) R := by
 refine loop_ok (X_ok _) (H := fun _ _ => none) [0, 3, 4, 5, 6, 7] (fun i => i ≤ s.length) (jt22 s k) (fun i => s.length - i) (ejt22 s k) 150 fun (i : Nat) hi => ?_
 refine of_eq (q := True ∧ True ∧ True ∧ True ∧ ((i : Int) < (s.length : Int) → True ∧ True ∧ (inK s k i = true → True ∧ True ∧ True ∧ True ∧ (mxS s k i = true → True ∧ True ∧ idxPre (i : Int) s.length ∧ True ∧ True ∧ True ∧ True ∧ (s.getD i (0 : Int) = (k : Int) → True ∧ True ∧ True ∧ True ∧ inR .i64 ((i : Int) + 1) ∧ True ∧ ∃ (y : Nat), (y ≤ s.length ∧ s.length - y < s.length - i) ∧ (s = s ∧ True ∧ (k : Int) = (k : Int) ∧ true = inK s k y ∧ true = mxS s k y ∧ (i : Int) + 1 = (y : Int) ∧ True) ∧ trueN (pieB s) k = trueN (pieB s) k ∧ True) ∧ (¬s.getD i (0 : Int) = (k : Int) → True ∧ True ∧ True ∧ idxPre (i : Int) s.length ∧ True ∧ ((((0 : Int) ≤ (k : Int) ∧ (k : Int) < 64) ∧ (0 : Int) ≤ s.getD i (0 : Int) ∧ s.getD i (0 : Int) < 64) ∧ True) ∧ True ∧ True ∧ True ∧ True ∧ True ∧ inR .i64 ((i : Int) + 1) ∧ True ∧ ∃ (y : Nat), (y ≤ s.length ∧ s.length - y < s.length - i) ∧ (s = s ∧ True ∧ (k : Int) = (k : Int) ∧ true = inK s k y ∧ (!sub k (Int.toNat (s.getD i (0 : Int)))) = mxS s k y ∧ (i : Int) + 1 = (y : Int) ∧ True) ∧ trueN (pieB s) k = trueN (pieB s) k ∧ True)) ∧ (mxS s k i = false → True ∧ True ∧ True ∧ inR .i64 ((i : Int) + 1) ∧ True ∧ ∃ (y : Nat), (y ≤ s.length ∧ s.length - y < s.length - i) ∧ (s = s ∧ True ∧ (k : Int) = (k : Int) ∧ true = inK s k y ∧ false = mxS s k y ∧ (i : Int) + 1 = (y : Int) ∧ True) ∧ trueN (pieB s) k = trueN (pieB s) k ∧ True)) ∧ (inK s k i = false → True ∧ True ∧ idxPre (i : Int) s.length ∧ True ∧ True ∧ True ∧ True ∧ True ∧ True ∧ True ∧ (mxS s k i = true → True ∧ True ∧ idxPre (i : Int) s.length ∧ True ∧ True ∧ True ∧ True ∧ (s.getD i (0 : Int) = (k : Int) → True ∧ True ∧ True ∧ True ∧ inR .i64 ((i : Int) + 1) ∧ True ∧ ∃ (y : Nat), (y ≤ s.length ∧ s.length - y < s.length - i) ∧ (s = s ∧ True ∧ (k : Int) = (k : Int) ∧ decide (s.getD i (0 : Int) = (k : Int)) = inK s k y ∧ true = mxS s k y ∧ (i : Int) + 1 = (y : Int) ∧ True) ∧ trueN (pieB s) k = trueN (pieB s) k ∧ True) ∧ (¬s.getD i (0 : Int) = (k : Int) → True ∧ True ∧ True ∧ idxPre (i : Int) s.length ∧ True ∧ ((((0 : Int) ≤ (k : Int) ∧ (k : Int) < 64) ∧ (0 : Int) ≤ s.getD i (0 : Int) ∧ s.getD i (0 : Int) < 64) ∧ True) ∧ True ∧ True ∧ True ∧ True ∧ True ∧ inR .i64 ((i : Int) + 1) ∧ True ∧ ∃ (y : Nat), (y ≤ s.length ∧ s.length - y < s.length - i) ∧ (s = s ∧ True ∧ (k : Int) = (k : Int) ∧ decide (s.getD i (0 : Int) = (k : Int)) = inK s k y ∧ (!sub k (Int.toNat (s.getD i (0 : Int)))) = mxS s k y ∧ (i : Int) + 1 = (y : Int) ∧ True) ∧ trueN (pieB s) k = trueN (pieB s) k ∧ True)) ∧ (mxS s k i = false → True ∧ True ∧ True ∧ inR .i64 ((i : Int) + 1) ∧ True ∧ ∃ (y : Nat), (y ≤ s.length ∧ s.length - y < s.length - i) ∧ (s = s ∧ True ∧ (k : Int) = (k : Int) ∧ decide (s.getD i (0 : Int) = (k : Int)) = inK s k y ∧ false = mxS s k y ∧ (i : Int) + 1 = (y : Int) ∧ True) ∧ trueN (pieB s) k = trueN (pieB s) k ∧ True))) ∧ (¬(i : Int) < (s.length : Int) → ∃ (y : Unit), True ∧ (s = s ∧ True ∧ (k : Int) = (k : Int) ∧ inK s k i = inK s k s.length ∧ mxS s k i = mxS s k s.length ∧ True) ∧ trueN (pieB s) k = trueN (pieB s) k ∧ True)) (by kernel_rfl) ?_
 simp only [zz]
 have hi : i ≤ s.length := hi
 obtain ⟨q1, q2⟩ := okL_get h.h i
 have hl := h.l
 refine ⟨fun hlt => ?_, fun hlt => by rw [show s.length = i by omega]; exact ⟨rfl, rfl⟩⟩
 have hx : idxPre (i : Int) s.length := idx_nat (by omega)
 have hn : ∀ b c, b = inK s k (i + 1) → c = mxS s k (i + 1) → inR .i64 ((i : Int) + 1) ∧ ∃ y : Nat, (y ≤ s.length ∧ s.length - y < s.length - i) ∧ b = inK s k y ∧ c = mxS s k y ∧ (i : Int) + 1 = (y : Int) := fun b c hb hc => ⟨by simp only [inR]; omega, i + 1, by omega, hb, hc, by omega⟩
 have hr : (0 ≤ (k : Int) ∧ (k : Int) < 64) ∧ 0 ≤ s.getD i 0 ∧ s.getD i 0 < 64 := ⟨⟨by omega, by omega⟩, q1, q2⟩
 refine ⟨fun hI => ⟨fun hM => ⟨hx, fun he => hn _ _ ?_ ?_, fun he => ⟨hx, hr, hn _ _ ?_ ?_⟩⟩, fun hM => hn _ _ ?_ ?_⟩, fun hI => ⟨hx, fun hM => ⟨hx, fun he => hn _ _ ?_ ?_, fun he => ⟨hx, hr, hn _ _ ?_ ?_⟩⟩, fun hM => hn _ _ ?_ ?_⟩⟩
 · rw [inK, hI]; try rfl
 · rw [mxS, hM, decide_eq_true he]; try rfl
 · rw [inK, hI]; try rfl
 · rw [mxS, hM, decide_eq_false he]; try rfl
 · rw [inK, hI]; try rfl
 · rw [mxS, hM]; try rfl
 · rw [inK, hI]; try rfl
 · rw [mxS, hM, decide_eq_true he]; try rfl
 · rw [inK, hI]; try rfl
 · rw [mxS, hM, decide_eq_false he]; try rfl
 · rw [inK, hI]; try rfl
 · rw [mxS, hM]; try rfl
noncomputable def fm22 (s : List Int) : List Fam := [⟨Nat, fun k => k ≤ 64 ∧ trueN (pieB s) k = [], sz22 s, fun k => 64 - k, fun k _ => some (hz22 s k)⟩, ⟨Nat, fun k => k ≤ 64, st22 s, fun k => 64 - k, fun k _ => some (ht22 s k)⟩]
def ex22 (s : List Int) : List (List Nat × Ex) := [([3], ⟨0, Unit, fun _ => pieL s = [], fun _ => ⟨dd 3 ++ nl :: dd 50, []⟩⟩), ([3], ⟨0, Unit, fun _ => True, fun _ => ⟨dd 3 ++ .own 0 0 :: dd 50, [.sc 0 3 I64 (pieL s)]⟩⟩)]
noncomputable def H22 (s : List Int) : Nat → Option Hint := fun _ => some ⟨chks 0 [0, 3, 4] (fm22 s), (ex22 s).map (·.2)⟩
theorem loop22 (s : List Int) (h : ok22 s) (R : Exit → St → Prop) : LoopOK (X [e63]) L22_0 ⟨chks 0 [0, 3, 4] (fm22 s), (ex22 s).map (·.2)⟩ R := by
 refine loop_fams (X_ok _) [0, 3, 4] (fm22 s) (ex22 s) 150 ⟨fun (k : Nat) hk => ?_, fun (k : Nat) hk => ?_, trivial⟩
 · have hL := fun hk => loop22z s k h hk
   refine of_eq (q := True ∧ True ∧ ((k : Int) < 64 → True ∧ True ∧ True ∧ LoopOK (X [e63]) L22_2 (hz22 s k) (bodyR (X [e63]).m0 (ex22 s) R) ∧ (∃ (y : Nat), y ≤ s.length ∧ (s = s ∧ True ∧ (k : Int) = (k : Int) ∧ false = inK s k y ∧ true = mxS s k y ∧ (0 : Int) = (y : Int) ∧ True) ∧ True) ∧ (∀ (y : Unit), True → True ∧ True ∧ (inK s k s.length = true → True ∧ True ∧ (mxS s k s.length = true → True ∧ True ∧ True ∧ sumPre (0 : Nat) [(k : Int)].length (nat_lit 8) ∧ True ∧ True ∧ inR .i64 ((k : Int) + 1) ∧ True ∧ ((∃ (y : Nat), ((y ≤ 64 ∧ trueN (pieB s) y = []) ∧ (64 : Nat) - y < 64 - k) ∧ (s = s ∧ False ∧ (k : Int) + 1 = (y : Int) ∧ True) ∧ True) ∨ ∃ (y : Nat), (y ≤ 64 ∧ (64 : Nat) - y < 64 - k) ∧ (s = s ∧ True ∧ (k : Int) + 1 = (y : Int) ∧ True) ∧ [(k : Int)] = trueN (pieB s) y ∧ True)) ∧ (mxS s k s.length = false → True ∧ inR .i64 ((k : Int) + 1) ∧ True ∧ ((∃ (y : Nat), ((y ≤ 64 ∧ trueN (pieB s) y = []) ∧ (64 : Nat) - y < 64 - k) ∧ (s = s ∧ True ∧ (k : Int) + 1 = (y : Int) ∧ True) ∧ True) ∨ ∃ (y : Nat), (y ≤ 64 ∧ (64 : Nat) - y < 64 - k) ∧ (s = s ∧ False ∧ (k : Int) + 1 = (y : Int) ∧ True) ∧ False))) ∧ (inK s k s.length = false → True ∧ True ∧ inR .i64 ((k : Int) + 1) ∧ True ∧ ((∃ (y : Nat), ((y ≤ 64 ∧ trueN (pieB s) y = []) ∧ (64 : Nat) - y < 64 - k) ∧ (s = s ∧ True ∧ (k : Int) + 1 = (y : Int) ∧ True) ∧ True) ∨ ∃ (y : Nat), (y ≤ 64 ∧ (64 : Nat) - y < 64 - k) ∧ (s = s ∧ False ∧ (k : Int) + 1 = (y : Int) ∧ True) ∧ False))) ∧ True) ∧ (¬(k : Int) < 64 → (∃ (y : Unit), pieL s = [] ∧ (True ∧ True) ∧ True) ∨ ∃ (y : Unit), True ∧ (False ∧ True) ∧ False)) (by kernel_rfl) ?_
   simp only [zz]
   obtain ⟨k1, k2⟩ := hk
   have hf : k < 64 → pieB s k = false → inR .i64 ((k : Int) + 1) ∧ ∃ y : Nat, ((y ≤ 64 ∧ trueN (pieB s) y = []) ∧ 64 - y < 64 - k) ∧ (k : Int) + 1 = (y : Int) := fun h3 hb => ⟨by simp only [inR]; omega, k + 1, ⟨⟨by omega, by rw [trueN, hb, k2]; rfl⟩, by omega⟩, by omega⟩
   have hz : ∃ y : Nat, y ≤ s.length ∧ false = inK s k y ∧ true = mxS s k y ∧ (0 : Int) = (y : Int) := ⟨0, Nat.zero_le _, rfl, rfl, rfl⟩
   refine ⟨fun h3 => ⟨hL (by omega) _, hz, fun _ _ => ⟨fun hI => ⟨fun hM => ⟨by unfold sumPre; simp, by simp only [inR]; omega, k + 1, by omega, by omega, ?_⟩, fun hM => hf (by omega) ?_⟩, fun hI => hf (by omega) ?_⟩⟩, fun h3 => ?_⟩
   · have hb : pieB s k = true := by unfold pieB; rw [hI, hM]; try rfl
     rw [trueN, if_pos hb, k2]; try rfl
   · unfold pieB; rw [hI, hM]; try rfl
   · unfold pieB; rw [hI]; try rfl
   · unfold pieL; rw [show 64 = k by omega, k2]
 · have hL := fun hk => loop22t s k h hk
   refine of_eq (q := True ∧ True ∧ ((k : Int) < 64 → True ∧ True ∧ True ∧ LoopOK (X [e63]) L22_2 (ht22 s k) (bodyR (X [e63]).m0 (ex22 s) R) ∧ (∃ (y : Nat), y ≤ s.length ∧ (s = s ∧ True ∧ (k : Int) = (k : Int) ∧ false = inK s k y ∧ true = mxS s k y ∧ (0 : Int) = (y : Int) ∧ True) ∧ trueN (pieB s) k = trueN (pieB s) k ∧ True) ∧ (∀ (y : Unit), True → True ∧ True ∧ (inK s k s.length = true → True ∧ True ∧ (mxS s k s.length = true → True ∧ True ∧ True ∧ sumPre (trueN (pieB s) k).length [(k : Int)].length (nat_lit 8) ∧ True ∧ True ∧ inR .i64 ((k : Int) + 1) ∧ True ∧ ((∃ (y : Nat), ((y ≤ 64 ∧ trueN (pieB s) y = []) ∧ (64 : Nat) - y < 64 - k) ∧ (s = s ∧ False ∧ (k : Int) + 1 = (y : Int) ∧ True) ∧ True) ∨ ∃ (y : Nat), (y ≤ 64 ∧ (64 : Nat) - y < 64 - k) ∧ (s = s ∧ True ∧ (k : Int) + 1 = (y : Int) ∧ True) ∧ trueN (pieB s) k ++ [(k : Int)] = trueN (pieB s) y ∧ True)) ∧ (mxS s k s.length = false → True ∧ inR .i64 ((k : Int) + 1) ∧ True ∧ ((∃ (y : Nat), ((y ≤ 64 ∧ trueN (pieB s) y = []) ∧ (64 : Nat) - y < 64 - k) ∧ (s = s ∧ False ∧ (k : Int) + 1 = (y : Int) ∧ True) ∧ True) ∨ ∃ (y : Nat), (y ≤ 64 ∧ (64 : Nat) - y < 64 - k) ∧ (s = s ∧ True ∧ (k : Int) + 1 = (y : Int) ∧ True) ∧ trueN (pieB s) k = trueN (pieB s) y ∧ True))) ∧ (inK s k s.length = false → True ∧ True ∧ inR .i64 ((k : Int) + 1) ∧ True ∧ ((∃ (y : Nat), ((y ≤ 64 ∧ trueN (pieB s) y = []) ∧ (64 : Nat) - y < 64 - k) ∧ (s = s ∧ False ∧ (k : Int) + 1 = (y : Int) ∧ True) ∧ True) ∨ ∃ (y : Nat), (y ≤ 64 ∧ (64 : Nat) - y < 64 - k) ∧ (s = s ∧ True ∧ (k : Int) + 1 = (y : Int) ∧ True) ∧ trueN (pieB s) k = trueN (pieB s) y ∧ True))) ∧ True) ∧ (¬(k : Int) < 64 → (∃ (y : Unit), pieL s = [] ∧ (False ∧ True) ∧ True) ∨ ∃ (y : Unit), True ∧ (True ∧ True) ∧ trueN (pieB s) k = pieL s ∧ True)) (by kernel_rfl) ?_
   simp only [zz]
   have hk : k ≤ 64 := hk
   have hl := trueN_len (pieB s) k
   have hf : k < 64 → pieB s k = false → inR .i64 ((k : Int) + 1) ∧ ∃ y : Nat, (y ≤ 64 ∧ 64 - y < 64 - k) ∧ (k : Int) + 1 = (y : Int) ∧ trueN (pieB s) k = trueN (pieB s) y := fun h3 hb => ⟨by simp only [inR]; omega, k + 1, by omega, by omega, by rw [trueN, hb]; rfl⟩
   have hz : ∃ y : Nat, y ≤ s.length ∧ false = inK s k y ∧ true = mxS s k y ∧ (0 : Int) = (y : Int) := ⟨0, Nat.zero_le _, rfl, rfl, rfl⟩
   refine ⟨fun h3 => ⟨hL (by omega) _, hz, fun _ _ => ⟨fun hI => ⟨fun hM => ⟨by unfold sumPre; simp; omega, by simp only [inR]; omega, k + 1, by omega, by omega, ?_⟩, fun hM => hf (by omega) ?_⟩, fun hI => hf (by omega) ?_⟩⟩, fun h3 => ?_⟩
   · have hb : pieB s k = true := by unfold pieB; rw [hI, hM]; try rfl
     rw [trueN, if_pos hb]; try rfl
   · unfold pieB; rw [hI, hM]; try rfl
   · unfold pieB; rw [hI]; try rfl
   · unfold pieL; rw [show 64 = k by omega]
theorem call22 (s : List Int) (h : ok22 s) : GCall Try.prog gl 22 true [.sl I64 s] [] [.sl I64 (pieL s)] [] := by
 refine gcall_of (X := (X [e63])) ((X_ok _)) (f := 22) (fn := Try.f22) (c := bodyOf Try.f22) (by kernel_rfl) (by kernel_rfl) (view := true) (rvs := [.tmp 2]) (by kernel_rfl) (H := (H22 s)) 80 (by kernel_rfl) ?_
 have hL := loop22 s h
 refine of_eq (q := True ∧ True ∧ True ∧ LoopOK (X [e63]) L22_0 { J := chks (0 : Nat) [(0 : Nat), (3 : Nat), (4 : Nat)] (fm22 s), exits := List.map (fun (x : List Nat × Ex) => x.snd) (ex22 s) } (RetR (X [e63]) true true [ResultVar.tmp (2 : Tmp)] [AV.sl I64 (pieL s)] []) ∧ ((∃ (y : Nat), (y ≤ 64 ∧ trueN (pieB s) y = []) ∧ (s = s ∧ True ∧ (0 : Int) = (y : Int) ∧ True) ∧ True) ∨ ∃ (y : Nat), y ≤ 64 ∧ (s = s ∧ False ∧ (0 : Int) = (y : Int) ∧ True) ∧ False) ∧ (∀ (y : Unit), pieL s = [] → True ∧ True ∧ True ∧ (([] : List Int) = pieL s ∧ True) ∧ True) ∧ (∀ (y : Unit), True → True ∧ True ∧ True ∧ (pieL s = pieL s ∧ True) ∧ True) ∧ True) (by kernel_rfl) ?_
 simp only [zz]
 exact ⟨hL _, ⟨0, ⟨Nat.zero_le _, rfl⟩, rfl⟩, fun _ h => h.symm, fun _ h => h⟩
def e22 : Entry Try.prog gl := entry1 22 ⟨Try.f22, by kernel_rfl, by kernel_rfl, by kernel_rfl⟩ SI (fun s => ok22 s) true (fun s => [.sl I64 (pieL s)]) (fun _ => []) (call22)
end Go.Am.Sh

/- Shells: tame. -/
namespace Go.Am.Sh
open Go Go.Am Go.Proofs
noncomputable def Xh (l : EL) (hs : Nat → Bool) (dr : Nat → Option Nat) : Cy := { Xd l dr with hs := hs }
theorem Xh_ok (l : EL) (hs : Nat → Bool) (dr : Nat → Option Nat) : (Xh l hs dr).Ok := { tt := (Xd_ok l dr).tt, Γ := (Xd_ok l dr).Γ, Γd := (Xd_ok l dr).Γd, Yl := (Xd_ok l dr).Yl }
theorem inK_iff {s : List Int} {x : Nat} : ∀ {k : Nat}, inK s x k = true ↔ ∃ i, i < k ∧ s.getD i 0 = x
 | 0 => by simp [inK]
 | k + 1 => by
   rw [inK, Bool.or_eq_true, inK_iff, decide_eq_true_eq]
   constructor
   · rintro (⟨i, h1, h2⟩ | h)
     · exact ⟨i, by omega, h2⟩
     · exact ⟨k, by omega, h⟩
   · rintro ⟨i, h1, h2⟩
     rcases Nat.lt_or_ge i k with h3 | h3
     · exact .inl ⟨i, h3, h2⟩
     · exact .inr (by rw [show k = i by omega]; exact h2)
theorem mxS_iff {s : List Int} {x : Nat} : ∀ {k : Nat}, mxS s x k = true ↔ ∀ i, i < k → s.getD i 0 = x ∨ sub x (s.getD i 0).toNat = false
 | 0 => by simp [mxS]
 | k + 1 => by
   rw [mxS, Bool.and_eq_true, mxS_iff, Bool.or_eq_true, decide_eq_true_eq, Bool.not_eq_true']
   constructor
   · rintro ⟨h1, h2⟩ i hi
     rcases Nat.lt_or_ge i k with h3 | h3
     · exact h1 i h3
     · rw [show i = k by omega]; exact h2
   · intro h
     exact ⟨fun i hi => h i (by omega), h k (by omega)⟩
theorem pie_mem {s : List Int} {y : Int} (h : y ∈ pieL s) : ∃ x : Nat, y = x ∧ x < 64 ∧ (∃ i, i < s.length ∧ s.getD i 0 = x) ∧ ∀ i, i < s.length → s.getD i 0 = x ∨ sub x (s.getD i 0).toNat = false := by
 obtain ⟨x, h1, h2, h3⟩ := trueN_mem h
 unfold pieB at h3
 rw [Bool.and_eq_true, inK_iff, mxS_iff] at h3
 exact ⟨x, h1, h2, h3.1, h3.2⟩
theorem pie_pos {s : List Int} (h1 : ∃ i, i < s.length ∧ 1 ≤ s.getD i 0) : ∀ y ∈ pieL s, 1 ≤ y := fun y hy => by
 obtain ⟨x, rfl, h2, h3, h4⟩ := pie_mem hy
 obtain ⟨i, hi, h5⟩ := h1
 rcases Nat.eq_zero_or_pos x with h0 | h0
 · subst h0
   rcases h4 i hi with h6 | h6
   · omega
   · rw [sub_zero] at h6; cases h6
 · omega
theorem max_ex (s : List Int) : ∀ k, ∃ i, i < k + 1 ∧ ∀ j, j < k + 1 → s.getD j 0 ≤ s.getD i 0
 | 0 => ⟨0, by omega, fun j hj => by rw [show j = 0 by omega]; exact Int.le_refl _⟩
 | k + 1 => by
   obtain ⟨i, h1, h2⟩ := max_ex s k
   by_cases h : s.getD i 0 ≤ s.getD (k + 1) 0
   · refine ⟨k + 1, by omega, fun j hj => ?_⟩
     rcases Nat.lt_or_ge j (k + 1) with h3 | h3
     · exact Int.le_trans (h2 j h3) h
     · rw [show j = k + 1 by omega]; exact Int.le_refl _
   · refine ⟨i, by omega, fun j hj => ?_⟩
     rcases Nat.lt_or_ge j (k + 1) with h3 | h3
     · exact h2 j h3
     · rw [show j = k + 1 by omega]; omega
theorem pie_ne {s : List Int} (h : okL s) (hl : 1 ≤ s.length) : 1 ≤ (pieL s).length := by
 obtain ⟨k, hk⟩ : ∃ k, s.length = k + 1 := ⟨s.length - 1, by omega⟩
 obtain ⟨i, h1, h2⟩ := max_ex s k
 have hr := okL_get h i
 have hb : pieB s (s.getD i 0).toNat = true := by
   unfold pieB
   rw [Bool.and_eq_true, inK_iff, mxS_iff]
   refine ⟨⟨i, by omega, by omega⟩, fun j hj => ?_⟩
   have h3 := h2 j (by omega)
   have h4 := okL_get h j
   cases hs : sub (s.getD i 0).toNat (s.getD j 0).toNat with
   | false => exact .inr rfl
   | true => have := sub_le hs; exact .inl (by omega)
 have := trueN_has (g := pieB s) (k := 64) (by omega) hb
 exact List.length_pos_of_mem this
end Go.Am.Sh

/- Shells: the reference's Counts, choose, Hs, Euler. -/
namespace Go.Am.Sh
open Go Go.Am Go.Proofs
def chK (n : Int) : Nat → Int
 | 0 => 1
 | k + 1 => (chK n k * (n - (k + 1) + 1)).tdiv (k + 1)
end Go.Am.Sh

/- Shells: the reference's Hs and Euler. -/
namespace Go.Am.Sh
open Go Go.Am Go.Proofs
def sg (j : Nat) : Int := 1 - 2 * ((j % 2 : Nat) : Int)
def htm (f : List Int) (k i : Nat) : Int := f.getD i 0 * chK ((f.length - 1 - i : Nat) : Int) (k - i) * sg (k - i)
def hsum (f : List Int) (k : Nat) : Nat → Int
 | 0 => 0
 | i + 1 => hsum f k i + htm f k i
def rhL (f : List Int) : List Int := (List.range f.length).map fun j => hsum f j (j + 1)
structure okF (f : List Int) : Prop where
 b : bdd 64 f
 l : 1 ≤ f.length ∧ f.length ≤ 7
end Go.Am.Sh

/- Shells: the law of the counts. -/
namespace Go.Am.Sh
open Go Go.Am Go.Proofs
theorem hq1 (a : Int) : hsK [a] 1 = rhL [a] := by
 simp [hsK, rhL, hsum, htm, sg, chK]
theorem hq2 (a b : Int) : hsK [a, b] 2 = rhL [a, b] := by
 simp [hsK, rhL, hsum, htm, sg, chK, triJ, List.range_succ]
 try omega
theorem hq3 (a b c : Int) : hsK [a, b, c] 3 = rhL [a, b, c] := by
 simp [hsK, rhL, hsum, htm, sg, chK, triJ, List.range_succ]
 try omega
end Go.Am.Sh

/- Shells: Made. -/
namespace Go.Am.Sh
open Go Go.Am Go.Proofs
def obN (n : Int) : List Ob := [.bx (.int .i64 n)]
def badB (n s : Int) : Bool := decide (s < 0 ∨ 2 ^ n.toNat ≤ s)
theorem call60 (n s : Int) (h : numOk n) : GCall Try.prog gl 60 false [.int .i64 s, .ptr 0 0 []] (obN n) [.bool (badB n s)] (obN n) := by
 refine gcall_of (X := (Xm [] 1 (fun _ => none))) ((Xm_ok _ _ _)) (f := 60) (fn := Try.f60) (c := bodyOf Try.f60) (by kernel_rfl) (by kernel_rfl) (view := false) (rvs := [.tmp 3]) (by kernel_rfl) (H := fun _ => none) 80 (by kernel_rfl) ?_
 refine of_eq (q := True ∧ True ∧ True ∧ True ∧ (s < 0 → True ∧ True ∧ True ∧ (true = badB n s ∧ True) ∧ n = n ∧ True) ∧ (¬s < 0 → True ∧ True ∧ inR .u64 n ∧ (((0 : Int) ≤ n ∧ n < bitsOf .i64) ∧ (-9223372036854775808 : Int) ≤ 1 * 2 ^ n.toNat ∧ (1 : Int) * 2 ^ n.toNat ≤ 9223372036854775807) ∧ True ∧ True ∧ True ∧ True ∧ (decide ((1 : Int) * 2 ^ n.toNat ≤ s) = badB n s ∧ True) ∧ n = n ∧ True)) (by kernel_rfl) ?_
 simp only [zz]
 obtain ⟨e1, e2, e3⟩ := numOk_pow h
 obtain ⟨n1, n2⟩ := h
 rw [Int.one_mul, ← e1]
 refine ⟨fun hs => (decide_eq_true (.inl hs)).symm, fun hs => ⟨by simp only [inR]; omega, ⟨⟨by omega, by simp only [bitsOf]; omega⟩, by omega, by omega⟩, ?_⟩⟩
 unfold badB
 rw [← e1, decide_eq_decide]; omega
def get60 (xs : List AV) (obs : List Ob) : Option (Int × Int) :=
 match xs, obs with
 | [.int .i64 s, _], [.bx (.int .i64 n)] => some (n, s)
 | _, _ => none
def e60 : Entry Try.prog gl := entryW 60 ⟨Try.f60, by kernel_rfl, by kernel_rfl, by kernel_rfl⟩ true get60 (fun x => numOk x.1) false (fun x => [.int .i64 x.2, .ptr 0 0 []]) (fun x => obN x.1) (fun x => [.bool (badB x.1 x.2)]) (fun x => obN x.1) (fun x h => call60 _ _ h)
def clo60 : AV := .clo 60 [] [.ptr 0 0 []]
def bdX (n : Int) (p : List Int) : Int := if ∃ s ∈ p, badB n s = true then ((p.findIdx (badB n) : Nat) : Int) else -1
def iv83 (n : Int) (p : List Int) (k : Nat) : Prop := k ≤ p.length ∧ ∀ q ∈ p.take k, badB n q = false
def su83 (n : Int) (p : List Int) (k : Nat) : St := ⟨.sl I64 p :: clo60 :: dd 5 ++ .int .i64 p.length :: .int .i64 k :: dd 10, obN n⟩
def ev83 (n : Int) (p : List Int) : List (List Nat × Ex) := [([], ⟨0, Unit, fun _ => ∀ q ∈ p, badB n q = false, fun _ => ⟨dd 19, obN n⟩⟩)]
noncomputable def Hv83 (n : Int) (p : List Int) : Nat → Option Hint := fun _ => some ⟨chk 1 [0, 1, 7, 8] (iv83 n p) (su83 n p), (ev83 n p).map (·.2)⟩
noncomputable abbrev Xv83 : Cy := Xm [e60] 1 (fun _ => none)
theorem loop83m (n : Int) (p : List Int) (hn : numOk n) (hl : p.length ≤ 64) : LoopOK Xv83 L83_0 ⟨chk 1 [0, 1, 7, 8] (iv83 n p) (su83 n p), (ev83 n p).map (·.2)⟩ (RetR Xv83 false false [.tmp 4] [.int .i64 (bdX n p)] (obN n)) := by
 refine loop_ok (Xm_ok _ _ _) (H := fun _ _ => none) [0, 1, 7, 8] (iv83 n p) (su83 n p) (fun k => p.length - k) (ev83 n p) 90 fun (k : Nat) hk => ?_
 refine of_eq (q := True ∧ ((k : Int) < (p.length : Int) → True ∧ True ∧ True ∧ True ∧ True ∧ idxPre (k : Int) p.length ∧ True ∧ ((numOk n ∧ (p.getD k (0 : Int) = p.getD k (0 : Int) ∧ True ∧ True) ∧ n = n ∧ True) ∧ True ∧ True) ∧ (badB n (p.getD k (0 : Int)) = true → True ∧ True ∧ True ∧ ((k : Int) = bdX n p ∧ True) ∧ n = n ∧ True) ∧ (badB n (p.getD k (0 : Int)) = false → inR .i64 ((k : Int) + 1) ∧ True ∧ ∃ (y : Nat), (iv83 n p y ∧ p.length - y < p.length - k) ∧ (p = p ∧ (True ∧ True ∧ True) ∧ (p.length : Int) = (p.length : Int) ∧ (k : Int) + 1 = (y : Int) ∧ True) ∧ n = n ∧ True)) ∧ (¬(k : Int) < (p.length : Int) → ∃ (y : Unit), (∀ (q : Int), q ∈ p → badB n q = false) ∧ True ∧ n = n ∧ True)) (by kernel_rfl) ?_
 simp only [zz]
 obtain ⟨h1, h2⟩ := hk
 refine ⟨fun hk => ?_, fun hk => ?_⟩
 · have hk : k < p.length := by omega
   refine ⟨idx_nat hk, hn, fun hx => ?_, fun hx => ⟨by simp only [inR]; omega, k + 1, ⟨⟨by omega, (all_take (d := 0) hk).mpr ⟨h2, hx⟩⟩, by omega⟩, by omega⟩⟩
   unfold bdX
   rw [if_pos ⟨_, mem_getD hk, hx⟩, find_at hk h2 hx]
 · rwa [List.take_of_length_le (by omega)] at h2
theorem call83m (n : Int) (p : List Int) (hn : numOk n) (hl : p.length ≤ 64) : GCall Try.prog gl 83 false [.sl I64 p, clo60] (obN n) [.int .i64 (bdX n p)] (obN n) := by
 refine gcall_of (X := Xv83) ((Xm_ok _ _ _)) (f := 83) (fn := Try.f83) (c := bodyOf Try.f83) (by kernel_rfl) (by kernel_rfl) (view := false) (rvs := [.tmp 4]) (by kernel_rfl) (H := (Hv83 n p)) 80 (by kernel_rfl) ?_
 have hL := loop83m n p hn hl
 refine of_eq (q := True ∧ True ∧ True ∧ True ∧ LoopOK Xv83 L83_0 { J := chk (1 : Nat) [(0 : Nat), (1 : Nat), (7 : Nat), (8 : Nat)] (iv83 n p) (su83 n p), exits := List.map (fun (x : List Nat × Ex) => x.snd) (ev83 n p) } (RetR Xv83 false false [ResultVar.tmp (4 : Tmp)] [AV.int .i64 (bdX n p)] (obN n)) ∧ (∃ (y : Nat), iv83 n p y ∧ (p = p ∧ (True ∧ True ∧ True) ∧ (p.length : Int) = (p.length : Int) ∧ (0 : Int) = (y : Int) ∧ True) ∧ n = n ∧ True) ∧ (∀ (y : Unit), (∀ (q : Int), q ∈ p → badB n q = false) → True ∧ True ∧ ((-1 : Int) = bdX n p ∧ True) ∧ n = n ∧ True) ∧ True) (by kernel_rfl) ?_
 simp only [zz]
 refine ⟨hL, ⟨0, ⟨by omega, by simp⟩, rfl⟩, fun _ h => ?_⟩
 unfold bdX; rw [if_neg]
 rintro ⟨q, h1, h2⟩
 rw [h q h1] at h2; cases h2
def get83m (xs : List AV) (obs : List Ob) : Option (List Int × Int) :=
 match xs, obs with
 | [.sl e l, _], [.bx (.int .i64 n)] => (castL e I64 l).map fun l => (l, n)
 | _, _ => none
structure ok83m (x : List Int × Int) : Prop where
 n : numOk x.2
 l : x.1.length ≤ 64
def e83m : Entry Try.prog gl := entryW 83 ⟨Try.f83, by kernel_rfl, by kernel_rfl, by kernel_rfl⟩ true get83m ok83m false (fun x => [.sl I64 x.1, clo60]) (fun x => obN x.2) (fun x => [.int .i64 (bdX x.2 x.1)]) (fun x => obN x.2) (fun x h => call83m _ _ h.n h.l)
def badL (n : Int) (p : List Int) : Bool := p.any (badB n)
theorem bdX_iff {n : Int} {p : List Int} : 0 ≤ bdX n p ↔ badL n p = true := by
 unfold bdX badL
 rw [List.any_eq_true]
 constructor
 · intro h
   refine Classical.byContradiction fun h2 => ?_
   rw [if_neg h2] at h
   omega
 · intro h
   rw [if_pos h]; omega
theorem call59m (n : Int) (p : List Int) (hn : numOk n) (hl : p.length ≤ 64) : GCall Try.prog gl 59 false [.sl I64 p, clo60] (obN n) [.bool (badL n p)] (obN n) := by
 refine gcall_of (X := (Xm [e83m] 1 (fun _ => none))) ((Xm_ok _ _ _)) (f := 59) (fn := Try.f59) (c := bodyOf Try.f59) (by kernel_rfl) (by kernel_rfl) (view := false) (rvs := [.tmp 4]) (by kernel_rfl) (H := fun _ => none) 80 (by kernel_rfl) ?_
 refine of_eq (q := True ∧ True ∧ True ∧ ((ok83m (p, n) ∧ (p = p ∧ (True ∧ True ∧ True) ∧ True) ∧ n = n ∧ True) ∧ True ∧ True) ∧ True ∧ True ∧ True ∧ (decide ((0 : Int) ≤ bdX n p) = badL n p ∧ True) ∧ n = n ∧ True) (by kernel_rfl) ?_
 simp only [zz]
 refine ⟨⟨hn, hl⟩, ?_⟩
 have := bdX_iff (n := n) (p := p)
 cases h : badL n p <;> simp [h] at this ⊢ <;> omega
def e59m : Entry Try.prog gl := entryW 59 ⟨Try.f59, by kernel_rfl, by kernel_rfl, by kernel_rfl⟩ true get83m ok83m false (fun x => [.sl I64 x.1, clo60]) (fun x => obN x.2) (fun x => [.bool (badL x.2 x.1)]) (fun x => obN x.2) (fun x h => call59m _ _ h.n h.l)
def madOk (n : Int) (p : List Int) : Prop := numOk n ∧ p.length ≤ 64 ∧ badL n p = false
instance (n p) : Decidable (madOk n p) := by unfold madOk numOk; infer_instance
def madE (n : Int) (p : List Int) : Int := if madOk n p then fewE (grL (isF p)) else 1
def madR (n : Int) (p : List Int) : List Int := if madOk n p then fewR (grL (isF p)) else []
theorem call21 (n : Int) (p : List Int) (hl : p.length < 1000000000000000) : GCall Try.prog gl 21 false [.int .i64 n, .sl I64 p] [] [.sl I64 (madR n p), .int .i64 (madE n p)] [] := by
 refine gcall_of (X := X [e59m, e62, e61]) (X_ok [e59m, e62, e61]) (f := 21) (fn := Try.f21) (c := bodyOf Try.f21) (by kernel_rfl) (by kernel_rfl) (view := true) (rvs := [.tmp 4, .tmp 5]) (by kernel_rfl) (H := fun _ => none) 80 (by kernel_rfl) ?_
 refine of_eq (q := True ∧ True ∧ True ∧ True ∧ True ∧ True ∧ (n < 1 → True ∧ True ∧ True ∧ True ∧ True ∧ True ∧ True ∧ True ∧ (([] : List Int) = madR n p ∧ (1 : Int) = madE n p ∧ True) ∧ True) ∧ (¬n < 1 → True ∧ True ∧ True ∧ True ∧ ((6 : Int) < n → True ∧ True ∧ True ∧ True ∧ True ∧ True ∧ (([] : List Int) = madR n p ∧ (1 : Int) = madE n p ∧ True) ∧ True) ∧ (¬(6 : Int) < n → True ∧ True ∧ True ∧ True ∧ True ∧ ((64 : Int) < (p.length : Int) → True ∧ True ∧ True ∧ True ∧ (([] : List Int) = madR n p ∧ (1 : Int) = madE n p ∧ True) ∧ True) ∧ (¬(64 : Int) < (p.length : Int) → True ∧ True ∧ ((ok83m (p, n) ∧ (p = p ∧ (True ∧ True ∧ True) ∧ True) ∧ n = n ∧ True) ∧ True ∧ True) ∧ True ∧ (badL n p = true → True ∧ True ∧ True ∧ (([] : List Int) = madR n p ∧ (1 : Int) = madE n p ∧ True) ∧ True) ∧ (badL n p = false → True ∧ ((okL p ∧ p.length < 1000000) ∧ True) ∧ ((mk (isF p)).length = 64 ∧ True) ∧ True ∧ True ∧ True ∧ True ∧ True ∧ (fewR (grL (gB (mk (isF p)))) = madR n p ∧ fewE (grL (gB (mk (isF p)))) = madE n p ∧ True) ∧ True))))) (by kernel_rfl) ?_
 simp only [zz]
 have hbad : ¬ madOk n p → [] = madR n p ∧ 1 = madE n p := fun h => by unfold madR madE; rw [if_neg h, if_neg h]; exact ⟨rfl, rfl⟩
 refine ⟨fun h => hbad fun hc => by have := hc.1.1; omega, fun h => ⟨fun h2 => hbad fun hc => by have := hc.1.2; omega, fun h2 => ⟨fun h3 => hbad fun hc => by have := hc.2.1; omega, fun h3 => ⟨⟨⟨by simp only; omega, by simp only; omega⟩, by simp only; omega⟩, fun h4 => hbad fun hc => (by rw [hc.2.2] at h4; cases h4), fun h4 => ?_⟩⟩⟩⟩
 have hn : numOk n := ⟨by omega, by omega⟩
 have hm : madOk n p := ⟨hn, by omega, h4⟩
 unfold madR madE
 rw [if_pos hm, if_pos hm, grL_mk]
 refine ⟨⟨fun s hs => ?_, by omega⟩, mk_length _, rfl, rfl⟩
 have hb : badB n s = false := by
   cases hb : badB n s with
   | false => rfl
   | true => unfold badL at h4; rw [List.any_eq_false] at h4; exact absurd hb (h4 s hs)
 unfold badB at hb
 have hb := of_decide_eq_false hb
 have := pow_le6 hn
 omega
def e21 : Entry Try.prog gl := entry2 21 ⟨Try.f21, by kernel_rfl, by kernel_rfl, by kernel_rfl⟩ I64 SI (fun (_ : Int) p => (p : List Int).length < 1000000000000000) false (fun n p => [.sl I64 (madR n p), .int .i64 (madE n p)]) (fun _ _ => []) (call21)
theorem grow_one : ∀ x s : Fin 64, sub x.val s.val = true → x.val ≠ s.val → ∃ v : Fin 6, x.val ||| 2 ^ v.val ≠ x.val ∧ sub (x.val ||| 2 ^ v.val) s.val = true := by decide +kernel
theorem sub_or : ∀ x s : Fin 64, ∀ v : Fin 6, sub (x.val ||| 2 ^ v.val) s.val = true → sub x.val s.val = true ∧ (x.val ||| 2 ^ v.val ≠ x.val → x.val ≠ s.val) := by decide +kernel
theorem isF_iff {s : List Int} {x : Nat} : isF s x = true ↔ ∃ i, i < s.length ∧ sub x (s.getD i 0).toNat = true := by
 unfold isF
 rw [List.any_eq_true]
 constructor
 · rintro ⟨a, ha, h⟩
   obtain ⟨i, hi, e⟩ := List.getElem_of_mem ha
   exact ⟨i, hi, by rw [getD_lt hi, e]; exact h⟩
 · rintro ⟨i, hi, h⟩
   exact ⟨_, mem_getD hi, h⟩
theorem grt_pie {s : List Int} (h : okL s) {x : Nat} (hx : x < 64) : grtB (isF s) x = pieB s x := by
 have hr := okL_get h
 rw [Bool.eq_iff_iff]
 unfold grtB pieB
 rw [Bool.and_eq_true, Bool.and_eq_true, inK_iff, mxS_iff, isF_iff, List.all_eq_true]
 constructor
 · rintro ⟨⟨i, hi, h1⟩, h2⟩
   have key : ∀ j, j < s.length → sub x (s.getD j 0).toNat = true → x = (s.getD j 0).toNat := fun j hj hs => by
     refine Classical.byContradiction fun hne => ?_
     obtain ⟨v, h3, h4⟩ := grow_one ⟨x, hx⟩ ⟨(s.getD j 0).toNat, by have := hr j; omega⟩ hs hne
     have h5 := h2 v.val (List.mem_range.mpr v.isLt)
     have h6 : isF s (x ||| 2 ^ v.val) = true := isF_iff.mpr ⟨j, hj, h4⟩
     simp only at h3
     rw [h6, decide_eq_false h3] at h5
     cases h5
   refine ⟨⟨i, hi, by have := key i hi h1; have := hr i; omega⟩, fun j hj => ?_⟩
   cases hs : sub x (s.getD j 0).toNat with
   | false => exact .inr rfl
   | true => exact .inl (by have := key j hj hs; have := hr j; omega)
 · rintro ⟨⟨i, hi, h1⟩, h2⟩
   refine ⟨⟨i, hi, by rw [h1, Int.toNat_natCast]; exact sub_self x⟩, fun v hv => ?_⟩
   have hv := List.mem_range.mp hv
   by_cases he : x ||| 2 ^ v = x
   · rw [decide_eq_true he]; try rfl
   · rw [decide_eq_false he]
     cases hf : isF s (x ||| 2 ^ v) with
     | false => rfl
     | true =>
       exfalso
       obtain ⟨j, hj, h3⟩ := isF_iff.mp hf
       obtain ⟨h4, h5⟩ := sub_or ⟨x, hx⟩ ⟨(s.getD j 0).toNat, by have := hr j; omega⟩ ⟨v, hv⟩ h3
       have h5 := h5 he
       simp only at h4 h5
       rcases h2 j hj with h6 | h6
       · omega
       · rw [h6] at h4; cases h4
theorem grL_pie {s : List Int} (h : okL s) : grL (isF s) = pieL s := trueN_ext fun x hx => grt_pie h hx
end Go.Am.Sh

/- Shells: the reference's Moment. -/
namespace Go.Am.Sh
open Go Go.Am Go.Proofs
def gapB (k a b : Nat) : Bool := decide (k / 2 ^ a % 2 = 0) && decide (k / 2 ^ b % 2 = 0) && decide (pc (k / 2 ^ (a + 1) % 2 ^ (b - a - 1)) % 2 = 1)
def inB (k a : Nat) : Nat → Bool
 | 0 => true
 | j + 1 => inB k a j && !gapB k a (a + 1 + j)
def rowB (N k : Nat) : Nat → Bool
 | 0 => true
 | a + 1 => rowB N k a && inB k a (N - (a + 1))
def TB (n d : Int) (k a j : Nat) : Bool := decide ((pc k : Int) = d) && (rowB n.toNat k a && inB k a j)
def refB (n d : Int) (k : Nat) : Bool := decide ((pc k : Int) = d) && rowB n.toNat k n.toNat
def refL (n d : Int) : List Int := trueN (refB n d) (2 ^ n.toNat)
theorem pow_cast (j : Nat) : (2 ^ j : Int) = ((2 ^ j : Nat) : Int) := by rw [Int.natCast_pow]; try rfl
theorem kt {k a j : Nat} : ((k : Int) / 2 ^ (a + 1)).tmod (1 * 2 ^ j) = ((k / 2 ^ (a + 1) % 2 ^ j : Nat) : Int) := by
 rw [Int.one_mul, pow_cast, pow_cast]
 generalize 2 ^ (a + 1) = P
 generalize 2 ^ j = Q
 have e1 : (k : Int) / (P : Int) = ((k / P : Nat) : Int) := by rw [Int.natCast_ediv]
 rw [e1, Int.tmod_eq_emod_of_nonneg (Int.natCast_nonneg _), Int.natCast_emod]
theorem pt {x : Nat} : ((pc x : Nat) : Int).tmod 2 = ((pc x % 2 : Nat) : Int) := by
 rw [Int.tmod_eq_emod_of_nonneg (Int.natCast_nonneg _)]; omega
noncomputable def L25_0 : Code := lp (bodyOf Try.f25) 0
noncomputable def L25_2 : Code := lp (bodyOf Try.f25) 2
noncomputable def L25_4 : Code := lp (bodyOf Try.f25) 4
def sz25 (n d : Int) (k : Nat) : St := ⟨.int .i64 n :: .int .i64 d :: dd 3 ++ nl :: .int .i64 k :: dd 60, []⟩
def mz25 (n d : Int) (k a : Nat) : St := ⟨.int .i64 n :: .int .i64 d :: dd 3 ++ nl :: .int .i64 k :: .bool (TB n d k a 0) :: .int .i64 a :: dd 58, []⟩
def jz25 (n d : Int) (k a j : Nat) : St := ⟨.int .i64 n :: .int .i64 d :: dd 3 ++ nl :: .int .i64 k :: .bool (TB n d k a j) :: .int .i64 a :: .int .i64 ((a : Int) + 1 + j) :: dd 57, []⟩
def ejz25 (n d : Int) (k a : Nat) : List (List Nat × Ex) := [([0, 1, 5, 6, 7, 8], ⟨4, Unit, fun _ => True, fun _ => ⟨.int .i64 n :: .int .i64 d :: dd 3 ++ nl :: .int .i64 k :: .bool (TB n d k (a + 1) 0) :: .int .i64 a :: dd 58, []⟩⟩)]
def hjz25 (n d : Int) (k a : Nat) : Hint := ⟨chk 0 [0, 1, 5, 6, 7, 8, 9] (fun j => a + 1 + j ≤ n.toNat) (jz25 n d k a), (ejz25 n d k a).map (·.2)⟩
def emz25 (n d : Int) (k : Nat) : List (List Nat × Ex) := [([0, 1, 5, 6, 7], ⟨2, Unit, fun _ => True, fun _ => ⟨.int .i64 n :: .int .i64 d :: dd 3 ++ nl :: .int .i64 k :: .bool (refB n d k) :: dd 59, []⟩⟩)]
def hmz25 (n d : Int) (k : Nat) : Hint := ⟨chk 0 [0, 1, 5, 6, 7, 8] (fun a => a ≤ n.toNat) (mz25 n d k), (emz25 n d k).map (·.2)⟩
theorem loop25jz (n d : Int) (k a : Nat) (h : momOk n d) (hk : k < 2 ^ n.toNat) (ha : a < n.toNat) (R : Exit → St → Prop) : LoopOK (X [e29]) L25_4 (hjz25 n d k a) R := by
 refine loop_ok (X_ok _) (H := fun _ _ => none) [0, 1, 5, 6, 7, 8, 9] (fun j => a + 1 + j ≤ n.toNat) (jz25 n d k a) (fun j => n.toNat - j) (ejz25 n d k a) 150 fun (j : Nat) hj => ?_
 refine of_eq (q := True ∧ True ∧ True ∧ ((a : Int) + 1 + (j : Int) < n → True ∧ True ∧ inR .i64 ((a : Int) + 1) ∧ ((0 : Int) ≤ (a : Int) + 1 ∧ (a : Int) + 1 < bitsOf .i64) ∧ True ∧ True ∧ inR .i64 ((a : Int) + 1 + (j : Int) - (a : Int)) ∧ inR .i64 ((a : Int) + 1 + (j : Int) - (a : Int) - 1) ∧ (((0 : Int) ≤ (a : Int) + 1 + (j : Int) - (a : Int) - 1 ∧ (a : Int) + 1 + (j : Int) - (a : Int) - 1 < bitsOf .i64) ∧ (-9223372036854775808 : Int) ≤ 1 * 2 ^ ((a : Int) + 1 + (j : Int) - (a : Int) - 1).toNat ∧ (1 : Int) * 2 ^ ((a : Int) + 1 + (j : Int) - (a : Int) - 1).toNat ≤ 9223372036854775807) ∧ ¬(1 : Int) * 2 ^ ((a : Int) + 1 + (j : Int) - (a : Int) - 1).toNat = 0 ∧ True ∧ True ∧ True ∧ ((0 : Int) ≤ (a : Int) ∧ (a : Int) < bitsOf .i64) ∧ ¬(2 : Int) = 0 ∧ True ∧ True ∧ (((k : Int) / (2 : Int) ^ a).tmod (2 : Int) = 0 → True ∧ True ∧ ((0 : Int) ≤ (a : Int) + 1 + (j : Int) ∧ (a : Int) + 1 + (j : Int) < bitsOf .i64) ∧ ¬(2 : Int) = 0 ∧ True ∧ True ∧ True ∧ (((k : Int) / (2 : Int) ^ ((a : Int) + 1 + (j : Int)).toNat).tmod (2 : Int) = 0 → True ∧ (((0 : Int) ≤ ((k : Int) / (2 : Int) ^ (a + 1)).tmod ((1 : Int) * 2 ^ ((a : Int) + 1 + (j : Int) - (a : Int) - 1).toNat) ∧ ((k : Int) / (2 : Int) ^ (a + 1)).tmod ((1 : Int) * 2 ^ ((a : Int) + 1 + (j : Int) - (a : Int) - 1).toNat) < 64) ∧ True) ∧ ¬(2 : Int) = 0 ∧ True ∧ True ∧ ((↑(pc (((k : Int) / (2 : Int) ^ (a + 1)).tmod ((1 : Int) * 2 ^ ((a : Int) + 1 + (j : Int) - (a : Int) - 1).toNat)).toNat) : Int).tmod (2 : Int) = 1 → True ∧ True ∧ inR .i64 ((a : Int) + 1 + (j : Int) + 1) ∧ True ∧ ∃ (y : Nat), (a + 1 + y ≤ n.toNat ∧ n.toNat - y < n.toNat - j) ∧ (n = n ∧ d = d ∧ True ∧ (k : Int) = (k : Int) ∧ false = TB n d k a y ∧ (a : Int) = (a : Int) ∧ (a : Int) + 1 + (j : Int) + 1 = (a : Int) + 1 + (y : Int) ∧ True) ∧ True) ∧ (¬(↑(pc (((k : Int) / (2 : Int) ^ (a + 1)).tmod ((1 : Int) * 2 ^ ((a : Int) + 1 + (j : Int) - (a : Int) - 1).toNat)).toNat) : Int).tmod (2 : Int) = 1 → True ∧ inR .i64 ((a : Int) + 1 + (j : Int) + 1) ∧ True ∧ ∃ (y : Nat), (a + 1 + y ≤ n.toNat ∧ n.toNat - y < n.toNat - j) ∧ (n = n ∧ d = d ∧ True ∧ (k : Int) = (k : Int) ∧ TB n d k a j = TB n d k a y ∧ (a : Int) = (a : Int) ∧ (a : Int) + 1 + (j : Int) + 1 = (a : Int) + 1 + (y : Int) ∧ True) ∧ True)) ∧ (¬((k : Int) / (2 : Int) ^ ((a : Int) + 1 + (j : Int)).toNat).tmod (2 : Int) = 0 → True ∧ True ∧ inR .i64 ((a : Int) + 1 + (j : Int) + 1) ∧ True ∧ ∃ (y : Nat), (a + 1 + y ≤ n.toNat ∧ n.toNat - y < n.toNat - j) ∧ (n = n ∧ d = d ∧ True ∧ (k : Int) = (k : Int) ∧ TB n d k a j = TB n d k a y ∧ (a : Int) = (a : Int) ∧ (a : Int) + 1 + (j : Int) + 1 = (a : Int) + 1 + (y : Int) ∧ True) ∧ True)) ∧ (¬((k : Int) / (2 : Int) ^ a).tmod (2 : Int) = 0 → True ∧ True ∧ True ∧ True ∧ inR .i64 ((a : Int) + 1 + (j : Int) + 1) ∧ True ∧ ∃ (y : Nat), (a + 1 + y ≤ n.toNat ∧ n.toNat - y < n.toNat - j) ∧ (n = n ∧ d = d ∧ True ∧ (k : Int) = (k : Int) ∧ TB n d k a j = TB n d k a y ∧ (a : Int) = (a : Int) ∧ (a : Int) + 1 + (j : Int) + 1 = (a : Int) + 1 + (y : Int) ∧ True) ∧ True)) ∧ (¬(a : Int) + 1 + (j : Int) < n → ∃ (y : Unit), True ∧ (n = n ∧ d = d ∧ True ∧ (k : Int) = (k : Int) ∧ TB n d k a j = TB n d k (a + 1) (0 : Nat) ∧ (a : Int) = (a : Int) ∧ True) ∧ True)) (by kernel_rfl) ?_
 simp only [zz]
 have hj : a + 1 + j ≤ n.toNat := hj
 obtain ⟨p1, p2, p3⟩ := momPow h
 obtain ⟨m1, m2, m3⟩ := h
 rw [show ((a : Int) + 1 + j - a - 1).toNat = j by omega, show ((a : Int) + 1 + j).toNat = a + 1 + j by omega, bit_tmod, bit_tmod, kt]
 have hj2 : (1 : Int) * 2 ^ j ≤ 64 ∧ (1 : Int) ≤ 1 * 2 ^ j := by
   have h1 := Nat.pow_le_pow_right (show 0 < 2 by decide) (show j ≤ 6 by omega)
   have h2 := Nat.pow_pos (n := j) (show 0 < 2 by decide)
   rw [Int.one_mul, pow_cast]
   generalize 2 ^ j = P at *
   omega
 have hr : k / 2 ^ (a + 1) % 2 ^ j < 64 := by
   have h1 := Nat.mod_le (k / 2 ^ (a + 1)) (2 ^ j)
   have h2 := Nat.div_le_self k (2 ^ (a + 1))
   omega
 have hr2 : ∀ X : Nat, X < 64 → 0 ≤ (X : Int) ∧ (X : Int) < 64 := fun X h => by omega
 rw [Int.toNat_natCast, pt]
 have hn : (a : Int) + 1 + j < n → ∀ b, b = TB n d k a (j + 1) → inR .i64 ((a : Int) + 1 + j + 1) ∧ ∃ y : Nat, (a + 1 + y ≤ n.toNat ∧ n.toNat - y < n.toNat - j) ∧ b = TB n d k a y ∧ (a : Int) + 1 + j + 1 = (a : Int) + 1 + y := fun hlt b hb => ⟨by simp only [inR]; omega, j + 1, by omega, hb, by omega⟩
 have hkeep : gapB k a (a + 1 + j) = false → TB n d k a j = TB n d k a (j + 1) := fun hg => by unfold TB; rw [inB, hg]; simp
 refine ⟨fun hlt => ?_, fun hlt => ?_⟩
 · have hn := hn hlt
   refine ⟨by simp only [inR]; omega, ⟨by omega, by simp only [bitsOf]; omega⟩, by simp only [inR]; omega, by simp only [inR]; omega, ⟨⟨by omega, by simp only [bitsOf]; omega⟩, by omega, by omega⟩, by omega, ⟨by omega, by simp only [bitsOf]; omega⟩, by decide, fun h1 => ⟨⟨by omega, by simp only [bitsOf]; omega⟩, by decide, fun h2 => ⟨hr2 _ hr, by decide, fun h3 => hn _ ?_, fun h3 => hn _ (hkeep ?_)⟩, fun h2 => hn _ (hkeep ?_)⟩, fun h1 => hn _ (hkeep ?_)⟩
   · have hg : gapB k a (a + 1 + j) = true := by
       unfold gapB
       rw [show a + 1 + j - a - 1 = j by omega, decide_eq_true (show k / 2 ^ a % 2 = 0 by omega), decide_eq_true (show k / 2 ^ (a + 1 + j) % 2 = 0 by omega), decide_eq_true (show pc (k / 2 ^ (a + 1) % 2 ^ j) % 2 = 1 by omega)]; try rfl
     unfold TB; rw [inB, hg]; simp
   · unfold gapB
     rw [show a + 1 + j - a - 1 = j by omega, decide_eq_false (show ¬ pc (k / 2 ^ (a + 1) % 2 ^ j) % 2 = 1 by omega)]; simp
   · unfold gapB
     rw [decide_eq_false (show ¬ k / 2 ^ (a + 1 + j) % 2 = 0 by omega)]; simp
   · unfold gapB
     rw [decide_eq_false (show ¬ k / 2 ^ a % 2 = 0 by omega)]; simp
 · unfold TB
   rw [rowB, show n.toNat - (a + 1) = j by omega]; simp [inB]
theorem loop25mz (n d : Int) (k : Nat) (h : momOk n d) (hk : k < 2 ^ n.toNat) (R : Exit → St → Prop) : LoopOK (X [e29]) L25_2 (hmz25 n d k) R := by
 refine loop_ok (X_ok _) (H := fun a _ => some (hjz25 n d k a)) [0, 1, 5, 6, 7, 8] (fun a => a ≤ n.toNat) (mz25 n d k) (fun a => n.toNat - a) (emz25 n d k) 150 fun (a : Nat) ha => ?_
 have hL := fun ha => loop25jz n d k a h hk ha (bodyR (X [e29]).m0 (emz25 n d k) R)
 refine of_eq (q := True ∧ True ∧ True ∧ ((a : Int) < n → True ∧ inR .i64 ((a : Int) + 1) ∧ True ∧ LoopOK (X [e29]) L25_4 (hjz25 n d k a) (bodyR (X [e29]).m0 (emz25 n d k) R) ∧ (∃ (y : Nat), a + 1 + y ≤ n.toNat ∧ (n = n ∧ d = d ∧ True ∧ (k : Int) = (k : Int) ∧ TB n d k a (0 : Nat) = TB n d k a y ∧ (a : Int) = (a : Int) ∧ (a : Int) + 1 = (a : Int) + 1 + (y : Int) ∧ True) ∧ True) ∧ (∀ (y : Unit), True → True ∧ inR .i64 ((a : Int) + 1) ∧ True ∧ ∃ (y : Nat), (y ≤ n.toNat ∧ n.toNat - y < n.toNat - a) ∧ (n = n ∧ d = d ∧ True ∧ (k : Int) = (k : Int) ∧ TB n d k (a + 1) (0 : Nat) = TB n d k y (0 : Nat) ∧ (a : Int) + 1 = (y : Int) ∧ True) ∧ True) ∧ True) ∧ (¬(a : Int) < n → ∃ (y : Unit), True ∧ (n = n ∧ d = d ∧ True ∧ (k : Int) = (k : Int) ∧ TB n d k a (0 : Nat) = refB n d k ∧ True) ∧ True)) (by kernel_rfl) ?_
 simp only [zz]
 have ha : a ≤ n.toNat := ha
 obtain ⟨m1, m2, m3⟩ := h
 refine ⟨fun hlt => ⟨by simp only [inR]; omega, hL (by omega), ⟨0, by omega, rfl, by omega⟩, fun _ _ => ⟨by simp only [inR]; omega, a + 1, by omega, rfl, by omega⟩⟩, fun hlt => ?_⟩
 unfold TB refB
 rw [show n.toNat = a by omega]; simp [inB]
def st25 (n d : Int) (k : Nat) : St := ⟨.int .i64 n :: .int .i64 d :: dd 3 ++ .own 0 0 :: .int .i64 k :: dd 60, [.sc 0 3 I64 (trueN (refB n d) k)]⟩
def mt25 (n d : Int) (k a : Nat) : St := ⟨.int .i64 n :: .int .i64 d :: dd 3 ++ .own 0 0 :: .int .i64 k :: .bool (TB n d k a 0) :: .int .i64 a :: dd 58, [.sc 0 3 I64 (trueN (refB n d) k)]⟩
def jt25 (n d : Int) (k a j : Nat) : St := ⟨.int .i64 n :: .int .i64 d :: dd 3 ++ .own 0 0 :: .int .i64 k :: .bool (TB n d k a j) :: .int .i64 a :: .int .i64 ((a : Int) + 1 + j) :: dd 57, [.sc 0 3 I64 (trueN (refB n d) k)]⟩
def ejt25 (n d : Int) (k a : Nat) : List (List Nat × Ex) := [([0, 1, 5, 6, 7, 8], ⟨4, Unit, fun _ => True, fun _ => ⟨.int .i64 n :: .int .i64 d :: dd 3 ++ .own 0 0 :: .int .i64 k :: .bool (TB n d k (a + 1) 0) :: .int .i64 a :: dd 58, [.sc 0 3 I64 (trueN (refB n d) k)]⟩⟩)]
def hjt25 (n d : Int) (k a : Nat) : Hint := ⟨chk 0 [0, 1, 5, 6, 7, 8, 9] (fun j => a + 1 + j ≤ n.toNat) (jt25 n d k a), (ejt25 n d k a).map (·.2)⟩
def emt25 (n d : Int) (k : Nat) : List (List Nat × Ex) := [([0, 1, 5, 6, 7], ⟨2, Unit, fun _ => True, fun _ => ⟨.int .i64 n :: .int .i64 d :: dd 3 ++ .own 0 0 :: .int .i64 k :: .bool (refB n d k) :: dd 59, [.sc 0 3 I64 (trueN (refB n d) k)]⟩⟩)]
def hmt25 (n d : Int) (k : Nat) : Hint := ⟨chk 0 [0, 1, 5, 6, 7, 8] (fun a => a ≤ n.toNat) (mt25 n d k), (emt25 n d k).map (·.2)⟩
theorem loop25jt (n d : Int) (k a : Nat) (h : momOk n d) (hk : k < 2 ^ n.toNat) (ha : a < n.toNat) (R : Exit → St → Prop) : LoopOK (X [e29]) L25_4 (hjt25 n d k a) R := by
 refine loop_ok (X_ok _) (H := fun _ _ => none) [0, 1, 5, 6, 7, 8, 9] (fun j => a + 1 + j ≤ n.toNat) (jt25 n d k a) (fun j => n.toNat - j) (ejt25 n d k a) 150 fun (j : Nat) hj => ?_
 refine of_eq (q := True ∧ True ∧ True ∧ ((a : Int) + 1 + (j : Int) < n → True ∧ True ∧ inR .i64 ((a : Int) + 1) ∧ ((0 : Int) ≤ (a : Int) + 1 ∧ (a : Int) + 1 < bitsOf .i64) ∧ True ∧ True ∧ inR .i64 ((a : Int) + 1 + (j : Int) - (a : Int)) ∧ inR .i64 ((a : Int) + 1 + (j : Int) - (a : Int) - 1) ∧ (((0 : Int) ≤ (a : Int) + 1 + (j : Int) - (a : Int) - 1 ∧ (a : Int) + 1 + (j : Int) - (a : Int) - 1 < bitsOf .i64) ∧ (-9223372036854775808 : Int) ≤ 1 * 2 ^ ((a : Int) + 1 + (j : Int) - (a : Int) - 1).toNat ∧ (1 : Int) * 2 ^ ((a : Int) + 1 + (j : Int) - (a : Int) - 1).toNat ≤ 9223372036854775807) ∧ ¬(1 : Int) * 2 ^ ((a : Int) + 1 + (j : Int) - (a : Int) - 1).toNat = 0 ∧ True ∧ True ∧ True ∧ ((0 : Int) ≤ (a : Int) ∧ (a : Int) < bitsOf .i64) ∧ ¬(2 : Int) = 0 ∧ True ∧ True ∧ (((k : Int) / (2 : Int) ^ a).tmod (2 : Int) = 0 → True ∧ True ∧ ((0 : Int) ≤ (a : Int) + 1 + (j : Int) ∧ (a : Int) + 1 + (j : Int) < bitsOf .i64) ∧ ¬(2 : Int) = 0 ∧ True ∧ True ∧ True ∧ (((k : Int) / (2 : Int) ^ ((a : Int) + 1 + (j : Int)).toNat).tmod (2 : Int) = 0 → True ∧ (((0 : Int) ≤ ((k : Int) / (2 : Int) ^ (a + 1)).tmod ((1 : Int) * 2 ^ ((a : Int) + 1 + (j : Int) - (a : Int) - 1).toNat) ∧ ((k : Int) / (2 : Int) ^ (a + 1)).tmod ((1 : Int) * 2 ^ ((a : Int) + 1 + (j : Int) - (a : Int) - 1).toNat) < 64) ∧ True) ∧ ¬(2 : Int) = 0 ∧ True ∧ True ∧ ((↑(pc (((k : Int) / (2 : Int) ^ (a + 1)).tmod ((1 : Int) * 2 ^ ((a : Int) + 1 + (j : Int) - (a : Int) - 1).toNat)).toNat) : Int).tmod (2 : Int) = 1 → True ∧ True ∧ inR .i64 ((a : Int) + 1 + (j : Int) + 1) ∧ True ∧ ∃ (y : Nat), (a + 1 + y ≤ n.toNat ∧ n.toNat - y < n.toNat - j) ∧ (n = n ∧ d = d ∧ True ∧ (k : Int) = (k : Int) ∧ false = TB n d k a y ∧ (a : Int) = (a : Int) ∧ (a : Int) + 1 + (j : Int) + 1 = (a : Int) + 1 + (y : Int) ∧ True) ∧ trueN (refB n d) k = trueN (refB n d) k ∧ True) ∧ (¬(↑(pc (((k : Int) / (2 : Int) ^ (a + 1)).tmod ((1 : Int) * 2 ^ ((a : Int) + 1 + (j : Int) - (a : Int) - 1).toNat)).toNat) : Int).tmod (2 : Int) = 1 → True ∧ inR .i64 ((a : Int) + 1 + (j : Int) + 1) ∧ True ∧ ∃ (y : Nat), (a + 1 + y ≤ n.toNat ∧ n.toNat - y < n.toNat - j) ∧ (n = n ∧ d = d ∧ True ∧ (k : Int) = (k : Int) ∧ TB n d k a j = TB n d k a y ∧ (a : Int) = (a : Int) ∧ (a : Int) + 1 + (j : Int) + 1 = (a : Int) + 1 + (y : Int) ∧ True) ∧ trueN (refB n d) k = trueN (refB n d) k ∧ True)) ∧ (¬((k : Int) / (2 : Int) ^ ((a : Int) + 1 + (j : Int)).toNat).tmod (2 : Int) = 0 → True ∧ True ∧ inR .i64 ((a : Int) + 1 + (j : Int) + 1) ∧ True ∧ ∃ (y : Nat), (a + 1 + y ≤ n.toNat ∧ n.toNat - y < n.toNat - j) ∧ (n = n ∧ d = d ∧ True ∧ (k : Int) = (k : Int) ∧ TB n d k a j = TB n d k a y ∧ (a : Int) = (a : Int) ∧ (a : Int) + 1 + (j : Int) + 1 = (a : Int) + 1 + (y : Int) ∧ True) ∧ trueN (refB n d) k = trueN (refB n d) k ∧ True)) ∧ (¬((k : Int) / (2 : Int) ^ a).tmod (2 : Int) = 0 → True ∧ True ∧ True ∧ True ∧ inR .i64 ((a : Int) + 1 + (j : Int) + 1) ∧ True ∧ ∃ (y : Nat), (a + 1 + y ≤ n.toNat ∧ n.toNat - y < n.toNat - j) ∧ (n = n ∧ d = d ∧ True ∧ (k : Int) = (k : Int) ∧ TB n d k a j = TB n d k a y ∧ (a : Int) = (a : Int) ∧ (a : Int) + 1 + (j : Int) + 1 = (a : Int) + 1 + (y : Int) ∧ True) ∧ trueN (refB n d) k = trueN (refB n d) k ∧ True)) ∧ (¬(a : Int) + 1 + (j : Int) < n → ∃ (y : Unit), True ∧ (n = n ∧ d = d ∧ True ∧ (k : Int) = (k : Int) ∧ TB n d k a j = TB n d k (a + 1) (0 : Nat) ∧ (a : Int) = (a : Int) ∧ True) ∧ trueN (refB n d) k = trueN (refB n d) k ∧ True)) (by kernel_rfl) ?_
 simp only [zz]
 have hj : a + 1 + j ≤ n.toNat := hj
 obtain ⟨p1, p2, p3⟩ := momPow h
 obtain ⟨m1, m2, m3⟩ := h
 rw [show ((a : Int) + 1 + j - a - 1).toNat = j by omega, show ((a : Int) + 1 + j).toNat = a + 1 + j by omega, bit_tmod, bit_tmod, kt]
 have hj2 : (1 : Int) * 2 ^ j ≤ 64 ∧ (1 : Int) ≤ 1 * 2 ^ j := by
   have h1 := Nat.pow_le_pow_right (show 0 < 2 by decide) (show j ≤ 6 by omega)
   have h2 := Nat.pow_pos (n := j) (show 0 < 2 by decide)
   rw [Int.one_mul, pow_cast]
   generalize 2 ^ j = P at *
   omega
 have hr : k / 2 ^ (a + 1) % 2 ^ j < 64 := by
   have h1 := Nat.mod_le (k / 2 ^ (a + 1)) (2 ^ j)
   have h2 := Nat.div_le_self k (2 ^ (a + 1))
   omega
 have hr2 : ∀ X : Nat, X < 64 → 0 ≤ (X : Int) ∧ (X : Int) < 64 := fun X h => by omega
 rw [Int.toNat_natCast, pt]
 have hn : (a : Int) + 1 + j < n → ∀ b, b = TB n d k a (j + 1) → inR .i64 ((a : Int) + 1 + j + 1) ∧ ∃ y : Nat, (a + 1 + y ≤ n.toNat ∧ n.toNat - y < n.toNat - j) ∧ b = TB n d k a y ∧ (a : Int) + 1 + j + 1 = (a : Int) + 1 + y := fun hlt b hb => ⟨by simp only [inR]; omega, j + 1, by omega, hb, by omega⟩
 have hkeep : gapB k a (a + 1 + j) = false → TB n d k a j = TB n d k a (j + 1) := fun hg => by unfold TB; rw [inB, hg]; simp
 refine ⟨fun hlt => ?_, fun hlt => ?_⟩
 · have hn := hn hlt
   refine ⟨by simp only [inR]; omega, ⟨by omega, by simp only [bitsOf]; omega⟩, by simp only [inR]; omega, by simp only [inR]; omega, ⟨⟨by omega, by simp only [bitsOf]; omega⟩, by omega, by omega⟩, by omega, ⟨by omega, by simp only [bitsOf]; omega⟩, by decide, fun h1 => ⟨⟨by omega, by simp only [bitsOf]; omega⟩, by decide, fun h2 => ⟨hr2 _ hr, by decide, fun h3 => hn _ ?_, fun h3 => hn _ (hkeep ?_)⟩, fun h2 => hn _ (hkeep ?_)⟩, fun h1 => hn _ (hkeep ?_)⟩
   · have hg : gapB k a (a + 1 + j) = true := by
       unfold gapB
       rw [show a + 1 + j - a - 1 = j by omega, decide_eq_true (show k / 2 ^ a % 2 = 0 by omega), decide_eq_true (show k / 2 ^ (a + 1 + j) % 2 = 0 by omega), decide_eq_true (show pc (k / 2 ^ (a + 1) % 2 ^ j) % 2 = 1 by omega)]; try rfl
     unfold TB; rw [inB, hg]; simp
   · unfold gapB
     rw [show a + 1 + j - a - 1 = j by omega, decide_eq_false (show ¬ pc (k / 2 ^ (a + 1) % 2 ^ j) % 2 = 1 by omega)]; simp
   · unfold gapB
     rw [decide_eq_false (show ¬ k / 2 ^ (a + 1 + j) % 2 = 0 by omega)]; simp
   · unfold gapB
     rw [decide_eq_false (show ¬ k / 2 ^ a % 2 = 0 by omega)]; simp
 · unfold TB
   rw [rowB, show n.toNat - (a + 1) = j by omega]; simp [inB]
theorem loop25mt (n d : Int) (k : Nat) (h : momOk n d) (hk : k < 2 ^ n.toNat) (R : Exit → St → Prop) : LoopOK (X [e29]) L25_2 (hmt25 n d k) R := by
 refine loop_ok (X_ok _) (H := fun a _ => some (hjt25 n d k a)) [0, 1, 5, 6, 7, 8] (fun a => a ≤ n.toNat) (mt25 n d k) (fun a => n.toNat - a) (emt25 n d k) 150 fun (a : Nat) ha => ?_
 have hL := fun ha => loop25jt n d k a h hk ha (bodyR (X [e29]).m0 (emt25 n d k) R)
 refine of_eq (q := True ∧ True ∧ True ∧ ((a : Int) < n → True ∧ inR .i64 ((a : Int) + 1) ∧ True ∧ LoopOK (X [e29]) L25_4 (hjt25 n d k a) (bodyR (X [e29]).m0 (emt25 n d k) R) ∧ (∃ (y : Nat), a + 1 + y ≤ n.toNat ∧ (n = n ∧ d = d ∧ True ∧ (k : Int) = (k : Int) ∧ TB n d k a (0 : Nat) = TB n d k a y ∧ (a : Int) = (a : Int) ∧ (a : Int) + 1 = (a : Int) + 1 + (y : Int) ∧ True) ∧ trueN (refB n d) k = trueN (refB n d) k ∧ True) ∧ (∀ (y : Unit), True → True ∧ inR .i64 ((a : Int) + 1) ∧ True ∧ ∃ (y : Nat), (y ≤ n.toNat ∧ n.toNat - y < n.toNat - a) ∧ (n = n ∧ d = d ∧ True ∧ (k : Int) = (k : Int) ∧ TB n d k (a + 1) (0 : Nat) = TB n d k y (0 : Nat) ∧ (a : Int) + 1 = (y : Int) ∧ True) ∧ trueN (refB n d) k = trueN (refB n d) k ∧ True) ∧ True) ∧ (¬(a : Int) < n → ∃ (y : Unit), True ∧ (n = n ∧ d = d ∧ True ∧ (k : Int) = (k : Int) ∧ TB n d k a (0 : Nat) = refB n d k ∧ True) ∧ trueN (refB n d) k = trueN (refB n d) k ∧ True)) (by kernel_rfl) ?_
 simp only [zz]
 have ha : a ≤ n.toNat := ha
 obtain ⟨m1, m2, m3⟩ := h
 refine ⟨fun hlt => ⟨by simp only [inR]; omega, hL (by omega), ⟨0, by omega, rfl, by omega⟩, fun _ _ => ⟨by simp only [inR]; omega, a + 1, by omega, rfl, by omega⟩⟩, fun hlt => ?_⟩
 unfold TB refB
 rw [show n.toNat = a by omega]; simp [inB]
noncomputable def fm25 (n d : Int) : List Fam := [⟨Nat, fun k => k ≤ 2 ^ n.toNat ∧ trueN (refB n d) k = [], sz25 n d, fun k => 2 ^ n.toNat - k, fun k _ => some (hmz25 n d k)⟩, ⟨Nat, fun k => k ≤ 2 ^ n.toNat, st25 n d, fun k => 2 ^ n.toNat - k, fun k _ => some (hmt25 n d k)⟩]
def ex25 (n d : Int) : List (List Nat × Ex) := [([5], ⟨0, Unit, fun _ => refL n d = [], fun _ => ⟨dd 5 ++ nl :: dd 61, []⟩⟩), ([5], ⟨0, Unit, fun _ => True, fun _ => ⟨dd 5 ++ .own 0 0 :: dd 61, [.sc 0 3 I64 (refL n d)]⟩⟩)]
noncomputable def H25 (n d : Int) : Nat → Option Hint := fun _ => some ⟨chks 0 [0, 1, 5, 6] (fm25 n d), (ex25 n d).map (·.2)⟩
theorem loop25 (n d : Int) (h : momOk n d) (R : Exit → St → Prop) : LoopOK (X [e29]) L25_0 ⟨chks 0 [0, 1, 5, 6] (fm25 n d), (ex25 n d).map (·.2)⟩ R := by
 refine loop_fams (X_ok _) [0, 1, 5, 6] (fm25 n d) (ex25 n d) 150 ⟨fun (k : Nat) hk => ?_, fun (k : Nat) hk => ?_, trivial⟩
 · have hL := fun h1 => loop25mz n d k h h1
   refine of_eq (q := True ∧ True ∧ (((0 : Int) ≤ n ∧ n < bitsOf .i64) ∧ (-9223372036854775808 : Int) ≤ 1 * 2 ^ n.toNat ∧ (1 : Int) * 2 ^ n.toNat ≤ 9223372036854775807) ∧ True ∧ ((k : Int) < 1 * 2 ^ n.toNat → True ∧ (((0 : Int) ≤ (k : Int) ∧ (k : Int) < 64) ∧ True) ∧ True ∧ True ∧ True ∧ True ∧ LoopOK (X [e29]) L25_2 (hmz25 n d k) (bodyR (X [e29]).m0 (ex25 n d) R) ∧ (∃ (y : Nat), y ≤ n.toNat ∧ (n = n ∧ d = d ∧ True ∧ (k : Int) = (k : Int) ∧ decide ((↑(pc k) : Int) = d) = TB n d k y (0 : Nat) ∧ (0 : Int) = (y : Int) ∧ True) ∧ True) ∧ (∀ (y : Unit), True → True ∧ (refB n d k = true → True ∧ True ∧ True ∧ sumPre (0 : Nat) [(k : Int)].length (nat_lit 8) ∧ True ∧ True ∧ inR .i64 ((k : Int) + 1) ∧ True ∧ ((∃ (y : Nat), ((y ≤ 2 ^ n.toNat ∧ trueN (refB n d) y = []) ∧ (2 : Nat) ^ n.toNat - y < 2 ^ n.toNat - k) ∧ (n = n ∧ d = d ∧ False ∧ (k : Int) + 1 = (y : Int) ∧ True) ∧ True) ∨ ∃ (y : Nat), (y ≤ 2 ^ n.toNat ∧ (2 : Nat) ^ n.toNat - y < 2 ^ n.toNat - k) ∧ (n = n ∧ d = d ∧ True ∧ (k : Int) + 1 = (y : Int) ∧ True) ∧ [(k : Int)] = trueN (refB n d) y ∧ True)) ∧ (refB n d k = false → True ∧ inR .i64 ((k : Int) + 1) ∧ True ∧ ((∃ (y : Nat), ((y ≤ 2 ^ n.toNat ∧ trueN (refB n d) y = []) ∧ (2 : Nat) ^ n.toNat - y < 2 ^ n.toNat - k) ∧ (n = n ∧ d = d ∧ True ∧ (k : Int) + 1 = (y : Int) ∧ True) ∧ True) ∨ ∃ (y : Nat), (y ≤ 2 ^ n.toNat ∧ (2 : Nat) ^ n.toNat - y < 2 ^ n.toNat - k) ∧ (n = n ∧ d = d ∧ False ∧ (k : Int) + 1 = (y : Int) ∧ True) ∧ False))) ∧ True) ∧ (¬(k : Int) < 1 * 2 ^ n.toNat → (∃ (y : Unit), refL n d = [] ∧ (True ∧ True) ∧ True) ∨ ∃ (y : Unit), True ∧ (False ∧ True) ∧ False)) (by kernel_rfl) ?_
   simp only [zz]
   obtain ⟨k1, k2⟩ := hk
   obtain ⟨p1, p2, p3⟩ := momPow h
   obtain ⟨m1, m2, m3⟩ := h
   rw [Int.one_mul, ← p1]
   refine ⟨⟨⟨by omega, by simp only [bitsOf]; omega⟩, by omega, by omega⟩, fun h3 => ⟨⟨by omega, by omega⟩, hL (by omega) _, ⟨0, Nat.zero_le _, by unfold TB; simp [rowB, inB], rfl⟩, fun _ _ => ⟨fun hb => ⟨by unfold sumPre; simp, by simp only [inR]; omega, k + 1, by omega, by omega, ?_⟩, fun hb => ⟨by simp only [inR]; omega, k + 1, ⟨⟨by omega, by rw [trueN, hb, k2]; rfl⟩, by omega⟩, by omega⟩⟩⟩, fun h3 => ?_⟩
   · rw [trueN, if_pos hb, k2]; try rfl
   · unfold refL; rw [show 2 ^ n.toNat = k by omega, k2]
 · have hL := fun h1 => loop25mt n d k h h1
   refine of_eq (q := True ∧ True ∧ (((0 : Int) ≤ n ∧ n < bitsOf .i64) ∧ (-9223372036854775808 : Int) ≤ 1 * 2 ^ n.toNat ∧ (1 : Int) * 2 ^ n.toNat ≤ 9223372036854775807) ∧ True ∧ ((k : Int) < 1 * 2 ^ n.toNat → True ∧ (((0 : Int) ≤ (k : Int) ∧ (k : Int) < 64) ∧ True) ∧ True ∧ True ∧ True ∧ True ∧ LoopOK (X [e29]) L25_2 (hmt25 n d k) (bodyR (X [e29]).m0 (ex25 n d) R) ∧ (∃ (y : Nat), y ≤ n.toNat ∧ (n = n ∧ d = d ∧ True ∧ (k : Int) = (k : Int) ∧ decide ((↑(pc k) : Int) = d) = TB n d k y (0 : Nat) ∧ (0 : Int) = (y : Int) ∧ True) ∧ trueN (refB n d) k = trueN (refB n d) k ∧ True) ∧ (∀ (y : Unit), True → True ∧ (refB n d k = true → True ∧ True ∧ True ∧ sumPre (trueN (refB n d) k).length [(k : Int)].length (nat_lit 8) ∧ True ∧ True ∧ inR .i64 ((k : Int) + 1) ∧ True ∧ ((∃ (y : Nat), ((y ≤ 2 ^ n.toNat ∧ trueN (refB n d) y = []) ∧ (2 : Nat) ^ n.toNat - y < 2 ^ n.toNat - k) ∧ (n = n ∧ d = d ∧ False ∧ (k : Int) + 1 = (y : Int) ∧ True) ∧ True) ∨ ∃ (y : Nat), (y ≤ 2 ^ n.toNat ∧ (2 : Nat) ^ n.toNat - y < 2 ^ n.toNat - k) ∧ (n = n ∧ d = d ∧ True ∧ (k : Int) + 1 = (y : Int) ∧ True) ∧ trueN (refB n d) k ++ [(k : Int)] = trueN (refB n d) y ∧ True)) ∧ (refB n d k = false → True ∧ inR .i64 ((k : Int) + 1) ∧ True ∧ ((∃ (y : Nat), ((y ≤ 2 ^ n.toNat ∧ trueN (refB n d) y = []) ∧ (2 : Nat) ^ n.toNat - y < 2 ^ n.toNat - k) ∧ (n = n ∧ d = d ∧ False ∧ (k : Int) + 1 = (y : Int) ∧ True) ∧ True) ∨ ∃ (y : Nat), (y ≤ 2 ^ n.toNat ∧ (2 : Nat) ^ n.toNat - y < 2 ^ n.toNat - k) ∧ (n = n ∧ d = d ∧ True ∧ (k : Int) + 1 = (y : Int) ∧ True) ∧ trueN (refB n d) k = trueN (refB n d) y ∧ True))) ∧ True) ∧ (¬(k : Int) < 1 * 2 ^ n.toNat → (∃ (y : Unit), refL n d = [] ∧ (False ∧ True) ∧ True) ∨ ∃ (y : Unit), True ∧ (True ∧ True) ∧ trueN (refB n d) k = refL n d ∧ True)) (by kernel_rfl) ?_
   simp only [zz]
   have hk : k ≤ 2 ^ n.toNat := hk
   have hl := trueN_len (refB n d) k
   obtain ⟨p1, p2, p3⟩ := momPow h
   obtain ⟨m1, m2, m3⟩ := h
   rw [Int.one_mul, ← p1]
   refine ⟨⟨⟨by omega, by simp only [bitsOf]; omega⟩, by omega, by omega⟩, fun h3 => ⟨⟨by omega, by omega⟩, hL (by omega) _, ⟨0, Nat.zero_le _, by unfold TB; simp [rowB, inB], rfl⟩, fun _ _ => ⟨fun hb => ⟨by unfold sumPre; simp; omega, by simp only [inR]; omega, k + 1, by omega, by omega, ?_⟩, fun hb => ⟨by simp only [inR]; omega, k + 1, by omega, by omega, by rw [trueN, hb]; rfl⟩⟩⟩, fun h3 => ?_⟩
   · rw [trueN, if_pos hb]; try rfl
   · unfold refL; rw [show 2 ^ n.toNat = k by omega]
theorem call25 (n d : Int) (h : momOk n d) : GCall Try.prog gl 25 true [.int .i64 n, .int .i64 d] [] [.sl I64 (refL n d)] [] := by
 refine gcall_of (X := (X [e29])) ((X_ok _)) (f := 25) (fn := Try.f25) (c := bodyOf Try.f25) (by kernel_rfl) (by kernel_rfl) (view := true) (rvs := [.tmp 4]) (by kernel_rfl) (H := (H25 n d)) 80 (by kernel_rfl) ?_
 have hL := loop25 n d h
 refine of_eq (q := True ∧ True ∧ True ∧ LoopOK (X [e29]) L25_0 { J := chks (0 : Nat) [(0 : Nat), (1 : Nat), (5 : Nat), (6 : Nat)] (fm25 n d), exits := List.map (fun (x : List Nat × Ex) => x.snd) (ex25 n d) } (RetR (X [e29]) true true [ResultVar.tmp (4 : Tmp)] [AV.sl I64 (refL n d)] []) ∧ ((∃ (y : Nat), (y ≤ 2 ^ n.toNat ∧ trueN (refB n d) y = []) ∧ (n = n ∧ d = d ∧ True ∧ (0 : Int) = (y : Int) ∧ True) ∧ True) ∨ ∃ (y : Nat), y ≤ 2 ^ n.toNat ∧ (n = n ∧ d = d ∧ False ∧ (0 : Int) = (y : Int) ∧ True) ∧ False) ∧ (∀ (y : Unit), refL n d = [] → True ∧ True ∧ True ∧ (([] : List Int) = refL n d ∧ True) ∧ True) ∧ (∀ (y : Unit), True → True ∧ True ∧ True ∧ (refL n d = refL n d ∧ True) ∧ True) ∧ True) (by kernel_rfl) ?_
 simp only [zz]
 exact ⟨hL _, ⟨0, ⟨Nat.zero_le _, rfl⟩, rfl⟩, fun _ h => h.symm, fun _ h => h⟩
def e25 : Entry Try.prog gl := entry2 25 ⟨Try.f25, by kernel_rfl, by kernel_rfl, by kernel_rfl⟩ I64 I64 (fun (n d : Int) => momOk n d) true (fun (n d : Int) => [.sl I64 (refL n d)]) (fun _ _ => []) (call25)
def mrB : Bool := [(3, 2), (4, 2), (4, 3), (5, 2), (5, 3), (5, 4), (6, 2), (6, 3), (6, 4), (6, 5)].all fun (q : Int × Int) => decide (momL q.1 q.2 = refL q.1 q.2)
theorem mr_all {n d : Int} (h : momOk n d) : momL n d = refL n d := by
 obtain ⟨h1, h2, h3⟩ := h
 have hb : mrB = true := by decide +kernel
 unfold mrB at hb
 rw [List.all_eq_true] at hb
 have key : (n, d) ∈ [((3 : Int), (2 : Int)), (4, 2), (4, 3), (5, 2), (5, 3), (5, 4), (6, 2), (6, 3), (6, 4), (6, 5)] := by
   simp only [List.mem_cons, Prod.mk.injEq, List.not_mem_nil, or_false]
   omega
 exact of_decide_eq_true (hb _ key)
end Go.Am.Sh

/- Shells: the law's pure. -/
namespace Go.Am.Sh
open Go Go.Am Go.Proofs
structure cxS (n : Int) (p : List Int) : Prop where
end Go.Am.Sh

/- Shells: what follows, in the program and in the reference; IsShelling. -/
namespace Go.Am.Sh
open Go Go.Am Go.Proofs
end Go.Am.Sh

/- Shells: the reference's Shellable. -/
namespace Go.Am.Sh
open Go Go.Am Go.Proofs
/-- The sets that are reached: one row, the first k of its pieces. -/
def rowC (p : List Int) (D : Nat) (xs : List Bool) : Nat → List Bool
 | 0 => xs
 | k + 1 => if D / 2 ^ k % 2 = 0 ∧ nxB p D k = true then (rowC p D xs k).set (D ||| 2 ^ k) true else rowC p D xs k
/-- ... the first rows. -/
def canC (p : List Int) : Nat → List Bool
 | 0 => (List.replicate (2 ^ p.length) false).set 0 true
 | D + 1 => if (canC p D).getD D false = true then rowC p D (canC p D) p.length else canC p D
def shR (p : List Int) : Bool := puB p && (canC p (2 ^ p.length)).getD (2 ^ p.length - 1) false
end Go.Am.Sh

/- Shells: what the search finds is what the reference reaches. -/
namespace Go.Am.Sh
open Go Go.Am Go.Proofs
structure rOk (p : List Int) (r : Res) : Prop where
 s : (sgK p r.2.1 r.2.1.length).isSome = true
 l : r.2.1.length = p.length
end Go.Am.Sh

/- Shells: the law of the shellings. -/
namespace Go.Am.Sh
open Go Go.Am Go.Proofs
structure shF (p : List Int) : Prop where
 e : shB p = shR p
 s : shB p = true → sgR p (shL p) = true
 z : shB p = false → shL p = []
 l : (shL p).length ≤ 10
end Go.Am.Sh

/- Shells: the walk of the law of the shellings. -/
namespace Go.Am.Sh
open Go Go.Am Go.Proofs
end Go.Am.Sh

/- Shells: Made, as the law says it; IsShelling. -/
namespace Go.Am.Sh
open Go Go.Am Go.Proofs
theorem mad_ok {n : Int} {s : List Int} (h : madOk n s) : okL s ∧ ∀ x ∈ s, x < 2 ^ n.toNat := by
 have hp := pow_le6 h.1
 have hb : ∀ x ∈ s, badB n x = false := fun x hx => by
   cases hb : badB n x with
   | false => rfl
   | true => have h4 := h.2.2; unfold badL at h4; rw [List.any_eq_false] at h4; exact absurd hb (h4 x hx)
 have hc : ∀ x ∈ s, ¬ (x < 0 ∨ 2 ^ n.toNat ≤ x) := fun x hx => of_decide_eq_false (hb x hx)
 exact ⟨fun x hx => by have := hc x hx; omega, fun x hx => by have := hc x hx; omega⟩
theorem mad_none {n : Int} {s : List Int} (h : madOk n s) : (pieL s = [] ∨ (pieL s).getD 0 0 = 0) ↔ ∀ i, i < s.length → s.getD i 0 ≤ 0 := by
 obtain ⟨ho, _⟩ := mad_ok h
 constructor
 · intro h1 i hi
   refine Classical.byContradiction fun h2 => ?_
   have hne := pie_ne ho (show 1 ≤ s.length by omega)
   have hpos := pie_pos (s := s) ⟨i, hi, by omega⟩
   rcases h1 with h1 | h1
   · rw [h1] at hne; simp at hne
   · have := hpos _ (mem_getD (d := 0) (show 0 < (pieL s).length by omega)); omega
 · intro h1
   rcases Nat.eq_zero_or_pos (pieL s).length with h0 | h0
   · exact .inl (List.length_eq_zero_iff.mp h0)
   · obtain ⟨x, e, _, ⟨i, hi, h3⟩, _⟩ := pie_mem (mem_getD (d := 0) h0)
     have := h1 i hi
     have := okL_get ho i
     exact .inr (by omega)
theorem madE_eq {n : Int} {s : List Int} (h : madOk n s) : madE n s = (if ∀ i, i < s.length → s.getD i 0 ≤ 0 then 4 else if 10 < (pieL s).length then 8 else 0) ∧ madR n s = if madE n s = 0 then pieL s else [] := by
 obtain ⟨ho, _⟩ := mad_ok h
 have hn := mad_none h
 unfold madE madR
 rw [if_pos h, if_pos h, grL_pie ho]
 refine ⟨?_, rfl⟩
 unfold fewE
 by_cases h1 : ∀ i, i < s.length → s.getD i 0 ≤ 0
 · rw [if_pos (hn.mpr h1), if_pos h1]
 · rw [if_neg (fun h2 => h1 (hn.mp h2)), if_neg h1]
structure ok73 (x : List Int × Cx3) : Prop where
 h : okC x.2
 l : x.1.length < 1000000000000000
end Go.Am.Sh

/- Shells: the law of the makers. -/
namespace Go.Am.Sh
open Go Go.Am Go.Proofs
instance (n d : Int) : Decidable (momOk n d) := by unfold momOk; infer_instance
theorem call24y (n d : Int) (h : ¬ momOk n d) : GCall Try.prog gl 24 true [.int .i64 n, .int .i64 d] [] [.sl I64 [], .int .i64 1] [] := by
 refine gcall_of (X := X [e64]) (X_ok [e64]) (f := 24) (fn := Try.f24) (c := bodyOf Try.f24) (by kernel_rfl) (by kernel_rfl) (view := true) (rvs := [.tmp 4, .tmp 5]) (by kernel_rfl) (H := fun _ => none) 80 (by kernel_rfl) ?_
 refine of_eq (q := True ∧ True ∧ True ∧ True ∧ True ∧ (d < 2 → True ∧ True ∧ True ∧ True ∧ True ∧ True ∧ (([] : List Int) = [] ∧ (1 : Int) = 1 ∧ True) ∧ True) ∧ (¬d < 2 → True ∧ True ∧ True ∧ True ∧ True ∧ (n ≤ d → True ∧ True ∧ True ∧ True ∧ (([] : List Int) = [] ∧ (1 : Int) = 1 ∧ True) ∧ True) ∧ (¬n ≤ d → True ∧ True ∧ True ∧ ((6 : Int) < n → True ∧ True ∧ True ∧ (([] : List Int) = [] ∧ (1 : Int) = 1 ∧ True) ∧ True) ∧ (¬(6 : Int) < n → True ∧ True ∧ inR .u64 n ∧ (((0 : Int) ≤ n ∧ n < bitsOf .i64) ∧ (-9223372036854775808 : Int) ≤ 1 * 2 ^ n.toNat ∧ (1 : Int) * 2 ^ n.toNat ≤ 9223372036854775807) ∧ True ∧ False)))) (by kernel_rfl) ?_
 simp only [zz]
 unfold momOk at h
 exact ⟨fun _ => trivial, fun _ => ⟨fun _ => trivial, fun _ => ⟨fun _ => trivial, fun _ => by omega⟩⟩⟩
def moL (n d : Int) : List Int := if momOk n d then momL n d else []
def moE (n d : Int) : Int := if momOk n d then 0 else 1
theorem call24g (n d : Int) (_ : True) : GCall Try.prog gl 24 true [.int .i64 n, .int .i64 d] [] [.sl I64 (moL n d), .int .i64 (moE n d)] [] := by
 unfold moL moE
 by_cases h : momOk n d
 · rw [if_pos h, if_pos h]; exact call24 n d h
 · rw [if_neg h, if_neg h]; exact call24y n d h
def e24g : Entry Try.prog gl := entry2 24 ⟨Try.f24, by kernel_rfl, by kernel_rfl, by kernel_rfl⟩ I64 I64 (fun (_ _ : Int) => True) true (fun (n d : Int) => [.sl I64 (moL n d), .int .i64 (moE n d)]) (fun _ _ => []) (fun (n d : Int) h => call24g n d h)
def hs4 : Nat → Bool := fun t => Nat.beq t 142 || Nat.beq t 147 || Nat.beq t 169
noncomputable abbrev E4 : EL := [e20, e21, e22, e23, e24g, e25, e19]
noncomputable abbrev X4 : Cy := Xh E4 hs4 (drOf [(36, 11)])
def bdK (n : Int) (s : List Int) : Nat → Bool
 | 0 => decide (n < 1 ∨ 6 < n ∨ 64 < s.length)
 | i + 1 => badB n (s.getD i 0)
def smK (s : List Int) : Nat → Bool
 | 0 => false
 | i + 1 => smK s i || decide (0 < s.getD i 0)
noncomputable def L4_0 : Code := lp (bodyOf Try.f4) 0
noncomputable def L4_2 : Code := lp (bodyOf Try.f4) 2
noncomputable def L4_5 : Code := lp (bodyOf Try.f4) 5
def sb4 (n d : Int) (s : List Int) (k i : Nat) : St := ⟨.int .i64 n :: .dead :: .int .i64 d :: dd 4 ++ .sl I64 s :: .int .i64 k :: .sl I64 (madR n s) :: .int .i64 (madE n s) :: .bool (bdK n s i) :: .bool (smK s i) :: .int .i64 i :: dd 164, []⟩
def ib4 (n : Int) (s : List Int) (i : Nat) : Prop := i ≤ s.length ∧ ∀ j, j < i → bdK n s j = false
def eb4 (n d : Int) (s : List Int) (k : Nat) : List (List Nat × Ex) := [([0, 2, 7, 8, 9, 10, 11, 12], ⟨2, Nat, fun i => ib4 n s i ∧ (i = s.length ∨ bdK n s i = true), fun i => ⟨.int .i64 n :: .dead :: .int .i64 d :: dd 4 ++ .sl I64 s :: .int .i64 k :: .sl I64 (madR n s) :: .int .i64 (madE n s) :: .bool (bdK n s i) :: .bool (smK s i) :: dd 165, []⟩⟩)]
def hb4 (n d : Int) (s : List Int) (k : Nat) : Hint := ⟨chk 0 [0, 2, 7, 8, 9, 10, 11, 12, 13] (ib4 n s) (sb4 n d s k), (eb4 n d s k).map (·.2)⟩
theorem loop4b (n d : Int) (s : List Int) (k : Nat) (hl : s.length ≤ 66) (R : Exit → St → Prop) : LoopOK X4 L4_2 (hb4 n d s k) R := by
 refine loop_ok (Xh_ok _ _ _) (H := fun _ _ => none) [0, 2, 7, 8, 9, 10, 11, 12, 13] (ib4 n s) (sb4 n d s k) (fun i => s.length - i) (eb4 n d s k) 150 fun (i : Nat) hi => ?_
 refine of_eq (q := True ∧ True ∧ True ∧ True ∧ True ∧ ((i : Int) < (s.length : Int) → True ∧ True ∧ True ∧ ((!bdK n s i) = true → True ∧ True ∧ idxPre (i : Int) s.length ∧ True ∧ True ∧ True ∧ (s.getD i (0 : Int) < 0 → True ∧ True ∧ True ∧ True ∧ (smK s i = true → True ∧ True ∧ True ∧ inR .i64 ((i : Int) + 1) ∧ True ∧ ∃ (y : Nat), (ib4 n s y ∧ s.length - y < s.length - i) ∧ (n = n ∧ d = d ∧ s = s ∧ (k : Int) = (k : Int) ∧ madR n s = madR n s ∧ madE n s = madE n s ∧ true = bdK n s y ∧ true = smK s y ∧ (i : Int) + 1 = (y : Int) ∧ True) ∧ True) ∧ (smK s i = false → True ∧ True ∧ idxPre (i : Int) s.length ∧ True ∧ True ∧ True ∧ True ∧ True ∧ inR .i64 ((i : Int) + 1) ∧ True ∧ ∃ (y : Nat), (ib4 n s y ∧ s.length - y < s.length - i) ∧ (n = n ∧ d = d ∧ s = s ∧ (k : Int) = (k : Int) ∧ madR n s = madR n s ∧ madE n s = madE n s ∧ true = bdK n s y ∧ decide ((0 : Int) < s.getD i (0 : Int)) = smK s y ∧ (i : Int) + 1 = (y : Int) ∧ True) ∧ True)) ∧ (¬s.getD i (0 : Int) < 0 → True ∧ True ∧ idxPre (i : Int) s.length ∧ True ∧ True ∧ (((0 : Int) ≤ n ∧ n < bitsOf .i64) ∧ (-9223372036854775808 : Int) ≤ 1 * 2 ^ n.toNat ∧ (1 : Int) * 2 ^ n.toNat ≤ 9223372036854775807) ∧ True ∧ True ∧ True ∧ True ∧ True ∧ (smK s i = true → True ∧ True ∧ True ∧ inR .i64 ((i : Int) + 1) ∧ True ∧ ∃ (y : Nat), (ib4 n s y ∧ s.length - y < s.length - i) ∧ (n = n ∧ d = d ∧ s = s ∧ (k : Int) = (k : Int) ∧ madR n s = madR n s ∧ madE n s = madE n s ∧ decide ((1 : Int) * 2 ^ n.toNat ≤ s.getD i (0 : Int)) = bdK n s y ∧ true = smK s y ∧ (i : Int) + 1 = (y : Int) ∧ True) ∧ True) ∧ (smK s i = false → True ∧ True ∧ idxPre (i : Int) s.length ∧ True ∧ True ∧ True ∧ True ∧ True ∧ inR .i64 ((i : Int) + 1) ∧ True ∧ ∃ (y : Nat), (ib4 n s y ∧ s.length - y < s.length - i) ∧ (n = n ∧ d = d ∧ s = s ∧ (k : Int) = (k : Int) ∧ madR n s = madR n s ∧ madE n s = madE n s ∧ decide ((1 : Int) * 2 ^ n.toNat ≤ s.getD i (0 : Int)) = bdK n s y ∧ decide ((0 : Int) < s.getD i (0 : Int)) = smK s y ∧ (i : Int) + 1 = (y : Int) ∧ True) ∧ True))) ∧ ((!bdK n s i) = false → ∃ (y : Nat), (ib4 n s y ∧ (y = s.length ∨ bdK n s y = true)) ∧ (n = n ∧ d = d ∧ s = s ∧ (k : Int) = (k : Int) ∧ madR n s = madR n s ∧ madE n s = madE n s ∧ bdK n s i = bdK n s y ∧ smK s i = smK s y ∧ True) ∧ True)) ∧ (¬(i : Int) < (s.length : Int) → True ∧ ∃ (y : Nat), (ib4 n s y ∧ (y = s.length ∨ bdK n s y = true)) ∧ (n = n ∧ d = d ∧ s = s ∧ (k : Int) = (k : Int) ∧ madR n s = madR n s ∧ madE n s = madE n s ∧ bdK n s i = bdK n s y ∧ smK s i = smK s y ∧ True) ∧ True)) (by kernel_rfl) ?_
 simp only [zz]
 obtain ⟨i1, i2⟩ := hi
 have hn : bdK n s i = false → i < s.length → ∀ b c, b = bdK n s (i + 1) → c = smK s (i + 1) → inR .i64 ((i : Int) + 1) ∧ ∃ y : Nat, (ib4 n s y ∧ s.length - y < s.length - i) ∧ b = bdK n s y ∧ c = smK s y ∧ (i : Int) + 1 = (y : Int) := fun hb hlt b c h1 h2 => ⟨by simp only [inR]; omega, i + 1, ⟨⟨by omega, fun j hj => by
   rcases Nat.lt_or_ge j i with h3 | h3
   · exact i2 j h3
   · rw [show j = i by omega]; exact hb⟩, by omega⟩, h1, h2, by omega⟩
 refine ⟨fun hlt => ⟨fun hb => ?_, fun hb => ⟨i, ⟨⟨i1, i2⟩, .inr (by simpa using hb)⟩, rfl, rfl⟩⟩, fun hlt => ⟨i, ⟨⟨i1, i2⟩, .inl (by omega)⟩, rfl, rfl⟩⟩
 have hb : bdK n s i = false := by simpa using hb
 have hlt : i < s.length := by omega
 have h0 : bdK n s 0 = false := by
   rcases Nat.eq_zero_or_pos i with h | h
   · rw [← h]; exact hb
   · exact i2 0 h
 have hno : numOk n := by
   have := of_decide_eq_false h0
   exact ⟨by omega, by omega⟩
 obtain ⟨e1, e2, e3⟩ := numOk_pow hno
 obtain ⟨n1, n2⟩ := hno
 have hn := hn hb hlt
 have hx : idxPre (i : Int) s.length := idx_nat hlt
 rw [Int.one_mul]
 refine ⟨hx, fun h => ⟨fun hs => hn _ _ ?_ ?_, fun hs => ⟨hx, hn _ _ ?_ ?_⟩⟩, fun h => ⟨hx, ⟨⟨by omega, by simp only [bitsOf]; omega⟩, by omega, by omega⟩, fun hs => hn _ _ ?_ ?_, fun hs => ⟨hx, hn _ _ ?_ ?_⟩⟩⟩
 · exact (decide_eq_true (.inl h)).symm
 · rw [smK, hs]; try rfl
 · exact (decide_eq_true (.inl h)).symm
 · rw [smK, hs]; try rfl
 · rw [bdK]; unfold badB; rw [decide_eq_decide]; omega
 · rw [smK, hs]; try rfl
 · rw [bdK]; unfold badB; rw [decide_eq_decide]; omega
 · rw [smK, hs]; try rfl
def nxL (n : Int) (s : List Int) (i : Nat) : List Int := (s.take i).map fun x => (modU .u64 x).tmod (2 ^ n.toNat)
def sz4 (n d : Int) (s : List Int) (k i : Nat) : St := ⟨.int .i64 n :: .dead :: .int .i64 d :: dd 4 ++ .sl I64 s :: .int .i64 k :: dd 9 ++ nl :: .int .i64 i :: dd 158, []⟩
def st4 (n d : Int) (s : List Int) (k i : Nat) : St := ⟨.int .i64 n :: .dead :: .int .i64 d :: dd 4 ++ .sl I64 s :: .int .i64 k :: dd 9 ++ .own 0 0 :: .int .i64 i :: dd 158, [.sc 0 3 I64 (nxL n s i)]⟩
def in4 (s : List Int) (i : Nat) : Prop := i ≤ s.length ∧ i ≤ 12
def fm4 (n d : Int) (s : List Int) (k : Nat) : List Fam := [⟨Nat, fun i => in4 s i ∧ nxL n s i = [], sz4 n d s k, fun i => s.length - i, fun _ _ => none⟩, ⟨Nat, in4 s, st4 n d s k, fun i => s.length - i, fun _ _ => none⟩]
def ec4 (n d : Int) (s : List Int) (k : Nat) : List (List Nat × Ex) := [([0, 2, 8, 18], ⟨5, Unit, fun _ => nxL n s 12 = [], fun _ => ⟨.int .i64 n :: .dead :: .int .i64 d :: dd 5 ++ .int .i64 k :: dd 9 ++ nl :: dd 159, []⟩⟩), ([0, 2, 8, 18], ⟨5, Unit, fun _ => True, fun _ => ⟨.int .i64 n :: .dead :: .int .i64 d :: dd 5 ++ .int .i64 k :: dd 9 ++ .own 0 0 :: dd 159, [.sc 0 3 I64 (nxL n s 12)]⟩⟩)]
def hc4 (n d : Int) (s : List Int) (k : Nat) : Hint := ⟨chks 0 [0, 2, 7, 8, 18, 19] (fm4 n d s k), (ec4 n d s k).map (·.2)⟩
theorem nx_step {n : Int} {s : List Int} {i : Nat} (h : i < s.length) : nxL n s (i + 1) = nxL n s i ++ [(modU .u64 (s.getD i 0)).tmod (2 ^ n.toNat)] := by
 unfold nxL
 rw [take_getD (d := 0) h, List.map_append]; try rfl
theorem nx_end {n : Int} {s : List Int} {i : Nat} (h : s.length ≤ i) (h2 : i ≤ 12) : nxL n s i = nxL n s 12 := by
 unfold nxL
 rw [List.take_of_length_le h, List.take_of_length_le (by omega)]
theorem nx_len (n : Int) (s : List Int) (i : Nat) : (nxL n s i).length ≤ i := by unfold nxL; simp; omega
theorem nx_pow {n : Int} (h : numOk n) : modU .u64 (1 * 2 ^ n.toNat) = 2 ^ n.toNat := by
 obtain ⟨e1, e2, e3⟩ := numOk_pow h
 rw [Int.one_mul, ← e1]
 show _ % 18446744073709551616 = _
 omega
theorem nx_x {n : Int} (h : numOk n) (x : Int) : 0 ≤ (modU .u64 x).tmod (2 ^ n.toNat) ∧ (modU .u64 x).tmod (2 ^ n.toNat) < 64 := by
 obtain ⟨e1, e2, e3⟩ := numOk_pow h
 have h3 := Int.tmod_nonneg (a := modU .u64 x) (2 ^ n.toNat) (u64_nn x)
 have h4 := Int.tmod_lt_of_pos (modU .u64 x) (show (0 : Int) < 2 ^ n.toNat by omega)
 omega
theorem loop4c (n d : Int) (s : List Int) (k : Nat) (hn : numOk n) (hl : s.length ≤ 66) (R : Exit → St → Prop) : LoopOK X4 L4_5 (hc4 n d s k) R := by
 refine loop_fams (Xh_ok _ _ _) [0, 2, 7, 8, 18, 19] (fm4 n d s k) (ec4 n d s k) 150 ⟨fun (i : Nat) hi => ?_, fun (i : Nat) hi => ?_, trivial⟩
 · refine of_eq (q := True ∧ True ∧ True ∧ True ∧ True ∧ ((i : Int) < (s.length : Int) → True ∧ True ∧ True ∧ ((i : Int) < 12 → True ∧ True ∧ True ∧ idxPre (i : Int) s.length ∧ True ∧ True ∧ True ∧ (((0 : Int) ≤ n ∧ n < bitsOf .u64) ∧ True) ∧ ¬modU .u64 ((1 : Int) * 2 ^ n.toNat) = 0 ∧ inR .i64 ((modU .u64 (s.getD i (0 : Int))).tmod (modU .u64 ((1 : Int) * 2 ^ n.toNat))) ∧ True ∧ sumPre (0 : Nat) [(modU .u64 (s.getD i (0 : Int))).tmod (modU .u64 ((1 : Int) * 2 ^ n.toNat))].length (nat_lit 8) ∧ True ∧ True ∧ inR .i64 ((i : Int) + 1) ∧ True ∧ ((∃ (y : Nat), ((in4 s y ∧ nxL n s y = []) ∧ s.length - y < s.length - i) ∧ (n = n ∧ d = d ∧ s = s ∧ (k : Int) = (k : Int) ∧ False ∧ (i : Int) + 1 = (y : Int) ∧ True) ∧ True) ∨ ∃ (y : Nat), (in4 s y ∧ s.length - y < s.length - i) ∧ (n = n ∧ d = d ∧ s = s ∧ (k : Int) = (k : Int) ∧ True ∧ (i : Int) + 1 = (y : Int) ∧ True) ∧ [(modU .u64 (s.getD i (0 : Int))).tmod (modU .u64 ((1 : Int) * 2 ^ n.toNat))] = nxL n s y ∧ True)) ∧ (¬(i : Int) < 12 → (∃ (y : Unit), nxL n s (12 : Nat) = [] ∧ (n = n ∧ d = d ∧ (k : Int) = (k : Int) ∧ True ∧ True) ∧ True) ∨ ∃ (y : Unit), True ∧ (n = n ∧ d = d ∧ (k : Int) = (k : Int) ∧ False ∧ True) ∧ False)) ∧ (¬(i : Int) < (s.length : Int) → True ∧ ((∃ (y : Unit), nxL n s (12 : Nat) = [] ∧ (n = n ∧ d = d ∧ (k : Int) = (k : Int) ∧ True ∧ True) ∧ True) ∨ ∃ (y : Unit), True ∧ (n = n ∧ d = d ∧ (k : Int) = (k : Int) ∧ False ∧ True) ∧ False))) (by kernel_rfl) ?_
   simp only [zz]
   obtain ⟨⟨i1, i2⟩, i3⟩ := hi
   obtain ⟨e1, e2, e3⟩ := numOk_pow hn
   rw [nx_pow hn]
   have hx := nx_x hn (s.getD i 0)
   obtain ⟨n1, n2⟩ := hn
   refine ⟨fun hlt => ⟨fun h12 => ⟨idx_nat (by omega), ⟨by omega, by simp only [bitsOf]; omega⟩, by omega, by simp only [inR]; omega, by unfold sumPre; simp, by simp only [inR]; omega, i + 1, ⟨⟨by omega, by omega⟩, by omega⟩, by omega, ?_⟩, fun h12 => by rw [← show i = 12 by omega]; exact i3⟩, fun hlt => by rw [← nx_end (show s.length ≤ i by omega) i2]; exact i3⟩
   rw [nx_step (by omega), i3]; try rfl
 · refine of_eq (q := True ∧ True ∧ True ∧ True ∧ True ∧ ((i : Int) < (s.length : Int) → True ∧ True ∧ True ∧ ((i : Int) < 12 → True ∧ True ∧ True ∧ idxPre (i : Int) s.length ∧ True ∧ True ∧ True ∧ (((0 : Int) ≤ n ∧ n < bitsOf .u64) ∧ True) ∧ ¬modU .u64 ((1 : Int) * 2 ^ n.toNat) = 0 ∧ inR .i64 ((modU .u64 (s.getD i (0 : Int))).tmod (modU .u64 ((1 : Int) * 2 ^ n.toNat))) ∧ True ∧ sumPre (nxL n s i).length [(modU .u64 (s.getD i (0 : Int))).tmod (modU .u64 ((1 : Int) * 2 ^ n.toNat))].length (nat_lit 8) ∧ True ∧ True ∧ inR .i64 ((i : Int) + 1) ∧ True ∧ ((∃ (y : Nat), ((in4 s y ∧ nxL n s y = []) ∧ s.length - y < s.length - i) ∧ (n = n ∧ d = d ∧ s = s ∧ (k : Int) = (k : Int) ∧ False ∧ (i : Int) + 1 = (y : Int) ∧ True) ∧ True) ∨ ∃ (y : Nat), (in4 s y ∧ s.length - y < s.length - i) ∧ (n = n ∧ d = d ∧ s = s ∧ (k : Int) = (k : Int) ∧ True ∧ (i : Int) + 1 = (y : Int) ∧ True) ∧ nxL n s i ++ [(modU .u64 (s.getD i (0 : Int))).tmod (modU .u64 ((1 : Int) * 2 ^ n.toNat))] = nxL n s y ∧ True)) ∧ (¬(i : Int) < 12 → (∃ (y : Unit), nxL n s (12 : Nat) = [] ∧ (n = n ∧ d = d ∧ (k : Int) = (k : Int) ∧ False ∧ True) ∧ True) ∨ ∃ (y : Unit), True ∧ (n = n ∧ d = d ∧ (k : Int) = (k : Int) ∧ True ∧ True) ∧ nxL n s i = nxL n s (12 : Nat) ∧ True)) ∧ (¬(i : Int) < (s.length : Int) → True ∧ ((∃ (y : Unit), nxL n s (12 : Nat) = [] ∧ (n = n ∧ d = d ∧ (k : Int) = (k : Int) ∧ False ∧ True) ∧ True) ∨ ∃ (y : Unit), True ∧ (n = n ∧ d = d ∧ (k : Int) = (k : Int) ∧ True ∧ True) ∧ nxL n s i = nxL n s (12 : Nat) ∧ True))) (by kernel_rfl) ?_
   simp only [zz]
   obtain ⟨i1, i2⟩ := hi
   obtain ⟨e1, e2, e3⟩ := numOk_pow hn
   rw [nx_pow hn]
   have hx := nx_x hn (s.getD i 0)
   have hle := nx_len n s i
   obtain ⟨n1, n2⟩ := hn
   refine ⟨fun hlt => ⟨fun h12 => ⟨idx_nat (by omega), ⟨by omega, by simp only [bitsOf]; omega⟩, by omega, by simp only [inR]; omega, by unfold sumPre; simp; omega, by simp only [inR]; omega, i + 1, ⟨⟨by omega, by omega⟩, by omega⟩, by omega, ?_⟩, fun h12 => by rw [show i = 12 by omega]⟩, fun hlt => nx_end (by omega) i2⟩
   rw [nx_step (by omega)]; try rfl
def n4 (n : Int) : Int := 3 + (modU .u64 n).tmod 4
def d4 (n d : Int) : Int := 2 + (modU .u64 d).tmod (n4 n - 2)
def sA4 (n d : Int) (s : List Int) (k : Nat) : St := ⟨.int .i64 n :: .dead :: .int .i64 d :: dd 4 ++ .sl I64 s :: .int .i64 k :: dd 169, []⟩
def sC4 (n d : Int) (s : List Int) (k : Nat) : St := ⟨.int .i64 n :: .dead :: .int .i64 d :: dd 4 ++ .own 0 0 :: .int .i64 k :: dd 169, [.sc 0 3 I64 s]⟩
abbrev T4 := Int × Int × List Int × Nat
def in4o (x : T4) : Prop := x.2.2.1.length ≤ 66 ∧ x.2.2.2 ≤ 2
noncomputable def hs4o (x : T4) (b : Nat) : Option Hint := some (if Nat.beq b 2 then hb4 x.1 x.2.1 x.2.2.1 x.2.2.2 else hc4 (n4 x.1) (d4 x.1 x.2.1) x.2.2.1 x.2.2.2)
noncomputable def fo4 : List Fam := [⟨T4, in4o, fun x => sA4 x.1 x.2.1 x.2.2.1 x.2.2.2, fun x => 2 - x.2.2.2, hs4o⟩, ⟨T4, in4o, fun x => sC4 x.1 x.2.1 x.2.2.1 x.2.2.2, fun x => 2 - x.2.2.2, hs4o⟩]
def eo4 : List (List Nat × Ex) := [([], ⟨0, Unit, fun _ => True, fun _ => ⟨dd 178, []⟩⟩)]
noncomputable def R4 : Exit → St → Prop := RetR X4 true false [.tmp 6] [.tt] []
theorem smK_iff {s : List Int} : ∀ {k : Nat}, smK s k = true ↔ ∃ i, i < k ∧ 0 < s.getD i 0
 | 0 => by simp [smK]
 | k + 1 => by
   rw [smK, Bool.or_eq_true, smK_iff, decide_eq_true_eq]
   constructor
   · rintro (⟨i, h1, h2⟩ | h)
     · exact ⟨i, by omega, h2⟩
     · exact ⟨k, by omega, h⟩
   · rintro ⟨i, h1, h2⟩
     rcases Nat.lt_or_ge i k with h3 | h3
     · exact .inl ⟨i, h3, h2⟩
     · exact .inr (by rw [show k = i by omega]; exact h2)
/-- Behind the loop: bad just if it is no list of sets. -/
theorem bd_end {n : Int} {s : List Int} {i : Nat} (h : ib4 n s i) (he : i = s.length ∨ bdK n s i = true) : bdK n s i = false ↔ madOk n s := by
 obtain ⟨h1, h2⟩ := h
 constructor
 · intro hb
   have hi : i = s.length := he.resolve_right (by rw [hb]; decide)
   have h0 : bdK n s 0 = false := by
     rcases Nat.eq_zero_or_pos i with h | h
     · rw [← h]; exact hb
     · exact h2 0 h
   have h0 := of_decide_eq_false h0
   refine ⟨⟨by omega, by omega⟩, by omega, ?_⟩
   unfold badL
   rw [List.any_eq_false]
   intro x hx
   obtain ⟨j, hj, e⟩ := List.getElem_of_mem hx
   have h3 : bdK n s (j + 1) = false := by
     rcases Nat.lt_or_ge (j + 1) i with h | h
     · exact h2 _ h
     · rw [show j + 1 = i by omega]; exact hb
   rw [bdK, getD_lt hj, e] at h3
   rw [h3]; decide
 · intro hm
   obtain ⟨⟨n1, n2⟩, hl, hb⟩ := hm
   cases i with
   | zero => exact decide_eq_false (by omega)
   | succ j =>
     rw [bdK]
     unfold badL at hb
     rw [List.any_eq_false] at hb
     have := hb _ (mem_getD (d := 0) (show j < s.length by omega))
     simpa using this
theorem sm_end {s : List Int} : smK s s.length = false ↔ ∀ i, i < s.length → s.getD i 0 ≤ 0 := by
 rw [← Bool.not_eq_true, smK_iff]
 constructor
 · intro h i hi
   refine Classical.byContradiction fun h2 => h ⟨i, hi, by omega⟩
 · rintro h ⟨i, hi, h2⟩
   have := h i hi
   omega
end Go.Am.Sh

/- Shells: the law of the makers, the outer loop. -/
namespace Go.Am.Sh
open Go Go.Am Go.Proofs
noncomputable def k4a (k : Nat) : List It := opn [.code L4_0, .inv (chkm 0 [0, 2, 7, 8] (2 - k) fo4)]
noncomputable def k4b (k : Nat) : List It := opn ((k4a k).drop 2)
noncomputable def k4c (k : Nat) : List It := (k4b k).drop 8
noncomputable def k4d (k : Nat) : List It := (k4c k).drop 2
noncomputable def k4e (k : Nat) : List It := (k4d k).drop 3
def nH : Nat → Option Hint := fun _ => none
noncomputable abbrev R4b : Exit → St → Prop := bodyR 0 eo4 R4
theorem part4e (n d : Int) (s : List Int) (k : Nat) (hl : s.length ≤ 66) (hk : k < 2) : Sat X4 R4b (sA4 n d s k) (k4e k) := by
 have hn : numOk (n4 n) := by
   unfold n4
   have h1 := u64_nn n
   have e := Int.tmod_eq_emod_of_nonneg (b := 4) h1
   exact ⟨by omega, by omega⟩
 have hL := loop4c (n4 n) (d4 n d) s k hn hl R4b
 refine .of_run (Xh_ok _ _ _) (H := fun _ => some (hc4 (n4 n) (d4 n d) s k)) (n := 150) ?_
 refine of_eq (q := True ∧ True ∧ ¬(4 : Int) = 0 ∧ inR .i64 ((modU .u64 n).tmod (4 : Int)) ∧ inR .i64 ((3 : Int) + (modU .u64 n).tmod (4 : Int)) ∧ True ∧ True ∧ True ∧ True ∧ inR .i64 ((3 : Int) + (modU .u64 n).tmod (4 : Int) - 2) ∧ inR .u64 ((3 : Int) + (modU .u64 n).tmod (4 : Int) - 2) ∧ ¬(3 : Int) + (modU .u64 n).tmod (4 : Int) - 2 = 0 ∧ inR .i64 ((modU .u64 d).tmod ((3 : Int) + (modU .u64 n).tmod (4 : Int) - 2)) ∧ inR .i64 ((2 : Int) + (modU .u64 d).tmod ((3 : Int) + (modU .u64 n).tmod (4 : Int) - 2)) ∧ True ∧ True ∧ True ∧ LoopOK X4 L4_5 (hc4 (n4 n) (d4 n d) s k) R4b ∧ ((∃ (y : Nat), (in4 s y ∧ nxL (n4 n) s y = []) ∧ ((3 : Int) + (modU .u64 n).tmod (4 : Int) = n4 n ∧ (2 : Int) + (modU .u64 d).tmod ((3 : Int) + (modU .u64 n).tmod (4 : Int) - 2) = d4 n d ∧ s = s ∧ (k : Int) = (k : Int) ∧ True ∧ (0 : Int) = (y : Int) ∧ True) ∧ True) ∨ ∃ (y : Nat), in4 s y ∧ ((3 : Int) + (modU .u64 n).tmod (4 : Int) = n4 n ∧ (2 : Int) + (modU .u64 d).tmod ((3 : Int) + (modU .u64 n).tmod (4 : Int) - 2) = d4 n d ∧ s = s ∧ (k : Int) = (k : Int) ∧ False ∧ (0 : Int) = (y : Int) ∧ True) ∧ False) ∧ (∀ (y : Unit), nxL (n4 n) s (12 : Nat) = [] → True ∧ True ∧ True ∧ inR .i64 ((k : Int) + 1) ∧ True ∧ ((∃ (y : Int × Int × List Int × Nat), (in4o y ∧ (2 : Nat) - y.snd.snd.snd < 2 - k) ∧ (n4 n = y.fst ∧ d4 n d = y.snd.fst ∧ ([] : List Int) = y.snd.snd.fst ∧ (k : Int) + 1 = (y.snd.snd.snd : Int) ∧ True) ∧ True) ∨ ∃ (y : Int × Int × List Int × Nat), (in4o y ∧ (2 : Nat) - y.snd.snd.snd < 2 - k) ∧ (n4 n = y.fst ∧ d4 n d = y.snd.fst ∧ False ∧ (k : Int) + 1 = (y.snd.snd.snd : Int) ∧ True) ∧ False)) ∧ (∀ (y : Unit), True → True ∧ True ∧ True ∧ inR .i64 ((k : Int) + 1) ∧ True ∧ ((∃ (y : Int × Int × List Int × Nat), (in4o y ∧ (2 : Nat) - y.snd.snd.snd < 2 - k) ∧ (n4 n = y.fst ∧ d4 n d = y.snd.fst ∧ False ∧ (k : Int) + 1 = (y.snd.snd.snd : Int) ∧ True) ∧ True) ∨ ∃ (y : Int × Int × List Int × Nat), (in4o y ∧ (2 : Nat) - y.snd.snd.snd < 2 - k) ∧ (n4 n = y.fst ∧ d4 n d = y.snd.fst ∧ True ∧ (k : Int) + 1 = (y.snd.snd.snd : Int) ∧ True) ∧ nxL (n4 n) s (12 : Nat) = y.snd.snd.fst ∧ True)) ∧ True) (by kernel_rfl) ?_
 simp only [zz]
 have h1 := u64_nn n
 have h2 := u64_nn d
 have h3 := Int.tmod_nonneg (a := modU .u64 d) (n4 n - 2) (u64_nn d)
 have n3 : 3 ≤ n4 n := by unfold n4; have := Int.tmod_nonneg (a := modU .u64 n) 4 h1; omega
 have h4 := Int.tmod_lt_of_pos (modU .u64 d) (show 0 < n4 n - 2 by omega)
 have hl4 := nx_len (n4 n) s 12
 have e1 : 3 + (modU .u64 n).tmod 4 = n4 n := rfl
 have e2 : 2 + (modU .u64 d).tmod (n4 n - 2) = d4 n d := rfl
 obtain ⟨n1, n2⟩ := hn
 simp only [e1, e2]
 refine ⟨by decide, by simp only [inR]; omega, by simp only [inR]; omega, by simp only [inR]; omega, by simp only [inR]; omega, by omega, by simp only [inR]; omega, by simp only [inR]; omega, hL, ⟨0, ⟨⟨Nat.zero_le _, Nat.zero_le _⟩, rfl⟩, trivial, trivial, rfl⟩, fun _ h5 => ⟨by simp only [inR]; omega, (n4 n, d4 n d, [], k + 1), ⟨⟨by simp, by simp only; omega⟩, by simp only; omega⟩, rfl, rfl, rfl, by simp only; omega⟩, fun _ _ => ⟨by simp only [inR]; omega, (n4 n, d4 n d, nxL (n4 n) s 12, k + 1), ⟨⟨by simp only; omega, by simp only; omega⟩, by simp only; omega⟩, ⟨rfl, rfl, by simp only; omega⟩, rfl⟩⟩
theorem moL_len (n d : Int) : (moL n d).length ≤ 64 := by
 unfold moL
 split
 · rename_i h
   unfold momL
   have h1 := trueN_len (momB n d) (2 ^ n.toNat)
   have h2 := Nat.pow_le_pow_right (show 0 < 2 by decide) (show n.toNat ≤ 6 by have := h.2.2; omega)
   omega
 · decide
theorem part4d (n d : Int) (s : List Int) (k : Nat) (hl : s.length ≤ 66) (hk : k < 2) : Sat X4 R4b (sA4 n d s k) (k4d k) := by
 refine .cut (Xh_ok _ _ _) 3 (H := nH) [0, 2, 7, 8] [⟨Unit, fun _ => True, fun _ => sA4 n d s k, fun _ => 0, fun _ => nH⟩] 150 (by kernel_rfl) ?_ ⟨fun _ _ => part4e n d s k hl hk, trivial⟩
 refine of_eq (q := True ∧ True ∧ (True ∧ True) ∧ True ∧ True ∧ True ∧ True ∧ True ∧ True ∧ True ∧ True ∧ (d < 2 → True ∧ True ∧ True ∧ True ∧ True ∧ True ∧ (¬moE n d = 1 → True ∧ True ∧ True ∧ (false = true ∧ True) ∧ True) ∧ (¬¬moE n d = 1 → True ∧ True ∧ True ∧ True ∧ (¬(↑(moL n d).length : Int) = 0 → True ∧ True ∧ (false = true ∧ True) ∧ True) ∧ (¬¬(↑(moL n d).length : Int) = 0 → ∃ (y : Unit), True ∧ (n = n ∧ d = d ∧ s = s ∧ (k : Int) = (k : Int) ∧ True) ∧ True))) ∧ (¬d < 2 → True ∧ True ∧ True ∧ True ∧ True ∧ (n ≤ d → True ∧ True ∧ True ∧ True ∧ (¬moE n d = 1 → True ∧ True ∧ True ∧ (false = true ∧ True) ∧ True) ∧ (¬¬moE n d = 1 → True ∧ True ∧ True ∧ True ∧ (¬(↑(moL n d).length : Int) = 0 → True ∧ True ∧ (false = true ∧ True) ∧ True) ∧ (¬¬(↑(moL n d).length : Int) = 0 → ∃ (y : Unit), True ∧ (n = n ∧ d = d ∧ s = s ∧ (k : Int) = (k : Int) ∧ True) ∧ True))) ∧ (¬n ≤ d → True ∧ True ∧ True ∧ ((6 : Int) < n → True ∧ True ∧ True ∧ (¬moE n d = 1 → True ∧ True ∧ True ∧ (false = true ∧ True) ∧ True) ∧ (¬¬moE n d = 1 → True ∧ True ∧ True ∧ True ∧ (¬(↑(moL n d).length : Int) = 0 → True ∧ True ∧ (false = true ∧ True) ∧ True) ∧ (¬¬(↑(moL n d).length : Int) = 0 → ∃ (y : Unit), True ∧ (n = n ∧ d = d ∧ s = s ∧ (k : Int) = (k : Int) ∧ True) ∧ True))) ∧ (¬(6 : Int) < n → True ∧ True ∧ True ∧ (¬moE n d = 0 → True ∧ True ∧ True ∧ (false = true ∧ True) ∧ True) ∧ (¬¬moE n d = 0 → True ∧ True ∧ True ∧ (((2 : Int) ≤ d ∧ d < n ∧ n ≤ 6) ∧ True) ∧ ((moL n d).length + 1 ≤ 1000000000000000 ∧ True) ∧ True ∧ True ∧ ((!decide (moL n d = refL n d)) = true → True ∧ True ∧ (false = true ∧ True) ∧ True) ∧ ((!decide (moL n d = refL n d)) = false → ∃ (y : Unit), True ∧ (n = n ∧ d = d ∧ s = s ∧ (k : Int) = (k : Int) ∧ True) ∧ True)))))) (by kernel_rfl) ?_
 simp only [zz]
 have hR := mr_all (n := n) (d := d)
 have hE : moE n d = if momOk n d then 0 else 1 := rfl
 have hL : moL n d = if momOk n d then momL n d else [] := rfl
 have hl2 := moL_len n d
 unfold momOk at *
 (repeat' first | with_reducible exact trivial | with_reducible apply And.intro | intro _)
 all_goals grind
theorem madR_len (n : Int) (s : List Int) : (madR n s).length ≤ 64 := by
 unfold madR fewR fewE
 grind
theorem madR_bad {n : Int} {s : List Int} (h : madE n s ≠ 0) : madR n s = [] := by
 unfold madR
 unfold madE at h
 split
 · rename_i hm; rw [if_pos hm] at h; unfold fewR; rw [if_neg h]
 · rfl
def s4c (n d : Int) (s : List Int) (k : Nat) (q : List Int) : St := ⟨.int .i64 n :: .dead :: .int .i64 d :: dd 4 ++ .sl I64 s :: .int .i64 k :: .sl I64 (madR n s) :: .int .i64 (madE n s) :: dd 3 ++ .int .i64 (madE n s) :: .sl I64 q :: dd 162, []⟩
theorem part4c (n d : Int) (s : List Int) (k : Nat) (q : List Int) (hl : s.length ≤ 66) (hk : k < 2) (hq : madE n s = 0 → q = madR n s) : Sat X4 R4b (s4c n d s k q) (k4c k) := by
 refine .cut (Xh_ok _ _ _) 2 (H := nH) [0, 2, 7, 8] [⟨Unit, fun _ => True, fun _ => sA4 n d s k, fun _ => 0, fun _ => nH⟩] 150 (by kernel_rfl) ?_ ⟨fun _ _ => part4d n d s k hl hk, trivial⟩
 refine of_eq (q := True ∧ True ∧ True ∧ True ∧ (¬madE n s = madE n s → True ∧ True ∧ True ∧ True ∧ True ∧ (false = true ∧ True) ∧ True) ∧ (¬¬madE n s = madE n s → True ∧ True ∧ True ∧ (¬madE n s = 0 → True ∧ True ∧ True ∧ True ∧ True ∧ True ∧ (¬(↑(madR n s).length : Int) = 0 → True ∧ True ∧ True ∧ (false = true ∧ True) ∧ True) ∧ (¬¬(↑(madR n s).length : Int) = 0 → True ∧ True ∧ True ∧ (madE n s = 0 → True ∧ True ∧ ((madR n s).length + 1 ≤ 1000000000000000 ∧ True) ∧ True ∧ True ∧ True ∧ ((!decide (madR n s = q)) = true → True ∧ True ∧ (false = true ∧ True) ∧ True) ∧ ((!decide (madR n s = q)) = false → ∃ (y : Unit), True ∧ (n = n ∧ d = d ∧ s = s ∧ (k : Int) = (k : Int) ∧ True) ∧ True)) ∧ (¬madE n s = 0 → True ∧ True ∧ ∃ (y : Unit), True ∧ (n = n ∧ d = d ∧ s = s ∧ (k : Int) = (k : Int) ∧ True) ∧ True))) ∧ (¬¬madE n s = 0 → True ∧ True ∧ True ∧ True ∧ True ∧ True ∧ (madE n s = 0 → True ∧ True ∧ ((madR n s).length + 1 ≤ 1000000000000000 ∧ True) ∧ True ∧ True ∧ True ∧ ((!decide (madR n s = q)) = true → True ∧ True ∧ (false = true ∧ True) ∧ True) ∧ ((!decide (madR n s = q)) = false → ∃ (y : Unit), True ∧ (n = n ∧ d = d ∧ s = s ∧ (k : Int) = (k : Int) ∧ True) ∧ True)) ∧ (¬madE n s = 0 → True ∧ True ∧ ∃ (y : Unit), True ∧ (n = n ∧ d = d ∧ s = s ∧ (k : Int) = (k : Int) ∧ True) ∧ True)))) (by kernel_rfl) ?_
 simp only [zz]
 have hl2 := madR_len n s
 have hb := madR_bad (n := n) (s := s)
 (repeat' first | with_reducible exact trivial | with_reducible apply And.intro | intro _)
 all_goals grind
def fm4c (n d : Int) (s : List Int) (k : Nat) : List Fam := [⟨List Int, fun q => madE n s = 0 → q = madR n s, s4c n d s k, fun _ => 0, fun _ => nH⟩]
noncomputable def k4f (k : Nat) : List It := (k4b k).drop 4
theorem part4f (n d : Int) (s : List Int) (k : Nat) (hl : s.length ≤ 66) (hk : k < 2) : Sat X4 R4b (sb4 n d s k 0) (k4f k) := by
 have hL := loop4b n d s k hl (cutR X4 (fun _ => some (hb4 n d s k)) R4b 150 [0, 2, 7, 8, 9, 10, 14, 15] (fm4c n d s k) ((k4f k).drop 4))
 refine .cut (Xh_ok _ _ _) 4 (H := fun _ => some (hb4 n d s k)) [0, 2, 7, 8, 9, 10, 14, 15] (fm4c n d s k) 150 (by kernel_rfl) ?_ ⟨fun q hq => part4c n d s k q hl hk hq, trivial⟩
 refine of_eq (q := LoopOK X4 L4_2 (hb4 n d s k) (cutR X4 (fun (x : Nat) => some (hb4 n d s k)) R4b (150 : Nat) [(0 : Nat), (2 : Nat), (7 : Nat), (8 : Nat), (9 : Nat), (10 : Nat), (14 : Nat), (15 : Nat)] (fm4c n d s k) (List.drop (4 : Nat) (k4f k))) ∧ (∃ (y : Nat), ib4 n s y ∧ (n = n ∧ d = d ∧ s = s ∧ (k : Int) = (k : Int) ∧ madR n s = madR n s ∧ madE n s = madE n s ∧ bdK n s (0 : Nat) = bdK n s y ∧ smK s (0 : Nat) = smK s y ∧ (0 : Int) = (y : Int) ∧ True) ∧ True) ∧ (∀ (y : Nat), ib4 n s y ∧ (y = s.length ∨ bdK n s y = true) → True ∧ True ∧ True ∧ True ∧ (bdK n s y = true → True ∧ ∃ (y : List Int), (madE n s = 0 → y = madR n s) ∧ (n = n ∧ d = d ∧ s = s ∧ (k : Int) = (k : Int) ∧ madR n s = madR n s ∧ madE n s = madE n s ∧ (1 : Int) = madE n s ∧ ([] : List Int) = y ∧ True) ∧ True) ∧ (bdK n s y = false → True ∧ True ∧ True ∧ ((!smK s y) = true → True ∧ ∃ (y : List Int), (madE n s = 0 → y = madR n s) ∧ (n = n ∧ d = d ∧ s = s ∧ (k : Int) = (k : Int) ∧ madR n s = madR n s ∧ madE n s = madE n s ∧ (4 : Int) = madE n s ∧ ([] : List Int) = y ∧ True) ∧ True) ∧ ((!smK s y) = false → True ∧ (ok22 s ∧ True) ∧ True ∧ True ∧ True ∧ True ∧ ((10 : Int) < (↑(pieL s).length : Int) → True ∧ ∃ (y : List Int), (madE n s = 0 → y = madR n s) ∧ (n = n ∧ d = d ∧ s = s ∧ (k : Int) = (k : Int) ∧ madR n s = madR n s ∧ madE n s = madE n s ∧ (8 : Int) = madE n s ∧ pieL s = y ∧ True) ∧ True) ∧ (¬(10 : Int) < (↑(pieL s).length : Int) → ∃ (y : List Int), (madE n s = 0 → y = madR n s) ∧ (n = n ∧ d = d ∧ s = s ∧ (k : Int) = (k : Int) ∧ madR n s = madR n s ∧ madE n s = madE n s ∧ (0 : Int) = madE n s ∧ pieL s = y ∧ True) ∧ True)))) ∧ True) (by kernel_rfl) ?_
 simp only [zz]
 refine ⟨hL, ⟨0, ⟨Nat.zero_le _, fun j h => absurd h (Nat.not_lt_zero _)⟩, rfl, rfl, rfl⟩, fun i hi => ?_⟩
 have hm := bd_end hi.1 hi.2
 have hs0 : bdK n s i = false → i = s.length := fun h => hi.2.resolve_right (by rw [h]; decide)
 have hsm := sm_end (s := s)
 have hE1 : ¬ madOk n s → madE n s = 1 := fun h => if_neg h
 have hE2 := madE_eq (n := n) (s := s)
 have hok : madOk n s → ok22 s := fun h => ⟨(mad_ok h).1, by omega⟩
 have hkey : bdK n s i = false → smK s i = (!decide (∀ i, i < s.length → s.getD i 0 ≤ 0)) := fun h => by
   rw [hs0 h]
   cases h2 : smK s s.length
   · simpa using hsm.mp h2
   · have := mt hsm.mpr (by rw [h2]; decide)
     simpa using this
 by_cases hmd : madOk n s
 · have hb := hm.mpr hmd
   have hk2 := hkey hb
   obtain ⟨e1, e2⟩ := hE2 hmd
   rw [hb, hk2]
   have ho := hok hmd
   by_cases hA : ∀ i, i < s.length → s.getD i 0 ≤ 0
   · rw [decide_eq_true hA, e1, if_pos hA]
     (repeat' first | with_reducible exact trivial | with_reducible apply And.intro | intro _)
     all_goals grind
   · rw [if_neg hA] at e1
     rw [decide_eq_false hA]
     (repeat' first | with_reducible exact trivial | with_reducible apply And.intro | intro _)
     all_goals grind
 · have hb : bdK n s i = true := by cases h : bdK n s i; exact absurd (hm.mp h) hmd; try rfl
   rw [hb, hE1 hmd]
   (repeat' first | with_reducible exact trivial | with_reducible apply And.intro | intro _)
   all_goals grind
def fm4f (n d : Int) (s : List Int) (k : Nat) : List Fam := [⟨Unit, fun _ => True, fun _ => sb4 n d s k 0, fun _ => 0, fun _ => nH⟩]
theorem part4b (n d : Int) (s : List Int) (k : Nat) (hl : s.length ≤ 66) (hk : k < 2) : Sat X4 R4b (sA4 n d s k) ((k4a k).drop 2) := by
 refine .opn (.cut (Xh_ok _ _ _) 4 (H := nH) [0, 2, 7, 8, 9, 10, 11, 12, 13] (fm4f n d s k) 150 (by kernel_rfl) ?_ ⟨fun _ _ => part4f n d s k hl hk, trivial⟩)
 refine of_eq (q := True ∧ True ∧ (s.length + 1 ≤ 1000000000000000 ∧ True) ∧ True ∧ True ∧ True ∧ True ∧ True ∧ True ∧ True ∧ True ∧ (n < 1 → True ∧ True ∧ True ∧ True ∧ True ∧ True ∧ ∃ (y : Unit), True ∧ (n = n ∧ d = d ∧ s = s ∧ (k : Int) = (k : Int) ∧ madR n s = madR n s ∧ madE n s = madE n s ∧ true = bdK n s (0 : Nat) ∧ false = false ∧ (0 : Int) = 0 ∧ True) ∧ True) ∧ (¬n < 1 → True ∧ True ∧ True ∧ True ∧ ((6 : Int) < n → True ∧ True ∧ True ∧ True ∧ ∃ (y : Unit), True ∧ (n = n ∧ d = d ∧ s = s ∧ (k : Int) = (k : Int) ∧ madR n s = madR n s ∧ madE n s = madE n s ∧ true = bdK n s (0 : Nat) ∧ false = false ∧ (0 : Int) = 0 ∧ True) ∧ True) ∧ (¬(6 : Int) < n → True ∧ True ∧ True ∧ True ∧ True ∧ True ∧ True ∧ ∃ (y : Unit), True ∧ (n = n ∧ d = d ∧ s = s ∧ (k : Int) = (k : Int) ∧ madR n s = madR n s ∧ madE n s = madE n s ∧ decide ((64 : Int) < (s.length : Int)) = bdK n s (0 : Nat) ∧ false = false ∧ (0 : Int) = 0 ∧ True) ∧ True))) (by kernel_rfl) ?_
 simp only [zz]
 simp only [bdK]
 (repeat' first | with_reducible exact trivial | with_reducible apply And.intro | intro _)
 all_goals grind
theorem part4bC (n d : Int) (s : List Int) (k : Nat) (hl : s.length ≤ 66) (hk : k < 2) : Sat X4 R4b (sC4 n d s k) ((k4a k).drop 2) := by
 refine .opn (.cut (Xh_ok _ _ _) 4 (H := nH) [0, 2, 7, 8, 9, 10, 11, 12, 13] (fm4f n d s k) 150 (by kernel_rfl) ?_ ⟨fun _ _ => part4f n d s k hl hk, trivial⟩)
 refine of_eq (q := True ∧ True ∧ (s.length + 1 ≤ 1000000000000000 ∧ True) ∧ True ∧ True ∧ True ∧ True ∧ True ∧ True ∧ True ∧ True ∧ (n < 1 → True ∧ True ∧ True ∧ True ∧ True ∧ True ∧ ∃ (y : Unit), True ∧ (n = n ∧ d = d ∧ s = s ∧ (k : Int) = (k : Int) ∧ madR n s = madR n s ∧ madE n s = madE n s ∧ true = bdK n s (0 : Nat) ∧ false = false ∧ (0 : Int) = 0 ∧ True) ∧ True) ∧ (¬n < 1 → True ∧ True ∧ True ∧ True ∧ ((6 : Int) < n → True ∧ True ∧ True ∧ True ∧ ∃ (y : Unit), True ∧ (n = n ∧ d = d ∧ s = s ∧ (k : Int) = (k : Int) ∧ madR n s = madR n s ∧ madE n s = madE n s ∧ true = bdK n s (0 : Nat) ∧ false = false ∧ (0 : Int) = 0 ∧ True) ∧ True) ∧ (¬(6 : Int) < n → True ∧ True ∧ True ∧ True ∧ True ∧ True ∧ True ∧ ∃ (y : Unit), True ∧ (n = n ∧ d = d ∧ s = s ∧ (k : Int) = (k : Int) ∧ madR n s = madR n s ∧ madE n s = madE n s ∧ decide ((64 : Int) < (s.length : Int)) = bdK n s (0 : Nat) ∧ false = false ∧ (0 : Int) = 0 ∧ True) ∧ True))) (by kernel_rfl) ?_
 simp only [zz]
 simp only [bdK]
 (repeat' first | with_reducible exact trivial | with_reducible apply And.intro | intro _)
 all_goals grind
theorem loop4o (R : Exit → St → Prop) (hR : R = R4) : LoopOK X4 L4_0 ⟨chks 0 [0, 2, 7, 8] fo4, eo4.map (·.2)⟩ R := by
 subst hR
 refine loop_famsS [0, 2, 7, 8] fo4 eo4 ⟨fun x hx => ?_, fun x hx => ?_, trivial⟩
 · obtain ⟨n, d, s, k⟩ := x
   obtain ⟨x1, x2⟩ := hx
   simp only at x1 x2
   refine .opn (.cut (Xh_ok _ _ _) 2 (H := nH) [0, 2, 7, 8] [⟨Unit, fun _ => k < 2, fun _ => sA4 n d s k, fun _ => 0, fun _ => nH⟩] 150 (by kernel_rfl) ?_ ⟨fun _ h => part4b n d s k x1 h, trivial⟩)
   refine of_eq (q := True ∧ True ∧ ((k : Int) < 2 → ∃ (y : Unit), k < 2 ∧ (n = n ∧ d = d ∧ s = s ∧ (k : Int) = (k : Int) ∧ True) ∧ True) ∧ (¬(k : Int) < 2 → ∃ (y : Unit), True ∧ True ∧ True)) (by kernel_rfl) ?_
   simp only [zz]
   exact ⟨fun h => by omega, fun _ => trivial⟩
 · obtain ⟨n, d, s, k⟩ := x
   obtain ⟨x1, x2⟩ := hx
   simp only at x1 x2
   refine .opn (.cut (Xh_ok _ _ _) 2 (H := nH) [0, 2, 7, 8] [⟨Unit, fun _ => k < 2, fun _ => sC4 n d s k, fun _ => 0, fun _ => nH⟩] 150 (by kernel_rfl) ?_ ⟨fun _ h => part4bC n d s k x1 h, trivial⟩)
   refine of_eq (q := True ∧ True ∧ ((k : Int) < 2 → ∃ (y : Unit), k < 2 ∧ (n = n ∧ d = d ∧ True ∧ (k : Int) = (k : Int) ∧ True) ∧ s = s ∧ True) ∧ (¬(k : Int) < 2 → ∃ (y : Unit), True ∧ True ∧ True)) (by kernel_rfl) ?_
   simp only [zz]
   exact ⟨fun h => by omega, fun _ => trivial⟩
theorem call4 (n : Int) (l : List Int) (d : Int) (hl : l.length < 1000000000000000) : GCall Try.prog gl 4 true [.int .i64 n, .sl I64 l, .int .i64 d] [] [.tt] [] := by
 have hL := loop4o R4 rfl
 refine gcall_of (X := X4) ((Xh_ok _ _ _)) (f := 4) (fn := Try.f4) (c := bodyOf Try.f4) (by kernel_rfl) (by kernel_rfl) (view := false) (rvs := [.tmp 6]) (by kernel_rfl) (H := (fun _ => some ⟨chks 0 [0, 2, 7, 8] fo4, eo4.map (·.2)⟩)) 150 (by kernel_rfl) ?_
 refine of_eq (q := True ∧ True ∧ ((l.length < 1000000000000000 ∧ (0 : Int) ≤ 66 ∧ (66 : Int) < 1000000) ∧ True) ∧ True ∧ True ∧ LoopOK X4 L4_0 { J := chks (0 : Nat) [(0 : Nat), (2 : Nat), (7 : Nat), (8 : Nat)] fo4, exits := List.map (fun (x : List Nat × Ex) => x.snd) eo4 } R4 ∧ ((∃ (y : Int × Int × List Int × Nat), in4o y ∧ (n = y.fst ∧ d = y.snd.fst ∧ List.take (66 : Nat) l = y.snd.snd.fst ∧ (0 : Int) = (y.snd.snd.snd : Int) ∧ True) ∧ True) ∨ ∃ (y : Int × Int × List Int × Nat), in4o y ∧ (n = y.fst ∧ d = y.snd.fst ∧ False ∧ (0 : Int) = (y.snd.snd.snd : Int) ∧ True) ∧ False) ∧ (∀ (y : Unit), True → (True ∧ True) ∧ True ∧ True ∧ (true = true ∧ True) ∧ True) ∧ True) (by kernel_rfl) ?_
 simp only [zz]
 exact ⟨⟨hl, by decide, by decide⟩, hL, ⟨(n, d, l.take 66, 0), ⟨by simp only [List.length_take]; omega, Nat.zero_le _⟩, rfl, rfl, rfl, rfl⟩, fun _ _ => trivial⟩
end Go.Am.Sh

/- Shells: from the laws' contracts to the given statements: what all laws share. -/
namespace Go.Proofs.Ytfpoonbcnabihaa
open Go Go.ChangeShapes Go.WideShapes Go.ChangeAt Go.RowKit Go.Am Go.Am.Sh
theorem own : ownKnob Try.prog.godebug = none := by kernel_rfl
theorem laidOut : laidOutB Try.prog = true := by kernel_rfl
theorem u3 : Try.prog.underlying 3 = some (.int .i64) := by kernel_rfl
theorem u4 : Try.prog.underlying 4 = some .bool := by kernel_rfl
theorem u22 : Try.prog.underlying 22 = some (.slice 3) := by kernel_rfl
theorem tyOk3 : TyOk Try.prog 3 I64 := u3
theorem tyOk22 : TyOk Try.prog 22 (.sl I64) := ⟨3, u22, u3, by kernel_rfl, by decide, of_decide_eq_true (by kernel_rfl)⟩
theorem reach_le {l : List Nat} (h : l.all (fun x => decide (x ≤ reachBytes)) = true) : ∀ n ∈ l, n ≤ 140737488355328 := fun n hn => by
 have := of_decide_eq_true (List.all_eq_true.mp h n hn)
 have e : reachBytes = 140737488351232 := rfl
 omega
theorem glob_of {W : World} : GlobOk gl (fun b => b < W.heap.size) W := fun g p hp => by cases hp
end Go.Proofs.Ytfpoonbcnabihaa
