/- Part B4 of the proof that the law named in the last file returns true at every input and leaves its arguments as they were; no condition of its own. -/
import Derived.Test.YtfpoonbcnabihaaB3
import Derived.Test.YtfpoonbcnabihaaA2
import Derived.Test.YtfpoonbcnabihaaRows
import Derived.WalkKit
import Derived.ProofKit
import Derived.OpenShut
import Derived.SizedLaws
import Derived.ChangeOld
import Derived.Below
import Derived.Stop.Joined
set_option linter.unusedSimpArgs false
set_option linter.unusedVariables false
/- Shells: a shelling is searched. -/
namespace Go.Am.Sh
open Go Go.Am Go.Proofs
noncomputable def Xb (l : EL) (m0 : Nat) (bs : List Nat) (dr : Nat → Option Nat) : Cy := { mkX Try.prog tt gl l m0 dr with bs := bs }
theorem Xb_ok (l : EL) (m0 : Nat) (bs : List Nat) (dr : Nat → Option Nat) : (Xb l m0 bs dr).Ok := (mkX_ok tt_ok l m0 dr).bump bs
abbrev Mm := List (Int × Bool)
abbrev Res := Bool × List Int × Mm
def mg (m : Mm) (d : Int) : Bool := (mGet I64 m d).getD false
def mp (m : Mm) (d : Int) : Mm := mPut I64 m d true
/-- The first rounds, until one comes to an end. -/
def lpK (p : List Int) (f : Nat → List Int → Mm → Res) (D : Nat) (l : List Int) (m : Mm) : Nat → Res
 | 0 => (false, l, m)
 | k + 1 => if (lpK p f D l m k).1 = true then lpK p f D l m k else if D / 2 ^ k % 2 = 1 ∨ flw p D k = false then lpK p f D l m k else
     if (f (D ||| 2 ^ k) (l ++ [(k : Int)]) (lpK p f D l m k).2.2).1 = true then f (D ||| 2 ^ k) (l ++ [(k : Int)]) (lpK p f D l m k).2.2
     else (false, l, (f (D ||| 2 ^ k) (l ++ [(k : Int)]) (lpK p f D l m k).2.2).2.2)
/-- The search; as many levels as pieces are left. -/
def gr (p : List Int) : Nat → Nat → List Int → Mm → Res
 | 0, _, l, m => (true, l, m)
 | n + 1, D, l, m => if mg m D = true then (false, l, m) else if (lpK p (gr p n) D l m p.length).1 = true then lpK p (gr p n) D l m p.length else (false, l, mp (lpK p (gr p n) D l m p.length).2.2 D)
theorem gr_list {p : List Int} {n D : Nat} {l : List Int} {m : Mm} (h : (gr p n D l m).1 = false) : (gr p n D l m).2.1 = l := by
 cases n with
 | zero => cases h
 | succ n =>
   rw [gr] at h ⊢
   split
   · rfl
   · rename_i h1; rw [if_neg h1] at h
     split
     · rename_i h2; rw [if_pos h2, h2] at h; cases h
     · rfl
theorem lpK_stop {p : List Int} {f : Nat → List Int → Mm → Res} {D : Nat} {l : List Int} {m : Mm} {k : Nat} (h : (lpK p f D l m k).1 = true) : ∀ j, lpK p f D l m (k + j) = lpK p f D l m k
 | 0 => rfl
 | j + 1 => by rw [show k + (j + 1) = k + j + 1 by omega, lpK, lpK_stop h j, if_pos h]
def clo55 (a b c d : Nat) : AV := .clo 55 [] [.ptr a 0 [], .ptr b 0 [], .ptr c 0 [], .ptr d 0 []]
def mmO (m : Mm) : Ob := .mo I64 .bool m
def gS (v : Nat) (n : Int) (p l : List Int) (m : Mm) : List Ob := [.bx (.own 1 v), .sc v 3 I64 l, .bx (.ptr 3 0 []), cxO n p, .bx (.mp 5), mmO m, .bx (clo55 0 2 4 6)]
def aS (D : Int) : List AV := [.int .i64 D, .ptr 0 0 [], .ptr 2 0 [], .ptr 4 0 [], .ptr 6 0 []]
structure pre55 (n : Int) (p : List Int) (lv D : Nat) (l : List Int) : Prop where
 h : cxOk n p
 D : D < 2 ^ p.length
 l : l.length + lv = p.length
def GS (lv : Nat) : Prop := ∀ (n : Int) (p : List Int) (D : Nat) (l : List Int) (m : Mm), pre55 n p lv D l → GCall Try.prog gl 55 false (aS D) (gS 0 n p l m) [.bool (gr p lv D l m).1] (gS 1 n p (gr p lv D l m).2.1 (gr p lv D l m).2.2)
def unMm : Ob → Option Mm
 | .mo k v m => (if h : k = I64 ∧ v = .bool then some (by obtain ⟨rfl, rfl⟩ := h; exact m) else none)
 | _ => none
def unSc : Ob → Option (List Int)
 | .sc _ _ e xs => castL e I64 xs
 | _ => none
abbrev G5 := Int × Cx3 × List Int × Mm
def get55 (xs : List AV) (obs : List Ob) : Option G5 :=
 match xs with
 | .int .i64 d :: _ => (match unSc (obs.getD 1 .gone), unCx (obs.getD 3 .gone), unMm (obs.getD 5 .gone) with
   | some l, some x, some m => some (d, x, l, m)
   | _, _, _ => none)
 | _ => none
def gSq (v : Nat) (x : Cx3) (l : List Int) (m : Mm) : List Ob := [.bx (.own 1 v), .sc v 3 I64 l, .bx (.ptr 3 0 []), cxQ x, .bx (.mp 5), mmO m, .bx (clo55 0 2 4 6)]
structure ok55 (lv : Nat) (x : G5) : Prop where
 h : okC x.2.1
 d : 0 ≤ x.1
 p : pre55 x.2.1.1 x.2.1.2.1 lv x.1.toNat x.2.2.1
def e55S (lv : Nat) (h : GS lv) : Entry Try.prog gl := entryW 55 ⟨Try.f55, by kernel_rfl, by kernel_rfl, by kernel_rfl⟩ true get55 (ok55 lv) false (fun x => aS x.1) (fun x => gSq 0 x.2.1 x.2.2.1 x.2.2.2) (fun x => [.bool (gr x.2.1.2.1 lv x.1.toNat x.2.2.1 x.2.2.2).1])
 (fun x => gSq 1 x.2.1 (gr x.2.1.2.1 lv x.1.toNat x.2.2.1 x.2.2.2).2.1 (gr x.2.1.2.1 lv x.1.toNat x.2.2.1 x.2.2.2).2.2) (fun x hx => by
   have := h _ _ _ _ x.2.2.2 hx.p
   rw [Int.toNat_of_nonneg hx.d] at this
   have e : ∀ v l m, gSq v x.2.1 l m = gS v x.2.1.1 x.2.1.2.1 l m := fun v l m => by unfold gSq gS; rw [cxQ_ok hx.h]
   rw [e, e]; exact this)
noncomputable abbrev X55 (es : EL) : Cy := Xb es 7 [1] (fun _ => none)
theorem gS0 : GS 0 := by
 intro n p D l m hp
 refine gcall_of (X := (X55 [e56])) ((Xb_ok _ _ _ _)) (f := 55) (fn := Try.f55) (c := bodyOf Try.f55) (by kernel_rfl) (by kernel_rfl) (view := false) (rvs := [.tmp 6]) (by kernel_rfl) (H := fun _ => none) 80 (by kernel_rfl) ?_
 refine of_eq (q := True ∧ True ∧ True ∧ True ∧ True ∧ True ∧ True ∧ True ∧ True ∧ ((l.length : Int) = (p.length : Int) → True ∧ True ∧ (true = true ∧ True) ∧ True ∧ l = (gr p (0 : Nat) D l m).snd.fst ∧ True ∧ (n = n ∧ p = p ∧ mk (isF p) = mk (isF p) ∧ True) ∧ True ∧ m = (gr p (0 : Nat) D l m).snd.snd ∧ (True ∧ True ∧ True ∧ True ∧ True ∧ True) ∧ True) ∧ (¬(l.length : Int) = (p.length : Int) → True ∧ True ∧ True ∧ ((mGet I64 m (D : Int)).getD false = true → True ∧ True ∧ (false = true ∧ True) ∧ True ∧ l = (gr p (0 : Nat) D l m).snd.fst ∧ True ∧ (n = n ∧ p = p ∧ mk (isF p) = mk (isF p) ∧ True) ∧ True ∧ m = (gr p (0 : Nat) D l m).snd.snd ∧ (True ∧ True ∧ True ∧ True ∧ True ∧ True) ∧ True) ∧ ((mGet I64 m (D : Int)).getD false = false → True ∧ True ∧ True ∧ True ∧ True ∧ True ∧ False))) (by kernel_rfl) ?_
 simp only [zz]
 have h1 := hp.l
 exact ⟨fun _ => ⟨rfl, rfl⟩, fun h => absurd (by omega) h⟩
noncomputable def L55_0 : Code := lp (bodyOf Try.f55) 0
theorem or_pow10 {D k : Nat} (hD : D < 1024) (hk : k < 10) : bOr .i64 (D : Int) (1 * 2 ^ k) = ((D ||| 2 ^ k : Nat) : Int) ∧ D ||| 2 ^ k < 1024 ∧ (1 : Int) * 2 ^ k ≤ 512 ∧ (0 : Int) ≤ 1 * 2 ^ k := by
 have h2 : 2 ^ k ≤ 2 ^ 9 := Nat.pow_le_pow_right (by decide) (by omega)
 have e : (2 ^ k : Int) = ((2 ^ k : Nat) : Int) := by rw [Int.natCast_pow]; try rfl
 have h3 : D ||| 2 ^ k < 2 ^ 10 := Nat.or_lt_two_pow hD (by omega)
 have hb : bOr .i64 (D : Int) ((2 ^ k : Nat) : Int) = ((D ||| 2 ^ k : Nat) : Int) := bOr_nat (by omega) (by omega)
 rw [Int.one_mul, e]
 refine ⟨hb, by omega, ?_, Int.natCast_nonneg _⟩
 generalize 2 ^ k = P at *
 omega
theorem lpK_go {p : List Int} {f : Nat → List Int → Mm → Res} {D : Nat} {l : List Int} {m : Mm} {k : Nat} (h : (lpK p f D l m k).1 = false) : lpK p f D l m (k + 1) = if D / 2 ^ k % 2 = 1 ∨ flw p D k = false then lpK p f D l m k else
     if (f (D ||| 2 ^ k) (l ++ [(k : Int)]) (lpK p f D l m k).2.2).1 = true then f (D ||| 2 ^ k) (l ++ [(k : Int)]) (lpK p f D l m k).2.2
     else (false, l, (f (D ||| 2 ^ k) (l ++ [(k : Int)]) (lpK p f D l m k).2.2).2.2) := by rw [lpK, if_neg (by simp [h])]
theorem pre_D {n : Int} {p : List Int} {lv D : Nat} {l : List Int} (h : pre55 n p lv D l) : D < 1024 := by
 have := Nat.pow_le_pow_right (show 0 < 2 by decide) h.h.2.1.2
 have := h.D
 omega
def stS (v : Nat) (n : Int) (p : List Int) (f : Nat → List Int → Mm → Res) (D : Nat) (l : List Int) (m : Mm) (k : Nat) : St := ⟨aS D ++ dd 18 ++ .int .i64 p.length :: .int .i64 k :: dd 34, gS v n p l (lpK p f D l m k).2.2⟩
def inS (p : List Int) (f : Nat → List Int → Mm → Res) (D : Nat) (l : List Int) (m : Mm) (k : Nat) : Prop := k ≤ p.length ∧ (lpK p f D l m k).1 = false
def fmS (n : Int) (p : List Int) (f : Nat → List Int → Mm → Res) (D : Nat) (l : List Int) (m : Mm) : List Fam := [⟨Nat, inS p f D l m, stS 0 n p f D l m, fun k => p.length - k, fun _ _ => none⟩, ⟨Nat, inS p f D l m, stS 1 n p f D l m, fun k => p.length - k, fun _ _ => none⟩]
def exS (n : Int) (p : List Int) (f : Nat → List Int → Mm → Res) (D : Nat) (l : List Int) (m : Mm) : List (List Nat × Ex) := [([0, 1, 2, 3, 4], ⟨0, Unit, fun _ => (lpK p f D l m p.length).1 = false, fun _ => ⟨aS D ++ dd 54, gS 0 n p l (lpK p f D l m p.length).2.2⟩⟩), ([0, 1, 2, 3, 4], ⟨0, Unit, fun _ => (lpK p f D l m p.length).1 = false, fun _ => ⟨aS D ++ dd 54, gS 1 n p l (lpK p f D l m p.length).2.2⟩⟩)]
def hS (n : Int) (p : List Int) (f : Nat → List Int → Mm → Res) (D : Nat) (l : List Int) (m : Mm) : Hint := ⟨chks 7 [0, 1, 2, 3, 4, 23, 24] (fmS n p f D l m), (exS n p f D l m).map (·.2)⟩
noncomputable def HS (n : Int) (p : List Int) (f : Nat → List Int → Mm → Res) (D : Nat) (l : List Int) (m : Mm) : Nat → Option Hint := fun _ => some (hS n p f D l m)
theorem loopS (lv : Nat) (h' : GS lv) (n : Int) (p : List Int) (D : Nat) (l : List Int) (m : Mm) (hp : pre55 n p (lv + 1) D l) (hm : ¬ mg m D = true) : LoopOK (X55 [e56, e55S lv h']) L55_0 (hS n p (gr p lv) D l m)
   (RetR (X55 [e56, e55S lv h']) false false [.tmp 6] [.bool (gr p (lv + 1) D l m).1] (gS 1 n p (gr p (lv + 1) D l m).2.1 (gr p (lv + 1) D l m).2.2)) := by
 refine loop_fams (Xb_ok _ _ _ _) [0, 1, 2, 3, 4, 23, 24] (fmS n p (gr p lv) D l m) (exS n p (gr p lv) D l m) 150 ⟨fun (k : Nat) hk => ?_, fun (k : Nat) hk => ?_, trivial⟩
 · refine of_eq (q := True ∧ ((k : Int) < (p.length : Int) → True ∧ True ∧ True ∧ True ∧ inR .u64 (k : Int) ∧ ((0 : Int) ≤ (k : Int) ∧ (k : Int) < bitsOf .i64) ∧ True ∧ True ∧ True ∧ (bAnd .i64 ((D : Int) / (2 : Int) ^ k) (1 : Int) = 1 → True ∧ inR .i64 ((k : Int) + 1) ∧ True ∧ ((∃ (y : Nat), (inS p (gr p lv) D l m y ∧ p.length - y < p.length - k) ∧ ((D : Int) = (D : Int) ∧ True ∧ True ∧ True ∧ True ∧ (p.length : Int) = (p.length : Int) ∧ (k : Int) + 1 = (y : Int) ∧ True) ∧ True ∧ l = l ∧ True ∧ (n = n ∧ p = p ∧ mk (isF p) = mk (isF p) ∧ True) ∧ True ∧ (lpK p (gr p lv) D l m k).snd.snd = (lpK p (gr p lv) D l m y).snd.snd ∧ (True ∧ True ∧ True ∧ True ∧ True ∧ True) ∧ True) ∨ ∃ (y : Nat), (inS p (gr p lv) D l m y ∧ p.length - y < p.length - k) ∧ ((D : Int) = (D : Int) ∧ True ∧ True ∧ True ∧ True ∧ (p.length : Int) = (p.length : Int) ∧ (k : Int) + 1 = (y : Int) ∧ True) ∧ False ∧ False ∧ True ∧ (n = n ∧ p = p ∧ mk (isF p) = mk (isF p) ∧ True) ∧ True ∧ (lpK p (gr p lv) D l m k).snd.snd = (lpK p (gr p lv) D l m y).snd.snd ∧ (True ∧ True ∧ True ∧ True ∧ True ∧ True) ∧ True)) ∧ (¬bAnd .i64 ((D : Int) / (2 : Int) ^ k) (1 : Int) = 1 → True ∧ True ∧ True ∧ ((ok56 ((D : Int), (k : Int), n, p, mk (isF p)) ∧ (True ∧ (D : Int) = (D : Int) ∧ (k : Int) = (k : Int) ∧ True) ∧ (n = n ∧ p = p ∧ mk (isF p) = mk (isF p) ∧ True) ∧ True) ∧ True ∧ True) ∧ True ∧ True ∧ ((!flw p D k) = true → inR .i64 ((k : Int) + 1) ∧ True ∧ ((∃ (y : Nat), (inS p (gr p lv) D l m y ∧ p.length - y < p.length - k) ∧ ((D : Int) = (D : Int) ∧ True ∧ True ∧ True ∧ True ∧ (p.length : Int) = (p.length : Int) ∧ (k : Int) + 1 = (y : Int) ∧ True) ∧ True ∧ l = l ∧ True ∧ (n = n ∧ p = p ∧ mk (isF p) = mk (isF p) ∧ True) ∧ True ∧ (lpK p (gr p lv) D l m k).snd.snd = (lpK p (gr p lv) D l m y).snd.snd ∧ (True ∧ True ∧ True ∧ True ∧ True ∧ True) ∧ True) ∨ ∃ (y : Nat), (inS p (gr p lv) D l m y ∧ p.length - y < p.length - k) ∧ ((D : Int) = (D : Int) ∧ True ∧ True ∧ True ∧ True ∧ (p.length : Int) = (p.length : Int) ∧ (k : Int) + 1 = (y : Int) ∧ True) ∧ False ∧ False ∧ True ∧ (n = n ∧ p = p ∧ mk (isF p) = mk (isF p) ∧ True) ∧ True ∧ (lpK p (gr p lv) D l m k).snd.snd = (lpK p (gr p lv) D l m y).snd.snd ∧ (True ∧ True ∧ True ∧ True ∧ True ∧ True) ∧ True)) ∧ ((!flw p D k) = false → True ∧ True ∧ True ∧ sumPre l.length [(k : Int)].length (nat_lit 8) ∧ True ∧ True ∧ True ∧ True ∧ inR .u64 (k : Int) ∧ (((0 : Int) ≤ (k : Int) ∧ (k : Int) < bitsOf .i64) ∧ (-9223372036854775808 : Int) ≤ 1 * 2 ^ k ∧ (1 : Int) * 2 ^ k ≤ 9223372036854775807) ∧ True ∧ ((ok55 lv (bOr .i64 (D : Int) ((1 : Int) * 2 ^ k), (n, p, mk (isF p)), l ++ [(k : Int)], (lpK p (gr p lv) D l m k).snd.snd) ∧ (bOr .i64 (D : Int) ((1 : Int) * 2 ^ k) = bOr .i64 (D : Int) ((1 : Int) * 2 ^ k) ∧ True ∧ True ∧ True ∧ True ∧ True) ∧ True ∧ l ++ [(k : Int)] = l ++ [(k : Int)] ∧ True ∧ (n = n ∧ p = p ∧ mk (isF p) = mk (isF p) ∧ True) ∧ True ∧ (lpK p (gr p lv) D l m k).snd.snd = (lpK p (gr p lv) D l m k).snd.snd ∧ (True ∧ True ∧ True ∧ True ∧ True ∧ True) ∧ True) ∧ True ∧ True ∧ True ∧ True ∧ True ∧ True ∧ True ∧ True) ∧ ((gr p lv (bOr .i64 (D : Int) ((1 : Int) * 2 ^ k)).toNat (l ++ [(k : Int)]) (lpK p (gr p lv) D l m k).snd.snd).fst = true → True ∧ True ∧ (true = (gr p (lv + 1) D l m).fst ∧ True) ∧ True ∧ (gr p lv (bOr .i64 (D : Int) ((1 : Int) * 2 ^ k)).toNat (l ++ [(k : Int)]) (lpK p (gr p lv) D l m k).snd.snd).snd.fst = (gr p (lv + 1) D l m).snd.fst ∧ True ∧ (n = n ∧ p = p ∧ mk (isF p) = mk (isF p) ∧ True) ∧ True ∧ (gr p lv (bOr .i64 (D : Int) ((1 : Int) * 2 ^ k)).toNat (l ++ [(k : Int)]) (lpK p (gr p lv) D l m k).snd.snd).snd.snd = (gr p (lv + 1) D l m).snd.snd ∧ (True ∧ True ∧ True ∧ True ∧ True ∧ True) ∧ True) ∧ ((gr p lv (bOr .i64 (D : Int) ((1 : Int) * 2 ^ k)).toNat (l ++ [(k : Int)]) (lpK p (gr p lv) D l m k).snd.snd).fst = false → True ∧ True ∧ True ∧ inR .i64 ((↑(gr p lv (bOr .i64 (D : Int) ((1 : Int) * 2 ^ k)).toNat (l ++ [(k : Int)]) (lpK p (gr p lv) D l m k).snd.snd).snd.fst.length : Int) - 1) ∧ ((0 : Int) ≤ (↑(gr p lv (bOr .i64 (D : Int) ((1 : Int) * 2 ^ k)).toNat (l ++ [(k : Int)]) (lpK p (gr p lv) D l m k).snd.snd).snd.fst.length : Int) - 1 ∧ (↑(gr p lv (bOr .i64 (D : Int) ((1 : Int) * 2 ^ k)).toNat (l ++ [(k : Int)]) (lpK p (gr p lv) D l m k).snd.snd).snd.fst.length : Int) - 1 ≤ (↑(gr p lv (bOr .i64 (D : Int) ((1 : Int) * 2 ^ k)).toNat (l ++ [(k : Int)]) (lpK p (gr p lv) D l m k).snd.snd).snd.fst.length : Int)) ∧ True ∧ inR .i64 ((k : Int) + 1) ∧ True ∧ ((∃ (y : Nat), (inS p (gr p lv) D l m y ∧ p.length - y < p.length - k) ∧ ((D : Int) = (D : Int) ∧ True ∧ True ∧ True ∧ True ∧ (p.length : Int) = (p.length : Int) ∧ (k : Int) + 1 = (y : Int) ∧ True) ∧ False ∧ False ∧ True ∧ (n = n ∧ p = p ∧ mk (isF p) = mk (isF p) ∧ True) ∧ True ∧ (gr p lv (bOr .i64 (D : Int) ((1 : Int) * 2 ^ k)).toNat (l ++ [(k : Int)]) (lpK p (gr p lv) D l m k).snd.snd).snd.snd = (lpK p (gr p lv) D l m y).snd.snd ∧ (True ∧ True ∧ True ∧ True ∧ True ∧ True) ∧ True) ∨ ∃ (y : Nat), (inS p (gr p lv) D l m y ∧ p.length - y < p.length - k) ∧ ((D : Int) = (D : Int) ∧ True ∧ True ∧ True ∧ True ∧ (p.length : Int) = (p.length : Int) ∧ (k : Int) + 1 = (y : Int) ∧ True) ∧ True ∧ List.take ((↑(gr p lv (bOr .i64 (D : Int) ((1 : Int) * 2 ^ k)).toNat (l ++ [(k : Int)]) (lpK p (gr p lv) D l m k).snd.snd).snd.fst.length : Int) - 1).toNat (gr p lv (bOr .i64 (D : Int) ((1 : Int) * 2 ^ k)).toNat (l ++ [(k : Int)]) (lpK p (gr p lv) D l m k).snd.snd).snd.fst = l ∧ True ∧ (n = n ∧ p = p ∧ mk (isF p) = mk (isF p) ∧ True) ∧ True ∧ (gr p lv (bOr .i64 (D : Int) ((1 : Int) * 2 ^ k)).toNat (l ++ [(k : Int)]) (lpK p (gr p lv) D l m k).snd.snd).snd.snd = (lpK p (gr p lv) D l m y).snd.snd ∧ (True ∧ True ∧ True ∧ True ∧ True ∧ True) ∧ True))))) ∧ (¬(k : Int) < (p.length : Int) → (∃ (y : Unit), (lpK p (gr p lv) D l m p.length).fst = false ∧ ((D : Int) = (D : Int) ∧ True ∧ True ∧ True ∧ True ∧ True) ∧ True ∧ l = l ∧ True ∧ (n = n ∧ p = p ∧ mk (isF p) = mk (isF p) ∧ True) ∧ True ∧ (lpK p (gr p lv) D l m k).snd.snd = (lpK p (gr p lv) D l m p.length).snd.snd ∧ (True ∧ True ∧ True ∧ True ∧ True ∧ True) ∧ True) ∨ ∃ (y : Unit), (lpK p (gr p lv) D l m p.length).fst = false ∧ ((D : Int) = (D : Int) ∧ True ∧ True ∧ True ∧ True ∧ True) ∧ False ∧ False ∧ True ∧ (n = n ∧ p = p ∧ mk (isF p) = mk (isF p) ∧ True) ∧ True ∧ (lpK p (gr p lv) D l m k).snd.snd = (lpK p (gr p lv) D l m p.length).snd.snd ∧ (True ∧ True ∧ True ∧ True ∧ True ∧ True) ∧ True)) (by kernel_rfl) ?_
   simp only [zz]
   obtain ⟨k1, k2⟩ := hk
   have hl := hp.l
   have hc := hp.h.2.1
   have hD := pre_D hp
   refine ⟨fun h => ?_, fun h => by rw [show p.length = k by omega]; exact ⟨k2, rfl⟩⟩
   have hkp : k < p.length := by omega
   have hb := or_pow10 hD (k := k) (by omega)
   have hst := lpK_go k2
   rw [bit_shr hD, hb.1, Int.toNat_natCast]
   have hskip : (D / 2 ^ k % 2 = 1 ∨ flw p D k = false) → inR .i64 ((k : Int) + 1) ∧ ∃ y : Nat, (inS p (gr p lv) D l m y ∧ p.length - y < p.length - k) ∧ (k : Int) + 1 = (y : Int) ∧ (lpK p (gr p lv) D l m k).2.2 = (lpK p (gr p lv) D l m y).2.2 := fun hh => by
     rw [if_pos hh] at hst
     exact ⟨by simp only [inR]; omega, k + 1, ⟨⟨by omega, by rw [hst]; exact k2⟩, by omega⟩, by omega, by rw [hst]⟩
   refine ⟨by simp only [inR]; omega, ⟨by omega, by simp only [bitsOf]; omega⟩, fun hx => hskip (.inl (by omega)), fun hx => ⟨⟨⟨hp.h, rfl⟩, ⟨by simp only; omega, by simp only; omega⟩, ⟨by simp only; omega, by simp only; omega⟩⟩, fun hx2 => hskip (.inr (by simpa using hx2)), fun hx2 => ?_⟩⟩
   have hx2 : flw p D k = true := by simpa using hx2
   rw [if_neg (by simp [hx2]; omega)] at hst
   have hlt : D ||| 2 ^ k < 2 ^ p.length := Nat.or_lt_two_pow hp.D (Nat.pow_lt_pow_right (by decide) hkp)
   have hpre : pre55 n p lv (D ||| 2 ^ k) (l ++ [(k : Int)]) := ⟨hp.h, hlt, by simp; omega⟩
   refine ⟨by unfold sumPre; simp; omega, by simp only [inR]; omega, ⟨⟨by omega, by simp only [bitsOf]; omega⟩, by omega, by omega⟩, ⟨⟨hp.h, rfl⟩, by simp only; omega, hpre⟩, fun hr => ?_, fun hr => ?_⟩
   · have hr : (gr p lv (D ||| 2 ^ k) (l ++ [(k : Int)]) (lpK p (gr p lv) D l m k).2.2).1 = true := hr
     rw [if_pos hr] at hst
     have hs := lpK_stop (k := k + 1) (by rw [hst]; exact hr) (p.length - (k + 1))
     rw [show k + 1 + (p.length - (k + 1)) = p.length by omega, hst] at hs
     have e : gr p (lv + 1) D l m = gr p lv (D ||| 2 ^ k) (l ++ [(k : Int)]) (lpK p (gr p lv) D l m k).2.2 := by rw [gr, if_neg hm, hs, if_pos hr]
     rw [e]
     exact ⟨hr.symm, rfl, rfl⟩
   · have hr : (gr p lv (D ||| 2 ^ k) (l ++ [(k : Int)]) (lpK p (gr p lv) D l m k).2.2).1 = false := hr
     rw [if_neg (by simp [hr])] at hst
     have h2 := gr_list hr
     have q1 : inR .i64 (((gr p lv (D ||| 2 ^ k) (l ++ [(k : Int)]) (lpK p (gr p lv) D l m k).2.2).2.1.length : Int) - 1) := by rw [h2]; simp only [inR]; simp; omega
     have q2 : 0 ≤ ((gr p lv (D ||| 2 ^ k) (l ++ [(k : Int)]) (lpK p (gr p lv) D l m k).2.2).2.1.length : Int) - 1 ∧ ((gr p lv (D ||| 2 ^ k) (l ++ [(k : Int)]) (lpK p (gr p lv) D l m k).2.2).2.1.length : Int) - 1 ≤ ((gr p lv (D ||| 2 ^ k) (l ++ [(k : Int)]) (lpK p (gr p lv) D l m k).2.2).2.1.length : Int) := by rw [h2]; simp; omega
     have q3 : (gr p lv (D ||| 2 ^ k) (l ++ [(k : Int)]) (lpK p (gr p lv) D l m k).2.2).2.1.take (((gr p lv (D ||| 2 ^ k) (l ++ [(k : Int)]) (lpK p (gr p lv) D l m k).2.2).2.1.length : Int) - 1).toNat = l := by rw [h2]; simp
     have q4 : (gr p lv (D ||| 2 ^ k) (l ++ [(k : Int)]) (lpK p (gr p lv) D l m k).2.2).2.2 = (lpK p (gr p lv) D l m (k + 1)).2.2 := by rw [hst]
     exact ⟨q1, q2, by simp only [inR]; omega, k + 1, ⟨⟨by omega, by rw [hst]⟩, by omega⟩, by omega, q3, q4⟩
 · refine of_eq (q := True ∧ ((k : Int) < (p.length : Int) → True ∧ True ∧ True ∧ True ∧ inR .u64 (k : Int) ∧ ((0 : Int) ≤ (k : Int) ∧ (k : Int) < bitsOf .i64) ∧ True ∧ True ∧ True ∧ (bAnd .i64 ((D : Int) / (2 : Int) ^ k) (1 : Int) = 1 → True ∧ inR .i64 ((k : Int) + 1) ∧ True ∧ ((∃ (y : Nat), (inS p (gr p lv) D l m y ∧ p.length - y < p.length - k) ∧ ((D : Int) = (D : Int) ∧ True ∧ True ∧ True ∧ True ∧ (p.length : Int) = (p.length : Int) ∧ (k : Int) + 1 = (y : Int) ∧ True) ∧ False ∧ False ∧ True ∧ (n = n ∧ p = p ∧ mk (isF p) = mk (isF p) ∧ True) ∧ True ∧ (lpK p (gr p lv) D l m k).snd.snd = (lpK p (gr p lv) D l m y).snd.snd ∧ (True ∧ True ∧ True ∧ True ∧ True ∧ True) ∧ True) ∨ ∃ (y : Nat), (inS p (gr p lv) D l m y ∧ p.length - y < p.length - k) ∧ ((D : Int) = (D : Int) ∧ True ∧ True ∧ True ∧ True ∧ (p.length : Int) = (p.length : Int) ∧ (k : Int) + 1 = (y : Int) ∧ True) ∧ True ∧ l = l ∧ True ∧ (n = n ∧ p = p ∧ mk (isF p) = mk (isF p) ∧ True) ∧ True ∧ (lpK p (gr p lv) D l m k).snd.snd = (lpK p (gr p lv) D l m y).snd.snd ∧ (True ∧ True ∧ True ∧ True ∧ True ∧ True) ∧ True)) ∧ (¬bAnd .i64 ((D : Int) / (2 : Int) ^ k) (1 : Int) = 1 → True ∧ True ∧ True ∧ ((ok56 ((D : Int), (k : Int), n, p, mk (isF p)) ∧ (True ∧ (D : Int) = (D : Int) ∧ (k : Int) = (k : Int) ∧ True) ∧ (n = n ∧ p = p ∧ mk (isF p) = mk (isF p) ∧ True) ∧ True) ∧ True ∧ True) ∧ True ∧ True ∧ ((!flw p D k) = true → inR .i64 ((k : Int) + 1) ∧ True ∧ ((∃ (y : Nat), (inS p (gr p lv) D l m y ∧ p.length - y < p.length - k) ∧ ((D : Int) = (D : Int) ∧ True ∧ True ∧ True ∧ True ∧ (p.length : Int) = (p.length : Int) ∧ (k : Int) + 1 = (y : Int) ∧ True) ∧ False ∧ False ∧ True ∧ (n = n ∧ p = p ∧ mk (isF p) = mk (isF p) ∧ True) ∧ True ∧ (lpK p (gr p lv) D l m k).snd.snd = (lpK p (gr p lv) D l m y).snd.snd ∧ (True ∧ True ∧ True ∧ True ∧ True ∧ True) ∧ True) ∨ ∃ (y : Nat), (inS p (gr p lv) D l m y ∧ p.length - y < p.length - k) ∧ ((D : Int) = (D : Int) ∧ True ∧ True ∧ True ∧ True ∧ (p.length : Int) = (p.length : Int) ∧ (k : Int) + 1 = (y : Int) ∧ True) ∧ True ∧ l = l ∧ True ∧ (n = n ∧ p = p ∧ mk (isF p) = mk (isF p) ∧ True) ∧ True ∧ (lpK p (gr p lv) D l m k).snd.snd = (lpK p (gr p lv) D l m y).snd.snd ∧ (True ∧ True ∧ True ∧ True ∧ True ∧ True) ∧ True)) ∧ ((!flw p D k) = false → True ∧ True ∧ True ∧ sumPre l.length [(k : Int)].length (nat_lit 8) ∧ True ∧ True ∧ True ∧ True ∧ inR .u64 (k : Int) ∧ (((0 : Int) ≤ (k : Int) ∧ (k : Int) < bitsOf .i64) ∧ (-9223372036854775808 : Int) ≤ 1 * 2 ^ k ∧ (1 : Int) * 2 ^ k ≤ 9223372036854775807) ∧ True ∧ ((ok55 lv (bOr .i64 (D : Int) ((1 : Int) * 2 ^ k), (n, p, mk (isF p)), l ++ [(k : Int)], (lpK p (gr p lv) D l m k).snd.snd) ∧ (bOr .i64 (D : Int) ((1 : Int) * 2 ^ k) = bOr .i64 (D : Int) ((1 : Int) * 2 ^ k) ∧ True ∧ True ∧ True ∧ True ∧ True) ∧ True ∧ l ++ [(k : Int)] = l ++ [(k : Int)] ∧ True ∧ (n = n ∧ p = p ∧ mk (isF p) = mk (isF p) ∧ True) ∧ True ∧ (lpK p (gr p lv) D l m k).snd.snd = (lpK p (gr p lv) D l m k).snd.snd ∧ (True ∧ True ∧ True ∧ True ∧ True ∧ True) ∧ True) ∧ True ∧ True ∧ True ∧ True ∧ True ∧ True ∧ True ∧ True) ∧ ((gr p lv (bOr .i64 (D : Int) ((1 : Int) * 2 ^ k)).toNat (l ++ [(k : Int)]) (lpK p (gr p lv) D l m k).snd.snd).fst = true → True ∧ True ∧ (true = (gr p (lv + 1) D l m).fst ∧ True) ∧ True ∧ (gr p lv (bOr .i64 (D : Int) ((1 : Int) * 2 ^ k)).toNat (l ++ [(k : Int)]) (lpK p (gr p lv) D l m k).snd.snd).snd.fst = (gr p (lv + 1) D l m).snd.fst ∧ True ∧ (n = n ∧ p = p ∧ mk (isF p) = mk (isF p) ∧ True) ∧ True ∧ (gr p lv (bOr .i64 (D : Int) ((1 : Int) * 2 ^ k)).toNat (l ++ [(k : Int)]) (lpK p (gr p lv) D l m k).snd.snd).snd.snd = (gr p (lv + 1) D l m).snd.snd ∧ (True ∧ True ∧ True ∧ True ∧ True ∧ True) ∧ True) ∧ ((gr p lv (bOr .i64 (D : Int) ((1 : Int) * 2 ^ k)).toNat (l ++ [(k : Int)]) (lpK p (gr p lv) D l m k).snd.snd).fst = false → True ∧ True ∧ True ∧ inR .i64 ((↑(gr p lv (bOr .i64 (D : Int) ((1 : Int) * 2 ^ k)).toNat (l ++ [(k : Int)]) (lpK p (gr p lv) D l m k).snd.snd).snd.fst.length : Int) - 1) ∧ ((0 : Int) ≤ (↑(gr p lv (bOr .i64 (D : Int) ((1 : Int) * 2 ^ k)).toNat (l ++ [(k : Int)]) (lpK p (gr p lv) D l m k).snd.snd).snd.fst.length : Int) - 1 ∧ (↑(gr p lv (bOr .i64 (D : Int) ((1 : Int) * 2 ^ k)).toNat (l ++ [(k : Int)]) (lpK p (gr p lv) D l m k).snd.snd).snd.fst.length : Int) - 1 ≤ (↑(gr p lv (bOr .i64 (D : Int) ((1 : Int) * 2 ^ k)).toNat (l ++ [(k : Int)]) (lpK p (gr p lv) D l m k).snd.snd).snd.fst.length : Int)) ∧ True ∧ inR .i64 ((k : Int) + 1) ∧ True ∧ ((∃ (y : Nat), (inS p (gr p lv) D l m y ∧ p.length - y < p.length - k) ∧ ((D : Int) = (D : Int) ∧ True ∧ True ∧ True ∧ True ∧ (p.length : Int) = (p.length : Int) ∧ (k : Int) + 1 = (y : Int) ∧ True) ∧ False ∧ False ∧ True ∧ (n = n ∧ p = p ∧ mk (isF p) = mk (isF p) ∧ True) ∧ True ∧ (gr p lv (bOr .i64 (D : Int) ((1 : Int) * 2 ^ k)).toNat (l ++ [(k : Int)]) (lpK p (gr p lv) D l m k).snd.snd).snd.snd = (lpK p (gr p lv) D l m y).snd.snd ∧ (True ∧ True ∧ True ∧ True ∧ True ∧ True) ∧ True) ∨ ∃ (y : Nat), (inS p (gr p lv) D l m y ∧ p.length - y < p.length - k) ∧ ((D : Int) = (D : Int) ∧ True ∧ True ∧ True ∧ True ∧ (p.length : Int) = (p.length : Int) ∧ (k : Int) + 1 = (y : Int) ∧ True) ∧ True ∧ List.take ((↑(gr p lv (bOr .i64 (D : Int) ((1 : Int) * 2 ^ k)).toNat (l ++ [(k : Int)]) (lpK p (gr p lv) D l m k).snd.snd).snd.fst.length : Int) - 1).toNat (gr p lv (bOr .i64 (D : Int) ((1 : Int) * 2 ^ k)).toNat (l ++ [(k : Int)]) (lpK p (gr p lv) D l m k).snd.snd).snd.fst = l ∧ True ∧ (n = n ∧ p = p ∧ mk (isF p) = mk (isF p) ∧ True) ∧ True ∧ (gr p lv (bOr .i64 (D : Int) ((1 : Int) * 2 ^ k)).toNat (l ++ [(k : Int)]) (lpK p (gr p lv) D l m k).snd.snd).snd.snd = (lpK p (gr p lv) D l m y).snd.snd ∧ (True ∧ True ∧ True ∧ True ∧ True ∧ True) ∧ True))))) ∧ (¬(k : Int) < (p.length : Int) → (∃ (y : Unit), (lpK p (gr p lv) D l m p.length).fst = false ∧ ((D : Int) = (D : Int) ∧ True ∧ True ∧ True ∧ True ∧ True) ∧ False ∧ False ∧ True ∧ (n = n ∧ p = p ∧ mk (isF p) = mk (isF p) ∧ True) ∧ True ∧ (lpK p (gr p lv) D l m k).snd.snd = (lpK p (gr p lv) D l m p.length).snd.snd ∧ (True ∧ True ∧ True ∧ True ∧ True ∧ True) ∧ True) ∨ ∃ (y : Unit), (lpK p (gr p lv) D l m p.length).fst = false ∧ ((D : Int) = (D : Int) ∧ True ∧ True ∧ True ∧ True ∧ True) ∧ True ∧ l = l ∧ True ∧ (n = n ∧ p = p ∧ mk (isF p) = mk (isF p) ∧ True) ∧ True ∧ (lpK p (gr p lv) D l m k).snd.snd = (lpK p (gr p lv) D l m p.length).snd.snd ∧ (True ∧ True ∧ True ∧ True ∧ True ∧ True) ∧ True)) (by kernel_rfl) ?_
   simp only [zz]
   obtain ⟨k1, k2⟩ := hk
   have hl := hp.l
   have hc := hp.h.2.1
   have hD := pre_D hp
   refine ⟨fun h => ?_, fun h => by rw [show p.length = k by omega]; exact ⟨k2, rfl⟩⟩
   have hkp : k < p.length := by omega
   have hb := or_pow10 hD (k := k) (by omega)
   have hst := lpK_go k2
   rw [bit_shr hD, hb.1, Int.toNat_natCast]
   have hskip : (D / 2 ^ k % 2 = 1 ∨ flw p D k = false) → inR .i64 ((k : Int) + 1) ∧ ∃ y : Nat, (inS p (gr p lv) D l m y ∧ p.length - y < p.length - k) ∧ (k : Int) + 1 = (y : Int) ∧ (lpK p (gr p lv) D l m k).2.2 = (lpK p (gr p lv) D l m y).2.2 := fun hh => by
     rw [if_pos hh] at hst
     exact ⟨by simp only [inR]; omega, k + 1, ⟨⟨by omega, by rw [hst]; exact k2⟩, by omega⟩, by omega, by rw [hst]⟩
   refine ⟨by simp only [inR]; omega, ⟨by omega, by simp only [bitsOf]; omega⟩, fun hx => hskip (.inl (by omega)), fun hx => ⟨⟨⟨hp.h, rfl⟩, ⟨by simp only; omega, by simp only; omega⟩, ⟨by simp only; omega, by simp only; omega⟩⟩, fun hx2 => hskip (.inr (by simpa using hx2)), fun hx2 => ?_⟩⟩
   have hx2 : flw p D k = true := by simpa using hx2
   rw [if_neg (by simp [hx2]; omega)] at hst
   have hlt : D ||| 2 ^ k < 2 ^ p.length := Nat.or_lt_two_pow hp.D (Nat.pow_lt_pow_right (by decide) hkp)
   have hpre : pre55 n p lv (D ||| 2 ^ k) (l ++ [(k : Int)]) := ⟨hp.h, hlt, by simp; omega⟩
   refine ⟨by unfold sumPre; simp; omega, by simp only [inR]; omega, ⟨⟨by omega, by simp only [bitsOf]; omega⟩, by omega, by omega⟩, ⟨⟨hp.h, rfl⟩, by simp only; omega, hpre⟩, fun hr => ?_, fun hr => ?_⟩
   · have hr : (gr p lv (D ||| 2 ^ k) (l ++ [(k : Int)]) (lpK p (gr p lv) D l m k).2.2).1 = true := hr
     rw [if_pos hr] at hst
     have hs := lpK_stop (k := k + 1) (by rw [hst]; exact hr) (p.length - (k + 1))
     rw [show k + 1 + (p.length - (k + 1)) = p.length by omega, hst] at hs
     have e : gr p (lv + 1) D l m = gr p lv (D ||| 2 ^ k) (l ++ [(k : Int)]) (lpK p (gr p lv) D l m k).2.2 := by rw [gr, if_neg hm, hs, if_pos hr]
     rw [e]
     exact ⟨hr.symm, rfl, rfl⟩
   · have hr : (gr p lv (D ||| 2 ^ k) (l ++ [(k : Int)]) (lpK p (gr p lv) D l m k).2.2).1 = false := hr
     rw [if_neg (by simp [hr])] at hst
     have h2 := gr_list hr
     have q1 : inR .i64 (((gr p lv (D ||| 2 ^ k) (l ++ [(k : Int)]) (lpK p (gr p lv) D l m k).2.2).2.1.length : Int) - 1) := by rw [h2]; simp only [inR]; simp; omega
     have q2 : 0 ≤ ((gr p lv (D ||| 2 ^ k) (l ++ [(k : Int)]) (lpK p (gr p lv) D l m k).2.2).2.1.length : Int) - 1 ∧ ((gr p lv (D ||| 2 ^ k) (l ++ [(k : Int)]) (lpK p (gr p lv) D l m k).2.2).2.1.length : Int) - 1 ≤ ((gr p lv (D ||| 2 ^ k) (l ++ [(k : Int)]) (lpK p (gr p lv) D l m k).2.2).2.1.length : Int) := by rw [h2]; simp; omega
     have q3 : (gr p lv (D ||| 2 ^ k) (l ++ [(k : Int)]) (lpK p (gr p lv) D l m k).2.2).2.1.take (((gr p lv (D ||| 2 ^ k) (l ++ [(k : Int)]) (lpK p (gr p lv) D l m k).2.2).2.1.length : Int) - 1).toNat = l := by rw [h2]; simp
     have q4 : (gr p lv (D ||| 2 ^ k) (l ++ [(k : Int)]) (lpK p (gr p lv) D l m k).2.2).2.2 = (lpK p (gr p lv) D l m (k + 1)).2.2 := by rw [hst]
     exact ⟨q1, q2, by simp only [inR]; omega, k + 1, ⟨⟨by omega, by rw [hst]⟩, by omega⟩, by omega, q3, q4⟩
theorem gS1 (lv : Nat) (h' : GS lv) : GS (lv + 1) := by
 intro n p D l m hp
 have hL := fun hm => loopS lv h' n p D l m hp hm
 refine gcall_of (X := (X55 [e56, e55S lv h'])) ((Xb_ok _ _ _ _)) (f := 55) (fn := Try.f55) (c := bodyOf Try.f55) (by kernel_rfl) (by kernel_rfl) (view := false) (rvs := [.tmp 6]) (by kernel_rfl) (H := (HS n p (gr p lv) D l m)) 80 (by kernel_rfl) ?_
 refine of_eq (q := True ∧ True ∧ True ∧ True ∧ True ∧ True ∧ True ∧ True ∧ True ∧ ((l.length : Int) = (p.length : Int) → True ∧ True ∧ (true = (gr p (lv + 1) D l m).fst ∧ True) ∧ True ∧ l = (gr p (lv + 1) D l m).snd.fst ∧ True ∧ (n = n ∧ p = p ∧ mk (isF p) = mk (isF p) ∧ True) ∧ True ∧ m = (gr p (lv + 1) D l m).snd.snd ∧ (True ∧ True ∧ True ∧ True ∧ True ∧ True) ∧ True) ∧ (¬(l.length : Int) = (p.length : Int) → True ∧ True ∧ True ∧ ((mGet I64 m (D : Int)).getD false = true → True ∧ True ∧ (false = (gr p (lv + 1) D l m).fst ∧ True) ∧ True ∧ l = (gr p (lv + 1) D l m).snd.fst ∧ True ∧ (n = n ∧ p = p ∧ mk (isF p) = mk (isF p) ∧ True) ∧ True ∧ m = (gr p (lv + 1) D l m).snd.snd ∧ (True ∧ True ∧ True ∧ True ∧ True ∧ True) ∧ True) ∧ ((mGet I64 m (D : Int)).getD false = false → True ∧ True ∧ True ∧ True ∧ True ∧ True ∧ LoopOK (X55 [e56, e55S lv h']) L55_0 (hS n p (gr p lv) D l m) (RetR (X55 [e56, e55S lv h']) false false [ResultVar.tmp (6 : Tmp)] [AV.bool (gr p (lv + 1) D l m).fst] (gS (1 : Nat) n p (gr p (lv + 1) D l m).snd.fst (gr p (lv + 1) D l m).snd.snd)) ∧ ((∃ (y : Nat), inS p (gr p lv) D l m y ∧ ((D : Int) = (D : Int) ∧ True ∧ True ∧ True ∧ True ∧ (p.length : Int) = (p.length : Int) ∧ (0 : Int) = (y : Int) ∧ True) ∧ True ∧ l = l ∧ True ∧ (n = n ∧ p = p ∧ mk (isF p) = mk (isF p) ∧ True) ∧ True ∧ m = (lpK p (gr p lv) D l m y).snd.snd ∧ (True ∧ True ∧ True ∧ True ∧ True ∧ True) ∧ True) ∨ ∃ (y : Nat), inS p (gr p lv) D l m y ∧ ((D : Int) = (D : Int) ∧ True ∧ True ∧ True ∧ True ∧ (p.length : Int) = (p.length : Int) ∧ (0 : Int) = (y : Int) ∧ True) ∧ False ∧ False ∧ True ∧ (n = n ∧ p = p ∧ mk (isF p) = mk (isF p) ∧ True) ∧ True ∧ m = (lpK p (gr p lv) D l m y).snd.snd ∧ (True ∧ True ∧ True ∧ True ∧ True ∧ True) ∧ True) ∧ (∀ (y : Unit), (lpK p (gr p lv) D l m p.length).fst = false → True ∧ True ∧ True ∧ True ∧ True ∧ (false = (gr p (lv + 1) D l m).fst ∧ True) ∧ True ∧ l = (gr p (lv + 1) D l m).snd.fst ∧ True ∧ (n = n ∧ p = p ∧ mk (isF p) = mk (isF p) ∧ True) ∧ True ∧ mPut I64 (lpK p (gr p lv) D l m p.length).snd.snd (D : Int) true = (gr p (lv + 1) D l m).snd.snd ∧ (True ∧ True ∧ True ∧ True ∧ True ∧ True) ∧ True) ∧ (∀ (y : Unit), (lpK p (gr p lv) D l m p.length).fst = false → True ∧ True ∧ True ∧ True ∧ True ∧ (false = (gr p (lv + 1) D l m).fst ∧ True) ∧ True ∧ l = (gr p (lv + 1) D l m).snd.fst ∧ True ∧ (n = n ∧ p = p ∧ mk (isF p) = mk (isF p) ∧ True) ∧ True ∧ mPut I64 (lpK p (gr p lv) D l m p.length).snd.snd (D : Int) true = (gr p (lv + 1) D l m).snd.snd ∧ (True ∧ True ∧ True ∧ True ∧ True ∧ True) ∧ True) ∧ True))) (by kernel_rfl) ?_
 simp only [zz]
 have hl := hp.l
 have hg : mg m D = (mGet I64 m D).getD false := rfl
 refine ⟨fun h => by omega, fun _ => ⟨fun h => ?_, fun h => ⟨hL (by rw [hg, h]; simp) , ⟨0, ⟨Nat.zero_le _, rfl⟩, rfl, rfl⟩, fun _ hf => ?_, fun _ hf => ?_⟩⟩⟩
 · rw [gr, hg, if_pos h]; exact ⟨rfl, rfl, rfl⟩
 · rw [gr, hg, if_neg (by simp [h]), if_neg (by simp [hf])]; exact ⟨rfl, rfl, rfl⟩
 · rw [gr, hg, if_neg (by simp [h]), if_neg (by simp [hf])]; exact ⟨rfl, rfl, rfl⟩
theorem gS_all : ∀ lv, GS lv
 | 0 => gS0
 | lv + 1 => gS1 lv (gS_all lv)
def gN (n : Int) (p : List Int) (m : Mm) : List Ob := [.bx nl, .bx (.ptr 2 0 []), cxO n p, .bx (.mp 4), mmO m, .bx (clo55 0 1 3 5)]
def gO (n : Int) (p l : List Int) (m : Mm) : List Ob := [.bx (.own 6 0), .bx (.ptr 2 0 []), cxO n p, .bx (.mp 4), mmO m, .bx (clo55 0 1 3 5), .sc 0 3 I64 l]
def aN (D : Int) : List AV := [.int .i64 D, .ptr 0 0 [], .ptr 1 0 [], .ptr 3 0 [], .ptr 5 0 []]
def sN (n : Int) (p : List Int) (D : Nat) (m : Mm) (k : Nat) : St := ⟨aN D ++ dd 18 ++ .int .i64 p.length :: .int .i64 k :: dd 34, gN n p m⟩
def sO (n : Int) (p : List Int) (f : Nat → List Int → Mm → Res) (D : Nat) (m : Mm) (k : Nat) : St := ⟨aN D ++ dd 18 ++ .int .i64 p.length :: .int .i64 k :: dd 34, gO n p [] (lpK p f D [] m k).2.2⟩
def fmN (n : Int) (p : List Int) (f : Nat → List Int → Mm → Res) (D : Nat) (m : Mm) : List Fam := [⟨Nat, fun k => k = 0, sN n p D m, fun k => p.length - k, fun _ _ => none⟩, ⟨Nat, inS p f D [] m, sO n p f D m, fun k => p.length - k, fun _ _ => none⟩]
def exN (n : Int) (p : List Int) (f : Nat → List Int → Mm → Res) (D : Nat) (m : Mm) : List (List Nat × Ex) := [([0, 1, 2, 3, 4], ⟨0, Unit, fun _ => (lpK p f D [] m p.length).1 = false, fun _ => ⟨aN D ++ dd 54, gO n p [] (lpK p f D [] m p.length).2.2⟩⟩)]
def hN (n : Int) (p : List Int) (f : Nat → List Int → Mm → Res) (D : Nat) (m : Mm) : Hint := ⟨chks 6 [0, 1, 2, 3, 4, 23, 24] (fmN n p f D m), (exN n p f D m).map (·.2)⟩
noncomputable def HN (n : Int) (p : List Int) (f : Nat → List Int → Mm → Res) (D : Nat) (m : Mm) : Nat → Option Hint := fun _ => some (hN n p f D m)
noncomputable abbrev XN (lv : Nat) : Cy := Xb [e56, e55S lv (gS_all lv)] 6 [] (fun _ => none)
theorem flw_zero (p : List Int) (k : Nat) : flw p 0 k = true := by
 refine decide_eq_true fun j _ h => ?_
 rw [Nat.zero_div] at h; cases h
theorem loopN (lv : Nat) (n : Int) (p : List Int) (D : Nat) (m : Mm) (hp : pre55 n p (lv + 1) D []) (hD0 : D = 0) (hm : ¬ mg m D = true) : LoopOK (XN lv) L55_0 (hN n p (gr p lv) D m)
   (RetR (XN lv) false false [.tmp 6] [.bool (gr p (lv + 1) D [] m).1] (gO n p (gr p (lv + 1) D [] m).2.1 (gr p (lv + 1) D [] m).2.2)) := by
 refine loop_fams (Xb_ok _ _ _ _) [0, 1, 2, 3, 4, 23, 24] (fmN n p (gr p lv) D m) (exN n p (gr p lv) D m) 150 ⟨fun (k : Nat) hk => ?_, fun (k : Nat) hk => ?_, trivial⟩
 · refine of_eq (q := True ∧ ((k : Int) < (p.length : Int) → True ∧ True ∧ True ∧ True ∧ inR .u64 (k : Int) ∧ ((0 : Int) ≤ (k : Int) ∧ (k : Int) < bitsOf .i64) ∧ True ∧ True ∧ True ∧ (bAnd .i64 ((D : Int) / (2 : Int) ^ k) (1 : Int) = 1 → True ∧ inR .i64 ((k : Int) + 1) ∧ True ∧ ((∃ (y : Nat), (y = 0 ∧ p.length - y < p.length - k) ∧ ((D : Int) = (D : Int) ∧ True ∧ True ∧ True ∧ True ∧ (p.length : Int) = (p.length : Int) ∧ (k : Int) + 1 = (y : Int) ∧ True) ∧ True ∧ True ∧ (n = n ∧ p = p ∧ mk (isF p) = mk (isF p) ∧ True) ∧ True ∧ m = m ∧ (True ∧ True ∧ True ∧ True ∧ True ∧ True) ∧ True) ∨ ∃ (y : Nat), (inS p (gr p lv) D [] m y ∧ p.length - y < p.length - k) ∧ ((D : Int) = (D : Int) ∧ True ∧ True ∧ True ∧ True ∧ (p.length : Int) = (p.length : Int) ∧ (k : Int) + 1 = (y : Int) ∧ True) ∧ False ∧ True ∧ (n = n ∧ p = p ∧ mk (isF p) = mk (isF p) ∧ True) ∧ True ∧ m = (lpK p (gr p lv) D [] m y).snd.snd ∧ (True ∧ True ∧ True ∧ True ∧ True ∧ True) ∧ False)) ∧ (¬bAnd .i64 ((D : Int) / (2 : Int) ^ k) (1 : Int) = 1 → True ∧ True ∧ True ∧ ((ok56 ((D : Int), (k : Int), n, p, mk (isF p)) ∧ (True ∧ (D : Int) = (D : Int) ∧ (k : Int) = (k : Int) ∧ True) ∧ (n = n ∧ p = p ∧ mk (isF p) = mk (isF p) ∧ True) ∧ True) ∧ True ∧ True) ∧ True ∧ True ∧ ((!flw p D k) = true → inR .i64 ((k : Int) + 1) ∧ True ∧ ((∃ (y : Nat), (y = 0 ∧ p.length - y < p.length - k) ∧ ((D : Int) = (D : Int) ∧ True ∧ True ∧ True ∧ True ∧ (p.length : Int) = (p.length : Int) ∧ (k : Int) + 1 = (y : Int) ∧ True) ∧ True ∧ True ∧ (n = n ∧ p = p ∧ mk (isF p) = mk (isF p) ∧ True) ∧ True ∧ m = m ∧ (True ∧ True ∧ True ∧ True ∧ True ∧ True) ∧ True) ∨ ∃ (y : Nat), (inS p (gr p lv) D [] m y ∧ p.length - y < p.length - k) ∧ ((D : Int) = (D : Int) ∧ True ∧ True ∧ True ∧ True ∧ (p.length : Int) = (p.length : Int) ∧ (k : Int) + 1 = (y : Int) ∧ True) ∧ False ∧ True ∧ (n = n ∧ p = p ∧ mk (isF p) = mk (isF p) ∧ True) ∧ True ∧ m = (lpK p (gr p lv) D [] m y).snd.snd ∧ (True ∧ True ∧ True ∧ True ∧ True ∧ True) ∧ False)) ∧ ((!flw p D k) = false → True ∧ True ∧ True ∧ sumPre (0 : Nat) [(k : Int)].length (nat_lit 8) ∧ True ∧ True ∧ True ∧ True ∧ inR .u64 (k : Int) ∧ (((0 : Int) ≤ (k : Int) ∧ (k : Int) < bitsOf .i64) ∧ (-9223372036854775808 : Int) ≤ 1 * 2 ^ k ∧ (1 : Int) * 2 ^ k ≤ 9223372036854775807) ∧ True ∧ ((ok55 lv (bOr .i64 (D : Int) ((1 : Int) * 2 ^ k), (n, p, mk (isF p)), [(k : Int)], m) ∧ (bOr .i64 (D : Int) ((1 : Int) * 2 ^ k) = bOr .i64 (D : Int) ((1 : Int) * 2 ^ k) ∧ True ∧ True ∧ True ∧ True ∧ True) ∧ True ∧ [(k : Int)] = [(k : Int)] ∧ True ∧ (n = n ∧ p = p ∧ mk (isF p) = mk (isF p) ∧ True) ∧ True ∧ m = m ∧ (True ∧ True ∧ True ∧ True ∧ True ∧ True) ∧ True) ∧ True ∧ True ∧ True ∧ True ∧ True ∧ True ∧ True ∧ True) ∧ ((gr p lv (bOr .i64 (D : Int) ((1 : Int) * 2 ^ k)).toNat [(k : Int)] m).fst = true → True ∧ True ∧ (true = (gr p (lv + 1) D [] m).fst ∧ True) ∧ True ∧ True ∧ (n = n ∧ p = p ∧ mk (isF p) = mk (isF p) ∧ True) ∧ True ∧ (gr p lv (bOr .i64 (D : Int) ((1 : Int) * 2 ^ k)).toNat [(k : Int)] m).snd.snd = (gr p (lv + 1) D [] m).snd.snd ∧ (True ∧ True ∧ True ∧ True ∧ True ∧ True) ∧ (gr p lv (bOr .i64 (D : Int) ((1 : Int) * 2 ^ k)).toNat [(k : Int)] m).snd.fst = (gr p (lv + 1) D [] m).snd.fst ∧ True) ∧ ((gr p lv (bOr .i64 (D : Int) ((1 : Int) * 2 ^ k)).toNat [(k : Int)] m).fst = false → True ∧ True ∧ True ∧ inR .i64 ((↑(gr p lv (bOr .i64 (D : Int) ((1 : Int) * 2 ^ k)).toNat [(k : Int)] m).snd.fst.length : Int) - 1) ∧ ((0 : Int) ≤ (↑(gr p lv (bOr .i64 (D : Int) ((1 : Int) * 2 ^ k)).toNat [(k : Int)] m).snd.fst.length : Int) - 1 ∧ (↑(gr p lv (bOr .i64 (D : Int) ((1 : Int) * 2 ^ k)).toNat [(k : Int)] m).snd.fst.length : Int) - 1 ≤ (↑(gr p lv (bOr .i64 (D : Int) ((1 : Int) * 2 ^ k)).toNat [(k : Int)] m).snd.fst.length : Int)) ∧ True ∧ inR .i64 ((k : Int) + 1) ∧ True ∧ ((∃ (y : Nat), (y = 0 ∧ p.length - y < p.length - k) ∧ ((D : Int) = (D : Int) ∧ True ∧ True ∧ True ∧ True ∧ (p.length : Int) = (p.length : Int) ∧ (k : Int) + 1 = (y : Int) ∧ True) ∧ False ∧ True ∧ (n = n ∧ p = p ∧ mk (isF p) = mk (isF p) ∧ True) ∧ True ∧ (gr p lv (bOr .i64 (D : Int) ((1 : Int) * 2 ^ k)).toNat [(k : Int)] m).snd.snd = m ∧ (True ∧ True ∧ True ∧ True ∧ True ∧ True) ∧ True) ∨ ∃ (y : Nat), (inS p (gr p lv) D [] m y ∧ p.length - y < p.length - k) ∧ ((D : Int) = (D : Int) ∧ True ∧ True ∧ True ∧ True ∧ (p.length : Int) = (p.length : Int) ∧ (k : Int) + 1 = (y : Int) ∧ True) ∧ True ∧ True ∧ (n = n ∧ p = p ∧ mk (isF p) = mk (isF p) ∧ True) ∧ True ∧ (gr p lv (bOr .i64 (D : Int) ((1 : Int) * 2 ^ k)).toNat [(k : Int)] m).snd.snd = (lpK p (gr p lv) D [] m y).snd.snd ∧ (True ∧ True ∧ True ∧ True ∧ True ∧ True) ∧ List.take ((↑(gr p lv (bOr .i64 (D : Int) ((1 : Int) * 2 ^ k)).toNat [(k : Int)] m).snd.fst.length : Int) - 1).toNat (gr p lv (bOr .i64 (D : Int) ((1 : Int) * 2 ^ k)).toNat [(k : Int)] m).snd.fst = [] ∧ True))))) ∧ (¬(k : Int) < (p.length : Int) → ∃ (y : Unit), (lpK p (gr p lv) D [] m p.length).fst = false ∧ ((D : Int) = (D : Int) ∧ True ∧ True ∧ True ∧ True ∧ True) ∧ False ∧ True ∧ (n = n ∧ p = p ∧ mk (isF p) = mk (isF p) ∧ True) ∧ True ∧ m = (lpK p (gr p lv) D [] m p.length).snd.snd ∧ (True ∧ True ∧ True ∧ True ∧ True ∧ True) ∧ False)) (by kernel_rfl) ?_
   simp only [zz]
   have hk : k = 0 := hk
   have hl : lv + 1 = p.length := by have := hp.l; simpa using this
   have hc := hp.h.2.1
   have hD := pre_D hp
   refine ⟨fun h => ?_, fun h => by omega⟩
   have hkp : k < p.length := by omega
   have hb := or_pow10 hD (k := k) (by omega)
   have e0 : lpK p (gr p lv) D [] m k = (false, [], m) := by rw [hk]; try rfl
   have hst := lpK_go (p := p) (f := gr p lv) (D := D) (l := []) (m := m) (k := k) (by rw [e0])
   have hf : flw p D k = true := by rw [hD0]; exact flw_zero p k
   have hz : D / 2 ^ k % 2 = 0 := by rw [hD0, Nat.zero_div]
   rw [if_neg (by rw [hz, hf]; simp), e0] at hst
   simp only [List.nil_append] at hst
   rw [bit_shr hD, hb.1, Int.toNat_natCast, hz, hf]
   have hlt : D ||| 2 ^ k < 2 ^ p.length := Nat.or_lt_two_pow hp.D (Nat.pow_lt_pow_right (by decide) hkp)
   have hpre : pre55 n p lv (D ||| 2 ^ k) [(k : Int)] := ⟨hp.h, hlt, by simp; omega⟩
   refine ⟨by simp only [inR]; omega, ⟨by omega, by simp only [bitsOf]; omega⟩, fun hx => absurd hx (by decide), fun hx => ⟨⟨⟨hp.h, rfl⟩, ⟨by simp only; omega, by simp only; omega⟩, ⟨by simp only; omega, by simp only; omega⟩⟩, fun hx2 => absurd hx2 (by decide), fun hx2 => ?_⟩⟩
   refine ⟨by unfold sumPre; simp, by simp only [inR]; omega, ⟨⟨by omega, by simp only [bitsOf]; omega⟩, by omega, by omega⟩, ⟨⟨hp.h, rfl⟩, by simp only; omega, hpre⟩, fun hr => ?_, fun hr => ?_⟩
   · have hr : (gr p lv (D ||| 2 ^ k) [(k : Int)] m).1 = true := hr
     rw [if_pos hr] at hst
     have hs := lpK_stop (k := k + 1) (by rw [hst]; exact hr) (p.length - (k + 1))
     rw [show k + 1 + (p.length - (k + 1)) = p.length by omega, hst] at hs
     have e : gr p (lv + 1) D [] m = gr p lv (D ||| 2 ^ k) [(k : Int)] m := by rw [gr, if_neg hm, hs, if_pos hr]
     rw [e]
     exact ⟨hr.symm, rfl, rfl⟩
   · have hr : (gr p lv (D ||| 2 ^ k) [(k : Int)] m).1 = false := hr
     rw [if_neg (by simp [hr])] at hst
     have h2 := gr_list hr
     have q1 : inR .i64 (((gr p lv (D ||| 2 ^ k) [(k : Int)] m).2.1.length : Int) - 1) := by rw [h2]; simp only [inR]; simp
     have q2 : 0 ≤ ((gr p lv (D ||| 2 ^ k) [(k : Int)] m).2.1.length : Int) - 1 ∧ ((gr p lv (D ||| 2 ^ k) [(k : Int)] m).2.1.length : Int) - 1 ≤ ((gr p lv (D ||| 2 ^ k) [(k : Int)] m).2.1.length : Int) := by rw [h2]; simp
     have q3 : (gr p lv (D ||| 2 ^ k) [(k : Int)] m).2.1.take (((gr p lv (D ||| 2 ^ k) [(k : Int)] m).2.1.length : Int) - 1).toNat = [] := by rw [h2]; simp
     have q4 : (gr p lv (D ||| 2 ^ k) [(k : Int)] m).2.2 = (lpK p (gr p lv) D [] m (k + 1)).2.2 := by rw [hst]
     exact ⟨q1, q2, by simp only [inR]; omega, k + 1, ⟨⟨by omega, by rw [hst]⟩, by omega⟩, by omega, q4, q3⟩
 · refine of_eq (q := True ∧ ((k : Int) < (p.length : Int) → True ∧ True ∧ True ∧ True ∧ inR .u64 (k : Int) ∧ ((0 : Int) ≤ (k : Int) ∧ (k : Int) < bitsOf .i64) ∧ True ∧ True ∧ True ∧ (bAnd .i64 ((D : Int) / (2 : Int) ^ k) (1 : Int) = 1 → True ∧ inR .i64 ((k : Int) + 1) ∧ True ∧ ((∃ (y : Nat), (y = 0 ∧ p.length - y < p.length - k) ∧ ((D : Int) = (D : Int) ∧ True ∧ True ∧ True ∧ True ∧ (p.length : Int) = (p.length : Int) ∧ (k : Int) + 1 = (y : Int) ∧ True) ∧ False ∧ True ∧ (n = n ∧ p = p ∧ mk (isF p) = mk (isF p) ∧ True) ∧ True ∧ (lpK p (gr p lv) D [] m k).snd.snd = m ∧ (True ∧ True ∧ True ∧ True ∧ True ∧ True) ∧ True) ∨ ∃ (y : Nat), (inS p (gr p lv) D [] m y ∧ p.length - y < p.length - k) ∧ ((D : Int) = (D : Int) ∧ True ∧ True ∧ True ∧ True ∧ (p.length : Int) = (p.length : Int) ∧ (k : Int) + 1 = (y : Int) ∧ True) ∧ True ∧ True ∧ (n = n ∧ p = p ∧ mk (isF p) = mk (isF p) ∧ True) ∧ True ∧ (lpK p (gr p lv) D [] m k).snd.snd = (lpK p (gr p lv) D [] m y).snd.snd ∧ (True ∧ True ∧ True ∧ True ∧ True ∧ True) ∧ ([] : List Int) = [] ∧ True)) ∧ (¬bAnd .i64 ((D : Int) / (2 : Int) ^ k) (1 : Int) = 1 → True ∧ True ∧ True ∧ ((ok56 ((D : Int), (k : Int), n, p, mk (isF p)) ∧ (True ∧ (D : Int) = (D : Int) ∧ (k : Int) = (k : Int) ∧ True) ∧ (n = n ∧ p = p ∧ mk (isF p) = mk (isF p) ∧ True) ∧ True) ∧ True ∧ True) ∧ True ∧ True ∧ ((!flw p D k) = true → inR .i64 ((k : Int) + 1) ∧ True ∧ ((∃ (y : Nat), (y = 0 ∧ p.length - y < p.length - k) ∧ ((D : Int) = (D : Int) ∧ True ∧ True ∧ True ∧ True ∧ (p.length : Int) = (p.length : Int) ∧ (k : Int) + 1 = (y : Int) ∧ True) ∧ False ∧ True ∧ (n = n ∧ p = p ∧ mk (isF p) = mk (isF p) ∧ True) ∧ True ∧ (lpK p (gr p lv) D [] m k).snd.snd = m ∧ (True ∧ True ∧ True ∧ True ∧ True ∧ True) ∧ True) ∨ ∃ (y : Nat), (inS p (gr p lv) D [] m y ∧ p.length - y < p.length - k) ∧ ((D : Int) = (D : Int) ∧ True ∧ True ∧ True ∧ True ∧ (p.length : Int) = (p.length : Int) ∧ (k : Int) + 1 = (y : Int) ∧ True) ∧ True ∧ True ∧ (n = n ∧ p = p ∧ mk (isF p) = mk (isF p) ∧ True) ∧ True ∧ (lpK p (gr p lv) D [] m k).snd.snd = (lpK p (gr p lv) D [] m y).snd.snd ∧ (True ∧ True ∧ True ∧ True ∧ True ∧ True) ∧ ([] : List Int) = [] ∧ True)) ∧ ((!flw p D k) = false → True ∧ True ∧ True ∧ sumPre ([] : List Int).length [(k : Int)].length (nat_lit 8) ∧ True ∧ True ∧ True ∧ True ∧ inR .u64 (k : Int) ∧ (((0 : Int) ≤ (k : Int) ∧ (k : Int) < bitsOf .i64) ∧ (-9223372036854775808 : Int) ≤ 1 * 2 ^ k ∧ (1 : Int) * 2 ^ k ≤ 9223372036854775807) ∧ True ∧ ((ok55 lv (bOr .i64 (D : Int) ((1 : Int) * 2 ^ k), (n, p, mk (isF p)), [] ++ [(k : Int)], (lpK p (gr p lv) D [] m k).snd.snd) ∧ (bOr .i64 (D : Int) ((1 : Int) * 2 ^ k) = bOr .i64 (D : Int) ((1 : Int) * 2 ^ k) ∧ True ∧ True ∧ True ∧ True ∧ True) ∧ True ∧ [] ++ [(k : Int)] = [] ++ [(k : Int)] ∧ True ∧ (n = n ∧ p = p ∧ mk (isF p) = mk (isF p) ∧ True) ∧ True ∧ (lpK p (gr p lv) D [] m k).snd.snd = (lpK p (gr p lv) D [] m k).snd.snd ∧ (True ∧ True ∧ True ∧ True ∧ True ∧ True) ∧ True) ∧ True ∧ True ∧ True ∧ True ∧ True ∧ True ∧ True ∧ True) ∧ ((gr p lv (bOr .i64 (D : Int) ((1 : Int) * 2 ^ k)).toNat ([] ++ [(k : Int)]) (lpK p (gr p lv) D [] m k).snd.snd).fst = true → True ∧ True ∧ (true = (gr p (lv + 1) D [] m).fst ∧ True) ∧ True ∧ True ∧ (n = n ∧ p = p ∧ mk (isF p) = mk (isF p) ∧ True) ∧ True ∧ (gr p lv (bOr .i64 (D : Int) ((1 : Int) * 2 ^ k)).toNat ([] ++ [(k : Int)]) (lpK p (gr p lv) D [] m k).snd.snd).snd.snd = (gr p (lv + 1) D [] m).snd.snd ∧ (True ∧ True ∧ True ∧ True ∧ True ∧ True) ∧ (gr p lv (bOr .i64 (D : Int) ((1 : Int) * 2 ^ k)).toNat ([] ++ [(k : Int)]) (lpK p (gr p lv) D [] m k).snd.snd).snd.fst = (gr p (lv + 1) D [] m).snd.fst ∧ True) ∧ ((gr p lv (bOr .i64 (D : Int) ((1 : Int) * 2 ^ k)).toNat ([] ++ [(k : Int)]) (lpK p (gr p lv) D [] m k).snd.snd).fst = false → True ∧ True ∧ True ∧ inR .i64 ((↑(gr p lv (bOr .i64 (D : Int) ((1 : Int) * 2 ^ k)).toNat ([] ++ [(k : Int)]) (lpK p (gr p lv) D [] m k).snd.snd).snd.fst.length : Int) - 1) ∧ ((0 : Int) ≤ (↑(gr p lv (bOr .i64 (D : Int) ((1 : Int) * 2 ^ k)).toNat ([] ++ [(k : Int)]) (lpK p (gr p lv) D [] m k).snd.snd).snd.fst.length : Int) - 1 ∧ (↑(gr p lv (bOr .i64 (D : Int) ((1 : Int) * 2 ^ k)).toNat ([] ++ [(k : Int)]) (lpK p (gr p lv) D [] m k).snd.snd).snd.fst.length : Int) - 1 ≤ (↑(gr p lv (bOr .i64 (D : Int) ((1 : Int) * 2 ^ k)).toNat ([] ++ [(k : Int)]) (lpK p (gr p lv) D [] m k).snd.snd).snd.fst.length : Int)) ∧ True ∧ inR .i64 ((k : Int) + 1) ∧ True ∧ ((∃ (y : Nat), (y = 0 ∧ p.length - y < p.length - k) ∧ ((D : Int) = (D : Int) ∧ True ∧ True ∧ True ∧ True ∧ (p.length : Int) = (p.length : Int) ∧ (k : Int) + 1 = (y : Int) ∧ True) ∧ False ∧ True ∧ (n = n ∧ p = p ∧ mk (isF p) = mk (isF p) ∧ True) ∧ True ∧ (gr p lv (bOr .i64 (D : Int) ((1 : Int) * 2 ^ k)).toNat ([] ++ [(k : Int)]) (lpK p (gr p lv) D [] m k).snd.snd).snd.snd = m ∧ (True ∧ True ∧ True ∧ True ∧ True ∧ True) ∧ True) ∨ ∃ (y : Nat), (inS p (gr p lv) D [] m y ∧ p.length - y < p.length - k) ∧ ((D : Int) = (D : Int) ∧ True ∧ True ∧ True ∧ True ∧ (p.length : Int) = (p.length : Int) ∧ (k : Int) + 1 = (y : Int) ∧ True) ∧ True ∧ True ∧ (n = n ∧ p = p ∧ mk (isF p) = mk (isF p) ∧ True) ∧ True ∧ (gr p lv (bOr .i64 (D : Int) ((1 : Int) * 2 ^ k)).toNat ([] ++ [(k : Int)]) (lpK p (gr p lv) D [] m k).snd.snd).snd.snd = (lpK p (gr p lv) D [] m y).snd.snd ∧ (True ∧ True ∧ True ∧ True ∧ True ∧ True) ∧ List.take ((↑(gr p lv (bOr .i64 (D : Int) ((1 : Int) * 2 ^ k)).toNat ([] ++ [(k : Int)]) (lpK p (gr p lv) D [] m k).snd.snd).snd.fst.length : Int) - 1).toNat (gr p lv (bOr .i64 (D : Int) ((1 : Int) * 2 ^ k)).toNat ([] ++ [(k : Int)]) (lpK p (gr p lv) D [] m k).snd.snd).snd.fst = [] ∧ True))))) ∧ (¬(k : Int) < (p.length : Int) → ∃ (y : Unit), (lpK p (gr p lv) D [] m p.length).fst = false ∧ ((D : Int) = (D : Int) ∧ True ∧ True ∧ True ∧ True ∧ True) ∧ True ∧ True ∧ (n = n ∧ p = p ∧ mk (isF p) = mk (isF p) ∧ True) ∧ True ∧ (lpK p (gr p lv) D [] m k).snd.snd = (lpK p (gr p lv) D [] m p.length).snd.snd ∧ (True ∧ True ∧ True ∧ True ∧ True ∧ True) ∧ ([] : List Int) = [] ∧ True)) (by kernel_rfl) ?_
   simp only [zz]
   obtain ⟨k1, k2⟩ := hk
   have hl : lv + 1 = p.length := by have := hp.l; simpa using this
   have hc := hp.h.2.1
   have hD := pre_D hp
   refine ⟨fun h => ?_, fun h => by rw [show p.length = k by omega]; exact ⟨k2, rfl⟩⟩
   have hkp : k < p.length := by omega
   have hb := or_pow10 hD (k := k) (by omega)
   have hst := lpK_go k2
   rw [bit_shr hD, hb.1, Int.toNat_natCast]
   have hskip : (D / 2 ^ k % 2 = 1 ∨ flw p D k = false) → inR .i64 ((k : Int) + 1) ∧ ∃ y : Nat, (inS p (gr p lv) D [] m y ∧ p.length - y < p.length - k) ∧ (k : Int) + 1 = (y : Int) ∧ (lpK p (gr p lv) D [] m k).2.2 = (lpK p (gr p lv) D [] m y).2.2 := fun hh => by
     rw [if_pos hh] at hst
     exact ⟨by simp only [inR]; omega, k + 1, ⟨⟨by omega, by rw [hst]; exact k2⟩, by omega⟩, by omega, by rw [hst]⟩
   refine ⟨by simp only [inR]; omega, ⟨by omega, by simp only [bitsOf]; omega⟩, fun hx => hskip (.inl (by omega)), fun hx => ⟨⟨⟨hp.h, rfl⟩, ⟨by simp only; omega, by simp only; omega⟩, ⟨by simp only; omega, by simp only; omega⟩⟩, fun hx2 => hskip (.inr (by simpa using hx2)), fun hx2 => ?_⟩⟩
   have hx2 : flw p D k = true := by simpa using hx2
   rw [if_neg (by simp [hx2]; omega)] at hst
   have hlt : D ||| 2 ^ k < 2 ^ p.length := Nat.or_lt_two_pow hp.D (Nat.pow_lt_pow_right (by decide) hkp)
   have hpre : pre55 n p lv (D ||| 2 ^ k) ([] ++ [(k : Int)]) := ⟨hp.h, hlt, by simp; omega⟩
   refine ⟨by unfold sumPre; simp, by simp only [inR]; omega, ⟨⟨by omega, by simp only [bitsOf]; omega⟩, by omega, by omega⟩, ⟨⟨hp.h, rfl⟩, by simp only; omega, hpre⟩, fun hr => ?_, fun hr => ?_⟩
   · have hr : (gr p lv (D ||| 2 ^ k) ([] ++ [(k : Int)]) (lpK p (gr p lv) D [] m k).2.2).1 = true := hr
     rw [if_pos hr] at hst
     have hs := lpK_stop (k := k + 1) (by rw [hst]; exact hr) (p.length - (k + 1))
     rw [show k + 1 + (p.length - (k + 1)) = p.length by omega, hst] at hs
     have e : gr p (lv + 1) D [] m = gr p lv (D ||| 2 ^ k) ([] ++ [(k : Int)]) (lpK p (gr p lv) D [] m k).2.2 := by rw [gr, if_neg hm, hs, if_pos hr]
     rw [e]
     exact ⟨hr.symm, rfl, rfl⟩
   · have hr : (gr p lv (D ||| 2 ^ k) ([] ++ [(k : Int)]) (lpK p (gr p lv) D [] m k).2.2).1 = false := hr
     rw [if_neg (by rw [hr]; simp)] at hst
     have h2 := gr_list hr
     have q1 : inR .i64 (((gr p lv (D ||| 2 ^ k) ([] ++ [(k : Int)]) (lpK p (gr p lv) D [] m k).2.2).2.1.length : Int) - 1) := by rw [h2]; simp only [inR]; simp
     have q2 : 0 ≤ ((gr p lv (D ||| 2 ^ k) ([] ++ [(k : Int)]) (lpK p (gr p lv) D [] m k).2.2).2.1.length : Int) - 1 ∧ ((gr p lv (D ||| 2 ^ k) ([] ++ [(k : Int)]) (lpK p (gr p lv) D [] m k).2.2).2.1.length : Int) - 1 ≤ ((gr p lv (D ||| 2 ^ k) ([] ++ [(k : Int)]) (lpK p (gr p lv) D [] m k).2.2).2.1.length : Int) := by rw [h2]; simp
     have q3 : (gr p lv (D ||| 2 ^ k) ([] ++ [(k : Int)]) (lpK p (gr p lv) D [] m k).2.2).2.1.take (((gr p lv (D ||| 2 ^ k) ([] ++ [(k : Int)]) (lpK p (gr p lv) D [] m k).2.2).2.1.length : Int) - 1).toNat = [] := by rw [h2]; simp
     have q4 : (gr p lv (D ||| 2 ^ k) ([] ++ [(k : Int)]) (lpK p (gr p lv) D [] m k).2.2).2.2 = (lpK p (gr p lv) D [] m (k + 1)).2.2 := by rw [hst]
     exact ⟨q1, q2, by simp only [inR]; omega, k + 1, ⟨⟨by omega, by rw [hst]⟩, by omega⟩, by omega, q4, q3⟩
theorem call55 (lv : Nat) (n : Int) (p : List Int) (D : Nat) (m : Mm) (hp : pre55 n p (lv + 1) D []) (hD0 : D = 0) (hm : ¬ mg m D = true) : GCall Try.prog gl 55 false (aN D) (gN n p m) [.bool (gr p (lv + 1) D [] m).1] (gO n p (gr p (lv + 1) D [] m).2.1 (gr p (lv + 1) D [] m).2.2) := by
 refine gcall_of (X := (XN lv)) ((Xb_ok _ _ _ _)) (f := 55) (fn := Try.f55) (c := bodyOf Try.f55) (by kernel_rfl) (by kernel_rfl) (view := false) (rvs := [.tmp 6]) (by kernel_rfl) (H := (HN n p (gr p lv) D m)) 80 (by kernel_rfl) ?_
 have hL := loopN lv n p D m hp hD0 hm
 refine of_eq (q := True ∧ True ∧ True ∧ True ∧ True ∧ True ∧ True ∧ True ∧ True ∧ ((0 : Int) = (p.length : Int) → True ∧ True ∧ (true = (gr p (lv + 1) D [] m).fst ∧ True) ∧ False ∧ True ∧ (n = n ∧ p = p ∧ mk (isF p) = mk (isF p) ∧ True) ∧ True ∧ m = (gr p (lv + 1) D [] m).snd.snd ∧ (True ∧ True ∧ True ∧ True ∧ True ∧ True) ∧ False) ∧ (¬(0 : Int) = (p.length : Int) → True ∧ True ∧ True ∧ ((mGet I64 m (D : Int)).getD false = true → True ∧ True ∧ (false = (gr p (lv + 1) D [] m).fst ∧ True) ∧ False ∧ True ∧ (n = n ∧ p = p ∧ mk (isF p) = mk (isF p) ∧ True) ∧ True ∧ m = (gr p (lv + 1) D [] m).snd.snd ∧ (True ∧ True ∧ True ∧ True ∧ True ∧ True) ∧ False) ∧ ((mGet I64 m (D : Int)).getD false = false → True ∧ True ∧ True ∧ True ∧ True ∧ True ∧ LoopOK (XN lv) L55_0 (hN n p (gr p lv) D m) (RetR (XN lv) false false [ResultVar.tmp (6 : Tmp)] [AV.bool (gr p (lv + 1) D [] m).fst] (gO n p (gr p (lv + 1) D [] m).snd.fst (gr p (lv + 1) D [] m).snd.snd)) ∧ ((∃ (y : Nat), y = 0 ∧ ((D : Int) = (D : Int) ∧ True ∧ True ∧ True ∧ True ∧ (p.length : Int) = (p.length : Int) ∧ (0 : Int) = (y : Int) ∧ True) ∧ True ∧ True ∧ (n = n ∧ p = p ∧ mk (isF p) = mk (isF p) ∧ True) ∧ True ∧ m = m ∧ (True ∧ True ∧ True ∧ True ∧ True ∧ True) ∧ True) ∨ ∃ (y : Nat), inS p (gr p lv) D [] m y ∧ ((D : Int) = (D : Int) ∧ True ∧ True ∧ True ∧ True ∧ (p.length : Int) = (p.length : Int) ∧ (0 : Int) = (y : Int) ∧ True) ∧ False ∧ True ∧ (n = n ∧ p = p ∧ mk (isF p) = mk (isF p) ∧ True) ∧ True ∧ m = (lpK p (gr p lv) D [] m y).snd.snd ∧ (True ∧ True ∧ True ∧ True ∧ True ∧ True) ∧ False) ∧ (∀ (y : Unit), (lpK p (gr p lv) D [] m p.length).fst = false → True ∧ True ∧ True ∧ True ∧ True ∧ (false = (gr p (lv + 1) D [] m).fst ∧ True) ∧ True ∧ True ∧ (n = n ∧ p = p ∧ mk (isF p) = mk (isF p) ∧ True) ∧ True ∧ mPut I64 (lpK p (gr p lv) D [] m p.length).snd.snd (D : Int) true = (gr p (lv + 1) D [] m).snd.snd ∧ (True ∧ True ∧ True ∧ True ∧ True ∧ True) ∧ ([] : List Int) = (gr p (lv + 1) D [] m).snd.fst ∧ True) ∧ True))) (by kernel_rfl) ?_
 simp only [zz]
 have hl : lv + 1 = p.length := by have := hp.l; simpa using this
 have hg : mg m D = (mGet I64 m D).getD false := rfl
 refine ⟨fun h => by omega, fun _ => ⟨fun h => hm (by rw [hg]; exact h), fun h => ⟨hL, ⟨0, rfl, rfl⟩, fun _ hf => ?_⟩⟩⟩
 rw [gr, if_neg hm, if_neg (by simp [hf])]; exact ⟨rfl, rfl, rfl⟩
end Go.Am.Sh

/- Shells: Shell. -/
namespace Go.Am.Sh
open Go Go.Am Go.Proofs
def isNl : Ob → Bool
 | .bx (.vv _) => true
 | _ => false
abbrev G5n := Int × Cx3 × Mm
def get55n (xs : List AV) (obs : List Ob) : Option G5n :=
 match xs with
 | .int .i64 d :: _ => (match isNl (obs.getD 0 .gone), unCx (obs.getD 2 .gone), unMm (obs.getD 4 .gone) with
   | true, some x, some m => some (d, x, m)
   | _, _, _ => none)
 | _ => none
structure ok55n (x : G5n) : Prop where
 h : okC x.2.1
 d : x.1 = 0
 m : x.2.2 = []
def gNq (x : Cx3) (m : Mm) : List Ob := [.bx nl, .bx (.ptr 2 0 []), cxQ x, .bx (.mp 4), mmO m, .bx (clo55 0 1 3 5)]
def gOq (x : Cx3) (l : List Int) (m : Mm) : List Ob := [.bx (.own 6 0), .bx (.ptr 2 0 []), cxQ x, .bx (.mp 4), mmO m, .bx (clo55 0 1 3 5), .sc 0 3 I64 l]
def grow (p : List Int) : Res := gr p p.length 0 [] []
theorem call55N (n : Int) (p : List Int) (h : cxOk n p) : GCall Try.prog gl 55 false (aN 0) (gN n p []) [.bool (grow p).1] (gO n p (grow p).2.1 (grow p).2.2) := by
 have hl := h.2.1.1
 obtain ⟨lv, hlv⟩ : ∃ lv, p.length = lv + 1 := ⟨p.length - 1, by omega⟩
 have := call55 lv n p 0 [] ⟨h, by have := Nat.pow_le_pow_right (show 0 < 2 by decide) hl; omega, by simp; omega⟩ rfl (by simp [mg, mGet])
 rw [← hlv] at this
 exact this
def e55N : Entry Try.prog gl := entryW 55 ⟨Try.f55, by kernel_rfl, by kernel_rfl, by kernel_rfl⟩ true get55n ok55n false (fun x => aN x.1) (fun x => gNq x.2.1 x.2.2) (fun x => [.bool (grow x.2.1.2.1).1])
 (fun x => gOq x.2.1 (grow x.2.1.2.1).2.1 (grow x.2.1.2.1).2.2) (fun x hx => by
   have := call55N _ _ hx.h.h
   have e : gNq x.2.1 [] = gN x.2.1.1 x.2.1.2.1 [] := by unfold gNq gN; rw [cxQ_ok hx.h]
   have e2 : ∀ l m, gOq x.2.1 l m = gO x.2.1.1 x.2.1.2.1 l m := fun l m => by unfold gOq gO; rw [cxQ_ok hx.h]
   rw [hx.d, hx.m, e, e2]; exact this)
def shB (p : List Int) : Bool := pure p && (grow p).1
def shL (p : List Int) : List Int := if pure p = true then (grow p).2.1 else []
theorem call15 (n : Int) (p : List Int) (h : cxOk n p) : GCall Try.prog gl 15 true [.int .i64 n, .sl I64 p] [] [.sl I64 (shL p), .bool (shB p), .int .i64 0] [] := by
 refine gcall_of (X := X [e53, e54, e55N]) (X_ok [e53, e54, e55N]) (f := 15) (fn := Try.f15) (c := bodyOf Try.f15) (by kernel_rfl) (by kernel_rfl) (view := true) (rvs := [.tmp 4, .tmp 5, .tmp 6]) (by kernel_rfl) (H := fun _ => none) 80 (by kernel_rfl) ?_
 refine of_eq (q := True ∧ True ∧ True ∧ True ∧ True ∧ (CxP n p ∧ True) ∧ True ∧ True ∧ True ∧ True ∧ True ∧ True ∧ True ∧ True ∧ (¬(0 : Int) = 0 → True ∧ True ∧ True ∧ True ∧ True ∧ (([] : List Int) = shL p ∧ false = shB p ∧ (0 : Int) = 0 ∧ True) ∧ True) ∧ (¬¬(0 : Int) = 0 → True ∧ ((okC (n, p, mk (isF p)) ∧ (True ∧ True) ∧ (n = n ∧ p = p ∧ mk (isF p) = mk (isF p) ∧ True) ∧ True) ∧ True ∧ True) ∧ True ∧ ((!pure p) = true → True ∧ True ∧ True ∧ True ∧ (([] : List Int) = shL p ∧ false = shB p ∧ (0 : Int) = 0 ∧ True) ∧ True) ∧ ((!pure p) = false → True ∧ True ∧ True ∧ True ∧ True ∧ True ∧ True ∧ True ∧ ((ok55n ((0 : Int), (n, p, mk (isF p)), []) ∧ ((0 : Int) = 0 ∧ True ∧ True ∧ True ∧ True ∧ True) ∧ True ∧ True ∧ (n = n ∧ p = p ∧ mk (isF p) = mk (isF p) ∧ True) ∧ True ∧ ([] : List (Int × Bool)) = [] ∧ (True ∧ True ∧ True ∧ True ∧ True ∧ True) ∧ True) ∧ True ∧ True ∧ True ∧ True ∧ True ∧ True ∧ True) ∧ True ∧ True ∧ True ∧ True ∧ True ∧ True ∧ True ∧ ((grow p).snd.fst = shL p ∧ (grow p).fst = shB p ∧ (0 : Int) = 0 ∧ True) ∧ True))) (by kernel_rfl) ?_
 simp only [zz]
 refine ⟨⟨h⟩, fun h => absurd trivial h, fun _ => ⟨⟨h, rfl⟩, fun hp => ?_, fun hp => ⟨⟨⟨h, rfl⟩, rfl, rfl⟩, ?_⟩⟩⟩
 · have hp : pure p = false := by simpa using hp
   simp [shL, shB, hp]
 · have hp : pure p = true := by simpa using hp
   simp [shL, shB, hp]
end Go.Am.Sh

/- Shells: awake. -/
namespace Go.Am.Sh
open Go Go.Am Go.Proofs
def e15 : Entry Try.prog gl := entry2 15 ⟨Try.f15, by kernel_rfl, by kernel_rfl, by kernel_rfl⟩ I64 SI (fun (n : Int) p => cxOk n p) true (fun _ p => [.sl I64 (shL p), .bool (shB p), .int .i64 0]) (fun _ _ => []) (fun (n : Int) p h => call15 n p h)
def e38 : Entry Try.prog gl := entry2 38 ⟨Try.f38, by kernel_rfl, by kernel_rfl, by kernel_rfl⟩ I64 SI (fun (n : Int) p => cxOk n p) false (fun _ p => [.sl I64 (cnts p), .int .i64 0]) (fun _ _ => []) (fun (n : Int) p h => call38 n p h)
def e27 : Entry Try.prog gl := entry2 27 ⟨Try.f27, by kernel_rfl, by kernel_rfl, by kernel_rfl⟩ I64 SI (fun (n : Int) p => cxOk n p) false (fun _ p => [.sl I64 (hsL p), .int .i64 0]) (fun _ _ => []) (fun (n : Int) p h => call27 n p h)
def e30 : Entry Try.prog gl := entry2 30 ⟨Try.f30, by kernel_rfl, by kernel_rfl, by kernel_rfl⟩ I64 SI (fun (n : Int) p => cxOk n p) false (fun _ p => [.sl I64 (hoL p), .int .i64 0]) (fun _ _ => []) (fun (n : Int) p h => call30 n p h)
def e36 : Entry Try.prog gl := entry2 36 ⟨Try.f36, by kernel_rfl, by kernel_rfl, by kernel_rfl⟩ I64 SI (fun (n : Int) p => cxOk n p) false (fun (n : Int) p => [.sl I64 (fewR (grL (duaG n p))), .int .i64 (fewE (grL (duaG n p)))]) (fun _ _ => []) (fun (n : Int) p h => call36 n p h)
def e24 : Entry Try.prog gl := entry2 24 ⟨Try.f24, by kernel_rfl, by kernel_rfl, by kernel_rfl⟩ I64 I64 (fun (n d : Int) => momOk n d) true (fun (n d : Int) => [.sl I64 (momL n d), .int .i64 0]) (fun _ _ => []) (fun (n d : Int) h => call24 n d h)
instance (n : Int) (p : List Int) (k : Nat) : Decidable (goodAt n p k) := by unfold goodAt; infer_instance
instance (n : Int) (p : List Int) : Decidable (cxOk n p) := by unfold cxOk numOk; infer_instance
theorem call19 : GCall Try.prog gl 19 true [] [] [.tt] [] := by
 have f1 : cxOk 3 [3, 5, 6] := by decide +kernel
 have f2 : cxOk 3 [7] := by decide +kernel
 have f3 : cxOk 4 [3, 12] := by decide +kernel
 have f4 : cnts [3, 5, 6] = [1, 3, 3] := by kernel_rfl
 have f5 : hsL [3, 5, 6] = [1, 1, 1] := by kernel_rfl
 have f6 : hoL [3, 5, 6] = [0, 1] := by kernel_rfl
 have f7 : shL [7] = [0] := by kernel_rfl
 have f8 : fewR (grL (duaG 4 [3, 12])) = [5, 6, 9, 10] := by kernel_rfl
 have f9 : fewE (grL (duaG 4 [3, 12])) = 0 := by kernel_rfl
 refine gcall_of (X := X [e38, e27, e30, e15, e36, e24, e23]) (X_ok [e38, e27, e30, e15, e36, e24, e23]) (f := 19) (fn := Try.f19) (c := bodyOf Try.f19) (by kernel_rfl) (by kernel_rfl) (view := false) (rvs := [.tmp 0]) (by kernel_rfl) (H := fun _ => none) 200 (by kernel_rfl) ?_
 refine of_eq (q := True ∧ True ∧ ((numOk (3 : Int) ∧ ((1 : Nat) ≤ [(3 : Int), (5 : Int), (6 : Int)].length ∧ [(3 : Int), (5 : Int), (6 : Int)].length ≤ 10) ∧ ∀ (k : Nat), k < [(3 : Int), (5 : Int), (6 : Int)].length → goodAt (3 : Int) [(3 : Int), (5 : Int), (6 : Int)] k) ∧ True) ∧ True ∧ True ∧ True ∧ True ∧ True ∧ True ∧ ((numOk (3 : Int) ∧ ((1 : Nat) ≤ [(3 : Int), (5 : Int), (6 : Int)].length ∧ [(3 : Int), (5 : Int), (6 : Int)].length ≤ 10) ∧ ∀ (k : Nat), k < [(3 : Int), (5 : Int), (6 : Int)].length → goodAt (3 : Int) [(3 : Int), (5 : Int), (6 : Int)] k) ∧ True) ∧ True ∧ True ∧ True ∧ True ∧ True ∧ True ∧ ((numOk (3 : Int) ∧ ((1 : Nat) ≤ [(3 : Int), (5 : Int), (6 : Int)].length ∧ [(3 : Int), (5 : Int), (6 : Int)].length ≤ 10) ∧ ∀ (k : Nat), k < [(3 : Int), (5 : Int), (6 : Int)].length → goodAt (3 : Int) [(3 : Int), (5 : Int), (6 : Int)] k) ∧ True) ∧ True ∧ True ∧ True ∧ True ∧ True ∧ True ∧ ((numOk (3 : Int) ∧ ((1 : Nat) ≤ [(7 : Int)].length ∧ [(7 : Int)].length ≤ 10) ∧ ∀ (k : Nat), k < [(7 : Int)].length → goodAt (3 : Int) [(7 : Int)] k) ∧ True) ∧ True ∧ True ∧ True ∧ True ∧ True ∧ True ∧ True ∧ True ∧ ((numOk (4 : Int) ∧ ((1 : Nat) ≤ [(3 : Int), (12 : Int)].length ∧ [(3 : Int), (12 : Int)].length ≤ 10) ∧ ∀ (k : Nat), k < [(3 : Int), (12 : Int)].length → goodAt (4 : Int) [(3 : Int), (12 : Int)] k) ∧ True) ∧ True ∧ True ∧ True ∧ True ∧ True ∧ (((2 : Int) ≤ 3 ∧ (3 : Int) < 5 ∧ (5 : Int) ≤ 6) ∧ True) ∧ True ∧ True ∧ True ∧ True ∧ True ∧ True ∧ True ∧ True ∧ ((0 : Int) = 0 → True ∧ True ∧ ((cnts [(3 : Int), (5 : Int), (6 : Int)]).length + 1 ≤ 1000000000000000 ∧ True) ∧ True ∧ True ∧ (true = true → True ∧ True ∧ True ∧ True ∧ ((0 : Int) = 0 → True ∧ True ∧ ((hsL [(3 : Int), (5 : Int), (6 : Int)]).length + 1 ≤ 1000000000000000 ∧ True) ∧ True ∧ True ∧ (true = true → True ∧ True ∧ True ∧ True ∧ ((0 : Int) = 0 → True ∧ True ∧ ((hoL [(3 : Int), (5 : Int), (6 : Int)]).length + 1 ≤ 1000000000000000 ∧ True) ∧ True ∧ True ∧ (true = true → True ∧ True ∧ True ∧ True ∧ ((0 : Int) = 0 → True ∧ True ∧ True ∧ (true = true → True ∧ True ∧ ((shL [(7 : Int)]).length + 1 ≤ 1000000000000000 ∧ True) ∧ True ∧ True ∧ (true = true → True ∧ True ∧ True ∧ True ∧ (fewE (grL (duaG (4 : Int) [(3 : Int), (12 : Int)])) = 0 → True ∧ True ∧ ((fewR (grL (duaG (4 : Int) [(3 : Int), (12 : Int)]))).length + 1 ≤ 1000000000000000 ∧ True) ∧ True ∧ True ∧ (true = true → True ∧ True ∧ True ∧ True ∧ ((0 : Int) = 0 → True ∧ True ∧ True ∧ True ∧ True ∧ True ∧ (true = true ∧ True) ∧ True) ∧ (¬(0 : Int) = 0 → True ∧ True ∧ True ∧ (false = true ∧ True) ∧ True)) ∧ (true = false → True ∧ True ∧ True ∧ True ∧ True ∧ (false = true ∧ True) ∧ True)) ∧ (¬fewE (grL (duaG (4 : Int) [(3 : Int), (12 : Int)])) = 0 → True ∧ True ∧ True ∧ True ∧ True ∧ True ∧ True ∧ (false = true ∧ True) ∧ True)) ∧ (true = false → True ∧ True ∧ True ∧ True ∧ True ∧ True ∧ True ∧ True ∧ True ∧ (false = true ∧ True) ∧ True)) ∧ (true = false → True ∧ True ∧ True ∧ True ∧ True ∧ True ∧ True ∧ True ∧ True ∧ True ∧ True ∧ (false = true ∧ True) ∧ True)) ∧ (¬(0 : Int) = 0 → True ∧ True ∧ True ∧ True ∧ True ∧ True ∧ True ∧ True ∧ True ∧ True ∧ True ∧ True ∧ True ∧ (false = true ∧ True) ∧ True)) ∧ (true = false → True ∧ True ∧ True ∧ True ∧ True ∧ True ∧ True ∧ True ∧ True ∧ True ∧ True ∧ True ∧ True ∧ True ∧ True ∧ (false = true ∧ True) ∧ True)) ∧ (¬(0 : Int) = 0 → True ∧ True ∧ True ∧ True ∧ True ∧ True ∧ True ∧ True ∧ True ∧ True ∧ True ∧ True ∧ True ∧ True ∧ True ∧ True ∧ True ∧ (false = true ∧ True) ∧ True)) ∧ (true = false → True ∧ True ∧ True ∧ True ∧ True ∧ True ∧ True ∧ True ∧ True ∧ True ∧ True ∧ True ∧ True ∧ True ∧ True ∧ True ∧ True ∧ True ∧ True ∧ (false = true ∧ True) ∧ True)) ∧ (¬(0 : Int) = 0 → True ∧ True ∧ True ∧ True ∧ True ∧ True ∧ True ∧ True ∧ True ∧ True ∧ True ∧ True ∧ True ∧ True ∧ True ∧ True ∧ True ∧ True ∧ True ∧ True ∧ True ∧ (false = true ∧ True) ∧ True)) ∧ (true = false → True ∧ True ∧ True ∧ True ∧ True ∧ True ∧ True ∧ True ∧ True ∧ True ∧ True ∧ True ∧ True ∧ True ∧ True ∧ True ∧ True ∧ True ∧ True ∧ True ∧ True ∧ True ∧ True ∧ (false = true ∧ True) ∧ True)) ∧ (¬(0 : Int) = 0 → True ∧ True ∧ True ∧ True ∧ True ∧ True ∧ True ∧ True ∧ True ∧ True ∧ True ∧ True ∧ True ∧ True ∧ True ∧ True ∧ True ∧ True ∧ True ∧ True ∧ True ∧ True ∧ True ∧ True ∧ True ∧ (false = true ∧ True) ∧ True)) (by kernel_rfl) ?_
 rw [f4, f5, f6, f7, f8, f9]
 simp
 exact ⟨⟨f1.1, f1.2.2⟩, ⟨f2.1, f2.2.2 0 (by decide)⟩, f3.1, f3.2.2⟩
def e19 : Entry Try.prog gl where
 f := 19
 lend := false
 en := ⟨Try.f19, by kernel_rfl, by kernel_rfl, by kernel_rfl⟩
 go := fun args ob0 => match args, ob0 with
   | [], [] => some (True, true, [.tt], [])
   | _, _ => none
 ok := by
   intro args ob0 p s r o h hp
   split at h <;> try (cases h; done)
   injection h with h; injection h with h1 h2; injection h2 with h2 h3; injection h3 with h3 h4
   subst h1 h2 h3 h4
   exact call19
end Go.Am.Sh

/- Shells: the reference's shellings. -/
namespace Go.Am.Sh
open Go Go.Am Go.Proofs
def puN (p : List Int) (k : Nat) : Prop := ∀ i, i < k → pc (p.getD i 0).toNat = pc (p.getD 0 0).toNat
instance (p k) : Decidable (puN p k) := by unfold puN; infer_instance
def puB (p : List Int) : Bool := decide (puN p p.length)
structure ok10 (p : List Int) : Prop where
 h : okL p
 l : p.length ≤ 10
def fnd (p : List Int) (D s e : Nat) : Nat → Bool
 | 0 => false
 | g + 1 => fnd p D s e g || (decide (D / 2 ^ g % 2 = 1) && decide (pc (mns s (p.getD g 0).toNat) = 1) && decide (mns s (p.getD g 0).toNat &&& e = 0))
def nxN (p : List Int) (D i k : Nat) : Prop := ∀ e, e < k → D / 2 ^ e % 2 = 1 → fnd p D (p.getD i 0).toNat (p.getD e 0).toNat p.length = true
instance (p D i k) : Decidable (nxN p D i k) := by unfold nxN; infer_instance
def nxB (p : List Int) (D i : Nat) : Bool := decide (nxN p D i p.length)
structure ok57 (p : List Int) (D i : Int) : Prop where
 h : ok10 p
 D : 0 ≤ D ∧ D < 1024
 i : 0 ≤ i ∧ i < p.length
def sgB (p : List Int) (i : Int) : Bool := decide (0 ≤ i ∧ i < p.length)
/-- The set of the first k pieces of an order, if they are a shelling so far. -/
def sgK (p o : List Int) : Nat → Option Nat
 | 0 => some 0
 | k + 1 => (sgK p o k).bind fun D => if sgB p (o.getD k 0) = true ∧ D / 2 ^ (o.getD k 0).toNat % 2 = 0 ∧ nxB p D (o.getD k 0).toNat = true then some (D ||| 2 ^ (o.getD k 0).toNat) else none
def sgD (p o : List Int) (k : Nat) : Nat := (sgK p o k).getD 0
def sgR (p o : List Int) : Bool := (sgK p o o.length).isSome && decide (o.length = p.length) && puB p
theorem sg_some {p o : List Int} {k : Nat} (h : (sgK p o k).isSome = true) : sgK p o k = some (sgD p o k) := by
 unfold sgD
 cases hm : sgK p o k with
 | none => rw [hm] at h; cases h
 | some q => rfl
theorem sg_none {p o : List Int} {k : Nat} (h : sgK p o k = none) : ∀ j, sgK p o (k + j) = none
 | 0 => h
 | j + 1 => by rw [show k + (j + 1) = k + j + 1 by omega, sgK, sg_none h j]; try rfl
theorem sg_bad {p o : List Int} {k : Nat} (hk : k < o.length) (h : sgK p o (k + 1) = none) : sgR p o = false := by
 have := sg_none h (o.length - (k + 1))
 rw [show k + 1 + (o.length - (k + 1)) = o.length by omega] at this
 unfold sgR; rw [this]; try rfl
theorem sg_lt {p o : List Int} (hl : p.length ≤ 10) : ∀ {k : Nat} {D : Nat}, sgK p o k = some D → D < 1024
 | 0, D, h => by injection h with h; omega
 | k + 1, D, h => by
   rw [sgK] at h
   cases hm : sgK p o k with
   | none => rw [hm] at h; cases h
   | some q =>
     rw [hm] at h
     simp only [Option.bind_some] at h
     split at h
     · rename_i hc
       injection h with h; subst h
       have hb : 0 ≤ o.getD k 0 ∧ o.getD k 0 < p.length := of_decide_eq_true hc.1
       exact Nat.or_lt_two_pow (n := 10) (sg_lt hl hm) (Nat.pow_lt_pow_right (by decide) (by omega))
     · cases h
def in17 (p o : List Int) (k : Nat) : Prop := k ≤ o.length ∧ (sgK p o k).isSome = true
end Go.Am.Sh

/- Shells: the reference's Check. -/
namespace Go.Am.Sh
open Go Go.Am Go.Proofs
theorem sub_and {a b : Int} (ha : 0 ≤ a ∧ a < 64) (hb : 0 ≤ b ∧ b < 64) : (bAnd .i64 a b = a) ↔ sub a.toNat b.toNat = true := by
 have : bAnd .i64 a b = ((a.toNat &&& b.toNat : Nat) : Int) := by rw [← bAnd_nat (by omega) (by omega), Int.toNat_of_nonneg ha.1, Int.toNat_of_nonneg hb.1]
 rw [this]
 unfold sub
 constructor
 · intro h
   have : a.toNat &&& b.toNat = a.toNat := by omega
   rw [this]; exact Nat.beq_refl _
 · intro h
   have := Nat.eq_of_beq_eq_true h
   omega
end Go.Am.Sh

/- Shells: the law of the moment complexes. -/
namespace Go.Am.Sh
open Go Go.Am Go.Proofs
/-- How many of a list have all of a set. -/
def cntM (x : Nat) (p : List Int) (j : Nat) : Nat := ((p.take j).filter fun s => decide (mns x s.toNat = 0)).length
structure mf (n d : Int) : Prop where
 m : momOk n d
 len : 1 ≤ (momL n d).length ∧ (momL n d).length ≤ 10
 hl : ((hsL (momL n d)).length : Int) = d + 1
 hs : ∀ k, k < d.toNat + 1 → (hsL (momL n d)).getD k 0 = (hsL (momL n d)).getD (d.toNat - k) 0
 sh : shB (momL n d) = true
 sg : sgR (momL n d) (shL (momL n d)) = true
 sl : (shL (momL n d)).length ≤ 10
 two : ∀ k, k < (fcs (momL n d)).length → (pc ((fcs (momL n d)).getD k 0).toNat : Int) = d - 1 → cntM ((fcs (momL n d)).getD k 0).toNat (momL n d) (momL n d).length = 2
instance (n d : Int) : Decidable (momOk n d) := by unfold momOk; infer_instance
theorem and63 : ∀ x : Fin 64, x.val &&& 63 = x.val := by decide +kernel
theorem u64_nn (n : Int) : 0 ≤ modU .u64 n := by
 show 0 ≤ n % 18446744073709551616
 omega
end Go.Am.Sh

/- Shells: the reference's Pieces. -/
namespace Go.Am.Sh
open Go Go.Am Go.Proofs
/-- Set x is one of the first k of a list. -/
def inK (s : List Int) (x : Nat) : Nat → Bool
 | 0 => false
 | k + 1 => inK s x k || decide (s.getD k 0 = x)
/-- Set x is no part of another of the first k. -/
def mxS (s : List Int) (x : Nat) : Nat → Bool
 | 0 => true
 | k + 1 => mxS s x k && (decide (s.getD k 0 = x) || !sub x (s.getD k 0).toNat)
def pieB (s : List Int) (x : Nat) : Bool := inK s x s.length && mxS s x s.length
def pieL (s : List Int) : List Int := trueN (pieB s) 64
structure ok22 (s : List Int) : Prop where
 h : okL s
 l : s.length < 1000000
noncomputable def L22_0 : Code := lp (bodyOf Try.f22) 0
noncomputable def L22_2 : Code := lp (bodyOf Try.f22) 2
def sz22 (s : List Int) (k : Nat) : St := ⟨.sl I64 s :: dd 2 ++ nl :: .int .i64 k :: dd 49, []⟩
def jz22 (s : List Int) (k i : Nat) : St := ⟨.sl I64 s :: dd 2 ++ nl :: .int .i64 k :: .bool (inK s k i) :: .bool (mxS s k i) :: .int .i64 i :: dd 46, []⟩
def ejz22 (s : List Int) (k : Nat) : List (List Nat × Ex) := [([0, 3, 4, 5, 6], ⟨2, Unit, fun _ => True, fun _ => ⟨.sl I64 s :: dd 2 ++ nl :: .int .i64 k :: .bool (inK s k s.length) :: .bool (mxS s k s.length) :: dd 47, []⟩⟩)]
def hz22 (s : List Int) (k : Nat) : Hint := ⟨chk 0 [0, 3, 4, 5, 6, 7] (fun i => i ≤ s.length) (jz22 s k), (ejz22 s k).map (·.2)⟩
theorem loop22z (s : List Int) (k : Nat) (h : ok22 s) (hk : k < 64) (R : Exit → St → Prop) : LoopOK (X [e63]) L22_2 (hz22 s k) R := by
 refine loop_ok (X_ok _) (H := fun _ _ => none) [0, 3, 4, 5, 6, 7] (fun i => i ≤ s.length) (jz22 s k) (fun i => s.length - i) (ejz22 s k) 150 fun (i : Nat) hi => ?_
 refine of_eq (q := True ∧ True ∧ True ∧ True ∧ ((i : Int) < (s.length : Int) → True ∧ True ∧ (inK s k i = true → True ∧ True ∧ True ∧ True ∧ (mxS s k i = true → True ∧ True ∧ idxPre (i : Int) s.length ∧ True ∧ True ∧ True ∧ True ∧ (s.getD i (0 : Int) = (k : Int) → True ∧ True ∧ True ∧ True ∧ inR .i64 ((i : Int) + 1) ∧ True ∧ ∃ (y : Nat), (y ≤ s.length ∧ s.length - y < s.length - i) ∧ (s = s ∧ True ∧ (k : Int) = (k : Int) ∧ true = inK s k y ∧ true = mxS s k y ∧ (i : Int) + 1 = (y : Int) ∧ True) ∧ True) ∧ (¬s.getD i (0 : Int) = (k : Int) → True ∧ True ∧ True ∧ idxPre (i : Int) s.length ∧ True ∧ ((((0 : Int) ≤ (k : Int) ∧ (k : Int) < 64) ∧ (0 : Int) ≤ s.getD i (0 : Int) ∧ s.getD i (0 : Int) < 64) ∧ True) ∧ True ∧ True ∧ True ∧ True ∧ True ∧ inR .i64 ((i : Int) + 1) ∧ True ∧ ∃ (y : Nat), (y ≤ s.length ∧ s.length - y < s.length - i) ∧ (s = s ∧ True ∧ (k : Int) = (k : Int) ∧ true = inK s k y ∧ (!sub k (Int.toNat (s.getD i (0 : Int)))) = mxS s k y ∧ (i : Int) + 1 = (y : Int) ∧ True) ∧ True)) ∧ (mxS s k i = false → True ∧ True ∧ True ∧ inR .i64 ((i : Int) + 1) ∧ True ∧ ∃ (y : Nat), (y ≤ s.length ∧ s.length - y < s.length - i) ∧ (s = s ∧ True ∧ (k : Int) = (k : Int) ∧ true = inK s k y ∧ false = mxS s k y ∧ (i : Int) + 1 = (y : Int) ∧ True) ∧ True)) ∧ (inK s k i = false → True ∧ True ∧ idxPre (i : Int) s.length ∧ True ∧ True ∧ True ∧ True ∧ True ∧ True ∧ True ∧ (mxS s k i = true → True ∧ True ∧ idxPre (i : Int) s.length ∧ True ∧ True ∧ True ∧ True ∧ (s.getD i (0 : Int) = (k : Int) → True ∧ True ∧ True ∧ True ∧ inR .i64 ((i : Int) + 1) ∧ True ∧ ∃ (y : Nat), (y ≤ s.length ∧ s.length - y < s.length - i) ∧ (s = s ∧ True ∧ (k : Int) = (k : Int) ∧ decide (s.getD i (0 : Int) = (k : Int)) = inK s k y ∧ true = mxS s k y ∧ (i : Int) + 1 = (y : Int) ∧ True) ∧ True) ∧ (¬s.getD i (0 : Int) = (k : Int) → True ∧ True ∧ True ∧ idxPre (i : Int) s.length ∧ True ∧ ((((0 : Int) ≤ (k : Int) ∧ (k : Int) < 64) ∧ (0 : Int) ≤ s.getD i (0 : Int) ∧ s.getD i (0 : Int) < 64) ∧ True) ∧ True ∧ True ∧ True ∧ True ∧ True ∧ inR .i64 ((i : Int) + 1) ∧ True ∧ ∃ (y : Nat), (y ≤ s.length ∧ s.length - y < s.length - i) ∧ (s = s ∧ True ∧ (k : Int) = (k : Int) ∧ decide (s.getD i (0 : Int) = (k : Int)) = inK s k y ∧ (!sub k (Int.toNat (s.getD i (0 : Int)))) = mxS s k y ∧ (i : Int) + 1 = (y : Int) ∧ True) ∧ True)) ∧ (mxS s k i = false → True ∧ True ∧ True ∧ inR .i64 ((i : Int) + 1) ∧ True ∧ ∃ (y : Nat), (y ≤ s.length ∧ s.length - y < s.length - i) ∧ (s = s ∧ True ∧ (k : Int) = (k : Int) ∧ decide (s.getD i (0 : Int) = (k : Int)) = inK s k y ∧ false = mxS s k y ∧ (i : Int) + 1 = (y : Int) ∧ True) ∧ True))) ∧ (¬(i : Int) < (s.length : Int) → ∃ (y : Unit), True ∧ (s = s ∧ True ∧ (k : Int) = (k : Int) ∧ inK s k i = inK s k s.length ∧ mxS s k i = mxS s k s.length ∧ True) ∧ True)) (by kernel_rfl) ?_
 simp only [zz]
 have hi : i ≤ s.length := hi
 obtain ⟨q1, q2⟩ := okL_get h.h i
 have hl := h.l
 refine ⟨fun hlt => ?_, fun hlt => by rw [show s.length = i by omega]; exact ⟨rfl, rfl⟩⟩
 have hx : idxPre (i : Int) s.length := idx_nat (by omega)
 have hn : ∀ b c, b = inK s k (i + 1) → c = mxS s k (i + 1) → inR .i64 ((i : Int) + 1) ∧ ∃ y : Nat, (y ≤ s.length ∧ s.length - y < s.length - i) ∧ b = inK s k y ∧ c = mxS s k y ∧ (i : Int) + 1 = (y : Int) := fun b c hb hc => ⟨by simp only [inR]; omega, i + 1, by omega, hb, hc, by omega⟩
 have hr : (0 ≤ (k : Int) ∧ (k : Int) < 64) ∧ 0 ≤ s.getD i 0 ∧ s.getD i 0 < 64 := ⟨⟨by omega, by omega⟩, q1, q2⟩
 refine ⟨fun hI => ⟨fun hM => ⟨hx, fun he => hn _ _ ?_ ?_, fun he => ⟨hx, hr, hn _ _ ?_ ?_⟩⟩, fun hM => hn _ _ ?_ ?_⟩, fun hI => ⟨hx, fun hM => ⟨hx, fun he => hn _ _ ?_ ?_, fun he => ⟨hx, hr, hn _ _ ?_ ?_⟩⟩, fun hM => hn _ _ ?_ ?_⟩⟩
 · rw [inK, hI]; try rfl
 · rw [mxS, hM, decide_eq_true he]; try rfl
 · rw [inK, hI]; try rfl
 · rw [mxS, hM, decide_eq_false he]; try rfl
 · rw [inK, hI]; try rfl
 · rw [mxS, hM]; try rfl
 · rw [inK, hI]; try rfl
 · rw [mxS, hM, decide_eq_true he]; try rfl
 · rw [inK, hI]; try rfl
 · rw [mxS, hM, decide_eq_false he]; try rfl
 · rw [inK, hI]; try rfl
 · rw [mxS, hM]; try rfl
def st22 (s : List Int) (k : Nat) : St := ⟨.sl I64 s :: dd 2 ++ .own 0 0 :: .int .i64 k :: dd 49, [.sc 0 3 I64 (trueN (pieB s) k)]⟩
def jt22 (s : List Int) (k i : Nat) : St := ⟨.sl I64 s :: dd 2 ++ .own 0 0 :: .int .i64 k :: .bool (inK s k i) :: .bool (mxS s k i) :: .int .i64 i :: dd 46, [.sc 0 3 I64 (trueN (pieB s) k)]⟩
def ejt22 (s : List Int) (k : Nat) : List (List Nat × Ex) := [([0, 3, 4, 5, 6], ⟨2, Unit, fun _ => True, fun _ => ⟨.sl I64 s :: dd 2 ++ .own 0 0 :: .int .i64 k :: .bool (inK s k s.length) :: .bool (mxS s k s.length) :: dd 47, [.sc 0 3 I64 (trueN (pieB s) k)]⟩⟩)]
def ht22 (s : List Int) (k : Nat) : Hint := ⟨chk 0 [0, 3, 4, 5, 6, 7] (fun i => i ≤ s.length) (jt22 s k), (ejt22 s k).map (·.2)⟩
theorem loop22t (s : List Int) (k : Nat) (h : ok22 s) (hk : k < 64) (R : Exit → St → Prop) : LoopOK (X [e63]) L22_2 (ht22 s k) R := by
 refine loop_ok (X_ok _) (H := fun _ _ => none) [0, 3, 4, 5, 6, 7] (fun i => i ≤ s.length) (jt22 s k) (fun i => s.length - i) (ejt22 s k) 150 fun (i : Nat) hi => ?_
 refine of_eq (q := True ∧ True ∧ True ∧ True ∧ ((i : Int) < (s.length : Int) → True ∧ True ∧ (inK s k i = true → True ∧ True ∧ True ∧ True ∧ (mxS s k i = true → True ∧ True ∧ idxPre (i : Int) s.length ∧ True ∧ True ∧ True ∧ True ∧ (s.getD i (0 : Int) = (k : Int) → True ∧ True ∧ True ∧ True ∧ inR .i64 ((i : Int) + 1) ∧ True ∧ ∃ (y : Nat), (y ≤ s.length ∧ s.length - y < s.length - i) ∧ (s = s ∧ True ∧ (k : Int) = (k : Int) ∧ true = inK s k y ∧ true = mxS s k y ∧ (i : Int) + 1 = (y : Int) ∧ True) ∧ trueN (pieB s) k = trueN (pieB s) k ∧ True) ∧ (¬s.getD i (0 : Int) = (k : Int) → True ∧ True ∧ True ∧ idxPre (i : Int) s.length ∧ True ∧ ((((0 : Int) ≤ (k : Int) ∧ (k : Int) < 64) ∧ (0 : Int) ≤ s.getD i (0 : Int) ∧ s.getD i (0 : Int) < 64) ∧ True) ∧ True ∧ True ∧ True ∧ True ∧ True ∧ inR .i64 ((i : Int) + 1) ∧ True ∧ ∃ (y : Nat), (y ≤ s.length ∧ s.length - y < s.length - i) ∧ (s = s ∧ True ∧ (k : Int) = (k : Int) ∧ true = inK s k y ∧ (!sub k (Int.toNat (s.getD i (0 : Int)))) = mxS s k y ∧ (i : Int) + 1 = (y : Int) ∧ True) ∧ trueN (pieB s) k = trueN (pieB s) k ∧ True)) ∧ (mxS s k i = false → True ∧ True ∧ True ∧ inR .i64 ((i : Int) + 1) ∧ True ∧ ∃ (y : Nat), (y ≤ s.length ∧ s.length - y < s.length - i) ∧ (s = s ∧ True ∧ (k : Int) = (k : Int) ∧ true = inK s k y ∧ false = mxS s k y ∧ (i : Int) + 1 = (y : Int) ∧ True) ∧ trueN (pieB s) k = trueN (pieB s) k ∧ True)) ∧ (inK s k i = false → True ∧ True ∧ idxPre (i : Int) s.length ∧ True ∧ True ∧ True ∧ True ∧ True ∧ True ∧ True ∧ (mxS s k i = true → True ∧ True ∧ idxPre (i : Int) s.length ∧ True ∧ True ∧ True ∧ True ∧ (s.getD i (0 : Int) = (k : Int) → True ∧ True ∧ True ∧ True ∧ inR .i64 ((i : Int) + 1) ∧ True ∧ ∃ (y : Nat), (y ≤ s.length ∧ s.length - y < s.length - i) ∧ (s = s ∧ True ∧ (k : Int) = (k : Int) ∧ decide (s.getD i (0 : Int) = (k : Int)) = inK s k y ∧ true = mxS s k y ∧ (i : Int) + 1 = (y : Int) ∧ True) ∧ trueN (pieB s) k = trueN (pieB s) k ∧ True) ∧ (¬s.getD i (0 : Int) = (k : Int) → True ∧ True ∧ True ∧ idxPre (i : Int) s.length ∧ True ∧ ((((0 : Int) ≤ (k : Int) ∧ (k : Int) < 64) ∧ (0 : Int) ≤ s.getD i (0 : Int) ∧ s.getD i (0 : Int) < 64) ∧ True) ∧ True ∧ True ∧ True ∧ True ∧ True ∧ inR .i64 ((i : Int) + 1) ∧ True ∧ ∃ (y : Nat), (y ≤ s.length ∧ s.length - y < s.length - i) ∧ (s = s ∧ True ∧ (k : Int) = (k : Int) ∧ decide (s.getD i (0 : Int) = (k : Int)) = inK s k y ∧ (!sub k (Int.toNat (s.getD i (0 : Int)))) = mxS s k y ∧ (i : Int) + 1 = (y : Int) ∧ True) ∧ trueN (pieB s) k = trueN (pieB s) k ∧ True)) ∧ (mxS s k i = false → True ∧ True ∧ True ∧ inR .i64 ((i : Int) + 1) ∧ True ∧ ∃ (y : Nat), (y ≤ s.length ∧ s.length - y < s.length - i) ∧ (s = s ∧ True ∧ (k : Int) = (k : Int) ∧ decide (s.getD i (0 : Int) = (k : Int)) = inK s k y ∧ false = mxS s k y ∧ (i : Int) + 1 = (y : Int) ∧ True) ∧ trueN (pieB s) k = trueN (pieB s) k ∧ True))) ∧ (¬(i : Int) < (s.length : Int) → ∃ (y : Unit), True ∧ (s = s ∧ True ∧ (k : Int) = (k : Int) ∧ inK s k i = inK s k s.length ∧ mxS s k i = mxS s k s.length ∧ True) ∧ trueN (pieB s) k = trueN (pieB s) k ∧ True)) (by kernel_rfl) ?_
 simp only [zz]
 have hi : i ≤ s.length := hi
 obtain ⟨q1, q2⟩ := okL_get h.h i
 have hl := h.l
 refine ⟨fun hlt => ?_, fun hlt => by rw [show s.length = i by omega]; exact ⟨rfl, rfl⟩⟩
 have hx : idxPre (i : Int) s.length := idx_nat (by omega)
 have hn : ∀ b c, b = inK s k (i + 1) → c = mxS s k (i + 1) → inR .i64 ((i : Int) + 1) ∧ ∃ y : Nat, (y ≤ s.length ∧ s.length - y < s.length - i) ∧ b = inK s k y ∧ c = mxS s k y ∧ (i : Int) + 1 = (y : Int) := fun b c hb hc => ⟨by simp only [inR]; omega, i + 1, by omega, hb, hc, by omega⟩
 have hr : (0 ≤ (k : Int) ∧ (k : Int) < 64) ∧ 0 ≤ s.getD i 0 ∧ s.getD i 0 < 64 := ⟨⟨by omega, by omega⟩, q1, q2⟩
 refine ⟨fun hI => ⟨fun hM => ⟨hx, fun he => hn _ _ ?_ ?_, fun he => ⟨hx, hr, hn _ _ ?_ ?_⟩⟩, fun hM => hn _ _ ?_ ?_⟩, fun hI => ⟨hx, fun hM => ⟨hx, fun he => hn _ _ ?_ ?_, fun he => ⟨hx, hr, hn _ _ ?_ ?_⟩⟩, fun hM => hn _ _ ?_ ?_⟩⟩
 · rw [inK, hI]; try rfl
 · rw [mxS, hM, decide_eq_true he]; try rfl
 · rw [inK, hI]; try rfl
 · rw [mxS, hM, decide_eq_false he]; try rfl
 · rw [inK, hI]; try rfl
 · rw [mxS, hM]; try rfl
 · rw [inK, hI]; try rfl
 · rw [mxS, hM, decide_eq_true he]; try rfl
 · rw [inK, hI]; try rfl
 · rw [mxS, hM, decide_eq_false he]; try rfl
 · rw [inK, hI]; try rfl
 · rw [mxS, hM]; try rfl
noncomputable def fm22 (s : List Int) : List Fam := [⟨Nat, fun k => k ≤ 64 ∧ trueN (pieB s) k = [], sz22 s, fun k => 64 - k, fun k _ => some (hz22 s k)⟩, ⟨Nat, fun k => k ≤ 64, st22 s, fun k => 64 - k, fun k _ => some (ht22 s k)⟩]
def ex22 (s : List Int) : List (List Nat × Ex) := [([3], ⟨0, Unit, fun _ => pieL s = [], fun _ => ⟨dd 3 ++ nl :: dd 50, []⟩⟩), ([3], ⟨0, Unit, fun _ => True, fun _ => ⟨dd 3 ++ .own 0 0 :: dd 50, [.sc 0 3 I64 (pieL s)]⟩⟩)]
noncomputable def H22 (s : List Int) : Nat → Option Hint := fun _ => some ⟨chks 0 [0, 3, 4] (fm22 s), (ex22 s).map (·.2)⟩
theorem loop22 (s : List Int) (h : ok22 s) (R : Exit → St → Prop) : LoopOK (X [e63]) L22_0 ⟨chks 0 [0, 3, 4] (fm22 s), (ex22 s).map (·.2)⟩ R := by
 refine loop_fams (X_ok _) [0, 3, 4] (fm22 s) (ex22 s) 150 ⟨fun (k : Nat) hk => ?_, fun (k : Nat) hk => ?_, trivial⟩
 · have hL := fun hk => loop22z s k h hk
   refine of_eq (q := True ∧ True ∧ ((k : Int) < 64 → True ∧ True ∧ True ∧ LoopOK (X [e63]) L22_2 (hz22 s k) (bodyR (X [e63]).m0 (ex22 s) R) ∧ (∃ (y : Nat), y ≤ s.length ∧ (s = s ∧ True ∧ (k : Int) = (k : Int) ∧ false = inK s k y ∧ true = mxS s k y ∧ (0 : Int) = (y : Int) ∧ True) ∧ True) ∧ (∀ (y : Unit), True → True ∧ True ∧ (inK s k s.length = true → True ∧ True ∧ (mxS s k s.length = true → True ∧ True ∧ True ∧ sumPre (0 : Nat) [(k : Int)].length (nat_lit 8) ∧ True ∧ True ∧ inR .i64 ((k : Int) + 1) ∧ True ∧ ((∃ (y : Nat), ((y ≤ 64 ∧ trueN (pieB s) y = []) ∧ (64 : Nat) - y < 64 - k) ∧ (s = s ∧ False ∧ (k : Int) + 1 = (y : Int) ∧ True) ∧ True) ∨ ∃ (y : Nat), (y ≤ 64 ∧ (64 : Nat) - y < 64 - k) ∧ (s = s ∧ True ∧ (k : Int) + 1 = (y : Int) ∧ True) ∧ [(k : Int)] = trueN (pieB s) y ∧ True)) ∧ (mxS s k s.length = false → True ∧ inR .i64 ((k : Int) + 1) ∧ True ∧ ((∃ (y : Nat), ((y ≤ 64 ∧ trueN (pieB s) y = []) ∧ (64 : Nat) - y < 64 - k) ∧ (s = s ∧ True ∧ (k : Int) + 1 = (y : Int) ∧ True) ∧ True) ∨ ∃ (y : Nat), (y ≤ 64 ∧ (64 : Nat) - y < 64 - k) ∧ (s = s ∧ False ∧ (k : Int) + 1 = (y : Int) ∧ True) ∧ False))) ∧ (inK s k s.length = false → True ∧ True ∧ inR .i64 ((k : Int) + 1) ∧ True ∧ ((∃ (y : Nat), ((y ≤ 64 ∧ trueN (pieB s) y = []) ∧ (64 : Nat) - y < 64 - k) ∧ (s = s ∧ True ∧ (k : Int) + 1 = (y : Int) ∧ True) ∧ True) ∨ ∃ (y : Nat), (y ≤ 64 ∧ (64 : Nat) - y < 64 - k) ∧ (s = s ∧ False ∧ (k : Int) + 1 = (y : Int) ∧ True) ∧ False))) ∧ True) ∧ (¬(k : Int) < 64 → (∃ (y : Unit), pieL s = [] ∧ (True ∧ True) ∧ True) ∨ ∃ (y : Unit), True ∧ (False ∧ True) ∧ False)) (by kernel_rfl) ?_
   simp only [zz]
   obtain ⟨k1, k2⟩ := hk
   have hf : k < 64 → pieB s k = false → inR .i64 ((k : Int) + 1) ∧ ∃ y : Nat, ((y ≤ 64 ∧ trueN (pieB s) y = []) ∧ 64 - y < 64 - k) ∧ (k : Int) + 1 = (y : Int) := fun h3 hb => ⟨by simp only [inR]; omega, k + 1, ⟨⟨by omega, by rw [trueN, hb, k2]; rfl⟩, by omega⟩, by omega⟩
   have hz : ∃ y : Nat, y ≤ s.length ∧ false = inK s k y ∧ true = mxS s k y ∧ (0 : Int) = (y : Int) := ⟨0, Nat.zero_le _, rfl, rfl, rfl⟩
   refine ⟨fun h3 => ⟨hL (by omega) _, hz, fun _ _ => ⟨fun hI => ⟨fun hM => ⟨by unfold sumPre; simp, by simp only [inR]; omega, k + 1, by omega, by omega, ?_⟩, fun hM => hf (by omega) ?_⟩, fun hI => hf (by omega) ?_⟩⟩, fun h3 => ?_⟩
   · have hb : pieB s k = true := by unfold pieB; rw [hI, hM]; try rfl
     rw [trueN, if_pos hb, k2]; try rfl
   · unfold pieB; rw [hI, hM]; try rfl
   · unfold pieB; rw [hI]; try rfl
   · unfold pieL; rw [show 64 = k by omega, k2]
 · have hL := fun hk => loop22t s k h hk
   refine of_eq (q := True ∧ True ∧ ((k : Int) < 64 → True ∧ True ∧ True ∧ LoopOK (X [e63]) L22_2 (ht22 s k) (bodyR (X [e63]).m0 (ex22 s) R) ∧ (∃ (y : Nat), y ≤ s.length ∧ (s = s ∧ True ∧ (k : Int) = (k : Int) ∧ false = inK s k y ∧ true = mxS s k y ∧ (0 : Int) = (y : Int) ∧ True) ∧ trueN (pieB s) k = trueN (pieB s) k ∧ True) ∧ (∀ (y : Unit), True → True ∧ True ∧ (inK s k s.length = true → True ∧ True ∧ (mxS s k s.length = true → True ∧ True ∧ True ∧ sumPre (trueN (pieB s) k).length [(k : Int)].length (nat_lit 8) ∧ True ∧ True ∧ inR .i64 ((k : Int) + 1) ∧ True ∧ ((∃ (y : Nat), ((y ≤ 64 ∧ trueN (pieB s) y = []) ∧ (64 : Nat) - y < 64 - k) ∧ (s = s ∧ False ∧ (k : Int) + 1 = (y : Int) ∧ True) ∧ True) ∨ ∃ (y : Nat), (y ≤ 64 ∧ (64 : Nat) - y < 64 - k) ∧ (s = s ∧ True ∧ (k : Int) + 1 = (y : Int) ∧ True) ∧ trueN (pieB s) k ++ [(k : Int)] = trueN (pieB s) y ∧ True)) ∧ (mxS s k s.length = false → True ∧ inR .i64 ((k : Int) + 1) ∧ True ∧ ((∃ (y : Nat), ((y ≤ 64 ∧ trueN (pieB s) y = []) ∧ (64 : Nat) - y < 64 - k) ∧ (s = s ∧ False ∧ (k : Int) + 1 = (y : Int) ∧ True) ∧ True) ∨ ∃ (y : Nat), (y ≤ 64 ∧ (64 : Nat) - y < 64 - k) ∧ (s = s ∧ True ∧ (k : Int) + 1 = (y : Int) ∧ True) ∧ trueN (pieB s) k = trueN (pieB s) y ∧ True))) ∧ (inK s k s.length = false → True ∧ True ∧ inR .i64 ((k : Int) + 1) ∧ True ∧ ((∃ (y : Nat), ((y ≤ 64 ∧ trueN (pieB s) y = []) ∧ (64 : Nat) - y < 64 - k) ∧ (s = s ∧ False ∧ (k : Int) + 1 = (y : Int) ∧ True) ∧ True) ∨ ∃ (y : Nat), (y ≤ 64 ∧ (64 : Nat) - y < 64 - k) ∧ (s = s ∧ True ∧ (k : Int) + 1 = (y : Int) ∧ True) ∧ trueN (pieB s) k = trueN (pieB s) y ∧ True))) ∧ True) ∧ (¬(k : Int) < 64 → (∃ (y : Unit), pieL s = [] ∧ (False ∧ True) ∧ True) ∨ ∃ (y : Unit), True ∧ (True ∧ True) ∧ trueN (pieB s) k = pieL s ∧ True)) (by kernel_rfl) ?_
   simp only [zz]
   have hk : k ≤ 64 := hk
   have hl := trueN_len (pieB s) k
   have hf : k < 64 → pieB s k = false → inR .i64 ((k : Int) + 1) ∧ ∃ y : Nat, (y ≤ 64 ∧ 64 - y < 64 - k) ∧ (k : Int) + 1 = (y : Int) ∧ trueN (pieB s) k = trueN (pieB s) y := fun h3 hb => ⟨by simp only [inR]; omega, k + 1, by omega, by omega, by rw [trueN, hb]; rfl⟩
   have hz : ∃ y : Nat, y ≤ s.length ∧ false = inK s k y ∧ true = mxS s k y ∧ (0 : Int) = (y : Int) := ⟨0, Nat.zero_le _, rfl, rfl, rfl⟩
   refine ⟨fun h3 => ⟨hL (by omega) _, hz, fun _ _ => ⟨fun hI => ⟨fun hM => ⟨by unfold sumPre; simp; omega, by simp only [inR]; omega, k + 1, by omega, by omega, ?_⟩, fun hM => hf (by omega) ?_⟩, fun hI => hf (by omega) ?_⟩⟩, fun h3 => ?_⟩
   · have hb : pieB s k = true := by unfold pieB; rw [hI, hM]; try rfl
     rw [trueN, if_pos hb]; try rfl
   · unfold pieB; rw [hI, hM]; try rfl
   · unfold pieB; rw [hI]; try rfl
   · unfold pieL; rw [show 64 = k by omega]
theorem call22 (s : List Int) (h : ok22 s) : GCall Try.prog gl 22 true [.sl I64 s] [] [.sl I64 (pieL s)] [] := by
 refine gcall_of (X := (X [e63])) ((X_ok _)) (f := 22) (fn := Try.f22) (c := bodyOf Try.f22) (by kernel_rfl) (by kernel_rfl) (view := true) (rvs := [.tmp 2]) (by kernel_rfl) (H := (H22 s)) 80 (by kernel_rfl) ?_
 have hL := loop22 s h
 refine of_eq (q := True ∧ True ∧ True ∧ LoopOK (X [e63]) L22_0 { J := chks (0 : Nat) [(0 : Nat), (3 : Nat), (4 : Nat)] (fm22 s), exits := List.map (fun (x : List Nat × Ex) => x.snd) (ex22 s) } (RetR (X [e63]) true true [ResultVar.tmp (2 : Tmp)] [AV.sl I64 (pieL s)] []) ∧ ((∃ (y : Nat), (y ≤ 64 ∧ trueN (pieB s) y = []) ∧ (s = s ∧ True ∧ (0 : Int) = (y : Int) ∧ True) ∧ True) ∨ ∃ (y : Nat), y ≤ 64 ∧ (s = s ∧ False ∧ (0 : Int) = (y : Int) ∧ True) ∧ False) ∧ (∀ (y : Unit), pieL s = [] → True ∧ True ∧ True ∧ (([] : List Int) = pieL s ∧ True) ∧ True) ∧ (∀ (y : Unit), True → True ∧ True ∧ True ∧ (pieL s = pieL s ∧ True) ∧ True) ∧ True) (by kernel_rfl) ?_
 simp only [zz]
 exact ⟨hL _, ⟨0, ⟨Nat.zero_le _, rfl⟩, rfl⟩, fun _ h => h.symm, fun _ h => h⟩
def e22 : Entry Try.prog gl := entry1 22 ⟨Try.f22, by kernel_rfl, by kernel_rfl, by kernel_rfl⟩ SI (fun s => ok22 s) true (fun s => [.sl I64 (pieL s)]) (fun _ => []) (call22)
end Go.Am.Sh

/- Shells: tame. -/
namespace Go.Am.Sh
open Go Go.Am Go.Proofs
def hs14 : Nat → Bool := fun t => Nat.beq t 10 || Nat.beq t 30
noncomputable def Xh (l : EL) (hs : Nat → Bool) (dr : Nat → Option Nat) : Cy := { Xd l dr with hs := hs }
theorem Xh_ok (l : EL) (hs : Nat → Bool) (dr : Nat → Option Nat) : (Xh l hs dr).Ok := { tt := (Xd_ok l dr).tt, Γ := (Xd_ok l dr).Γ, Γd := (Xd_ok l dr).Γd, Yl := (Xd_ok l dr).Yl }
noncomputable abbrev X14 : Cy := Xh [e22] hs14 (drOf [(6, 11)])
def tmN (n : Int) : Int := 1 + (modU .u64 n).tmod 6
def tmS (n : Int) (l : List Int) (k : Nat) : List Int := 1 :: (l.take k).map fun x => (modU .u64 x).tmod (2 ^ (tmN n).toNat)
theorem tmN_bd (n : Int) : numOk (tmN n) := by
 have h1 : 0 ≤ modU .u64 n := u64_nn n
 have e := Int.tmod_eq_emod_of_nonneg (b := 6) h1
 unfold tmN numOk
 omega
theorem tm_pow (n : Int) : modU .u64 (1 * 2 ^ (tmN n).toNat) = 2 ^ (tmN n).toNat := by
 obtain ⟨e1, e2, e3⟩ := numOk_pow (tmN_bd n)
 rw [Int.one_mul, ← e1]
 show _ % 18446744073709551616 = _
 omega
theorem tm_pos (n : Int) : (2 : Int) ≤ 2 ^ (tmN n).toNat ∧ (2 : Int) ^ (tmN n).toNat ≤ 64 := by
 obtain ⟨e1, e2, e3⟩ := numOk_pow (tmN_bd n)
 omega
theorem tm_x {n : Int} (x : Int) : 0 ≤ (modU .u64 x).tmod (2 ^ (tmN n).toNat) ∧ (modU .u64 x).tmod (2 ^ (tmN n).toNat) < 2 ^ (tmN n).toNat ∧ (modU .u64 x).tmod (2 ^ (tmN n).toNat) < 64 := by
 have h := tm_pos n
 have h3 := Int.tmod_nonneg (a := modU .u64 x) (2 ^ (tmN n).toNat) (u64_nn x)
 have h4 := Int.tmod_lt_of_pos (modU .u64 x) (show (0 : Int) < 2 ^ (tmN n).toNat by omega)
 omega
theorem tm_mem {n : Int} {l : List Int} {k : Nat} {x : Int} (h : x ∈ tmS n l k) : 0 ≤ x ∧ x < 2 ^ (tmN n).toNat := by
 have hp := tm_pos n
 unfold tmS at h
 simp only [List.mem_cons, List.mem_map] at h
 rcases h with h | ⟨y, _, h⟩
 · omega
 · have := tm_x (n := n) y
   omega
theorem tm_ok (n : Int) (l : List Int) : ok22 (tmS n l 10) := ⟨fun x hx => by have := tm_mem hx; have := tm_pos n; omega, by unfold tmS; simp; omega⟩
theorem tm_lt (n : Int) (l : List Int) : ∀ x ∈ tmS n l 10, x < 2 ^ (tmN n).toNat := fun x hx => (tm_mem hx).2
theorem trueN_asc {g : Nat → Bool} : ∀ {k i j : Nat}, i < j → j < (trueN g k).length → (trueN g k).getD i 0 < (trueN g k).getD j 0
 | 0, i, j, _, h => by simp [trueN] at h
 | k + 1, i, j, hij, h => by
   rw [trueN] at h ⊢
   by_cases hg : g k = true
   · rw [if_pos hg] at h ⊢
     rw [List.length_append, List.length_singleton] at h
     rcases Nat.lt_or_ge j (trueN g k).length with hj | hj
     · rw [getD_append_left (by omega), getD_append_left hj]; exact trueN_asc hij hj
     · have e : (trueN g k ++ [(k : Int)]).getD j 0 = k := by
         rw [List.getD_eq_getElem?_getD, List.getElem?_append_right hj, show j - (trueN g k).length = 0 by omega]; try rfl
       rw [e, getD_append_left (by omega)]
       obtain ⟨m, h1, h2, _⟩ := trueN_mem (mem_getD (d := 0) (show i < (trueN g k).length by omega))
       omega
   · rw [if_neg hg] at h ⊢; exact trueN_asc hij h
theorem inK_iff {s : List Int} {x : Nat} : ∀ {k : Nat}, inK s x k = true ↔ ∃ i, i < k ∧ s.getD i 0 = x
 | 0 => by simp [inK]
 | k + 1 => by
   rw [inK, Bool.or_eq_true, inK_iff, decide_eq_true_eq]
   constructor
   · rintro (⟨i, h1, h2⟩ | h)
     · exact ⟨i, by omega, h2⟩
     · exact ⟨k, by omega, h⟩
   · rintro ⟨i, h1, h2⟩
     rcases Nat.lt_or_ge i k with h3 | h3
     · exact .inl ⟨i, h3, h2⟩
     · exact .inr (by rw [show k = i by omega]; exact h2)
theorem mxS_iff {s : List Int} {x : Nat} : ∀ {k : Nat}, mxS s x k = true ↔ ∀ i, i < k → s.getD i 0 = x ∨ sub x (s.getD i 0).toNat = false
 | 0 => by simp [mxS]
 | k + 1 => by
   rw [mxS, Bool.and_eq_true, mxS_iff, Bool.or_eq_true, decide_eq_true_eq, Bool.not_eq_true']
   constructor
   · rintro ⟨h1, h2⟩ i hi
     rcases Nat.lt_or_ge i k with h3 | h3
     · exact h1 i h3
     · rw [show i = k by omega]; exact h2
   · intro h
     exact ⟨fun i hi => h i (by omega), h k (by omega)⟩
theorem pie_mem {s : List Int} {y : Int} (h : y ∈ pieL s) : ∃ x : Nat, y = x ∧ x < 64 ∧ (∃ i, i < s.length ∧ s.getD i 0 = x) ∧ ∀ i, i < s.length → s.getD i 0 = x ∨ sub x (s.getD i 0).toNat = false := by
 obtain ⟨x, h1, h2, h3⟩ := trueN_mem h
 unfold pieB at h3
 rw [Bool.and_eq_true, inK_iff, mxS_iff] at h3
 exact ⟨x, h1, h2, h3.1, h3.2⟩
theorem pie_pos {s : List Int} (h1 : ∃ i, i < s.length ∧ 1 ≤ s.getD i 0) : ∀ y ∈ pieL s, 1 ≤ y := fun y hy => by
 obtain ⟨x, rfl, h2, h3, h4⟩ := pie_mem hy
 obtain ⟨i, hi, h5⟩ := h1
 rcases Nat.eq_zero_or_pos x with h0 | h0
 · subst h0
   rcases h4 i hi with h6 | h6
   · omega
   · rw [sub_zero] at h6; cases h6
 · omega
theorem max_ex (s : List Int) : ∀ k, ∃ i, i < k + 1 ∧ ∀ j, j < k + 1 → s.getD j 0 ≤ s.getD i 0
 | 0 => ⟨0, by omega, fun j hj => by rw [show j = 0 by omega]; exact Int.le_refl _⟩
 | k + 1 => by
   obtain ⟨i, h1, h2⟩ := max_ex s k
   by_cases h : s.getD i 0 ≤ s.getD (k + 1) 0
   · refine ⟨k + 1, by omega, fun j hj => ?_⟩
     rcases Nat.lt_or_ge j (k + 1) with h3 | h3
     · exact Int.le_trans (h2 j h3) h
     · rw [show j = k + 1 by omega]; exact Int.le_refl _
   · refine ⟨i, by omega, fun j hj => ?_⟩
     rcases Nat.lt_or_ge j (k + 1) with h3 | h3
     · exact h2 j h3
     · rw [show j = k + 1 by omega]; omega
theorem pie_ne {s : List Int} (h : okL s) (hl : 1 ≤ s.length) : 1 ≤ (pieL s).length := by
 obtain ⟨k, hk⟩ : ∃ k, s.length = k + 1 := ⟨s.length - 1, by omega⟩
 obtain ⟨i, h1, h2⟩ := max_ex s k
 have hr := okL_get h i
 have hb : pieB s (s.getD i 0).toNat = true := by
   unfold pieB
   rw [Bool.and_eq_true, inK_iff, mxS_iff]
   refine ⟨⟨i, by omega, by omega⟩, fun j hj => ?_⟩
   have h3 := h2 j (by omega)
   have h4 := okL_get h j
   cases hs : sub (s.getD i 0).toNat (s.getD j 0).toNat with
   | false => exact .inr rfl
   | true => have := sub_le hs; exact .inl (by omega)
 have := trueN_has (g := pieB s) (k := 64) (by omega) hb
 exact List.length_pos_of_mem this
theorem take_get {l : List Int} {k m : Nat} (h : k < m) : (l.take m).getD k 0 = l.getD k 0 := by
 rw [List.getD_eq_getElem?_getD, List.getD_eq_getElem?_getD, List.getElem?_take_of_lt h]
theorem pie_cx {n : Int} {s : List Int} (hn : numOk n) (h : ok22 s) (hlt : ∀ x ∈ s, x < 2 ^ n.toNat) (h1 : ∃ i, i < s.length ∧ 1 ≤ s.getD i 0) : cxOk n ((pieL s).take 10) := by
 have hne := pie_ne h.h (by obtain ⟨i, hi, _⟩ := h1; omega)
 have hlen : ((pieL s).take 10).length ≤ 10 ∧ 1 ≤ ((pieL s).take 10).length ∧ ((pieL s).take 10).length ≤ (pieL s).length := by rw [List.length_take]; omega
 refine ⟨hn, ⟨hlen.2.1, hlen.1⟩, fun k hk => ?_⟩
 have hk1 : k < (pieL s).length := by omega
 have hmem := mem_getD (d := (0 : Int)) hk1
 have hpos := pie_pos h1 _ hmem
 obtain ⟨x, e, hx, ⟨i, hi, hi2⟩, hmx⟩ := pie_mem hmem
 have hrk := trueN_ok (pieB s) _ hmem
 refine ⟨by rw [take_get (by omega)]; exact hpos, by rw [take_get (by omega), e, ← hi2]; exact hlt _ (mem_getD hi), fun h0 => by rw [take_get (by omega), take_get (by omega)]; exact trueN_asc (by omega) hk1, fun j hj hne2 => ?_⟩
 have hj1 : j < (pieL s).length := by omega
 have hmem2 := mem_getD (d := (0 : Int)) hj1
 obtain ⟨y, e2, hy, ⟨i2, hi3, hi4⟩, hmy⟩ := pie_mem hmem2
 have hrj := trueN_ok (pieB s) _ hmem2
 rw [take_get (by omega), take_get (by omega), Ne, sub_and hrk hrj, e, e2, Int.toNat_natCast, Int.toNat_natCast]
 rcases hmx i2 hi3 with h5 | h5
 · exfalso
   have hxy : (pieL s).getD k 0 = (pieL s).getD j 0 := by omega
   rcases Nat.lt_or_ge j k with h6 | h6
   · have := trueN_asc (g := pieB s) (k := 64) h6 hk1
     unfold pieL at hxy; omega
   · have := trueN_asc (g := pieB s) (k := 64) (show k < j by omega) hj1
     unfold pieL at hxy; omega
 · rw [hi4, Int.toNat_natCast] at h5
   rw [h5]; simp
noncomputable def L14_0 : Code := lp (bodyOf Try.f14) 0
def st14 (n : Int) (l : List Int) (k : Nat) : St := ⟨.int .i64 (tmN n) :: .sl I64 l :: dd 4 ++ .own 0 0 :: .int .i64 k :: dd 51, [.sc 0 3 I64 (tmS n l k)]⟩
def in14 (l : List Int) (k : Nat) : Prop := k ≤ l.length ∧ k ≤ 10
def ex14 (n : Int) (l : List Int) : List (List Nat × Ex) := [([0, 6], ⟨0, Unit, fun _ => True, fun _ => ⟨.int .i64 (tmN n) :: dd 5 ++ .own 0 0 :: dd 52, [.sc 0 3 I64 (tmS n l 10)]⟩⟩)]
noncomputable def H14 (n : Int) (l : List Int) : Nat → Option Hint := fun _ => some ⟨chk 0 [0, 1, 6, 7] (in14 l) (st14 n l), (ex14 n l).map (·.2)⟩
theorem loop14 (n : Int) (l : List Int) (hl : l.length < 1000000000000000) (R : Exit → St → Prop) : LoopOK X14 L14_0 ⟨chk 0 [0, 1, 6, 7] (in14 l) (st14 n l), (ex14 n l).map (·.2)⟩ R := by
 refine loop_ok (Xh_ok _ _ _) (H := fun _ _ => none) [0, 1, 6, 7] (in14 l) (st14 n l) (fun k => l.length - k) (ex14 n l) 150 fun (k : Nat) hk => ?_
 refine of_eq (q := True ∧ True ∧ True ∧ True ∧ True ∧ ((k : Int) < (l.length : Int) → True ∧ True ∧ True ∧ ((k : Int) < 10 → True ∧ True ∧ True ∧ idxPre (k : Int) l.length ∧ True ∧ True ∧ True ∧ (((0 : Int) ≤ tmN n ∧ tmN n < bitsOf .u64) ∧ True) ∧ ¬modU .u64 ((1 : Int) * 2 ^ (tmN n).toNat) = 0 ∧ inR .i64 ((modU .u64 (l.getD k (0 : Int))).tmod (modU .u64 ((1 : Int) * 2 ^ (tmN n).toNat))) ∧ True ∧ sumPre (tmS n l k).length [(modU .u64 (l.getD k (0 : Int))).tmod (modU .u64 ((1 : Int) * 2 ^ (tmN n).toNat))].length (nat_lit 8) ∧ True ∧ True ∧ inR .i64 ((k : Int) + 1) ∧ True ∧ ∃ (y : Nat), (in14 l y ∧ l.length - y < l.length - k) ∧ (tmN n = tmN n ∧ l = l ∧ True ∧ (k : Int) + 1 = (y : Int) ∧ True) ∧ tmS n l k ++ [(modU .u64 (l.getD k (0 : Int))).tmod (modU .u64 ((1 : Int) * 2 ^ (tmN n).toNat))] = tmS n l y ∧ True) ∧ (¬(k : Int) < 10 → ∃ (y : Unit), True ∧ (tmN n = tmN n ∧ True ∧ True) ∧ tmS n l k = tmS n l (10 : Nat) ∧ True)) ∧ (¬(k : Int) < (l.length : Int) → True ∧ ∃ (y : Unit), True ∧ (tmN n = tmN n ∧ True ∧ True) ∧ tmS n l k = tmS n l (10 : Nat) ∧ True)) (by kernel_rfl) ?_
 simp only [zz]
 obtain ⟨k1, k2⟩ := hk
 obtain ⟨b1, b2⟩ := tmN_bd n
 have hp := tm_pow n
 refine ⟨fun h => ⟨fun h2 => ?_, fun h2 => by rw [show k = 10 by omega]⟩, fun h => ?_⟩
 · rw [hp]
   have hx := tm_x (n := n) (l.getD k 0)
   have hlen : (tmS n l k).length ≤ 11 := by unfold tmS; simp; omega
   refine ⟨idx_nat (by omega), ⟨by omega, by simp only [bitsOf]; omega⟩, by have := tm_pos n; omega, by simp only [inR]; omega, by unfold sumPre; simp; omega, by simp only [inR]; omega, k + 1, ⟨⟨by omega, by omega⟩, by omega⟩, by omega, ?_⟩
   unfold tmS
   rw [take_getD (d := 0) (show k < l.length by omega), List.map_append]
   rfl
 · unfold tmS
   rw [List.take_of_length_le (by omega), List.take_of_length_le (by omega)]
def tmP (n : Int) (l : List Int) : List Int := (pieL (tmS n l 10)).take 10
theorem call14 (n : Int) (l : List Int) (hl : l.length < 1000000000000000) : GCall Try.prog gl 14 false [.int .i64 n, .sl I64 l] [] [.int .i64 (tmN n), .sl I64 (tmP n l)] [] := by
 refine gcall_of (X := X14) ((Xh_ok _ _ _)) (f := 14) (fn := Try.f14) (c := bodyOf Try.f14) (by kernel_rfl) (by kernel_rfl) (view := true) (rvs := [.tmp 4, .tmp 5]) (by kernel_rfl) (H := (H14 n l)) 200 (by kernel_rfl) ?_
 have hL := loop14 n l hl
 refine of_eq (q := True ∧ True ∧ True ∧ True ∧ ¬(6 : Int) = 0 ∧ inR .i64 ((modU .u64 n).tmod (6 : Int)) ∧ inR .i64 ((1 : Int) + (modU .u64 n).tmod (6 : Int)) ∧ True ∧ True ∧ True ∧ True ∧ LoopOK X14 L14_0 { J := chk (0 : Nat) [(0 : Nat), (1 : Nat), (6 : Nat), (7 : Nat)] (in14 l) (st14 n l), exits := List.map (fun (x : List Nat × Ex) => x.snd) (ex14 n l) } (RetR X14 false true [ResultVar.tmp (4 : Tmp), ResultVar.tmp (5 : Tmp)] [AV.int .i64 (tmN n), AV.sl I64 (tmP n l)] []) ∧ (∃ (y : Nat), in14 l y ∧ ((1 : Int) + (modU .u64 n).tmod (6 : Int) = tmN n ∧ l = l ∧ True ∧ (0 : Int) = (y : Int) ∧ True) ∧ [(1 : Int)] = tmS n l y ∧ True) ∧ (∀ (y : Unit), True → True ∧ (ok22 (tmS n l (10 : Nat)) ∧ True) ∧ True ∧ True ∧ True ∧ True ∧ True ∧ ((1 : Int) < (↑(pieL (tmS n l (10 : Nat))).length : Int) → True ∧ idxPre (0 : Int) (pieL (tmS n l (10 : Nat))).length ∧ True ∧ True ∧ True ∧ ((pieL (tmS n l (10 : Nat))).getD (0 : Nat) (0 : Int) = 0 → True ∧ slPre (pieL (tmS n l (10 : Nat))).length (pieL (tmS n l (10 : Nat))).length (some (1 : Int)) none none ∧ True ∧ True ∧ True ∧ True ∧ True ∧ True ∧ True ∧ True ∧ True ∧ slPre (cutL (pieL (tmS n l (10 : Nat))) (some (1 : Int)) none).length (cutL (pieL (tmS n l (10 : Nat))) (some (1 : Int)) none).length none (some (minI (↑(cutL (pieL (tmS n l (10 : Nat))) (some (1 : Int)) none).length : Int) (10 : Int))) (some (minI (↑(cutL (pieL (tmS n l (10 : Nat))) (some (1 : Int)) none).length : Int) (10 : Int))) ∧ True ∧ True ∧ True ∧ (tmN n = tmN n ∧ cutL (cutL (pieL (tmS n l (10 : Nat))) (some (1 : Int)) none) none (some (minI (↑(cutL (pieL (tmS n l (10 : Nat))) (some (1 : Int)) none).length : Int) (10 : Int))) = tmP n l ∧ True) ∧ True) ∧ (¬(pieL (tmS n l (10 : Nat))).getD (0 : Nat) (0 : Int) = 0 → True ∧ True ∧ True ∧ True ∧ True ∧ True ∧ True ∧ True ∧ slPre (pieL (tmS n l (10 : Nat))).length (pieL (tmS n l (10 : Nat))).length none (some (minI (↑(pieL (tmS n l (10 : Nat))).length : Int) (10 : Int))) (some (minI (↑(pieL (tmS n l (10 : Nat))).length : Int) (10 : Int))) ∧ True ∧ True ∧ True ∧ (tmN n = tmN n ∧ cutL (pieL (tmS n l (10 : Nat))) none (some (minI (↑(pieL (tmS n l (10 : Nat))).length : Int) (10 : Int))) = tmP n l ∧ True) ∧ True)) ∧ (¬(1 : Int) < (↑(pieL (tmS n l (10 : Nat))).length : Int) → True ∧ True ∧ True ∧ True ∧ True ∧ True ∧ True ∧ True ∧ True ∧ slPre (pieL (tmS n l (10 : Nat))).length (pieL (tmS n l (10 : Nat))).length none (some (minI (↑(pieL (tmS n l (10 : Nat))).length : Int) (10 : Int))) (some (minI (↑(pieL (tmS n l (10 : Nat))).length : Int) (10 : Int))) ∧ True ∧ True ∧ True ∧ (tmN n = tmN n ∧ cutL (pieL (tmS n l (10 : Nat))) none (some (minI (↑(pieL (tmS n l (10 : Nat))).length : Int) (10 : Int))) = tmP n l ∧ True) ∧ True)) ∧ True) (by kernel_rfl) ?_
 simp only [zz]
 obtain ⟨b1, b2⟩ := tmN_bd n
 have hb : 1 + (modU .u64 n).tmod 6 = tmN n := rfl
 have hz : ∀ L : List Int, cutL L none (some (minI (L.length : Int) 10)) = L.take 10 ∧ slPre L.length L.length none (some (minI (L.length : Int) 10)) (some (minI (L.length : Int) 10)) := fun L => by
   unfold minI cutL slPre
   simp only
   by_cases h : (10 : Int) < L.length
   · rw [if_pos h]; exact ⟨rfl, by omega⟩
   · rw [if_neg h, Int.toNat_natCast]
     exact ⟨by rw [List.take_of_length_le (Nat.le_refl _), List.take_of_length_le (by omega)], by omega⟩
 rw [hb]
 obtain ⟨z1, z2⟩ := hz (pieL (tmS n l 10))
 refine ⟨by decide, by simp only [inR]; omega, by simp only [inR]; omega, hL _, ⟨0, ⟨Nat.zero_le _, Nat.zero_le _⟩, ⟨rfl, rfl⟩, by simp [tmS]⟩, fun _ _ => ⟨tm_ok n l, fun h => ⟨by unfold idxPre; omega, fun h0 => ?_, fun _ => ⟨z2, z1⟩⟩, fun _ => ⟨z2, z1⟩⟩⟩
 exfalso
 have := pie_pos (s := tmS n l 10) ⟨0, by simp [tmS], by simp [tmS]⟩ _ (mem_getD (d := 0) (show 0 < (pieL (tmS n l 10)).length by omega))
 omega
theorem tm_cx (n : Int) (l : List Int) : cxOk (tmN n) (tmP n l) := pie_cx (tmN_bd n) (tm_ok n l) (tm_lt n l) ⟨0, by simp [tmS], by simp [tmS]⟩
end Go.Am.Sh

/- Shells: the reference's Counts, choose, Hs, Euler. -/
namespace Go.Am.Sh
open Go Go.Am Go.Proofs
def e14 : Entry Try.prog gl := entry2 14 ⟨Try.f14, by kernel_rfl, by kernel_rfl, by kernel_rfl⟩ I64 SI (fun (_ : Int) l => (l : List Int).length < 1000000000000000) false (fun n l => [.int .i64 (tmN n), .sl I64 (tmP n l)]) (fun _ _ => []) (call14)
def chK (n : Int) : Nat → Int
 | 0 => 1
 | k + 1 => (chK n k * (n - (k + 1) + 1)).tdiv (k + 1)
end Go.Am.Sh

/- Shells: the reference's Hs and Euler. -/
namespace Go.Am.Sh
open Go Go.Am Go.Proofs
def sg (j : Nat) : Int := 1 - 2 * ((j % 2 : Nat) : Int)
def htm (f : List Int) (k i : Nat) : Int := f.getD i 0 * chK ((f.length - 1 - i : Nat) : Int) (k - i) * sg (k - i)
def hsum (f : List Int) (k : Nat) : Nat → Int
 | 0 => 0
 | i + 1 => hsum f k i + htm f k i
def rhL (f : List Int) : List Int := (List.range f.length).map fun j => hsum f j (j + 1)
structure okF (f : List Int) : Prop where
 b : bdd 64 f
 l : 1 ≤ f.length ∧ f.length ≤ 7
end Go.Am.Sh

/- Shells: the law of the counts. -/
namespace Go.Am.Sh
open Go Go.Am Go.Proofs
theorem hq1 (a : Int) : hsK [a] 1 = rhL [a] := by
 simp [hsK, rhL, hsum, htm, sg, chK]
theorem hq2 (a b : Int) : hsK [a, b] 2 = rhL [a, b] := by
 simp [hsK, rhL, hsum, htm, sg, chK, triJ, List.range_succ]
 try omega
theorem hq3 (a b c : Int) : hsK [a, b, c] 3 = rhL [a, b, c] := by
 simp [hsK, rhL, hsum, htm, sg, chK, triJ, List.range_succ]
 try omega
theorem hq4 (a b c d : Int) : hsK [a, b, c, d] 4 = rhL [a, b, c, d] := by
 simp [hsK, rhL, hsum, htm, sg, chK, triJ, List.range_succ]
 try omega
theorem hq5 (a b c d e : Int) : hsK [a, b, c, d, e] 5 = rhL [a, b, c, d, e] := by
 simp [hsK, rhL, hsum, htm, sg, chK, triJ, List.range_succ]
 try omega
theorem hq6 (a b c d e f : Int) : hsK [a, b, c, d, e, f] 6 = rhL [a, b, c, d, e, f] := by
 simp [hsK, rhL, hsum, htm, sg, chK, triJ, List.range_succ]
 try omega
theorem hq7 (a b c d e f g : Int) : hsK [a, b, c, d, e, f, g] 7 = rhL [a, b, c, d, e, f, g] := by
 simp [hsK, rhL, hsum, htm, sg, chK, triJ, List.range_succ]
 try omega
theorem hs_all (f : List Int) (h : 1 ≤ f.length ∧ f.length ≤ 7) : hsK f f.length = rhL f := by
 match f, h with
 | [], h => simp at h
 | [a], _ => exact hq1 a
 | [a, b], _ => exact hq2 a b
 | [a, b, c], _ => exact hq3 a b c
 | [a, b, c, d], _ => exact hq4 a b c d
 | [a, b, c, d, e], _ => exact hq5 a b c d e
 | [a, b, c, d, e, f], _ => exact hq6 a b c d e f
 | [a, b, c, d, e, f, g], _ => exact hq7 a b c d e f g
 | _ :: _ :: _ :: _ :: _ :: _ :: _ :: _ :: _, h => simp at h
theorem okF_cnts (p : List Int) : okF (cnts p) := ⟨cnts_bdd p, by have := mxL_le p; rw [cnts_length]; omega⟩
theorem hs_eq (p : List Int) : hsL p = rhL (cnts p) := hs_all _ (okF_cnts p).l
end Go.Am.Sh

/- Shells: Made. -/
namespace Go.Am.Sh
open Go Go.Am Go.Proofs
def obN (n : Int) : List Ob := [.bx (.int .i64 n)]
def badB (n s : Int) : Bool := decide (s < 0 ∨ 2 ^ n.toNat ≤ s)
structure ok83m (x : List Int × Int) : Prop where
 n : numOk x.2
 l : x.1.length ≤ 64
def badL (n : Int) (p : List Int) : Bool := p.any (badB n)
def madOk (n : Int) (p : List Int) : Prop := numOk n ∧ p.length ≤ 64 ∧ badL n p = false
instance (n p) : Decidable (madOk n p) := by unfold madOk numOk; infer_instance
theorem isF_iff {s : List Int} {x : Nat} : isF s x = true ↔ ∃ i, i < s.length ∧ sub x (s.getD i 0).toNat = true := by
 unfold isF
 rw [List.any_eq_true]
 constructor
 · rintro ⟨a, ha, h⟩
   obtain ⟨i, hi, e⟩ := List.getElem_of_mem ha
   exact ⟨i, hi, by rw [getD_lt hi, e]; exact h⟩
 · rintro ⟨i, hi, h⟩
   exact ⟨_, mem_getD hi, h⟩
end Go.Am.Sh

/- Shells: the reference's Moment. -/
namespace Go.Am.Sh
open Go Go.Am Go.Proofs
def gapB (k a b : Nat) : Bool := decide (k / 2 ^ a % 2 = 0) && decide (k / 2 ^ b % 2 = 0) && decide (pc (k / 2 ^ (a + 1) % 2 ^ (b - a - 1)) % 2 = 1)
def inB (k a : Nat) : Nat → Bool
 | 0 => true
 | j + 1 => inB k a j && !gapB k a (a + 1 + j)
theorem pow_cast (j : Nat) : (2 ^ j : Int) = ((2 ^ j : Nat) : Int) := by rw [Int.natCast_pow]; try rfl
theorem kt {k a j : Nat} : ((k : Int) / 2 ^ (a + 1)).tmod (1 * 2 ^ j) = ((k / 2 ^ (a + 1) % 2 ^ j : Nat) : Int) := by
 rw [Int.one_mul, pow_cast, pow_cast]
 generalize 2 ^ (a + 1) = P
 generalize 2 ^ j = Q
 have e1 : (k : Int) / (P : Int) = ((k / P : Nat) : Int) := by rw [Int.natCast_ediv]
 rw [e1, Int.tmod_eq_emod_of_nonneg (Int.natCast_nonneg _), Int.natCast_emod]
theorem pt {x : Nat} : ((pc x : Nat) : Int).tmod 2 = ((pc x % 2 : Nat) : Int) := by
 rw [Int.tmod_eq_emod_of_nonneg (Int.natCast_nonneg _)]; omega
end Go.Am.Sh

/- Shells: the law's pure. -/
namespace Go.Am.Sh
open Go Go.Am Go.Proofs
def lastP (p : List Int) (s : Int) : Bool := decide (pc s.toNat = pc (p.getD (p.length - 1) 0).toNat)
def puK (p : List Int) (k : Nat) : List Int := (p.take k).filter (lastP p)
def puP (p : List Int) : List Int := p.filter (lastP p)
noncomputable def L18_0 : Code := lp (bodyOf Try.f18) 0
def sz18 (n : Int) (p : List Int) (k : Nat) : St := ⟨.int .i64 n :: dd 5 ++ .sl I64 p :: nl :: .int .i64 k :: dd 34, []⟩
def st18 (n : Int) (p : List Int) (k : Nat) : St := ⟨.int .i64 n :: dd 5 ++ .sl I64 p :: .own 0 0 :: .int .i64 k :: dd 34, [.sc 0 3 I64 (puK p k)]⟩
def fm18 (n : Int) (p : List Int) : List Fam := [⟨Nat, fun k => k ≤ p.length ∧ puK p k = [], sz18 n p, fun k => p.length - k, fun _ _ => none⟩, ⟨Nat, fun k => k ≤ p.length, st18 n p, fun k => p.length - k, fun _ _ => none⟩]
def ex18 (n : Int) (p : List Int) : List (List Nat × Ex) := [([0, 7], ⟨0, Unit, fun _ => puP p = [], fun _ => ⟨.int .i64 n :: dd 6 ++ nl :: dd 35, []⟩⟩), ([0, 7], ⟨0, Unit, fun _ => True, fun _ => ⟨.int .i64 n :: dd 6 ++ .own 0 0 :: dd 35, [.sc 0 3 I64 (puP p)]⟩⟩)]
noncomputable def H18 (n : Int) (p : List Int) : Nat → Option Hint := fun _ => some ⟨chks 0 [0, 6, 7, 8] (fm18 n p), (ex18 n p).map (·.2)⟩
theorem puK_step {p : List Int} {k : Nat} (h : k < p.length) : puK p (k + 1) = if lastP p (p.getD k 0) = true then puK p k ++ [p.getD k 0] else puK p k := by
 unfold puK
 rw [take_getD (d := 0) h, List.filter_append]
 by_cases hl : lastP p (p.getD k 0) = true
 · rw [if_pos hl, List.filter_cons_of_pos hl]; try rfl
 · rw [if_neg hl, List.filter_cons_of_neg hl]; simp
theorem puK_end {p : List Int} {k : Nat} (h : k = p.length) : puK p k = puP p := by
 unfold puK puP; rw [h, List.take_length]
theorem puK_len (p : List Int) (k : Nat) : (puK p k).length ≤ k := Nat.le_trans (List.length_filter_le _ _) (by rw [List.length_take]; omega)
theorem loop18 (n : Int) (p : List Int) (h : ok10 p) (R : Exit → St → Prop) : LoopOK (X [e14, e29]) L18_0 ⟨chks 0 [0, 6, 7, 8] (fm18 n p), (ex18 n p).map (·.2)⟩ R := by
 refine loop_fams (X_ok _) [0, 6, 7, 8] (fm18 n p) (ex18 n p) 150 ⟨fun (k : Nat) hk => ?_, fun (k : Nat) hk => ?_, trivial⟩
 · refine of_eq (q := True ∧ True ∧ True ∧ True ∧ ((k : Int) < (p.length : Int) → True ∧ True ∧ idxPre (k : Int) p.length ∧ True ∧ ((0 : Int) ≤ p.getD k (0 : Int) ∧ p.getD k (0 : Int) < 64) ∧ True ∧ True ∧ True ∧ inR .i64 ((p.length : Int) - 1) ∧ idxPre ((p.length : Int) - 1) p.length ∧ True ∧ ((0 : Int) ≤ p.getD ((p.length : Int) - 1).toNat (0 : Int) ∧ p.getD ((p.length : Int) - 1).toNat (0 : Int) < 64) ∧ True ∧ ((↑(pc (Int.toNat (p.getD k (0 : Int)))) : Int) = (↑(pc (Int.toNat (p.getD ((p.length : Int) - 1).toNat (0 : Int)))) : Int) → True ∧ True ∧ True ∧ idxPre (k : Int) p.length ∧ True ∧ True ∧ sumPre (0 : Nat) [p.getD k (0 : Int)].length (nat_lit 8) ∧ True ∧ True ∧ inR .i64 ((k : Int) + 1) ∧ True ∧ ((∃ (y : Nat), ((y ≤ p.length ∧ puK p y = []) ∧ p.length - y < p.length - k) ∧ (n = n ∧ p = p ∧ False ∧ (k : Int) + 1 = (y : Int) ∧ True) ∧ True) ∨ ∃ (y : Nat), (y ≤ p.length ∧ p.length - y < p.length - k) ∧ (n = n ∧ p = p ∧ True ∧ (k : Int) + 1 = (y : Int) ∧ True) ∧ [p.getD k (0 : Int)] = puK p y ∧ True)) ∧ (¬(↑(pc (Int.toNat (p.getD k (0 : Int)))) : Int) = (↑(pc (Int.toNat (p.getD ((p.length : Int) - 1).toNat (0 : Int)))) : Int) → True ∧ inR .i64 ((k : Int) + 1) ∧ True ∧ ((∃ (y : Nat), ((y ≤ p.length ∧ puK p y = []) ∧ p.length - y < p.length - k) ∧ (n = n ∧ p = p ∧ True ∧ (k : Int) + 1 = (y : Int) ∧ True) ∧ True) ∨ ∃ (y : Nat), (y ≤ p.length ∧ p.length - y < p.length - k) ∧ (n = n ∧ p = p ∧ False ∧ (k : Int) + 1 = (y : Int) ∧ True) ∧ False))) ∧ (¬(k : Int) < (p.length : Int) → (∃ (y : Unit), puP p = [] ∧ (n = n ∧ True ∧ True) ∧ True) ∨ ∃ (y : Unit), True ∧ (n = n ∧ False ∧ True) ∧ False)) (by kernel_rfl) ?_
   simp only [zz]
   obtain ⟨k1, k2⟩ := hk
   have hl := h.l
   refine ⟨fun hlt => ?_, fun hlt => by rw [← puK_end (show k = p.length by omega)]; exact k2⟩
   have hst := puK_step (p := p) (k := k) (by omega)
   rw [show ((p.length : Int) - 1).toNat = p.length - 1 by omega]
   refine ⟨idx_nat (by omega), okL_get h.h k, by simp only [inR]; omega, by unfold idxPre; omega, okL_get h.h _, fun he => ⟨idx_nat (by omega), by unfold sumPre; simp, by simp only [inR]; omega, k + 1, by omega, by omega, ?_⟩, fun he => ⟨by simp only [inR]; omega, k + 1, ⟨⟨by omega, ?_⟩, by omega⟩, by omega⟩⟩
   · rw [hst, if_pos (show lastP p (p.getD k 0) = true from decide_eq_true (by omega)), k2]; try rfl
   · rw [hst, if_neg (by unfold lastP; rw [decide_eq_true_eq]; omega), k2]
 · refine of_eq (q := True ∧ True ∧ True ∧ True ∧ ((k : Int) < (p.length : Int) → True ∧ True ∧ idxPre (k : Int) p.length ∧ True ∧ ((0 : Int) ≤ p.getD k (0 : Int) ∧ p.getD k (0 : Int) < 64) ∧ True ∧ True ∧ True ∧ inR .i64 ((p.length : Int) - 1) ∧ idxPre ((p.length : Int) - 1) p.length ∧ True ∧ ((0 : Int) ≤ p.getD ((p.length : Int) - 1).toNat (0 : Int) ∧ p.getD ((p.length : Int) - 1).toNat (0 : Int) < 64) ∧ True ∧ ((↑(pc (Int.toNat (p.getD k (0 : Int)))) : Int) = (↑(pc (Int.toNat (p.getD ((p.length : Int) - 1).toNat (0 : Int)))) : Int) → True ∧ True ∧ True ∧ idxPre (k : Int) p.length ∧ True ∧ True ∧ sumPre (puK p k).length [p.getD k (0 : Int)].length (nat_lit 8) ∧ True ∧ True ∧ inR .i64 ((k : Int) + 1) ∧ True ∧ ((∃ (y : Nat), ((y ≤ p.length ∧ puK p y = []) ∧ p.length - y < p.length - k) ∧ (n = n ∧ p = p ∧ False ∧ (k : Int) + 1 = (y : Int) ∧ True) ∧ True) ∨ ∃ (y : Nat), (y ≤ p.length ∧ p.length - y < p.length - k) ∧ (n = n ∧ p = p ∧ True ∧ (k : Int) + 1 = (y : Int) ∧ True) ∧ puK p k ++ [p.getD k (0 : Int)] = puK p y ∧ True)) ∧ (¬(↑(pc (Int.toNat (p.getD k (0 : Int)))) : Int) = (↑(pc (Int.toNat (p.getD ((p.length : Int) - 1).toNat (0 : Int)))) : Int) → True ∧ inR .i64 ((k : Int) + 1) ∧ True ∧ ((∃ (y : Nat), ((y ≤ p.length ∧ puK p y = []) ∧ p.length - y < p.length - k) ∧ (n = n ∧ p = p ∧ False ∧ (k : Int) + 1 = (y : Int) ∧ True) ∧ True) ∨ ∃ (y : Nat), (y ≤ p.length ∧ p.length - y < p.length - k) ∧ (n = n ∧ p = p ∧ True ∧ (k : Int) + 1 = (y : Int) ∧ True) ∧ puK p k = puK p y ∧ True))) ∧ (¬(k : Int) < (p.length : Int) → (∃ (y : Unit), puP p = [] ∧ (n = n ∧ False ∧ True) ∧ True) ∨ ∃ (y : Unit), True ∧ (n = n ∧ True ∧ True) ∧ puK p k = puP p ∧ True)) (by kernel_rfl) ?_
   simp only [zz]
   have hk : k ≤ p.length := hk
   have hl := h.l
   have hle := puK_len p k
   refine ⟨fun hlt => ?_, fun hlt => puK_end (show k = p.length by omega)⟩
   have hst := puK_step (p := p) (k := k) (by omega)
   rw [show ((p.length : Int) - 1).toNat = p.length - 1 by omega]
   refine ⟨idx_nat (by omega), okL_get h.h k, by simp only [inR]; omega, by unfold idxPre; omega, okL_get h.h _, fun he => ⟨idx_nat (by omega), by unfold sumPre; simp; omega, by simp only [inR]; omega, k + 1, by omega, by omega, ?_⟩, fun he => ⟨by simp only [inR]; omega, k + 1, by omega, by omega, ?_⟩⟩
   · rw [hst, if_pos (show lastP p (p.getD k 0) = true from decide_eq_true (by omega))]; try rfl
   · rw [hst, if_neg (by unfold lastP; rw [decide_eq_true_eq]; omega)]
theorem call18 (n : Int) (l : List Int) (hl : l.length < 1000000000000000) : GCall Try.prog gl 18 true [.int .i64 n, .sl I64 l] [] [.int .i64 (tmN n), .sl I64 (puP (tmP n l))] [] := by
 have hc := tm_cx n l
 refine gcall_of (X := X [e14, e29]) (X_ok [e14, e29]) (f := 18) (fn := Try.f18) (c := bodyOf Try.f18) (by kernel_rfl) (by kernel_rfl) (view := true) (rvs := [.tmp 4, .tmp 5]) (by kernel_rfl) (H := (H18 (tmN n) (tmP n l))) 80 (by kernel_rfl) ?_
 have hL := loop18 (tmN n) (tmP n l) ⟨hc.ok, hc.2.1.2⟩
 refine of_eq (q := True ∧ True ∧ True ∧ True ∧ (l.length + 1 ≤ 1000000000000000 ∧ True) ∧ True ∧ True ∧ True ∧ True ∧ True ∧ True ∧ True ∧ LoopOK (X [e14, e29]) L18_0 { J := chks (0 : Nat) [(0 : Nat), (6 : Nat), (7 : Nat), (8 : Nat)] (fm18 (tmN n) (tmP n l)), exits := List.map (fun (x : List Nat × Ex) => x.snd) (ex18 (tmN n) (tmP n l)) } (RetR (X [e14, e29]) true true [ResultVar.tmp (4 : Tmp), ResultVar.tmp (5 : Tmp)] [AV.int .i64 (tmN n), AV.sl I64 (puP (tmP n l))] []) ∧ ((∃ (y : Nat), (y ≤ (tmP n l).length ∧ puK (tmP n l) y = []) ∧ (tmN n = tmN n ∧ tmP n l = tmP n l ∧ True ∧ (0 : Int) = (y : Int) ∧ True) ∧ True) ∨ ∃ (y : Nat), y ≤ (tmP n l).length ∧ (tmN n = tmN n ∧ tmP n l = tmP n l ∧ False ∧ (0 : Int) = (y : Int) ∧ True) ∧ False) ∧ (∀ (y : Unit), puP (tmP n l) = [] → True ∧ True ∧ True ∧ True ∧ True ∧ (tmN n = tmN n ∧ ([] : List Int) = puP (tmP n l) ∧ True) ∧ True) ∧ (∀ (y : Unit), True → True ∧ True ∧ True ∧ True ∧ True ∧ (tmN n = tmN n ∧ puP (tmP n l) = puP (tmP n l) ∧ True) ∧ True) ∧ True) (by kernel_rfl) ?_
 simp only [zz]
 exact ⟨by omega, hL _, ⟨0, ⟨Nat.zero_le _, rfl⟩, rfl⟩, fun _ h => h.symm, fun _ h => h⟩
def e18 : Entry Try.prog gl := entry2 18 ⟨Try.f18, by kernel_rfl, by kernel_rfl, by kernel_rfl⟩ I64 SI (fun (_ : Int) l => (l : List Int).length < 1000000000000000) true (fun n l => [.int .i64 (tmN n), .sl I64 (puP (tmP n l))]) (fun _ _ => []) (call18)
structure cxS (n : Int) (p : List Int) : Prop where
 rng : ∀ s ∈ p, 1 ≤ s ∧ s < 2 ^ n.toNat
 asc : p.Pairwise (· < ·)
 anti : ∀ a ∈ p, ∀ b ∈ p, a ≠ b → bAnd .i64 a b ≠ a
theorem pair_get {l : List Int} : (∀ k, 0 < k → k < l.length → l.getD (k - 1) 0 < l.getD k 0) → l.Pairwise (· < ·) := by
 induction l with
 | nil => intro _; exact List.Pairwise.nil
 | cons a l ih =>
   intro h
   have h1 : ∀ k, 0 < k → k < l.length → l.getD (k - 1) 0 < l.getD k 0 := fun k h0 hk => by
     have := h (k + 1) (by omega) (by simp; omega)
     rw [show k + 1 - 1 = (k - 1) + 1 by omega] at this
     simpa using this
   have ip := ih h1
   refine List.Pairwise.cons (fun b hb => ?_) ip
   cases l with
   | nil => cases hb
   | cons c l =>
     have h2 : a < c := by simpa using h 1 (by omega) (by simp)
     rcases List.mem_cons.mp hb with h3 | h3
     · rw [h3]; exact h2
     · exact Int.lt_trans h2 ((List.pairwise_cons.mp ip).1 b h3)
theorem get_pair {l : List Int} (h : l.Pairwise (· < ·)) {i j : Nat} (hij : i < j) (hj : j < l.length) : l.getD i 0 < l.getD j 0 := by
 rw [getD_lt hj, getD_lt (show i < l.length by omega)]
 exact List.pairwise_iff_getElem.mp h i j (by omega) hj hij
theorem cxS_of {n : Int} {p : List Int} (h : cxOk n p) : cxS n p := by
 have hg : ∀ s ∈ p, ∃ k, k < p.length ∧ p.getD k 0 = s := fun s hs => by
   obtain ⟨k, hk, e⟩ := List.getElem_of_mem hs
   exact ⟨k, hk, by rw [getD_lt hk]; exact e⟩
 refine ⟨fun s hs => ?_, pair_get fun k h0 hk => (h.2.2 k hk).2.2.1 h0, fun a ha b hb hne => ?_⟩
 · obtain ⟨k, hk, rfl⟩ := hg s hs
   exact ⟨(h.2.2 k hk).1, (h.2.2 k hk).2.1⟩
 · obtain ⟨i, hi, rfl⟩ := hg a ha
   obtain ⟨j, hj, rfl⟩ := hg b hb
   exact (h.2.2 i hi).2.2.2 j hj (fun e => hne (by rw [e]))
theorem cx_ofS {n : Int} {p : List Int} (hn : numOk n) (hl : 1 ≤ p.length ∧ p.length ≤ 10) (h : cxS n p) : cxOk n p := by
 refine ⟨hn, hl, fun k hk => ?_⟩
 have hr := h.rng _ (mem_getD (d := 0) hk)
 refine ⟨hr.1, hr.2, fun h0 => get_pair h.asc (by omega) hk, fun j hj hne => h.anti _ (mem_getD hk) _ (mem_getD hj) fun e => ?_⟩
 rcases Nat.lt_or_ge j k with h1 | h1
 · have := get_pair h.asc h1 hk; omega
 · have := get_pair h.asc (show k < j by omega) hj; omega
theorem cx_filter {n : Int} {p : List Int} (f : Int → Bool) (h : cxOk n p) (h1 : 1 ≤ (p.filter f).length) : cxOk n (p.filter f) := by
 have hs := cxS_of h
 have hle := List.length_filter_le f p
 have hl := h.2.1
 refine cx_ofS h.1 ⟨h1, by omega⟩ ⟨fun s hs2 => hs.rng s (List.mem_filter.mp hs2).1, hs.asc.filter f, fun a ha b hb hne => hs.anti a (List.mem_filter.mp ha).1 b (List.mem_filter.mp hb).1 hne⟩
theorem pu_cx (n : Int) (l : List Int) : cxOk (tmN n) (puP (tmP n l)) := by
 have h := tm_cx n l
 have hl := h.2.1
 refine cx_filter _ h ?_
 have : (tmP n l).getD ((tmP n l).length - 1) 0 ∈ (tmP n l).filter (lastP (tmP n l)) := List.mem_filter.mpr ⟨mem_getD (by omega), decide_eq_true rfl⟩
 exact List.length_pos_of_mem this
end Go.Am.Sh

/- Shells: what follows, in the program and in the reference; IsShelling. -/
namespace Go.Am.Sh
open Go Go.Am Go.Proofs
theorem mns_bit (a e v : Nat) : (mns a e).testBit v = (a.testBit v && !e.testBit v) := by
 unfold mns
 rw [Nat.testBit_xor, Nat.testBit_and]
 cases a.testBit v <;> cases e.testBit v <;> rfl
theorem mns_or (a b e : Nat) : mns (a ||| b) e = mns a e ||| mns b e := by
 apply Nat.eq_of_testBit_eq
 intro v
 rw [mns_bit, Nat.testBit_or, Nat.testBit_or, mns_bit, mns_bit]
 cases a.testBit v <;> cases b.testBit v <;> cases e.testBit v <;> rfl
theorem or_ne (x y : Nat) : x ||| y ≠ 0 ↔ x ≠ 0 ∨ y ≠ 0 := by
 rw [Ne, Nat.or_eq_zero_iff]; omega
theorem one_and : ∀ m e : Fin 64, pc m.val = 1 → ((m.val &&& e.val = 0) ↔ mns m.val e.val ≠ 0) := by decide +kernel
theorem low_fnd {n : Int} {p : List Int} (hp : cxOk n p) {D s e : Nat} (hs : s < 64) (he : e < 64) : ∀ k, (mns (lowK p D s k) e ≠ 0) ↔ fnd p D s e k = true
 | 0 => by
   have : mns 0 e = 0 := by unfold mns; rw [Nat.zero_and]; try rfl
   simp [lowK, fnd, this]
 | k + 1 => by
   have ih := low_fnd hp (D := D) hs he k
   have h1 := okL_get hp.ok k
   have hm := mns_lt ⟨s, hs⟩ ⟨(p.getD k 0).toNat, by omega⟩
   simp only at hm
   have ho := one_and ⟨mns s (p.getD k 0).toNat, hm⟩ ⟨e, he⟩
   simp only at ho
   rw [lowK, fnd, Bool.or_eq_true, Bool.and_eq_true, Bool.and_eq_true, decide_eq_true_eq, decide_eq_true_eq, decide_eq_true_eq, ← ih]
   by_cases hc : D / 2 ^ k % 2 = 1 ∧ pc (mns s (p.getD k 0).toNat) = 1
   · rw [if_pos hc, mns_or, or_ne]
     constructor
     · rintro (h | h)
       · exact .inl h
       · exact .inr ⟨hc, (ho hc.2).mpr h⟩
     · rintro (h | h)
       · exact .inl h
       · exact .inr ((ho hc.2).mp h.2)
   · rw [if_neg hc]
     constructor
     · exact .inl
     · rintro (h | h)
       · exact h
       · exact absurd h.1 hc
theorem flw_nx {n : Int} {p : List Int} (hp : cxOk n p) (D i : Nat) : flw p D i = nxB p D i := by
 have hs := okL_get hp.ok i
 unfold flw nxB
 rw [decide_eq_decide]
 unfold flwN nxN low
 constructor
 · intro h e he hb
   have hr := okL_get hp.ok e
   exact (low_fnd hp (by omega) (by omega) _).mp (h e he hb)
 · intro h e he hb
   have hr := okL_get hp.ok e
   exact (low_fnd hp (by omega) (by omega) _).mpr (h e he hb)
theorem pure_pu {n : Int} {p : List Int} (hp : cxOk n p) : pure p = puB p := by
 have h1 := hp.2.1.1
 have hmx : ∃ j, j < p.length ∧ ((pc (p.getD j 0).toNat : Nat) : Int) = mxL p := by
   have key : ∀ k, 1 ≤ k → k ≤ p.length → ∃ j, j < k ∧ ((pc (p.getD j 0).toNat : Nat) : Int) = mxK p k := by
     intro k
     induction k with
     | zero => intro h; omega
     | succ k ih =>
       intro _ hk
       rw [mxK_step (by omega)]
       unfold maxI
       by_cases hlt : mxK p k < ((pc (p.getD k 0).toNat : Nat) : Int)
       · rw [if_pos hlt]; exact ⟨k, by omega, rfl⟩
       · rw [if_neg hlt]
         rcases Nat.eq_zero_or_pos k with h0 | h0
         · subst h0
           refine ⟨0, by omega, ?_⟩
           have : mxK p 0 = 0 := rfl
           omega
         · obtain ⟨j, h2, h3⟩ := ih h0 (by omega)
           exact ⟨j, by omega, h3⟩
   exact key p.length h1 (Nat.le_refl _)
 obtain ⟨j, hj, hj2⟩ := hmx
 rw [Bool.eq_iff_iff]
 unfold pure puB
 rw [List.all_eq_true, decide_eq_true_eq]
 constructor
 · intro h i hi
   have a := of_decide_eq_true (h _ (mem_getD (d := 0) hi))
   have b := of_decide_eq_true (h _ (mem_getD (d := 0) (show 0 < p.length by omega)))
   omega
 · intro h s hs
   obtain ⟨k, hk, e⟩ := List.getElem_of_mem hs
   have a := h k hk
   have b := h j hj
   rw [getD_lt hk, e] at a
   exact decide_eq_true (by omega)
end Go.Am.Sh

/- Shells: the reference's Shellable. -/
namespace Go.Am.Sh
open Go Go.Am Go.Proofs
/-- The sets that are reached: one row, the first k of its pieces. -/
def rowC (p : List Int) (D : Nat) (xs : List Bool) : Nat → List Bool
 | 0 => xs
 | k + 1 => if D / 2 ^ k % 2 = 0 ∧ nxB p D k = true then (rowC p D xs k).set (D ||| 2 ^ k) true else rowC p D xs k
/-- ... the first rows. -/
def canC (p : List Int) : Nat → List Bool
 | 0 => (List.replicate (2 ^ p.length) false).set 0 true
 | D + 1 => if (canC p D).getD D false = true then rowC p D (canC p D) p.length else canC p D
def shR (p : List Int) : Bool := puB p && (canC p (2 ^ p.length)).getD (2 ^ p.length - 1) false
theorem rowC_length (p : List Int) (D : Nat) (xs : List Bool) : ∀ k, (rowC p D xs k).length = xs.length
 | 0 => rfl
 | k + 1 => by
   rw [rowC]; split
   · rw [List.length_set, rowC_length p D xs k]
   · exact rowC_length p D xs k
theorem canC_length (p : List Int) : ∀ D, (canC p D).length = 2 ^ p.length
 | 0 => by simp [canC]
 | D + 1 => by
   rw [canC]; split
   · rw [rowC_length, canC_length p D]
   · exact canC_length p D
theorem or_bit_ne {D k : Nat} (h : D / 2 ^ k % 2 = 0) : D ||| 2 ^ k ≠ D := fun e => by
 have h1 : (D ||| 2 ^ k).testBit k = true := by rw [Nat.testBit_or, Nat.testBit_two_pow_self]; simp
 rw [e, Nat.testBit_eq_decide_div_mod_eq, h] at h1
 cases h1
end Go.Am.Sh

/- Shells: what the search finds is what the reference reaches. -/
namespace Go.Am.Sh
open Go Go.Am Go.Proofs
theorem or_div {D k j : Nat} (h : D / 2 ^ k % 2 = 0) : (D ||| 2 ^ k) / 2 ^ j % 2 = D / 2 ^ j % 2 + if k = j then 1 else 0 := by
 have h1 : (D ||| 2 ^ k).testBit j = (D.testBit j || (2 ^ k).testBit j) := Nat.testBit_or ..
 rw [Nat.testBit_two_pow, Nat.testBit_eq_decide_div_mod_eq, Nat.testBit_eq_decide_div_mod_eq] at h1
 have a := Nat.mod_two_eq_zero_or_one ((D ||| 2 ^ k) / 2 ^ j)
 have b := Nat.mod_two_eq_zero_or_one (D / 2 ^ j)
 by_cases e : k = j
 · subst e
   rw [h] at h1 ⊢
   rw [if_pos rfl]
   rcases a with a | a
   · rw [a] at h1; simp at h1
   · exact a
 · rw [if_neg e]
   rcases a with a | a <;> rcases b with b | b <;> rw [a, b] at h1 ⊢ <;> simp [e] at h1
theorem pcK_or {D k : Nat} (h : D / 2 ^ k % 2 = 0) : ∀ m, pcK (D ||| 2 ^ k) m = pcK D m + if k < m then 1 else 0
 | 0 => by simp [pcK]
 | m + 1 => by
   rw [pcK, pcK, pcK_or h m, or_div h]
   by_cases e : k = m
   · rw [if_neg (by omega), if_pos e, if_pos (by omega)]; omega
   · rw [if_neg e]
     by_cases e2 : k < m
     · rw [if_pos e2, if_pos (by omega)]; omega
     · rw [if_neg e2, if_neg (by omega)]; omega
theorem pcK_full : ∀ L : Fin 11, pcK (2 ^ L.val - 1) L.val = L.val := by decide +kernel
theorem full_of : ∀ L : Fin 11, ∀ D : Fin 1024, D.val < 2 ^ L.val → pcK D.val L.val = L.val → D.val = 2 ^ L.val - 1 := by decide +kernel
theorem pcK_zero : ∀ m, pcK 0 m = 0
 | 0 => rfl
 | m + 1 => by rw [pcK, pcK_zero m, Nat.zero_div]
/-- From a set of pieces all are reached, in n steps. -/
def Go' (p : List Int) : Nat → Nat → Prop
 | 0, _ => True
 | n + 1, D => ∃ k, k < p.length ∧ D / 2 ^ k % 2 = 0 ∧ nxB p D k = true ∧ Go' p n (D ||| 2 ^ k)
theorem mget_put (m : Mm) (q q' : Int) (v : Bool) : mGet I64 (mPut I64 m q v) q' = if q' = q then some v else mGet I64 m q' := by
 induction m with
 | nil =>
   simp only [mPut, mGet]
   split
   · rename_i h _; rw [if_pos h]
   · rename_i h _; rw [if_neg h]
 | cons e m ih =>
   simp only [mPut] at ih ⊢
   split
   · rename_i h _
     simp only [mGet]
     split
     · rename_i h2 _; rw [if_pos h2]
     · rename_i h2 _
       rw [if_neg h2]
       split
       · rename_i h3 _; exact absurd (h3.trans h.symm) h2
       · rfl
   · rename_i h _
     simp only [mGet]
     split
     · rename_i h2 _
       rw [if_neg (fun e' => h (e'.symm.trans h2))]
     · exact ih
theorem mg_mp {m : Mm} {d x : Int} (h : mg (mp m d) x = true) : x = d ∨ mg m x = true := by
 unfold mg mp at h
 rw [mget_put] at h
 by_cases e : x = d
 · exact .inl e
 · rw [if_neg e] at h; exact .inr h
def MI (p : List Int) (m : Mm) : Prop := ∀ D : Nat, mg m D = true → ¬ Go' p (p.length - pcK D p.length) D
structure rOk (p : List Int) (r : Res) : Prop where
 s : (sgK p r.2.1 r.2.1.length).isSome = true
 l : r.2.1.length = p.length
theorem sgK_app {p o : List Int} {m : List Int} : ∀ {k : Nat}, k ≤ o.length → sgK p (o ++ m) k = sgK p o k
 | 0, _ => rfl
 | k + 1, h => by rw [sgK, sgK, sgK_app (by omega), getD_append_left (by omega)]
theorem sgK_snoc {p l : List Int} {D k : Nat} (h : sgK p l l.length = some D) (hk : k < p.length) (h0 : D / 2 ^ k % 2 = 0) (hn : nxB p D k = true) : sgK p (l ++ [(k : Int)]) (l ++ [(k : Int)]).length = some (D ||| 2 ^ k) := by
 have e : (l ++ [(k : Int)]).getD l.length 0 = k := by
   rw [List.getD_eq_getElem?_getD, List.getElem?_append_right (Nat.le_refl _), Nat.sub_self]; try rfl
 rw [List.length_append, List.length_singleton, sgK, sgK_app (Nat.le_refl _), h, e, Option.bind_some, Int.toNat_natCast, if_pos ⟨decide_eq_true ⟨by omega, by omega⟩, h0, hn⟩]
def grP (p : List Int) (n : Nat) : Prop := ∀ (D : Nat) (l : List Int) (m : Mm), l.length + n = p.length → pcK D p.length + n = p.length → sgK p l l.length = some D → MI p m →
 ((gr p n D l m).1 = true → Go' p n D ∧ rOk p (gr p n D l m)) ∧ ((gr p n D l m).1 = false → ¬ Go' p n D) ∧ MI p (gr p n D l m).2.2
theorem lp_spec {c : Int} {p : List Int} (hp : cxOk c p) {n : Nat} (ih : grP p n) {D : Nat} {l : List Int} {m : Mm} (h1 : l.length + (n + 1) = p.length) (h2 : pcK D p.length + (n + 1) = p.length) (h3 : sgK p l l.length = some D) (h4 : MI p m) : ∀ k, k ≤ p.length →
   ((lpK p (gr p n) D l m k).1 = true → Go' p (n + 1) D ∧ rOk p (lpK p (gr p n) D l m k)) ∧ ((lpK p (gr p n) D l m k).1 = false → ∀ j, j < k → D / 2 ^ j % 2 = 0 → nxB p D j = true → ¬ Go' p n (D ||| 2 ^ j)) ∧ MI p (lpK p (gr p n) D l m k).2.2
 | 0, _ => ⟨fun h => (by cases h), fun _ j hj => absurd hj (Nat.not_lt_zero j), h4⟩
 | k + 1, hk => by
   obtain ⟨a1, a2, a3⟩ := lp_spec hp ih h1 h2 h3 h4 k (by omega)
   by_cases hs : (lpK p (gr p n) D l m k).1 = true
   · have e := lpK_stop hs 1
     rw [e]
     exact ⟨a1, fun h => (by rw [hs] at h; cases h), a3⟩
   · have hs : (lpK p (gr p n) D l m k).1 = false := by simpa using hs
     have hst := lpK_go hs
     by_cases hc : D / 2 ^ k % 2 = 1 ∨ flw p D k = false
     · rw [if_pos hc] at hst
       rw [hst]
       refine ⟨a1, fun h j hj hb hn => ?_, a3⟩
       rcases Nat.lt_or_ge j k with h5 | h5
       · exact a2 h j h5 hb hn
       · have : j = k := by omega
         subst this
         rcases hc with hc | hc
         · omega
         · rw [flw_nx hp] at hc; rw [hc] at hn; cases hn
     · rw [if_neg hc] at hst
       have hb : D / 2 ^ k % 2 = 0 := by
         have := Nat.mod_two_eq_zero_or_one (D / 2 ^ k)
         rcases this with h | h
         · exact h
         · exact absurd (.inl h) hc
       have hn : nxB p D k = true := by
         rw [← flw_nx hp]
         cases hf : flw p D k with
         | true => rfl
         | false => exact absurd (.inr hf) hc
       have hpc := pcK_or hb p.length
       rw [if_pos (show k < p.length by omega)] at hpc
       obtain ⟨b1, b2, b3⟩ := ih (D ||| 2 ^ k) (l ++ [(k : Int)]) (lpK p (gr p n) D l m k).2.2 (by simp; omega) (by omega) (sgK_snoc h3 (by omega) hb hn) a3
       by_cases hr : (gr p n (D ||| 2 ^ k) (l ++ [(k : Int)]) (lpK p (gr p n) D l m k).2.2).1 = true
       · rw [if_pos hr] at hst
         rw [hst]
         exact ⟨fun h => ⟨⟨k, by omega, hb, hn, (b1 h).1⟩, (b1 h).2⟩, fun h => (by rw [hr] at h; cases h), b3⟩
       · rw [if_neg hr] at hst
         rw [hst]
         refine ⟨fun h => (by cases h), fun _ j hj hb2 hn2 => ?_, b3⟩
         rcases Nat.lt_or_ge j k with h5 | h5
         · exact a2 hs j h5 hb2 hn2
         · rw [show j = k by omega]
           exact b2 (by simpa using hr)
theorem gr_spec {c : Int} {p : List Int} (hp : cxOk c p) : ∀ n, grP p n
 | 0 => fun D l m h1 h2 h3 h4 => ⟨fun _ => ⟨trivial, ⟨by rw [gr]; simp only; rw [h3]; rfl, by rw [gr]; simp only; omega⟩⟩, fun h => (by cases h), h4⟩
 | n + 1 => fun D l m h1 h2 h3 h4 => by
   obtain ⟨a1, a2, a3⟩ := lp_spec hp (gr_spec hp n) h1 h2 h3 h4 p.length (Nat.le_refl _)
   rw [gr]
   by_cases hm : mg m D = true
   · rw [if_pos hm]
     refine ⟨fun h => (by cases h), fun _ => ?_, h4⟩
     have := h4 D hm
     rwa [show p.length - pcK D p.length = n + 1 by omega] at this
   · rw [if_neg hm]
     by_cases hs : (lpK p (gr p n) D l m p.length).1 = true
     · rw [if_pos hs]
       exact ⟨a1, fun h => (by rw [hs] at h; cases h), a3⟩
     · rw [if_neg hs]
       have hs : (lpK p (gr p n) D l m p.length).1 = false := by simpa using hs
       have hno : ¬ Go' p (n + 1) D := fun ⟨k, h5, h6, h7, h8⟩ => a2 hs k h5 h6 h7 h8
       refine ⟨fun h => (by cases h), fun _ => hno, fun D' hD' => ?_⟩
       rcases mg_mp hD' with h5 | h5
       · have : D' = D := by omega
         subst this
         rwa [show p.length - pcK D' p.length = n + 1 by omega]
       · exact a3 D' h5
end Go.Am.Sh

/- Shells: the law of the shellings. -/
namespace Go.Am.Sh
open Go Go.Am Go.Proofs
theorem set_keep {l : List Bool} {i x : Nat} (h : l.getD x false = true) : (l.set i true).getD x false = true := by
 by_cases e : i = x
 · subst e
   have hl : i < l.length := by
     rcases Nat.lt_or_ge i l.length with h2 | h2
     · exact h2
     · rw [List.getD_eq_getElem?_getD, List.getElem?_eq_none h2] at h; cases h
   rw [List.getD_eq_getElem?_getD, List.getElem?_set_self hl]; try rfl
 · rw [List.getD_eq_getElem?_getD, List.getElem?_set_ne e, ← List.getD_eq_getElem?_getD]; exact h
theorem set_true {l : List Bool} {i x : Nat} (h : (l.set i true).getD x false = true) : x = i ∨ l.getD x false = true := by
 by_cases e : i = x
 · exact .inl e.symm
 · rw [List.getD_eq_getElem?_getD, List.getElem?_set_ne e, ← List.getD_eq_getElem?_getD] at h; exact .inr h
theorem rowC_mono {p : List Int} {D x : Nat} {xs : List Bool} (h : xs.getD x false = true) : ∀ k, (rowC p D xs k).getD x false = true
 | 0 => h
 | k + 1 => by
   rw [rowC]; split
   · exact set_keep (rowC_mono h k)
   · exact rowC_mono h k
theorem rowC_true {p : List Int} {D x : Nat} {xs : List Bool} : ∀ {k : Nat}, (rowC p D xs k).getD x false = true → xs.getD x false = true ∨ ∃ j, j < k ∧ D / 2 ^ j % 2 = 0 ∧ nxB p D j = true ∧ x = D ||| 2 ^ j
 | 0, h => .inl h
 | k + 1, h => by
   rw [rowC] at h
   split at h
   · rename_i hc
     rcases set_true h with h2 | h2
     · exact .inr ⟨k, by omega, hc.1, hc.2, h2⟩
     · rcases rowC_true h2 with h3 | ⟨j, a, b⟩
       · exact .inl h3
       · exact .inr ⟨j, by omega, b⟩
   · rcases rowC_true h with h3 | ⟨j, a, b⟩
     · exact .inl h3
     · exact .inr ⟨j, by omega, b⟩
theorem rowC_has {p : List Int} {D j : Nat} {xs : List Bool} (hb : D / 2 ^ j % 2 = 0) (hn : nxB p D j = true) (hl : D ||| 2 ^ j < xs.length) : ∀ {k : Nat}, j < k → (rowC p D xs k).getD (D ||| 2 ^ j) false = true
 | 0, h => absurd h (Nat.not_lt_zero j)
 | k + 1, h => by
   rcases Nat.lt_or_ge j k with h2 | h2
   · have ih := rowC_has hb hn hl h2
     rw [rowC]; split
     · exact set_keep ih
     · exact ih
   · have : j = k := by omega
     subst this
     rw [rowC, if_pos ⟨hb, hn⟩, List.getD_eq_getElem?_getD, List.getElem?_set_self (by rw [rowC_length]; exact hl)]; try rfl
theorem canC_mono {p : List Int} {D x : Nat} (h : (canC p D).getD x false = true) : ∀ j, (canC p (D + j)).getD x false = true
 | 0 => h
 | j + 1 => by
   have ih := canC_mono h j
   rw [show D + (j + 1) = D + j + 1 by omega, canC]; split
   · exact rowC_mono ih _
   · exact ih
theorem canC_zero (p : List Int) {x : Nat} (h : (canC p 0).getD x false = true) : x = 0 := by
 rw [canC] at h
 rcases set_true h with h2 | h2
 · exact h2
 · rw [List.getD_eq_getElem?_getD, List.getElem?_replicate] at h2
   split at h2 <;> cases h2
theorem canC_sound {p : List Int} : ∀ {D x : Nat}, (canC p D).getD x false = true → Go' p (p.length - pcK x p.length) x → Go' p p.length 0
 | 0, x, h, hg => by
   have := canC_zero p h
   subst this
   rwa [pcK_zero, Nat.sub_zero] at hg
 | D + 1, x, h, hg => by
   rw [canC] at h
   split at h
   · rename_i hD
     rcases rowC_true h with h2 | ⟨j, h2, h3, h4, h5⟩
     · exact canC_sound h2 hg
     · subst h5
       have hpc := pcK_or h3 p.length
       rw [if_pos h2] at hpc
       have hle := pcK_le (D ||| 2 ^ j) p.length
       refine canC_sound hD ?_
       rw [show p.length - pcK D p.length = (p.length - pcK (D ||| 2 ^ j) p.length) + 1 by omega]
       exact ⟨j, h2, h3, h4, hg⟩
   · exact canC_sound h hg
theorem canC_full {p : List Int} (hl : p.length ≤ 10) : ∀ {n D : Nat}, D < 2 ^ p.length → pcK D p.length + n = p.length → Go' p n D → (canC p D).getD D false = true → (canC p (2 ^ p.length)).getD (2 ^ p.length - 1) false = true
 | 0, D, hD, hp, _, hc => by
   have h2 := Nat.pow_le_pow_right (show 0 < 2 by decide) hl
   have hf := full_of ⟨p.length, by omega⟩ ⟨D, by omega⟩ hD (by simp only; omega)
   simp only at hf
   have := canC_mono hc 1
   rw [show D + 1 = 2 ^ p.length by omega] at this
   rwa [hf] at this
 | n + 1, D, hD, hp, ⟨j, h1, h2, h3, h4⟩, hc => by
   have hpc := pcK_or h2 p.length
   rw [if_pos h1] at hpc
   have hlt : D ||| 2 ^ j < 2 ^ p.length := Nat.or_lt_two_pow hD (Nat.pow_lt_pow_right (by decide) h1)
   have hne := or_bit_ne h2
   have hge : D ≤ D ||| 2 ^ j := Nat.left_le_or
   have hc1 : (canC p (D + 1)).getD (D ||| 2 ^ j) false = true := by
     rw [canC, if_pos hc]
     exact rowC_has h2 h3 (by rw [canC_length]; exact hlt) h1
   have hc2 := canC_mono hc1 ((D ||| 2 ^ j) - (D + 1))
   rw [show D + 1 + ((D ||| 2 ^ j) - (D + 1)) = D ||| 2 ^ j by omega] at hc2
   exact canC_full hl hlt (by omega) h4 hc2
theorem shR_iff {n : Int} {p : List Int} (h : cxOk n p) : shR p = true ↔ puB p = true ∧ Go' p p.length 0 := by
 have hl := h.2.1
 have h2 := Nat.pow_pos (n := p.length) (show 0 < 2 by decide)
 unfold shR
 rw [Bool.and_eq_true]
 constructor
 · rintro ⟨h3, h4⟩
   refine ⟨h3, canC_sound h4 ?_⟩
   have := pcK_full ⟨p.length, by omega⟩
   simp only at this
   rw [this, Nat.sub_self]; trivial
 · rintro ⟨h3, h4⟩
   refine ⟨h3, canC_full hl.2 h2 (by rw [pcK_zero]; omega) h4 ?_⟩
   rw [canC, List.getD_eq_getElem?_getD, List.getElem?_set_self (by simpa using h2)]; try rfl
structure shF (p : List Int) : Prop where
 e : shB p = shR p
 s : shB p = true → sgR p (shL p) = true
 z : shB p = false → shL p = []
 l : (shL p).length ≤ 10
theorem sh_facts {n : Int} {p : List Int} (h : cxOk n p) : shF p := by
 have hl := h.2.1
 obtain ⟨a1, a2, _⟩ := gr_spec h p.length 0 [] [] (by simp) (by rw [pcK_zero]; omega) rfl (fun D hD => by simp [mg, mGet] at hD)
 have hp := pure_pu h
 have ha : (grow p).1 = true ↔ Go' p p.length 0 := ⟨fun h => (a1 h).1, fun h => by
   cases hg : (grow p).1 with
   | true => rfl
   | false => exact absurd h (a2 hg)⟩
 refine ⟨?_, fun hs => ?_, fun hs => ?_, ?_⟩
 · rw [Bool.eq_iff_iff, shR_iff h]
   unfold shB
   rw [Bool.and_eq_true, hp, ha]
 · unfold shB at hs
   rw [Bool.and_eq_true] at hs
   obtain ⟨b1, b2⟩ := (a1 hs.2).2
   unfold sgR shL
   rw [if_pos hs.1]
   have b1 : (sgK p (grow p).2.1 (grow p).2.1.length).isSome = true := b1
   have b2 : (grow p).2.1.length = p.length := b2
   rw [b1, ← hp, hs.1, decide_eq_true b2]; try rfl
 · unfold shL
   by_cases hpp : pure p = true
   · rw [if_pos hpp]
     unfold shB at hs
     rw [hpp, Bool.true_and] at hs
     exact gr_list hs
   · rw [if_neg hpp]
 · unfold shL
   by_cases hpp : pure p = true
   · rw [if_pos hpp]
     cases hg : (grow p).1 with
     | true => have : (grow p).2.1.length = p.length := (a1 hg).2.l; omega
     | false => have : (grow p).2.1 = [] := gr_list hg; rw [this]; simp
   · rw [if_neg hpp]; simp
end Go.Am.Sh

/- Shells: the walk of the law of the shellings. -/
namespace Go.Am.Sh
open Go Go.Am Go.Proofs
end Go.Am.Sh

/- Shells: Made, as the law says it; IsShelling. -/
namespace Go.Am.Sh
open Go Go.Am Go.Proofs
noncomputable def L73_0 : Code := lp (bodyOf Try.f73) 0
def st73 (n : Int) (p o : List Int) (k : Nat) : St := ⟨.ptr 0 0 [] :: dd 4 ++ .int .i64 (sgD p o k) :: dd 15 ++ .sl I64 o :: .int .i64 o.length :: .int .i64 k :: dd 35, [cxO n p]⟩
def ex73 (n : Int) (p o : List Int) : List (List Nat × Ex) := [([], ⟨0, Unit, fun _ => (sgK p o o.length).isSome = true, fun _ => ⟨dd 59, [cxO n p]⟩⟩)]
noncomputable def H73 (n : Int) (p o : List Int) : Nat → Option Hint := fun _ => some ⟨chk 1 [0, 5, 21, 22, 23] (in17 p o) (st73 n p o), (ex73 n p o).map (·.2)⟩
noncomputable abbrev X73 : Cy := X1 [e54, e56]
theorem loop73 (n : Int) (p o : List Int) (h : cxOk n p) (hl : o.length = p.length) (hp : pure p = true) : LoopOK X73 L73_0 ⟨chk 1 [0, 5, 21, 22, 23] (in17 p o) (st73 n p o), (ex73 n p o).map (·.2)⟩ (RetR X73 false false [.tmp 4] [.bool (sgR p o)] [cxO n p]) := by
 refine loop_ok (X1_ok _) (H := fun _ _ => none) [0, 5, 21, 22, 23] (in17 p o) (st73 n p o) (fun k => o.length - k) (ex73 n p o) 150 fun (k : Nat) hk => ?_
 refine of_eq (q := True ∧ ((k : Int) < (o.length : Int) → idxPre (k : Int) o.length ∧ True ∧ True ∧ True ∧ True ∧ True ∧ (o.getD k (0 : Int) < 0 → True ∧ True ∧ True ∧ True ∧ True ∧ True ∧ True ∧ (false = sgR p o ∧ True) ∧ (n = n ∧ p = p ∧ mk (isF p) = mk (isF p) ∧ True) ∧ True) ∧ (¬o.getD k (0 : Int) < 0 → True ∧ True ∧ True ∧ True ∧ True ∧ True ∧ True ∧ True ∧ True ∧ ((p.length : Int) ≤ o.getD k (0 : Int) → True ∧ True ∧ True ∧ True ∧ True ∧ (false = sgR p o ∧ True) ∧ (n = n ∧ p = p ∧ mk (isF p) = mk (isF p) ∧ True) ∧ True) ∧ (¬(p.length : Int) ≤ o.getD k (0 : Int) → True ∧ True ∧ inR .u64 (o.getD k (0 : Int)) ∧ ((0 : Int) ≤ o.getD k (0 : Int) ∧ o.getD k (0 : Int) < bitsOf .i64) ∧ True ∧ True ∧ True ∧ True ∧ (bAnd .i64 ((↑(sgD p o k) : Int) / (2 : Int) ^ Int.toNat (o.getD k (0 : Int))) (1 : Int) = 1 → True ∧ True ∧ True ∧ (false = sgR p o ∧ True) ∧ (n = n ∧ p = p ∧ mk (isF p) = mk (isF p) ∧ True) ∧ True) ∧ (¬bAnd .i64 ((↑(sgD p o k) : Int) / (2 : Int) ^ Int.toNat (o.getD k (0 : Int))) (1 : Int) = 1 → True ∧ True ∧ True ∧ ((ok56 ((↑(sgD p o k) : Int), o.getD k (0 : Int), n, p, mk (isF p)) ∧ (True ∧ (↑(sgD p o k) : Int) = (↑(sgD p o k) : Int) ∧ o.getD k (0 : Int) = o.getD k (0 : Int) ∧ True) ∧ (n = n ∧ p = p ∧ mk (isF p) = mk (isF p) ∧ True) ∧ True) ∧ True ∧ True) ∧ True ∧ True ∧ ((!flw p (sgD p o k) (Int.toNat (o.getD k (0 : Int)))) = true → True ∧ True ∧ (false = sgR p o ∧ True) ∧ (n = n ∧ p = p ∧ mk (isF p) = mk (isF p) ∧ True) ∧ True) ∧ ((!flw p (sgD p o k) (Int.toNat (o.getD k (0 : Int)))) = false → True ∧ True ∧ inR .u64 (o.getD k (0 : Int)) ∧ (((0 : Int) ≤ o.getD k (0 : Int) ∧ o.getD k (0 : Int) < bitsOf .i64) ∧ (-9223372036854775808 : Int) ≤ 1 * 2 ^ Int.toNat (o.getD k (0 : Int)) ∧ (1 : Int) * 2 ^ Int.toNat (o.getD k (0 : Int)) ≤ 9223372036854775807) ∧ True ∧ True ∧ inR .i64 ((k : Int) + 1) ∧ True ∧ ∃ (y : Nat), (in17 p o y ∧ o.length - y < o.length - k) ∧ (True ∧ bOr .i64 (↑(sgD p o k) : Int) ((1 : Int) * 2 ^ Int.toNat (o.getD k (0 : Int))) = (↑(sgD p o y) : Int) ∧ o = o ∧ (o.length : Int) = (o.length : Int) ∧ (k : Int) + 1 = (y : Int) ∧ True) ∧ (n = n ∧ p = p ∧ mk (isF p) = mk (isF p) ∧ True) ∧ True))))) ∧ (¬(k : Int) < (o.length : Int) → ∃ (y : Unit), (sgK p o o.length).isSome = true ∧ True ∧ (n = n ∧ p = p ∧ mk (isF p) = mk (isF p) ∧ True) ∧ True)) (by kernel_rfl) ?_
 simp only [zz]
 obtain ⟨k1, k2⟩ := hk
 have hl2 := h.2.1
 have hs := sg_some k2
 have hD := sg_lt hl2.2 hs
 refine ⟨fun hlt => ?_, fun hlt => by rw [show o.length = k by omega]; exact k2⟩
 have hst : sgK p o (k + 1) = if sgB p (o.getD k 0) = true ∧ sgD p o k / 2 ^ (o.getD k 0).toNat % 2 = 0 ∧ nxB p (sgD p o k) (o.getD k 0).toNat = true then some (sgD p o k ||| 2 ^ (o.getD k 0).toNat) else none := by rw [sgK, hs]; try rfl
 have hbad : ¬ (sgB p (o.getD k 0) = true ∧ sgD p o k / 2 ^ (o.getD k 0).toNat % 2 = 0 ∧ nxB p (sgD p o k) (o.getD k 0).toNat = true) → false = sgR p o := fun hc => by
   rw [if_neg hc] at hst
   exact (sg_bad (by omega) hst).symm
 rw [bit_shr hD, flw_nx h]
 refine ⟨idx_nat (by omega), fun hx => hbad fun hc => ?_, fun hx => ⟨fun hx2 => hbad fun hc => ?_, fun hx2 => ⟨by simp only [inR]; omega, ⟨by omega, by simp only [bitsOf]; omega⟩, fun hb => hbad fun hc => ?_, fun hb => ⟨⟨⟨h, rfl⟩, ⟨by simp only; omega, by simp only; omega⟩, ⟨by simp only; omega, by simp only; omega⟩⟩, fun hn => hbad fun hc => ?_, fun hn => ?_⟩⟩⟩⟩
 · have : 0 ≤ o.getD k 0 ∧ o.getD k 0 < p.length := of_decide_eq_true hc.1
   omega
 · have : 0 ≤ o.getD k 0 ∧ o.getD k 0 < p.length := of_decide_eq_true hc.1
   omega
 · have := hc.2.1
   omega
 · rw [hc.2.2] at hn; cases hn
 · have hb2 := or_pow10 hD (k := (o.getD k 0).toNat) (by omega)
   rw [if_pos ⟨decide_eq_true ⟨by omega, by omega⟩, by omega, by simpa using hn⟩] at hst
   exact ⟨by simp only [inR]; omega, ⟨⟨by omega, by simp only [bitsOf]; omega⟩, by omega, by omega⟩, by simp only [inR]; omega, k + 1, ⟨⟨by omega, by rw [hst]; rfl⟩, by omega⟩, by rw [hb2.1]; unfold sgD; rw [hst]; rfl, by omega⟩
theorem call73 (n : Int) (p o : List Int) (h : cxOk n p) (ho : o.length < 1000000000000000) : GCall Try.prog gl 73 false [.ptr 0 0 [], .sl I64 o] [cxO n p] [.bool (sgR p o)] [cxO n p] := by
 refine gcall_of (X := X73) ((X1_ok _)) (f := 73) (fn := Try.f73) (c := bodyOf Try.f73) (by kernel_rfl) (by kernel_rfl) (view := false) (rvs := [.tmp 4]) (by kernel_rfl) (H := (H73 n p o)) 150 (by kernel_rfl) ?_
 have hL := fun h1 h2 => loop73 n p o h h1 h2
 refine of_eq (q := True ∧ True ∧ ((okC (n, p, mk (isF p)) ∧ (True ∧ True) ∧ (n = n ∧ p = p ∧ mk (isF p) = mk (isF p) ∧ True) ∧ True) ∧ True ∧ True) ∧ True ∧ True ∧ ((!pure p) = true → True ∧ True ∧ True ∧ (false = sgR p o ∧ True) ∧ (n = n ∧ p = p ∧ mk (isF p) = mk (isF p) ∧ True) ∧ True) ∧ ((!pure p) = false → True ∧ True ∧ True ∧ True ∧ True ∧ True ∧ True ∧ True ∧ True ∧ (¬(o.length : Int) = (p.length : Int) → True ∧ True ∧ (false = sgR p o ∧ True) ∧ (n = n ∧ p = p ∧ mk (isF p) = mk (isF p) ∧ True) ∧ True) ∧ (¬¬(o.length : Int) = (p.length : Int) → True ∧ True ∧ True ∧ True ∧ LoopOK X73 L73_0 { J := chk (1 : Nat) [(0 : Nat), (5 : Nat), (21 : Nat), (22 : Nat), (23 : Nat)] (in17 p o) (st73 n p o), exits := List.map (fun (x : List Nat × Ex) => x.snd) (ex73 n p o) } (RetR X73 false false [ResultVar.tmp (4 : Tmp)] [AV.bool (sgR p o)] [cxO n p]) ∧ (∃ (y : Nat), in17 p o y ∧ (True ∧ (0 : Int) = (↑(sgD p o y) : Int) ∧ o = o ∧ (o.length : Int) = (o.length : Int) ∧ (0 : Int) = (y : Int) ∧ True) ∧ (n = n ∧ p = p ∧ mk (isF p) = mk (isF p) ∧ True) ∧ True) ∧ (∀ (y : Unit), (sgK p o o.length).isSome = true → True ∧ True ∧ (true = sgR p o ∧ True) ∧ (n = n ∧ p = p ∧ mk (isF p) = mk (isF p) ∧ True) ∧ True) ∧ True))) (by kernel_rfl) ?_
 simp only [zz]
 refine ⟨⟨h, rfl⟩, fun hx => ?_, fun hx => ⟨fun hy => ?_, fun hy => ⟨hL (by omega) (by simpa using hx), ⟨0, ⟨Nat.zero_le _, rfl⟩, rfl, rfl⟩, fun _ hz => ?_⟩⟩⟩
 · have hx : pure p = false := by simpa using hx
   unfold sgR; rw [← pure_pu h, hx]; simp
 · unfold sgR; rw [decide_eq_false (show ¬ o.length = p.length by omega)]; simp
 · have hx : pure p = true := by simpa using hx
   unfold sgR; rw [hz, decide_eq_true (show o.length = p.length by omega), ← pure_pu h, hx]; try rfl
def get73 (xs : List AV) (obs : List Ob) : Option (List Int × Cx3) :=
 match xs with
 | [_, .sl e l] => (match castL e I64 l with
   | some l => (unCx (obs.getD 0 .gone)).map fun x => (l, x)
   | none => none)
 | _ => none
structure ok73 (x : List Int × Cx3) : Prop where
 h : okC x.2
 l : x.1.length < 1000000000000000
def e73 : Entry Try.prog gl := entryW 73 ⟨Try.f73, by kernel_rfl, by kernel_rfl, by kernel_rfl⟩ true get73 ok73 false (fun x => [.ptr 0 0 [], .sl I64 x.1]) (fun x => [cxQ x.2]) (fun x => [.bool (sgR x.2.2.1 x.1)]) (fun x => [cxQ x.2]) (fun x h => by rw [cxQ_ok h.h]; exact call73 _ _ _ h.h.h h.l)
end Go.Am.Sh

/- Shells: the law of the makers. -/
namespace Go.Am.Sh
open Go Go.Am Go.Proofs
instance (n d : Int) : Decidable (momOk n d) := by unfold momOk; infer_instance
def n4 (n : Int) : Int := 3 + (modU .u64 n).tmod 4
def d4 (n d : Int) : Int := 2 + (modU .u64 d).tmod (n4 n - 2)
end Go.Am.Sh

/- Shells: the law of the makers, the outer loop. -/
namespace Go.Am.Sh
open Go Go.Am Go.Proofs
end Go.Am.Sh

/- Shells: News. -/
namespace Go.Am.Sh
open Go Go.Am Go.Proofs
def obW (w : Int) (p : List Int) : List Ob := [.bx (.int .i64 w), .bx (.sl I64 p)]
def inB74 (w : Int) (p : List Int) (j : Int) : Bool := sub w.toNat (p.getD j.toNat 0).toNat
def pre74 (w : Int) (p : List Int) (j : Int) : Prop := okL p ∧ (0 ≤ w ∧ w < 64) ∧ 0 ≤ j ∧ j < p.length
theorem call74 (w : Int) (p : List Int) (j : Int) (h : pre74 w p j) : GCall Try.prog gl 74 false [.int .i64 j, .ptr 0 0 [], .ptr 1 0 []] (obW w p) [.bool (inB74 w p j)] (obW w p) := by
 refine gcall_of (X := (Xm [] 2 (fun _ => none))) ((Xm_ok _ _ _)) (f := 74) (fn := Try.f74) (c := bodyOf Try.f74) (by kernel_rfl) (by kernel_rfl) (view := false) (rvs := [.tmp 4]) (by kernel_rfl) (H := fun _ => none) 80 (by kernel_rfl) ?_
 refine of_eq (q := True ∧ True ∧ True ∧ True ∧ idxPre j p.length ∧ True ∧ True ∧ True ∧ True ∧ True ∧ (decide (bNot .i64 w (p.getD j.toNat (0 : Int)) = 0) = inB74 w p j ∧ True) ∧ w = w ∧ p = p ∧ True) (by kernel_rfl) ?_
 simp only [zz]
 obtain ⟨h1, h2, h3⟩ := h
 have hp := okL_get h1 j.toNat
 obtain ⟨a, rfl⟩ : ∃ a : Nat, w = a := ⟨w.toNat, by omega⟩
 obtain ⟨i, rfl⟩ : ∃ i : Nat, j = i := ⟨j.toNat, by omega⟩
 simp only [Int.toNat_natCast] at *
 unfold inB74
 obtain ⟨b, hq⟩ : ∃ b : Nat, p.getD i 0 = b := ⟨(p.getD i 0).toNat, by omega⟩
 simp only [Int.toNat_natCast, hq]
 rw [hq] at hp
 have := sub_mns ⟨a, by omega⟩ ⟨b, by omega⟩
 simp only at this
 rw [bNot_nat (by omega) (by omega)]
 refine ⟨idx_nat (by omega), ?_⟩
 rw [Bool.eq_iff_iff, decide_eq_true_eq, ← this]; omega
def get74 (xs : List AV) (obs : List Ob) : Option (Int × List Int × Int) :=
 match xs, obs with
 | [.int .i64 j, _, _], [.bx (.int .i64 w), .bx (.sl e l)] => (castL e I64 l).map fun l => (w, l, j)
 | _, _ => none
def e74 : Entry Try.prog gl := entryW 74 ⟨Try.f74, by kernel_rfl, by kernel_rfl, by kernel_rfl⟩ true get74 (fun x => pre74 x.1 x.2.1 x.2.2) false (fun x => [.int .i64 x.2.2, .ptr 0 0 [], .ptr 1 0 []]) (fun x => obW x.1 x.2.1) (fun x => [.bool (inB74 x.1 x.2.1 x.2.2)]) (fun x => obW x.1 x.2.1) (fun x h => call74 _ _ _ h)
def clo74 : AV := .clo 74 [] [.ptr 0 0 [], .ptr 1 0 []]
def nwX (w : Int) (p l : List Int) : Int := if ∃ s ∈ l, inB74 w p s = true then ((l.findIdx (inB74 w p) : Nat) : Int) else -1
def okO (p l : List Int) : Prop := ∀ j ∈ l, 0 ≤ j ∧ j < p.length
structure pre59n (w : Int) (p l : List Int) : Prop where
 hp : okL p
 hw : 0 ≤ w ∧ w < 64
 ho : okO p l
 hl : l.length ≤ 64
def iw83 (w : Int) (p l : List Int) (k : Nat) : Prop := k ≤ l.length ∧ ∀ q ∈ l.take k, inB74 w p q = false
def sw83 (w : Int) (p l : List Int) (k : Nat) : St := ⟨.sl I64 l :: clo74 :: dd 5 ++ .int .i64 l.length :: .int .i64 k :: dd 10, obW w p⟩
def ew83 (w : Int) (p l : List Int) : List (List Nat × Ex) := [([], ⟨0, Unit, fun _ => ∀ q ∈ l, inB74 w p q = false, fun _ => ⟨dd 19, obW w p⟩⟩)]
noncomputable def Hw83 (w : Int) (p l : List Int) : Nat → Option Hint := fun _ => some ⟨chk 2 [0, 1, 7, 8] (iw83 w p l) (sw83 w p l), (ew83 w p l).map (·.2)⟩
noncomputable abbrev Xw83 : Cy := Xm [e74] 2 (fun _ => none)
theorem loop83w (w : Int) (p l : List Int) (h : pre59n w p l) : LoopOK Xw83 L83_0 ⟨chk 2 [0, 1, 7, 8] (iw83 w p l) (sw83 w p l), (ew83 w p l).map (·.2)⟩ (RetR Xw83 false false [.tmp 4] [.int .i64 (nwX w p l)] (obW w p)) := by
 refine loop_ok (Xm_ok _ _ _) (H := fun _ _ => none) [0, 1, 7, 8] (iw83 w p l) (sw83 w p l) (fun k => l.length - k) (ew83 w p l) 90 fun (k : Nat) hk => ?_
 refine of_eq (q := True ∧ ((k : Int) < (l.length : Int) → True ∧ True ∧ True ∧ True ∧ True ∧ idxPre (k : Int) l.length ∧ True ∧ ((pre74 w p (l.getD k (0 : Int)) ∧ (l.getD k (0 : Int) = l.getD k (0 : Int) ∧ True ∧ True ∧ True) ∧ w = w ∧ p = p ∧ True) ∧ True ∧ True ∧ True) ∧ (inB74 w p (l.getD k (0 : Int)) = true → True ∧ True ∧ True ∧ ((k : Int) = nwX w p l ∧ True) ∧ w = w ∧ p = p ∧ True) ∧ (inB74 w p (l.getD k (0 : Int)) = false → inR .i64 ((k : Int) + 1) ∧ True ∧ ∃ (y : Nat), (iw83 w p l y ∧ l.length - y < l.length - k) ∧ (l = l ∧ (True ∧ True ∧ True ∧ True) ∧ (l.length : Int) = (l.length : Int) ∧ (k : Int) + 1 = (y : Int) ∧ True) ∧ w = w ∧ p = p ∧ True)) ∧ (¬(k : Int) < (l.length : Int) → ∃ (y : Unit), (∀ (q : Int), q ∈ l → inB74 w p q = false) ∧ True ∧ w = w ∧ p = p ∧ True)) (by kernel_rfl) ?_
 simp only [zz]
 obtain ⟨h1, h2⟩ := hk
 have hl := h.hl
 refine ⟨fun hk => ?_, fun hk => ?_⟩
 · have hk : k < l.length := by omega
   refine ⟨idx_nat hk, ⟨h.hp, h.hw, h.ho _ (mem_getD hk)⟩, fun hx => ?_, fun hx => ⟨by simp only [inR]; omega, k + 1, ⟨⟨by omega, (all_take (d := 0) hk).mpr ⟨h2, hx⟩⟩, by omega⟩, by omega⟩⟩
   unfold nwX
   rw [if_pos ⟨_, mem_getD hk, hx⟩, find_at hk h2 hx]
 · rwa [List.take_of_length_le (by omega)] at h2
theorem call83w (w : Int) (p l : List Int) (h : pre59n w p l) : GCall Try.prog gl 83 false [.sl I64 l, clo74] (obW w p) [.int .i64 (nwX w p l)] (obW w p) := by
 refine gcall_of (X := Xw83) ((Xm_ok _ _ _)) (f := 83) (fn := Try.f83) (c := bodyOf Try.f83) (by kernel_rfl) (by kernel_rfl) (view := false) (rvs := [.tmp 4]) (by kernel_rfl) (H := (Hw83 w p l)) 80 (by kernel_rfl) ?_
 have hL := loop83w w p l h
 refine of_eq (q := True ∧ True ∧ True ∧ True ∧ LoopOK Xw83 L83_0 { J := chk (2 : Nat) [(0 : Nat), (1 : Nat), (7 : Nat), (8 : Nat)] (iw83 w p l) (sw83 w p l), exits := List.map (fun (x : List Nat × Ex) => x.snd) (ew83 w p l) } (RetR Xw83 false false [ResultVar.tmp (4 : Tmp)] [AV.int .i64 (nwX w p l)] (obW w p)) ∧ (∃ (y : Nat), iw83 w p l y ∧ (l = l ∧ (True ∧ True ∧ True ∧ True) ∧ (l.length : Int) = (l.length : Int) ∧ (0 : Int) = (y : Int) ∧ True) ∧ w = w ∧ p = p ∧ True) ∧ (∀ (y : Unit), (∀ (q : Int), q ∈ l → inB74 w p q = false) → True ∧ True ∧ ((-1 : Int) = nwX w p l ∧ True) ∧ w = w ∧ p = p ∧ True) ∧ True) (by kernel_rfl) ?_
 simp only [zz]
 refine ⟨hL, ⟨0, ⟨by omega, by simp⟩, rfl⟩, fun _ h => ?_⟩
 unfold nwX; rw [if_neg]
 rintro ⟨q, h1, h2⟩
 rw [h q h1] at h2; cases h2
def get83w (xs : List AV) (obs : List Ob) : Option (Int × List Int × List Int) :=
 match xs, obs with
 | [.sl e l, _], [.bx (.int .i64 w), .bx (.sl e2 p)] => (match castL e I64 l, castL e2 I64 p with
   | some l, some p => some (w, p, l)
   | _, _ => none)
 | _, _ => none
def e83w : Entry Try.prog gl := entryW 83 ⟨Try.f83, by kernel_rfl, by kernel_rfl, by kernel_rfl⟩ true get83w (fun x => pre59n x.1 x.2.1 x.2.2) false (fun x => [.sl I64 x.2.2, clo74]) (fun x => obW x.1 x.2.1) (fun x => [.int .i64 (nwX x.1 x.2.1 x.2.2)]) (fun x => obW x.1 x.2.1) (fun x h => call83w _ _ _ h)
def nwA (w : Int) (p l : List Int) : Bool := l.any (inB74 w p)
theorem nwX_iff {w : Int} {p l : List Int} : 0 ≤ nwX w p l ↔ nwA w p l = true := by
 unfold nwX nwA
 rw [List.any_eq_true]
 constructor
 · intro h
   refine Classical.byContradiction fun h2 => ?_
   rw [if_neg h2] at h
   omega
 · intro h
   rw [if_pos h]; omega
theorem call59w (w : Int) (p l : List Int) (h : pre59n w p l) : GCall Try.prog gl 59 false [.sl I64 l, clo74] (obW w p) [.bool (nwA w p l)] (obW w p) := by
 refine gcall_of (X := (Xm [e83w] 2 (fun _ => none))) ((Xm_ok _ _ _)) (f := 59) (fn := Try.f59) (c := bodyOf Try.f59) (by kernel_rfl) (by kernel_rfl) (view := false) (rvs := [.tmp 4]) (by kernel_rfl) (H := fun _ => none) 80 (by kernel_rfl) ?_
 refine of_eq (q := True ∧ True ∧ True ∧ ((pre59n w p l ∧ (l = l ∧ (True ∧ True ∧ True ∧ True) ∧ True) ∧ w = w ∧ p = p ∧ True) ∧ True ∧ True ∧ True) ∧ True ∧ True ∧ True ∧ (decide ((0 : Int) ≤ nwX w p l) = nwA w p l ∧ True) ∧ w = w ∧ p = p ∧ True) (by kernel_rfl) ?_
 simp only [zz]
 refine ⟨h, ?_⟩
 have := nwX_iff (w := w) (p := p) (l := l)
 cases h : nwA w p l <;> simp [h] at this ⊢ <;> omega
def e59w : Entry Try.prog gl := entryW 59 ⟨Try.f59, by kernel_rfl, by kernel_rfl, by kernel_rfl⟩ true get83w (fun x => pre59n x.1 x.2.1 x.2.2) false (fun x => [.sl I64 x.2.2, clo74]) (fun x => obW x.1 x.2.1) (fun x => [.bool (nwA x.1 x.2.1 x.2.2)]) (fun x => obW x.1 x.2.1) (fun x h => call59w _ _ _ h)
def nwF (p o : List Int) (k v : Nat) : Bool := decide ((p.getD (o.getD k 0).toNat 0).toNat / 2 ^ v % 2 = 1) && nwA ((mns (p.getD (o.getD k 0).toNat 0).toNat (2 ^ v) : Nat) : Int) p (o.take k)
def nwN (p o : List Int) (k : Nat) : Nat → Nat
 | 0 => 0
 | v + 1 => if nwF p o k v = true then nwN p o k v ||| 2 ^ v else nwN p o k v
def nwL (n : Int) (p o : List Int) (k : Nat) : List Int := (List.range k).map fun k => ((nwN p o k n.toNat : Nat) : Int)
noncomputable abbrev X43 : Cy := Xd [e53, x53, e73, e59w] (drOf [(15, 12013)])
structure ok43 (n : Int) (p o : List Int) : Prop where
 hc : cxOk n p
 ho : okO p o
 hl : o.length ≤ 10
noncomputable def L43_0 : Code := lp (bodyOf Try.f43) 0
noncomputable def L43_2 : Code := lp (bodyOf Try.f43) 2
def hd43 (n : Int) (o : List Int) (x : AV) : List AV := .int .i64 n :: .dead :: .sl I64 o :: .dead :: .ptr 0 0 [] :: dd 5 ++ [x]
theorem nw_bit : ∀ s : Fin 64, ∀ v : Fin 6, (mns s.val (2 ^ v.val) = s.val) = (s.val / 2 ^ v.val % 2 = 0) := by decide +kernel
theorem nwN_lt (p o : List Int) (k : Nat) : ∀ v, nwN p o k v < 2 ^ v
 | 0 => by rw [nwN]; decide
 | v + 1 => by
   have := nwN_lt p o k v
   rw [nwN]
   split
   · exact Nat.or_lt_two_pow (Nat.lt_of_lt_of_le this (Nat.pow_le_pow_right (by decide) (by omega))) (Nat.pow_lt_pow_right (by decide) (by omega))
   · exact Nat.lt_of_lt_of_le this (Nat.pow_le_pow_right (by decide) (by omega))
def jz43 (n : Int) (p o : List Int) (k v : Nat) : St := ⟨hd43 n o (nl) ++ .int .i64 k :: .int .i64 (o.getD k 0) :: .int .i64 (nwN p o k v : Nat) :: dd 15 ++ .sl I64 o :: .int .i64 o.length :: .int .i64 k :: dd 4 ++ .int .i64 n :: .int .i64 v :: dd 35, [.bx (.sl I64 p)]⟩
def ejz43 (n : Int) (p o : List Int) (k : Nat) : List (List Nat × Ex) := [([0, 2, 4, 10, 13, 29, 30, 31], ⟨2, Unit, fun _ => True, fun _ => ⟨hd43 n o (nl) ++ dd 2 ++ .int .i64 (nwN p o k n.toNat : Nat) :: dd 15 ++ .sl I64 o :: .int .i64 o.length :: .int .i64 k :: dd 41, [.bx (.sl I64 p)]⟩⟩)]
def hz43 (n : Int) (p o : List Int) (k : Nat) : Hint := ⟨chk 0 [0, 2, 4, 10, 11, 12, 13, 29, 30, 31, 36, 37] (fun v => v ≤ n.toNat) (jz43 n p o k), (ejz43 n p o k).map (·.2)⟩
theorem loop43z (n : Int) (p o : List Int) (k : Nat) (h : ok43 n p o) (hk : k < o.length) (R : Exit → St → Prop) : LoopOK X43 L43_2 (hz43 n p o k) R := by
 refine loop_ok (Xd_ok _ _) (H := fun _ _ => none) [0, 2, 4, 10, 11, 12, 13, 29, 30, 31, 36, 37] (fun v => v ≤ n.toNat) (jz43 n p o k) (fun v => n.toNat - v) (ejz43 n p o k) 150 fun (v : Nat) hv => ?_
 refine of_eq (q := True ∧ ((v : Int) < n → True ∧ True ∧ True ∧ True ∧ idxPre (o.getD k (0 : Int)) p.length ∧ True ∧ True ∧ inR .u64 (v : Int) ∧ (((0 : Int) ≤ (v : Int) ∧ (v : Int) < bitsOf .i64) ∧ (-9223372036854775808 : Int) ≤ 1 * 2 ^ v ∧ (1 : Int) * 2 ^ v ≤ 9223372036854775807) ∧ True ∧ True ∧ True ∧ True ∧ true = true ∧ True ∧ true = true ∧ True ∧ true = true ∧ idxPre (o.getD k (0 : Int)) p.length ∧ true = true ∧ True ∧ true = true ∧ True ∧ true = true ∧ True ∧ true = true ∧ (¬bNot .i64 (p.getD (o.getD k (0 : Int)).toNat (0 : Int)) ((1 : Int) * 2 ^ v) = p.getD (o.getD k (0 : Int)).toNat (0 : Int) → True ∧ true = true ∧ True ∧ true = true ∧ slPre o.length o.length none (some (k : Int)) none ∧ true = true ∧ True ∧ true = true ∧ ((pre59n (bNot .i64 (p.getD (o.getD k (0 : Int)).toNat (0 : Int)) ((1 : Int) * 2 ^ v)) p (cutL o none (some (k : Int))) ∧ (cutL o none (some (k : Int)) = cutL o none (some (k : Int)) ∧ (True ∧ True ∧ True ∧ True) ∧ True) ∧ bNot .i64 (p.getD (o.getD k (0 : Int)).toNat (0 : Int)) ((1 : Int) * 2 ^ v) = bNot .i64 (p.getD (o.getD k (0 : Int)).toNat (0 : Int)) ((1 : Int) * 2 ^ v) ∧ p = p ∧ True) ∧ True ∧ True ∧ True) ∧ True ∧ True ∧ True ∧ (nwA (bNot .i64 (p.getD (o.getD k (0 : Int)).toNat (0 : Int)) ((1 : Int) * 2 ^ v)) p (cutL o none (some (k : Int))) = true → True ∧ True ∧ inR .u64 (v : Int) ∧ (((0 : Int) ≤ (v : Int) ∧ (v : Int) < bitsOf .i64) ∧ (-9223372036854775808 : Int) ≤ 1 * 2 ^ v ∧ (1 : Int) * 2 ^ v ≤ 9223372036854775807) ∧ True ∧ True ∧ inR .i64 ((v : Int) + 1) ∧ True ∧ ∃ (y : Nat), (y ≤ n.toNat ∧ n.toNat - y < n.toNat - v) ∧ (n = n ∧ o = o ∧ True ∧ True ∧ (k : Int) = (k : Int) ∧ o.getD k (0 : Int) = o.getD k (0 : Int) ∧ bOr .i64 (↑(nwN p o k v) : Int) ((1 : Int) * 2 ^ v) = (↑(nwN p o k y) : Int) ∧ o = o ∧ (o.length : Int) = (o.length : Int) ∧ (k : Int) = (k : Int) ∧ n = n ∧ (v : Int) + 1 = (y : Int) ∧ True) ∧ p = p ∧ True) ∧ (nwA (bNot .i64 (p.getD (o.getD k (0 : Int)).toNat (0 : Int)) ((1 : Int) * 2 ^ v)) p (cutL o none (some (k : Int))) = false → inR .i64 ((v : Int) + 1) ∧ True ∧ ∃ (y : Nat), (y ≤ n.toNat ∧ n.toNat - y < n.toNat - v) ∧ (n = n ∧ o = o ∧ True ∧ True ∧ (k : Int) = (k : Int) ∧ o.getD k (0 : Int) = o.getD k (0 : Int) ∧ (↑(nwN p o k v) : Int) = (↑(nwN p o k y) : Int) ∧ o = o ∧ (o.length : Int) = (o.length : Int) ∧ (k : Int) = (k : Int) ∧ n = n ∧ (v : Int) + 1 = (y : Int) ∧ True) ∧ p = p ∧ True)) ∧ (¬¬bNot .i64 (p.getD (o.getD k (0 : Int)).toNat (0 : Int)) ((1 : Int) * 2 ^ v) = p.getD (o.getD k (0 : Int)).toNat (0 : Int) → True ∧ True ∧ True ∧ inR .i64 ((v : Int) + 1) ∧ True ∧ ∃ (y : Nat), (y ≤ n.toNat ∧ n.toNat - y < n.toNat - v) ∧ (n = n ∧ o = o ∧ True ∧ True ∧ (k : Int) = (k : Int) ∧ o.getD k (0 : Int) = o.getD k (0 : Int) ∧ (↑(nwN p o k v) : Int) = (↑(nwN p o k y) : Int) ∧ o = o ∧ (o.length : Int) = (o.length : Int) ∧ (k : Int) = (k : Int) ∧ n = n ∧ (v : Int) + 1 = (y : Int) ∧ True) ∧ p = p ∧ True)) ∧ (¬(v : Int) < n → ∃ (y : Unit), True ∧ (n = n ∧ o = o ∧ True ∧ True ∧ (↑(nwN p o k v) : Int) = (↑(nwN p o k n.toNat) : Int) ∧ o = o ∧ (o.length : Int) = (o.length : Int) ∧ (k : Int) = (k : Int) ∧ True) ∧ p = p ∧ True)) (by kernel_rfl) ?_
 simp only [zz]
 have hv : v ≤ n.toNat := hv
 obtain ⟨n1, n2⟩ := h.hc.1
 have hok := h.hc.ok
 have hj := h.ho _ (mem_getD (d := 0) hk)
 have hF : nwF p o k v = (decide ((p.getD (o.getD k 0).toNat 0).toNat / 2 ^ v % 2 = 1) && nwA ((mns (p.getD (o.getD k 0).toNat 0).toNat (2 ^ v) : Nat) : Int) p (o.take k)) := rfl
 have hN : nwN p o k (v + 1) = if nwF p o k v = true then nwN p o k v ||| 2 ^ v else nwN p o k v := rfl
 have hlt := nwN_lt p o k v
 have hf := okL_get hok (o.getD k 0).toNat
 have hle := h.hl
 refine ⟨fun h3 => ?_, fun h3 => by rw [show v = n.toNat by omega]⟩
 have hv6 : v < 6 := by omega
 obtain ⟨s, hs⟩ : ∃ s : Nat, p.getD (o.getD k 0).toNat 0 = s := ⟨(p.getD (o.getD k 0).toNat 0).toNat, by omega⟩
 rw [hs] at hf hF ⊢
 have hs64 : s < 64 := by omega
 have hb := nw_bit ⟨s, hs64⟩ ⟨v, hv6⟩
 have hm := mns_lt ⟨s, hs64⟩ ⟨2 ^ v, Nat.pow_lt_pow_right (a := 2) (m := v) (n := 6) (by decide) hv6⟩
 simp only [Int.toNat_natCast] at hb hm hF ⊢
 have h2 : 2 ^ v < 64 := Nat.pow_lt_pow_right (a := 2) (by decide) hv6
 have e : (2 ^ v : Int) = ((2 ^ v : Nat) : Int) := by rw [Int.natCast_pow]; try rfl
 have hlt2 : nwN p o k v < 64 := by omega
 rw [e]
 generalize hP : 2 ^ v = P at *
 have e3 : bNot .i64 (s : Int) (1 * (P : Int)) = ((mns s P : Nat) : Int) := by
   rw [Int.one_mul, bNot_nat (by omega) (by omega)]
 have e4 : bOr .i64 (nwN p o k v : Nat) (1 * (P : Int)) = ((nwN p o k v ||| P : Nat) : Int) := by
   rw [Int.one_mul, bOr_nat (by omega) (by omega)]
 have hsh : (0 ≤ (v : Int) ∧ (v : Int) < bitsOf .i64) ∧ -9223372036854775808 ≤ 1 * (P : Int) ∧ 1 * (P : Int) ≤ 9223372036854775807 := ⟨⟨by omega, by simp only [bitsOf]; omega⟩, by omega, by omega⟩
 have hu : inR .u64 (v : Int) := by simp only [inR]; omega
 have hx : idxPre (o.getD k 0) p.length := by unfold idxPre; omega
 have hnx : ∀ z : Int, z = (nwN p o k (v + 1) : Nat) → inR .i64 ((v : Int) + 1) ∧ ∃ y, (y ≤ n.toNat ∧ n.toNat - y < n.toNat - v) ∧ z = ((nwN p o k y : Nat) : Int) ∧ (v : Int) + 1 = (y : Int) := fun z hz => ⟨by simp only [inR]; omega, v + 1, ⟨by omega, by omega⟩, hz, by omega⟩
 have hcut : cutL o none (some (k : Int)) = o.take k := by simp [cutL]
 rw [e3, e4, hcut]
 have hpre : pre59n ((mns s P : Nat) : Int) p (o.take k) := ⟨hok, ⟨by omega, by omega⟩, fun j hj => h.ho j (List.mem_of_mem_take hj), by simp; omega⟩
 have hF2 : nwF p o k v = true ↔ (s / P % 2 = 1 ∧ nwA ((mns s P : Nat) : Int) p (o.take k) = true) := by rw [hF, Bool.and_eq_true, decide_eq_true_eq]
 refine ⟨hx, hu, hsh, hx, fun h5 => ⟨by unfold slPre; omega, hpre, fun h6 => ⟨hu, hsh, hnx _ ?_⟩, fun h6 => hnx _ ?_⟩, fun h5 => hnx _ ?_⟩
 · have : s / P % 2 = 1 := by
     have : ¬ mns s P = s := by omega
     rw [hb] at this; omega
   rw [hN, if_pos (hF2.mpr ⟨this, h6⟩)]
 · rw [hN, if_neg (fun h => by rw [(hF2.mp h).2] at h6; cases h6)]
 · have : mns s P = s := by omega
   rw [hb] at this
   rw [hN, if_neg (fun h => by have := (hF2.mp h).1; omega)]
def jt43 (n : Int) (p o : List Int) (k v : Nat) : St := ⟨hd43 n o (.own 1 0) ++ .int .i64 k :: .int .i64 (o.getD k 0) :: .int .i64 (nwN p o k v : Nat) :: dd 15 ++ .sl I64 o :: .int .i64 o.length :: .int .i64 k :: dd 4 ++ .int .i64 n :: .int .i64 v :: dd 35, [.bx (.sl I64 p), .sc 0 3 I64 (nwL n p o k)]⟩
def ejt43 (n : Int) (p o : List Int) (k : Nat) : List (List Nat × Ex) := [([0, 2, 4, 10, 13, 29, 30, 31], ⟨2, Unit, fun _ => True, fun _ => ⟨hd43 n o (.own 1 0) ++ dd 2 ++ .int .i64 (nwN p o k n.toNat : Nat) :: dd 15 ++ .sl I64 o :: .int .i64 o.length :: .int .i64 k :: dd 41, [.bx (.sl I64 p), .sc 0 3 I64 (nwL n p o k)]⟩⟩)]
def ht43 (n : Int) (p o : List Int) (k : Nat) : Hint := ⟨chk 0 [0, 2, 4, 10, 11, 12, 13, 29, 30, 31, 36, 37] (fun v => v ≤ n.toNat) (jt43 n p o k), (ejt43 n p o k).map (·.2)⟩
theorem loop43t (n : Int) (p o : List Int) (k : Nat) (h : ok43 n p o) (hk : k < o.length) (R : Exit → St → Prop) : LoopOK X43 L43_2 (ht43 n p o k) R := by
 refine loop_ok (Xd_ok _ _) (H := fun _ _ => none) [0, 2, 4, 10, 11, 12, 13, 29, 30, 31, 36, 37] (fun v => v ≤ n.toNat) (jt43 n p o k) (fun v => n.toNat - v) (ejt43 n p o k) 150 fun (v : Nat) hv => ?_
 refine of_eq (q := True ∧ ((v : Int) < n → True ∧ True ∧ True ∧ True ∧ idxPre (o.getD k (0 : Int)) p.length ∧ True ∧ True ∧ inR .u64 (v : Int) ∧ (((0 : Int) ≤ (v : Int) ∧ (v : Int) < bitsOf .i64) ∧ (-9223372036854775808 : Int) ≤ 1 * 2 ^ v ∧ (1 : Int) * 2 ^ v ≤ 9223372036854775807) ∧ True ∧ True ∧ True ∧ True ∧ true = true ∧ True ∧ true = true ∧ True ∧ true = true ∧ idxPre (o.getD k (0 : Int)) p.length ∧ true = true ∧ True ∧ true = true ∧ True ∧ true = true ∧ True ∧ true = true ∧ (¬bNot .i64 (p.getD (o.getD k (0 : Int)).toNat (0 : Int)) ((1 : Int) * 2 ^ v) = p.getD (o.getD k (0 : Int)).toNat (0 : Int) → True ∧ true = true ∧ True ∧ true = true ∧ slPre o.length o.length none (some (k : Int)) none ∧ true = true ∧ True ∧ true = true ∧ ((pre59n (bNot .i64 (p.getD (o.getD k (0 : Int)).toNat (0 : Int)) ((1 : Int) * 2 ^ v)) p (cutL o none (some (k : Int))) ∧ (cutL o none (some (k : Int)) = cutL o none (some (k : Int)) ∧ (True ∧ True ∧ True ∧ True) ∧ True) ∧ bNot .i64 (p.getD (o.getD k (0 : Int)).toNat (0 : Int)) ((1 : Int) * 2 ^ v) = bNot .i64 (p.getD (o.getD k (0 : Int)).toNat (0 : Int)) ((1 : Int) * 2 ^ v) ∧ p = p ∧ True) ∧ True ∧ True ∧ True) ∧ True ∧ True ∧ True ∧ (nwA (bNot .i64 (p.getD (o.getD k (0 : Int)).toNat (0 : Int)) ((1 : Int) * 2 ^ v)) p (cutL o none (some (k : Int))) = true → True ∧ True ∧ inR .u64 (v : Int) ∧ (((0 : Int) ≤ (v : Int) ∧ (v : Int) < bitsOf .i64) ∧ (-9223372036854775808 : Int) ≤ 1 * 2 ^ v ∧ (1 : Int) * 2 ^ v ≤ 9223372036854775807) ∧ True ∧ True ∧ inR .i64 ((v : Int) + 1) ∧ True ∧ ∃ (y : Nat), (y ≤ n.toNat ∧ n.toNat - y < n.toNat - v) ∧ (n = n ∧ o = o ∧ True ∧ True ∧ (k : Int) = (k : Int) ∧ o.getD k (0 : Int) = o.getD k (0 : Int) ∧ bOr .i64 (↑(nwN p o k v) : Int) ((1 : Int) * 2 ^ v) = (↑(nwN p o k y) : Int) ∧ o = o ∧ (o.length : Int) = (o.length : Int) ∧ (k : Int) = (k : Int) ∧ n = n ∧ (v : Int) + 1 = (y : Int) ∧ True) ∧ p = p ∧ nwL n p o k = nwL n p o k ∧ True) ∧ (nwA (bNot .i64 (p.getD (o.getD k (0 : Int)).toNat (0 : Int)) ((1 : Int) * 2 ^ v)) p (cutL o none (some (k : Int))) = false → inR .i64 ((v : Int) + 1) ∧ True ∧ ∃ (y : Nat), (y ≤ n.toNat ∧ n.toNat - y < n.toNat - v) ∧ (n = n ∧ o = o ∧ True ∧ True ∧ (k : Int) = (k : Int) ∧ o.getD k (0 : Int) = o.getD k (0 : Int) ∧ (↑(nwN p o k v) : Int) = (↑(nwN p o k y) : Int) ∧ o = o ∧ (o.length : Int) = (o.length : Int) ∧ (k : Int) = (k : Int) ∧ n = n ∧ (v : Int) + 1 = (y : Int) ∧ True) ∧ p = p ∧ nwL n p o k = nwL n p o k ∧ True)) ∧ (¬¬bNot .i64 (p.getD (o.getD k (0 : Int)).toNat (0 : Int)) ((1 : Int) * 2 ^ v) = p.getD (o.getD k (0 : Int)).toNat (0 : Int) → True ∧ True ∧ True ∧ inR .i64 ((v : Int) + 1) ∧ True ∧ ∃ (y : Nat), (y ≤ n.toNat ∧ n.toNat - y < n.toNat - v) ∧ (n = n ∧ o = o ∧ True ∧ True ∧ (k : Int) = (k : Int) ∧ o.getD k (0 : Int) = o.getD k (0 : Int) ∧ (↑(nwN p o k v) : Int) = (↑(nwN p o k y) : Int) ∧ o = o ∧ (o.length : Int) = (o.length : Int) ∧ (k : Int) = (k : Int) ∧ n = n ∧ (v : Int) + 1 = (y : Int) ∧ True) ∧ p = p ∧ nwL n p o k = nwL n p o k ∧ True)) ∧ (¬(v : Int) < n → ∃ (y : Unit), True ∧ (n = n ∧ o = o ∧ True ∧ True ∧ (↑(nwN p o k v) : Int) = (↑(nwN p o k n.toNat) : Int) ∧ o = o ∧ (o.length : Int) = (o.length : Int) ∧ (k : Int) = (k : Int) ∧ True) ∧ p = p ∧ nwL n p o k = nwL n p o k ∧ True)) (by kernel_rfl) ?_
 simp only [zz]
 have hv : v ≤ n.toNat := hv
 obtain ⟨n1, n2⟩ := h.hc.1
 have hok := h.hc.ok
 have hj := h.ho _ (mem_getD (d := 0) hk)
 have hF : nwF p o k v = (decide ((p.getD (o.getD k 0).toNat 0).toNat / 2 ^ v % 2 = 1) && nwA ((mns (p.getD (o.getD k 0).toNat 0).toNat (2 ^ v) : Nat) : Int) p (o.take k)) := rfl
 have hN : nwN p o k (v + 1) = if nwF p o k v = true then nwN p o k v ||| 2 ^ v else nwN p o k v := rfl
 have hlt := nwN_lt p o k v
 have hf := okL_get hok (o.getD k 0).toNat
 have hle := h.hl
 refine ⟨fun h3 => ?_, fun h3 => by rw [show v = n.toNat by omega]⟩
 have hv6 : v < 6 := by omega
 obtain ⟨s, hs⟩ : ∃ s : Nat, p.getD (o.getD k 0).toNat 0 = s := ⟨(p.getD (o.getD k 0).toNat 0).toNat, by omega⟩
 rw [hs] at hf hF ⊢
 have hs64 : s < 64 := by omega
 have hb := nw_bit ⟨s, hs64⟩ ⟨v, hv6⟩
 have hm := mns_lt ⟨s, hs64⟩ ⟨2 ^ v, Nat.pow_lt_pow_right (a := 2) (m := v) (n := 6) (by decide) hv6⟩
 simp only [Int.toNat_natCast] at hb hm hF ⊢
 have h2 : 2 ^ v < 64 := Nat.pow_lt_pow_right (a := 2) (by decide) hv6
 have e : (2 ^ v : Int) = ((2 ^ v : Nat) : Int) := by rw [Int.natCast_pow]; try rfl
 have hlt2 : nwN p o k v < 64 := by omega
 rw [e]
 generalize hP : 2 ^ v = P at *
 have e3 : bNot .i64 (s : Int) (1 * (P : Int)) = ((mns s P : Nat) : Int) := by
   rw [Int.one_mul, bNot_nat (by omega) (by omega)]
 have e4 : bOr .i64 (nwN p o k v : Nat) (1 * (P : Int)) = ((nwN p o k v ||| P : Nat) : Int) := by
   rw [Int.one_mul, bOr_nat (by omega) (by omega)]
 have hsh : (0 ≤ (v : Int) ∧ (v : Int) < bitsOf .i64) ∧ -9223372036854775808 ≤ 1 * (P : Int) ∧ 1 * (P : Int) ≤ 9223372036854775807 := ⟨⟨by omega, by simp only [bitsOf]; omega⟩, by omega, by omega⟩
 have hu : inR .u64 (v : Int) := by simp only [inR]; omega
 have hx : idxPre (o.getD k 0) p.length := by unfold idxPre; omega
 have hnx : ∀ z : Int, z = (nwN p o k (v + 1) : Nat) → inR .i64 ((v : Int) + 1) ∧ ∃ y, (y ≤ n.toNat ∧ n.toNat - y < n.toNat - v) ∧ z = ((nwN p o k y : Nat) : Int) ∧ (v : Int) + 1 = (y : Int) := fun z hz => ⟨by simp only [inR]; omega, v + 1, ⟨by omega, by omega⟩, hz, by omega⟩
 have hcut : cutL o none (some (k : Int)) = o.take k := by simp [cutL]
 rw [e3, e4, hcut]
 have hpre : pre59n ((mns s P : Nat) : Int) p (o.take k) := ⟨hok, ⟨by omega, by omega⟩, fun j hj => h.ho j (List.mem_of_mem_take hj), by simp; omega⟩
 have hF2 : nwF p o k v = true ↔ (s / P % 2 = 1 ∧ nwA ((mns s P : Nat) : Int) p (o.take k) = true) := by rw [hF, Bool.and_eq_true, decide_eq_true_eq]
 have hF2 : nwF p o k v = true ↔ (s / P % 2 = 1 ∧ nwA ((mns s P : Nat) : Int) p (o.take k) = true) := by rw [hF, Bool.and_eq_true, decide_eq_true_eq]
 refine ⟨hx, hu, hsh, hx, fun h5 => ⟨by unfold slPre; omega, hpre, fun h6 => ⟨hu, hsh, hnx _ ?_⟩, fun h6 => hnx _ ?_⟩, fun h5 => hnx _ ?_⟩
 · have : s / P % 2 = 1 := by
     have : ¬ mns s P = s := by omega
     rw [hb] at this; omega
   rw [hN, if_pos (hF2.mpr ⟨this, h6⟩)]
 · rw [hN, if_neg (fun h => by rw [(hF2.mp h).2] at h6; cases h6)]
 · have : mns s P = s := by omega
   rw [hb] at this
   rw [hN, if_neg (fun h => by have := (hF2.mp h).1; omega)]
def sz43 (n : Int) (p o : List Int) (_ : Unit) : St := ⟨hd43 n o nl ++ dd 18 ++ .sl I64 o :: .int .i64 o.length :: .int .i64 0 :: dd 41, [.bx (.sl I64 p)]⟩
def st43 (n : Int) (p o : List Int) (k : Nat) : St := ⟨hd43 n o (.own 1 0) ++ dd 18 ++ .sl I64 o :: .int .i64 o.length :: .int .i64 k :: dd 41, [.bx (.sl I64 p), .sc 0 3 I64 (nwL n p o k)]⟩
def fm43 (n : Int) (p o : List Int) : List Fam := [⟨Unit, fun _ => True, sz43 n p o, fun _ => 20, fun _ _ => some (hz43 n p o 0)⟩, ⟨Nat, fun k => k ≤ o.length, st43 n p o, fun k => o.length - k, fun k _ => some (ht43 n p o k)⟩]
def ex43 (n : Int) (p o : List Int) : List (List Nat × Ex) := [([10], ⟨0, Unit, fun _ => o.length = 0, fun _ => ⟨dd 10 ++ nl :: dd 62, []⟩⟩), ([10], ⟨0, Unit, fun _ => True, fun _ => ⟨dd 10 ++ .own 0 0 :: dd 62, [.sc 0 3 I64 (nwL n p o o.length)]⟩⟩)]
def h43 (n : Int) (p o : List Int) : Hint := ⟨chks 0 [0, 2, 4, 10, 29, 30, 31] (fm43 n p o), (ex43 n p o).map (·.2)⟩
theorem nwL_step (n : Int) (p o : List Int) (k : Nat) : nwL n p o (k + 1) = nwL n p o k ++ [((nwN p o k n.toNat : Nat) : Int)] := by
 unfold nwL
 rw [List.range_succ, List.map_append]; try rfl
theorem nwL_len (n : Int) (p o : List Int) (k : Nat) : (nwL n p o k).length = k := by unfold nwL; simp
theorem loop43 (n : Int) (p o : List Int) (h : ok43 n p o) (R : Exit → St → Prop) : LoopOK X43 L43_0 (h43 n p o) R := by
 have hle := h.hl
 refine loop_fams (Xd_ok _ _) [0, 2, 4, 10, 29, 30, 31] (fm43 n p o) (ex43 n p o) 150 ⟨fun _ _ => ?_, fun (k : Nat) hk => ?_, trivial⟩
 · have hL := fun hh => loop43z n p o 0 h hh (bodyR 0 (ex43 n p o) R)
   refine of_eq (q := True ∧ ((0 : Int) < (o.length : Int) → True ∧ idxPre (0 : Int) o.length ∧ True ∧ True ∧ True ∧ True ∧ True ∧ True ∧ LoopOK X43 L43_2 (hz43 n p o (0 : Nat)) (bodyR (0 : Nat) (ex43 n p o) R) ∧ (∃ (y : Nat), y ≤ n.toNat ∧ (n = n ∧ o = o ∧ True ∧ True ∧ (0 : Int) = 0 ∧ o.getD (0 : Nat) (0 : Int) = o.getD (0 : Nat) (0 : Int) ∧ (0 : Int) = (↑(nwN p o (0 : Nat) y) : Int) ∧ o = o ∧ (o.length : Int) = (o.length : Int) ∧ (0 : Int) = 0 ∧ n = n ∧ (0 : Int) = (y : Int) ∧ True) ∧ p = p ∧ True) ∧ (∀ (y : Unit), True → True ∧ True ∧ True ∧ sumPre (0 : Nat) [(↑(nwN p o (0 : Nat) n.toNat) : Int)].length (nat_lit 8) ∧ True ∧ inR .i64 (1 : Int) ∧ True ∧ ((∃ (y : Unit), (True ∧ (20 : Nat) < 20) ∧ (n = n ∧ o = o ∧ True ∧ False ∧ o = o ∧ (o.length : Int) = (o.length : Int) ∧ (1 : Int) = 0 ∧ True) ∧ p = p ∧ True) ∨ ∃ (y : Nat), (y ≤ o.length ∧ o.length - y < 20) ∧ (n = n ∧ o = o ∧ True ∧ True ∧ o = o ∧ (o.length : Int) = (o.length : Int) ∧ (1 : Int) = (y : Int) ∧ True) ∧ p = p ∧ [(↑(nwN p o (0 : Nat) n.toNat) : Int)] = nwL n p o y ∧ True)) ∧ True) ∧ (¬(0 : Int) < (o.length : Int) → (∃ (y : Unit), o.length = 0 ∧ (True ∧ True) ∧ True) ∨ ∃ (y : Unit), True ∧ (False ∧ True) ∧ False)) (by kernel_rfl) ?_
   simp only [zz]
   exact ⟨fun h => ⟨by unfold idxPre; omega, hL (by omega), ⟨0, by omega, rfl, rfl⟩, fun _ _ => ⟨by unfold sumPre; simp, by simp only [inR]; omega, 1, ⟨by omega, by omega⟩, rfl, rfl⟩⟩, fun h => by omega⟩
 · have hL := fun hh => loop43t n p o k h hh (bodyR 0 (ex43 n p o) R)
   refine of_eq (q := True ∧ ((k : Int) < (o.length : Int) → True ∧ idxPre (k : Int) o.length ∧ True ∧ True ∧ True ∧ True ∧ True ∧ True ∧ LoopOK X43 L43_2 (ht43 n p o k) (bodyR (0 : Nat) (ex43 n p o) R) ∧ (∃ (y : Nat), y ≤ n.toNat ∧ (n = n ∧ o = o ∧ True ∧ True ∧ (k : Int) = (k : Int) ∧ o.getD k (0 : Int) = o.getD k (0 : Int) ∧ (0 : Int) = (↑(nwN p o k y) : Int) ∧ o = o ∧ (o.length : Int) = (o.length : Int) ∧ (k : Int) = (k : Int) ∧ n = n ∧ (0 : Int) = (y : Int) ∧ True) ∧ p = p ∧ nwL n p o k = nwL n p o k ∧ True) ∧ (∀ (y : Unit), True → True ∧ True ∧ True ∧ sumPre (nwL n p o k).length [(↑(nwN p o k n.toNat) : Int)].length (nat_lit 8) ∧ True ∧ inR .i64 ((k : Int) + 1) ∧ True ∧ ((∃ (y : Unit), (True ∧ (20 : Nat) < o.length - k) ∧ (n = n ∧ o = o ∧ True ∧ False ∧ o = o ∧ (o.length : Int) = (o.length : Int) ∧ (k : Int) + 1 = 0 ∧ True) ∧ p = p ∧ True) ∨ ∃ (y : Nat), (y ≤ o.length ∧ o.length - y < o.length - k) ∧ (n = n ∧ o = o ∧ True ∧ True ∧ o = o ∧ (o.length : Int) = (o.length : Int) ∧ (k : Int) + 1 = (y : Int) ∧ True) ∧ p = p ∧ nwL n p o k ++ [(↑(nwN p o k n.toNat) : Int)] = nwL n p o y ∧ True)) ∧ True) ∧ (¬(k : Int) < (o.length : Int) → (∃ (y : Unit), o.length = 0 ∧ (False ∧ True) ∧ True) ∨ ∃ (y : Unit), True ∧ (True ∧ True) ∧ nwL n p o k = nwL n p o o.length ∧ True)) (by kernel_rfl) ?_
   simp only [zz]
   have hk : k ≤ o.length := hk
   have hl := nwL_len n p o k
   exact ⟨fun h => ⟨idx_nat (by omega), hL (by omega), ⟨0, by omega, rfl, rfl⟩, fun _ _ => ⟨by unfold sumPre; simp; omega, by simp only [inR]; omega, k + 1, ⟨by omega, by omega⟩, by omega, (nwL_step _ _ _ _).symm⟩⟩, fun h => by rw [show k = o.length by omega]⟩
theorem call43 (n : Int) (p o : List Int) (h : ok43 n p o) (hs : sgR p o = true) : GCall Try.prog gl 43 false [.int .i64 n, .sl I64 p, .sl I64 o] [] [.sl I64 (nwL n p o o.length), .int .i64 0] [] := by
 have hL := loop43 n p o h
 refine gcall_of (X := X43) ((Xd_ok _ _)) (f := 43) (fn := Try.f43) (c := bodyOf Try.f43) (by kernel_rfl) (by kernel_rfl) (view := true) (rvs := [.tmp 6, .tmp 7]) (by kernel_rfl) (H := (fun _ => some (h43 n p o))) 150 (by kernel_rfl) ?_
 refine of_eq (q := True ∧ True ∧ True ∧ True ∧ True ∧ (CxP n p ∧ True) ∧ True ∧ True ∧ True ∧ True ∧ True ∧ True ∧ True ∧ (¬(0 : Int) = 0 → True ∧ True ∧ True ∧ True ∧ (([] : List Int) = nwL n p o o.length ∧ (0 : Int) = 0 ∧ True) ∧ True) ∧ (¬¬(0 : Int) = 0 → True ∧ True ∧ ((ok73 (o, n, p, mk (isF p)) ∧ (True ∧ o = o ∧ True) ∧ (n = n ∧ p = p ∧ mk (isF p) = mk (isF p) ∧ True) ∧ True) ∧ True ∧ True) ∧ True ∧ ((!sgR p o) = true → True ∧ True ∧ True ∧ (([] : List Int) = nwL n p o o.length ∧ (1 : Int) = 0 ∧ True) ∧ True) ∧ ((!sgR p o) = false → True ∧ True ∧ True ∧ True ∧ LoopOK X43 L43_0 (h43 n p o) (RetR X43 false true [ResultVar.tmp (6 : Tmp), ResultVar.tmp (7 : Tmp)] [AV.sl I64 (nwL n p o o.length), AV.int .i64 (0 : Int)] []) ∧ ((∃ (y : Unit), True ∧ (n = n ∧ o = o ∧ True ∧ True ∧ o = o ∧ (o.length : Int) = (o.length : Int) ∧ (0 : Int) = 0 ∧ True) ∧ p = p ∧ True) ∨ ∃ (y : Nat), y ≤ o.length ∧ (n = n ∧ o = o ∧ True ∧ False ∧ o = o ∧ (o.length : Int) = (o.length : Int) ∧ (0 : Int) = (y : Int) ∧ True) ∧ p = p ∧ False) ∧ (∀ (y : Unit), o.length = 0 → True ∧ True ∧ True ∧ True ∧ (([] : List Int) = nwL n p o o.length ∧ (0 : Int) = 0 ∧ True) ∧ True) ∧ (∀ (y : Unit), True → True ∧ True ∧ True ∧ True ∧ (nwL n p o o.length = nwL n p o o.length ∧ (0 : Int) = 0 ∧ True) ∧ True) ∧ True))) (by kernel_rfl) ?_
 simp only [zz]
 refine ⟨⟨h.hc⟩, fun hx => absurd trivial hx, fun _ => ⟨⟨⟨h.hc, rfl⟩, by have := h.hl; simp only; omega⟩, fun hx => (by rw [hs] at hx; cases hx), fun _ => ⟨hL _, fun _ h0 => ?_, fun _ _ => trivial⟩⟩⟩
 rw [h0]; try rfl
theorem sg_okO {p o : List Int} (h : sgR p o = true) : okO p o ∧ o.length = p.length := by
 have h' := h
 unfold sgR at h
 rw [Bool.and_eq_true, Bool.and_eq_true, decide_eq_true_eq] at h
 refine ⟨fun j hj => ?_, h.1.2⟩
 obtain ⟨k, hk, rfl⟩ := List.getElem_of_mem hj
 have hb : sgB p (o.getD k 0) = true := by
   cases hb : sgB p (o.getD k 0) with
   | true => rfl
   | false =>
     have hn : sgK p o (k + 1) = none := by
       cases hD : sgK p o k with
       | none => rw [sgK, hD]; try rfl
       | some D =>
         have : sgK p o (k + 1) = if sgB p (o.getD k 0) = true ∧ D / 2 ^ (o.getD k 0).toNat % 2 = 0 ∧ nxB p D (o.getD k 0).toNat = true then some (D ||| 2 ^ (o.getD k 0).toNat) else none := by rw [sgK, hD]; try rfl
         rw [this, if_neg (fun hc => by rw [hb] at hc; cases hc.1)]
     rw [sg_bad hk hn] at h'; cases h'
 unfold sgB at hb
 rw [getD_lt hk] at hb
 exact of_decide_eq_true hb
theorem call43y (n : Int) (p o : List Int) (h : cxOk n p ∧ o.length < 1000000000000000) (hs : sgR p o = false) : GCall Try.prog gl 43 false [.int .i64 n, .sl I64 p, .sl I64 o] [] [.sl I64 [], .int .i64 1] [] := by
 have hL := fun (hh : ok43 n p o) R => loop43 n p o hh R
 refine gcall_of (X := X43) ((Xd_ok _ _)) (f := 43) (fn := Try.f43) (c := bodyOf Try.f43) (by kernel_rfl) (by kernel_rfl) (view := true) (rvs := [.tmp 6, .tmp 7]) (by kernel_rfl) (H := (fun _ => some (h43 n p o))) 150 (by kernel_rfl) ?_
 refine of_eq (q := True ∧ True ∧ True ∧ True ∧ True ∧ (CxP n p ∧ True) ∧ True ∧ True ∧ True ∧ True ∧ True ∧ True ∧ True ∧ (¬(0 : Int) = 0 → True ∧ True ∧ True ∧ True ∧ (([] : List Int) = [] ∧ (0 : Int) = 1 ∧ True) ∧ True) ∧ (¬¬(0 : Int) = 0 → True ∧ True ∧ ((ok73 (o, n, p, mk (isF p)) ∧ (True ∧ o = o ∧ True) ∧ (n = n ∧ p = p ∧ mk (isF p) = mk (isF p) ∧ True) ∧ True) ∧ True ∧ True) ∧ True ∧ ((!sgR p o) = true → True ∧ True ∧ True ∧ (([] : List Int) = [] ∧ (1 : Int) = 1 ∧ True) ∧ True) ∧ ((!sgR p o) = false → True ∧ True ∧ True ∧ True ∧ LoopOK X43 L43_0 (h43 n p o) (RetR X43 false true [ResultVar.tmp (6 : Tmp), ResultVar.tmp (7 : Tmp)] [AV.sl I64 [], AV.int .i64 (1 : Int)] []) ∧ ((∃ (y : Unit), True ∧ (n = n ∧ o = o ∧ True ∧ True ∧ o = o ∧ (o.length : Int) = (o.length : Int) ∧ (0 : Int) = 0 ∧ True) ∧ p = p ∧ True) ∨ ∃ (y : Nat), y ≤ o.length ∧ (n = n ∧ o = o ∧ True ∧ False ∧ o = o ∧ (o.length : Int) = (o.length : Int) ∧ (0 : Int) = (y : Int) ∧ True) ∧ p = p ∧ False) ∧ (∀ (y : Unit), o.length = 0 → True ∧ True ∧ True ∧ True ∧ (([] : List Int) = [] ∧ (0 : Int) = 1 ∧ True) ∧ True) ∧ (∀ (y : Unit), True → True ∧ True ∧ True ∧ True ∧ (nwL n p o o.length = [] ∧ (0 : Int) = 1 ∧ True) ∧ True) ∧ True))) (by kernel_rfl) ?_
 simp only [zz]
 exact ⟨⟨h.1⟩, fun hx => absurd trivial hx, fun _ => ⟨⟨⟨h.1, rfl⟩, h.2⟩, fun _ => trivial, fun hx => (by rw [hs] at hx; cases hx)⟩⟩
def nsR (n : Int) (p o : List Int) : List Int := if sgR p o = true then nwL n p o o.length else []
def nsE (p o : List Int) : Int := if sgR p o = true then 0 else 1
theorem call43g (n : Int) (p o : List Int) (h : cxOk n p ∧ o.length < 1000000000000000) : GCall Try.prog gl 43 false [.int .i64 n, .sl I64 p, .sl I64 o] [] [.sl I64 (nsR n p o), .int .i64 (nsE p o)] [] := by
 unfold nsR nsE
 cases hs : sgR p o with
 | true =>
   obtain ⟨h1, h2⟩ := sg_okO hs
   exact call43 n p o ⟨h.1, h1, by have := h.1.2.1; omega⟩ hs
 | false => exact call43y n p o h hs
def e43 : Entry Try.prog gl := entry3 43 ⟨Try.f43, by kernel_rfl, by kernel_rfl, by kernel_rfl⟩ I64 SI SI (fun (n : Int) p o => cxOk n p ∧ (o : List Int).length < 1000000000000000) false (fun (n : Int) p o => [.sl I64 (nsR n p o), .int .i64 (nsE p o)]) (fun _ _ _ => []) (fun (n : Int) p o h => call43g n p o h)
end Go.Am.Sh

/- Shells: News, as the reference finds them. -/
namespace Go.Am.Sh
open Go Go.Am Go.Proofs
def nwL6 (p o : List Int) (k : Nat) : List Int := (List.range k).map fun k => ((nwN p o k 6 : Nat) : Int)
theorem nwL6_step (p o : List Int) (k : Nat) : nwL6 p o (k + 1) = nwL6 p o k ++ [((nwN p o k 6 : Nat) : Int)] := by
 unfold nwL6
 rw [List.range_succ, List.map_append]; try rfl
theorem nwL6_len (p o : List Int) (k : Nat) : (nwL6 p o k).length = k := by unfold nwL6; simp
theorem nwN_top {p o : List Int} {n k : Nat} (hn : n ≤ 6) (hf : (p.getD (o.getD k 0).toNat 0).toNat < 2 ^ n) (h64 : (p.getD (o.getD k 0).toNat 0).toNat < 64) : ∀ d, n + d ≤ 6 → nwN p o k (n + d) = nwN p o k n
 | 0, _ => rfl
 | d + 1, h => by
   have ih := nwN_top hn hf h64 d (by omega)
   have hb := row_hi ⟨_, h64⟩ ⟨n, by omega⟩ hf ⟨n + d, by omega⟩ (by simp)
   simp only at hb
   rw [← Nat.add_assoc, nwN, if_neg, ih]
   unfold nwF
   rw [hb]; simp
theorem nwL_eq {n : Int} {p o : List Int} (h : cxOk n p) (ho : okO p o) : nwL n p o o.length = nwL6 p o o.length := by
 unfold nwL nwL6
 refine List.map_congr_left fun k hk => ?_
 rw [List.mem_range] at hk
 have hj := ho _ (mem_getD (d := 0) hk)
 obtain ⟨n1, n2⟩ := h.1
 obtain ⟨e1, e2, e3⟩ := numOk_pow h.1
 have hf := (h.2.2 (o.getD k 0).toNat (by omega)).2.1
 have h64 := okL_get h.ok (o.getD k 0).toNat
 have := nwN_top (p := p) (o := o) (n := n.toNat) (k := k) (by omega) (by omega) (by omega) (6 - n.toNat) (by omega)
 rw [show n.toNat + (6 - n.toNat) = 6 by omega] at this
 rw [this]
end Go.Am.Sh

/- Shells: the law of the orders. -/
namespace Go.Am.Sh
open Go Go.Am Go.Proofs
end Go.Am.Sh

/- Shells: the rank of rows, as the reference finds it. -/
namespace Go.Am.Sh
open Go Go.Am Go.Proofs
end Go.Am.Sh

/- Shells: the borders, as the reference finds them. -/
namespace Go.Am.Sh
open Go Go.Am Go.Proofs
end Go.Am.Sh

/- Shells: the hollow numbers, as the reference finds them. -/
namespace Go.Am.Sh
open Go Go.Am Go.Proofs
end Go.Am.Sh

/- Shells: Link. -/
namespace Go.Am.Sh
open Go Go.Am Go.Proofs
end Go.Am.Sh

/- Shells: the reference's Link. -/
namespace Go.Am.Sh
open Go Go.Am Go.Proofs
end Go.Am.Sh

/- Shells: the reference's Dual. -/
namespace Go.Am.Sh
open Go Go.Am Go.Proofs
end Go.Am.Sh

/- Shells: links and duals, plain facts. -/
namespace Go.Am.Sh
open Go Go.Am Go.Proofs
theorem sub_iff {a b : Nat} : sub a b = true ↔ a &&& b = a := by
 unfold sub
 exact ⟨Nat.eq_of_beq_eq_true, fun h => by rw [h]; exact Nat.beq_refl a⟩
theorem sub_trans {a b c : Nat} (h1 : sub a b = true) (h2 : sub b c = true) : sub a c = true := by
 rw [sub_iff] at *
 rw [← h1, Nat.and_assoc, h2]
end Go.Am.Sh

/- Shells: the new parts of a shelling and the h-list, plain facts. -/
namespace Go.Am.Sh
open Go Go.Am Go.Proofs
theorem sgK_all {p o : List Int} (h : (sgK p o o.length).isSome = true) {j : Nat} (hj : j ≤ o.length) : ∃ D, sgK p o j = some D := by
 cases hD : sgK p o j with
 | some D => exact ⟨D, rfl⟩
 | none =>
   have := sg_none hD (o.length - j)
   rw [show j + (o.length - j) = o.length by omega] at this
   rw [this] at h; cases h
theorem sgK_at {p o : List Int} {j D D' : Nat} (h : sgK p o j = some D) (h' : sgK p o (j + 1) = some D') : (0 ≤ o.getD j 0 ∧ o.getD j 0 < p.length) ∧ D / 2 ^ (o.getD j 0).toNat % 2 = 0 ∧ nxB p D (o.getD j 0).toNat = true ∧ D' = D ||| 2 ^ (o.getD j 0).toNat := by
 have : sgK p o (j + 1) = if sgB p (o.getD j 0) = true ∧ D / 2 ^ (o.getD j 0).toNat % 2 = 0 ∧ nxB p D (o.getD j 0).toNat = true then some (D ||| 2 ^ (o.getD j 0).toNat) else none := by rw [sgK, h]; try rfl
 rw [this] at h'
 split at h'
 · rename_i hc
   injection h' with h'
   exact ⟨of_decide_eq_true hc.1, hc.2.1, hc.2.2, h'.symm⟩
 · cases h'
theorem sgK_bits {p o : List Int} (hl : p.length ≤ 10) : ∀ {j D : Nat}, j ≤ o.length → sgK p o j = some D → D < 2 ^ p.length ∧ pcK D p.length = j ∧ ∀ e, D / 2 ^ e % 2 = 1 ↔ ∃ i, i < j ∧ (o.getD i 0).toNat = e
 | 0, D, _, h => by
   rw [sgK] at h; injection h with h; subst h
   refine ⟨Nat.pow_pos (by decide), pcK_zero _, fun e => ⟨fun h => by simp at h, fun ⟨i, h, _⟩ => absurd h (Nat.not_lt_zero _)⟩⟩
 | j + 1, D', hj, h => by
   obtain ⟨D, hD⟩ : ∃ D, sgK p o j = some D := by
     cases hD : sgK p o j with
     | some D => exact ⟨D, rfl⟩
     | none => rw [sg_none hD 1] at h; cases h
   obtain ⟨h1, h2, _, h4⟩ := sgK_at hD h
   obtain ⟨g1, g2, g3⟩ := sgK_bits hl (by omega) hD
   subst h4
   generalize hi : (o.getD j 0).toNat = i at *
   refine ⟨Nat.or_lt_two_pow g1 (Nat.pow_lt_pow_right (by decide) (by omega)), by rw [pcK_or h2, g2, if_pos (by omega)], fun e => ?_⟩
   rw [or_div h2]
   constructor
   · intro h
     by_cases hc : i = e
     · exact ⟨j, by omega, by rw [← hc, ← hi]⟩
     · rw [if_neg hc] at h
       obtain ⟨k, k1, k2⟩ := (g3 e).mp (by omega)
       exact ⟨k, by omega, k2⟩
   · rintro ⟨k, k1, k2⟩
     by_cases hk : k = j
     · subst hk
       have hc : i = e := by omega
       subst hc
       rw [if_pos rfl, h2]
     · have h3 := (g3 e).mpr ⟨k, by omega, k2⟩
       by_cases hc : i = e
       · subst hc; omega
       · rw [if_neg hc, h3]
theorem full_bit : ∀ L : Fin 11, ∀ e : Fin 11, e.val < L.val → (2 ^ L.val - 1) / 2 ^ e.val % 2 = 1 := by decide +kernel
theorem sg_onto {p o : List Int} (hl : p.length ≤ 10) (h : sgR p o = true) {e : Nat} (he : e < p.length) : ∃ i, i < o.length ∧ (o.getD i 0).toNat = e := by
 have h' := h
 unfold sgR at h
 rw [Bool.and_eq_true, Bool.and_eq_true, decide_eq_true_eq] at h
 obtain ⟨D, hD⟩ := sgK_all h.1.1 (Nat.le_refl _)
 obtain ⟨g1, g2, g3⟩ := sgK_bits hl (Nat.le_refl _) hD
 have hD1 : D < 1024 := Nat.lt_of_lt_of_le g1 (show 2 ^ p.length ≤ 2 ^ 10 from Nat.pow_le_pow_right (by decide) hl)
 have := full_of ⟨p.length, by omega⟩ ⟨D, hD1⟩ g1 (by simp only; rw [g2, h.1.2])
 simp only at this
 refine (g3 e).mp ?_
 rw [this]
 exact full_bit ⟨p.length, by omega⟩ ⟨e, by omega⟩ he
theorem fnd_iff {p : List Int} {D s e : Nat} : ∀ {g : Nat}, fnd p D s e g = true ↔ ∃ d, d < g ∧ D / 2 ^ d % 2 = 1 ∧ pc (mns s (p.getD d 0).toNat) = 1 ∧ mns s (p.getD d 0).toNat &&& e = 0
 | 0 => by simp [fnd]
 | g + 1 => by
   rw [fnd, Bool.or_eq_true, fnd_iff]
   simp only [Bool.and_eq_true, decide_eq_true_eq]
   constructor
   · rintro (⟨d, h1, h2⟩ | h)
     · exact ⟨d, by omega, h2⟩
     · exact ⟨g, by omega, h.1.1, h.1.2, h.2⟩
   · rintro ⟨d, h1, h2, h3, h4⟩
     by_cases e : d = g
     · subst e; exact .inr ⟨⟨h2, h3⟩, h4⟩
     · exact .inl ⟨d, by omega, h2, h3, h4⟩
theorem sub_bit {a b : Nat} : sub a b = true ↔ ∀ v, a.testBit v = true → b.testBit v = true := by
 rw [sub_iff]
 constructor
 · intro h v hv
   rw [← h, Nat.testBit_and] at hv
   exact (Bool.and_eq_true _ _ ▸ hv).2
 · intro h
   apply Nat.eq_of_testBit_eq
   intro v
   rw [Nat.testBit_and]
   cases ha : a.testBit v with
   | false => rfl
   | true => rw [h v ha]; try rfl
theorem pc_one : ∀ s : Fin 64, pc s.val = 1 → ∃ v : Fin 6, s.val = 2 ^ v.val := by decide +kernel
theorem bit_div (x v : Nat) : x.testBit v = true ↔ x / 2 ^ v % 2 = 1 := by
 rw [Nat.testBit_eq_decide_div_mod_eq, decide_eq_true_eq]
theorem nwN_bit {p o : List Int} {j : Nat} : ∀ {m v : Nat}, (nwN p o j m).testBit v = true ↔ v < m ∧ nwF p o j v = true
 | 0, v => by simp [nwN]
 | m + 1, v => by
   rw [nwN]
   split
   · rename_i h
     rw [Nat.testBit_or, Bool.or_eq_true, nwN_bit, Nat.testBit_two_pow, decide_eq_true_eq]
     constructor
     · rintro (⟨h1, h2⟩ | rfl)
       · exact ⟨by omega, h2⟩
       · exact ⟨by omega, h⟩
     · rintro ⟨h1, h2⟩
       by_cases e : m = v
       · exact .inr e
       · exact .inl ⟨by omega, h2⟩
   · rename_i h
     rw [nwN_bit]
     exact ⟨fun ⟨h1, h2⟩ => ⟨by omega, h2⟩, fun ⟨h1, h2⟩ => ⟨by
       refine Nat.lt_of_le_of_ne (by omega) fun e => ?_
       subst e; exact h h2, h2⟩⟩
theorem nwA_iff {w : Nat} {p o : List Int} {j : Nat} (hj : j ≤ o.length) : nwA (w : Int) p (o.take j) = true ↔ ∃ i, i < j ∧ sub w (p.getD (o.getD i 0).toNat 0).toNat = true := by
 unfold nwA
 rw [List.any_eq_true]
 constructor
 · rintro ⟨x, hx, h⟩
   obtain ⟨i, hi, rfl⟩ := List.getElem_of_mem hx
   rw [List.length_take] at hi
   refine ⟨i, by omega, ?_⟩
   rw [getD_lt (show i < o.length by omega)]
   rw [List.getElem_take] at h
   exact h
 · rintro ⟨i, hi, h⟩
   refine ⟨o.getD i 0, ?_, h⟩
   rw [getD_lt (by omega)]
   exact List.mem_take_iff_getElem.mpr ⟨i, by omega, rfl⟩
/-- The faces of the next piece that were there before are those without all of its new part. -/
theorem new_key {n : Int} {p o : List Int} (hp : cxOk n p) (h : sgR p o = true) {j : Nat} (hj : j < o.length) {x : Nat} (hx : sub x (p.getD (o.getD j 0).toNat 0).toNat = true) :
   nwA (x : Int) p (o.take j) = !sub (nwN p o j 6) x := by
 have h' := h
 unfold sgR at h
 rw [Bool.and_eq_true, Bool.and_eq_true, decide_eq_true_eq] at h
 obtain ⟨D, hD⟩ := sgK_all h.1.1 (show j ≤ o.length by omega)
 obtain ⟨D', hD'⟩ := sgK_all h.1.1 (show j + 1 ≤ o.length by omega)
 obtain ⟨h1, _, h3, _⟩ := sgK_at hD hD'
 obtain ⟨_, _, hbit⟩ := sgK_bits hp.2.1.2 (show j ≤ o.length by omega) hD
 have hok := okL_get hp.ok
 have hF := hok (o.getD j 0).toNat
 have hF2 : nwF p o j = fun v => (decide ((p.getD (o.getD j 0).toNat 0).toNat / 2 ^ v % 2 = 1) && nwA ((mns (p.getD (o.getD j 0).toNat 0).toNat (2 ^ v) : Nat) : Int) p (o.take j)) := rfl
 unfold nxB at h3
 have h3 := of_decide_eq_true h3
 unfold nxN at h3
 generalize hf : (p.getD (o.getD j 0).toNat 0).toNat = f at *
 have hf64 : f < 64 := by omega
 rw [Bool.eq_iff_iff, Bool.not_eq_true', ← Bool.not_eq_true]
 constructor
 · intro ha hs
   obtain ⟨i, hi, hxe⟩ := (nwA_iff (by omega)).mp ha
   have he := (hbit (o.getD i 0).toNat).mpr ⟨i, hi, rfl⟩
   have hio := (sg_okO h').1 _ (mem_getD (d := 0) (show i < o.length by omega))
   have hfn := h3 (o.getD i 0).toNat (by omega) he
   obtain ⟨d, d1, d2, d3, d4⟩ := fnd_iff.mp hfn
   have hd64 := hok d
   have hm := mns_lt ⟨f, hf64⟩ ⟨(p.getD d 0).toNat, by omega⟩
   simp only at hm
   obtain ⟨v, hv⟩ := pc_one ⟨_, hm⟩ d3
   simp only at hv
   -- v is a corner of f, not one of d, and not one of e
   have hb : ∀ u, (mns f (p.getD d 0).toNat).testBit u = true ↔ u = v.val := fun u => by
     rw [hv, Nat.testBit_two_pow, decide_eq_true_eq]; exact ⟨fun h => h.symm, fun h => h.symm⟩
   have hvf : f.testBit v.val = true := by
     have := (hb v.val).mpr rfl
     rw [mns_bit, Bool.and_eq_true] at this
     exact this.1
   have hve : (p.getD (o.getD i 0).toNat 0).toNat.testBit v.val = false := by
     cases hc : (p.getD (o.getD i 0).toNat 0).toNat.testBit v.val with
     | false => rfl
     | true =>
       have : (mns f (p.getD d 0).toNat &&& (p.getD (o.getD i 0).toNat 0).toNat).testBit v.val = true := by
         rw [Nat.testBit_and, (hb v.val).mpr rfl, hc]; try rfl
       rw [d4, Nat.zero_testBit] at this; cases this
   obtain ⟨k, k1, k2⟩ := (hbit d).mp d2
   have hvR : (nwN p o j 6).testBit v.val = true := by
     rw [nwN_bit]
     refine ⟨v.isLt, ?_⟩
     rw [hF2]
     simp only
     rw [Bool.and_eq_true, decide_eq_true_eq]
     refine ⟨(bit_div f v.val).mp hvf, (nwA_iff (by omega)).mpr ⟨k, k1, ?_⟩⟩
     rw [k2, sub_bit]
     intro u hu
     rw [mns_bit, Bool.and_eq_true, Nat.testBit_two_pow, Bool.not_eq_true', decide_eq_false_iff_not] at hu
     cases hc : (p.getD d 0).toNat.testBit u with
     | true => rfl
     | false =>
       have := (hb u).mp (by rw [mns_bit, hu.1, hc]; rfl)
       exact absurd this.symm hu.2
   have hxv := sub_bit.mp hs v.val hvR
   have := sub_bit.mp hxe v.val hxv
   rw [hve] at this; cases this
 · intro hs
   rw [sub_bit] at hs
   obtain ⟨v, hv⟩ := Classical.not_forall.mp hs
   obtain ⟨hvR, hvx⟩ := Classical.not_imp.mp hv
   obtain ⟨hv6, hF3⟩ := nwN_bit.mp hvR
   rw [hF2] at hF3
   simp only at hF3
   rw [Bool.and_eq_true] at hF3
   obtain ⟨i, hi, h5⟩ := (nwA_iff (by omega)).mp hF3.2
   refine (nwA_iff (by omega)).mpr ⟨i, hi, sub_trans ?_ h5⟩
   rw [sub_bit]
   intro u hu
   rw [mns_bit, sub_bit.mp hx u hu, Nat.testBit_two_pow]
   have : ¬ v = u := fun e => by subst e; exact hvx hu
   simp [this]
theorem new_sub {p o : List Int} {j : Nat} : sub (nwN p o j 6) (p.getD (o.getD j 0).toNat 0).toNat = true := by
 rw [sub_bit]
 intro v hv
 obtain ⟨_, h⟩ := nwN_bit.mp hv
 unfold nwF at h
 rw [Bool.and_eq_true, decide_eq_true_eq] at h
 exact (bit_div _ _).mpr h.1
end Go.Am.Sh

/- Shells: the new parts of a shelling count as the h-list does. -/
namespace Go.Am.Sh
open Go Go.Am Go.Proofs
def cN (g : Nat → Bool) : Nat → Nat
 | 0 => 0
 | k + 1 => cN g k + if g k = true then 1 else 0
theorem cN_ext {f g : Nat → Bool} : ∀ {m : Nat}, (∀ x, x < m → f x = g x) → cN f m = cN g m
 | 0, _ => rfl
 | m + 1, h => by rw [cN, cN, cN_ext fun x hx => h x (by omega), h m (by omega)]
theorem cN_add {f g h : Nat → Bool} : ∀ {m : Nat}, (∀ x, x < m → f x = (g x || h x) ∧ (g x && h x) = false) → cN f m = cN g m + cN h m
 | 0, _ => rfl
 | m + 1, hh => by
   have ih := cN_add (f := f) (g := g) (h := h) (m := m) fun x hx => hh x (by omega)
   obtain ⟨h1, h2⟩ := hh m (by omega)
   rw [cN, cN, cN, ih, h1]
   cases hg : g m <;> cases hk : h m <;> simp_all <;> omega
theorem filter_trueN (g q : Nat → Bool) : ∀ k, ((trueN g k).filter fun s => q s.toNat).length = cN (fun x => g x && q x) k
 | 0 => rfl
 | k + 1 => by
   rw [trueN, cN, ← filter_trueN g q k]
   cases hg : g k with
   | false => simp
   | true =>
     rw [if_pos rfl, List.filter_append, List.length_append]
     cases hq : q k with
     | false => rw [List.filter_cons_of_neg (by rw [Int.toNat_natCast, hq]; simp)]; simp
     | true => rw [List.filter_cons_of_pos (by rw [Int.toNat_natCast, hq])]; simp
theorem cnts_cN {p : List Int} {k : Nat} (h : k ≤ (mxL p).toNat) : (cnts p).getD k 0 = (cN (fun x => isF p x && (pc x == k)) 64 : Nat) := by
 unfold cnts
 rw [cntL_getD h, List.take_of_length_le (Nat.le_refl _), filter_trueN (isF p) (fun x => pc x == k) 64]
def chN : Nat → Nat → Nat
 | _, 0 => 1
 | 0, _ + 1 => 0
 | n + 1, k + 1 => chN n k + chN n (k + 1)
/-- How many sets with k corners lie between two sets with r and d corners. -/
def bnN (d r k : Nat) : Nat := if k < r then 0 else chN (d - r) (k - r)
def iv (f r k : Nat) : Nat := cN (fun x => (sub r x && sub x f) && (pc x == k)) 64
theorem iv_all : ∀ f r : Fin 64, sub r.val f.val = true → ∀ k : Fin 7, iv f.val r.val k.val = bnN (pc f.val) (pc r.val) k.val := by decide +kernel
def smN (f : Nat → Int) : Nat → Int
 | 0 => 0
 | m + 1 => smN f m + f m
theorem smN_add (f g : Nat → Int) : ∀ m, smN (fun j => f j + g j) m = smN f m + smN g m
 | 0 => rfl
 | m + 1 => by rw [smN, smN, smN, smN_add f g m]; omega
theorem smN_mul (f : Nat → Int) (c : Int) : ∀ m, smN (fun j => f j * c) m = smN f m * c
 | 0 => by simp [smN]
 | m + 1 => by rw [smN, smN, smN_mul f c m, Int.add_mul]
theorem smN_ext {f g : Nat → Int} : ∀ {m : Nat}, (∀ x, x < m → f x = g x) → smN f m = smN g m
 | 0, _ => rfl
 | m + 1, h => by rw [smN, smN, smN_ext fun x hx => h x (by omega), h m (by omega)]
theorem smN_zero : ∀ m, smN (fun _ => 0) m = 0
 | 0 => rfl
 | m + 1 => by rw [smN, smN_zero m]; try rfl
theorem faces_sum {n : Int} {p o : List Int} (hp : cxOk n p) (h : sgR p o = true) {d : Nat} (hd : ∀ i, i < p.length → pc (p.getD i 0).toNat = d) {k : Nat} (hk : k ≤ 6) : ∀ {j : Nat}, j ≤ o.length →
   ((cN (fun x => nwA (x : Int) p (o.take j) && (pc x == k)) 64 : Nat) : Int) = smN (fun i => (bnN d (pc (nwN p o i 6)) k : Int)) j
 | 0, _ => by
   rw [smN, cN_ext (g := fun _ => false) fun x _ => by unfold nwA; rw [List.take_zero, List.any_nil, Bool.false_and]]
   decide +kernel
 | j + 1, hj => by
   have ih := faces_sum hp h hd hk (show j ≤ o.length by omega)
   have hio := (sg_okO h).1 _ (mem_getD (d := 0) (show j < o.length by omega))
   have hF := okL_get hp.ok (o.getD j 0).toNat
   have hdj := hd (o.getD j 0).toNat (by omega)
   have hsub := new_sub (p := p) (o := o) (j := j)
   have hkey := fun x => new_key hp h (show j < o.length by omega) (x := x)
   have hat : ∀ x : Nat, nwA (x : Int) p (o.take (j + 1)) = (nwA (x : Int) p (o.take j) || sub x (p.getD (o.getD j 0).toNat 0).toNat) := fun x => by
     unfold nwA
     rw [any_take (by omega)]
     rfl
   have hf64 : (p.getD (o.getD j 0).toNat 0).toNat < 64 := by omega
   generalize (p.getD (o.getD j 0).toNat 0).toNat = f at *
   have hr64 := Nat.lt_of_le_of_lt (sub_le hsub) hf64
   have hiv := iv_all ⟨f, hf64⟩ ⟨_, hr64⟩ hsub ⟨k, by omega⟩
   simp only at hiv
   rw [hdj] at hiv
   rw [smN, ← ih, ← hiv]
   unfold iv
   rw [cN_add (g := fun x => nwA (x : Int) p (o.take j) && (pc x == k)) (h := fun x => (sub (nwN p o j 6) x && sub x f) && (pc x == k))]
   · omega
   · intro x _
     rw [hat]
     cases hs : sub x f with
     | false => constructor <;> cases nwA (x : Int) p (o.take j) <;> cases sub (nwN p o j 6) x <;> cases pc x == k <;> rfl
     | true =>
       rw [hkey x hs]
       constructor <;> cases sub (nwN p o j 6) x <;> cases pc x == k <;> rfl
theorem faces_all {n : Int} {p o : List Int} (hp : cxOk n p) (h : sgR p o = true) (x : Nat) : nwA (x : Int) p (o.take o.length) = isF p x := by
 rw [Bool.eq_iff_iff, nwA_iff (Nat.le_refl _), isF_iff]
 constructor
 · rintro ⟨i, hi, hs⟩
   have hio := (sg_okO h).1 _ (mem_getD (d := 0) hi)
   exact ⟨_, by omega, hs⟩
 · rintro ⟨e, he, hs⟩
   obtain ⟨i, h1, h2⟩ := sg_onto hp.2.1.2 h he
   exact ⟨i, h1, by rw [h2]; exact hs⟩
def hsF (g : Nat → Int) (L k : Nat) : Nat → Int
 | 0 => 0
 | i + 1 => hsF g L k i + g i * chK ((L - 1 - i : Nat) : Int) (k - i) * sg (k - i)
theorem hsum_F (f : List Int) (k : Nat) : ∀ i, hsum f k i = hsF (fun i => f.getD i 0) f.length k i
 | 0 => rfl
 | i + 1 => by rw [hsum, hsF, hsum_F f k i]; try rfl
theorem hsF_ext {g g' : Nat → Int} {L k : Nat} : ∀ {i : Nat}, (∀ x, x < i → g x = g' x) → hsF g L k i = hsF g' L k i
 | 0, _ => rfl
 | i + 1, h => by rw [hsF, hsF, hsF_ext fun x hx => h x (by omega), h i (by omega)]
theorem hsF_smN (F : Nat → Nat → Int) (m L k : Nat) : ∀ i, hsF (fun i => smN (fun j => F j i) m) L k i = smN (fun j => hsF (F j) L k i) m
 | 0 => (smN_zero m).symm
 | i + 1 => by
   rw [hsF, hsF_smN F m L k i, ← smN_mul, ← smN_mul, ← smN_add]
   rfl
theorem unit_all : ∀ d r k : Fin 7, r.val ≤ d.val → k.val ≤ d.val → hsF (fun i => (bnN d.val r.val i : Int)) (d.val + 1) k.val (k.val + 1) = if k.val = r.val then 1 else 0 := by decide +kernel
theorem nw_count (p o : List Int) (k : Nat) : ∀ m, (((nwL6 p o m).filter fun s => pc s.toNat == k).length : Int) = smN (fun j => if k = pc (nwN p o j 6) then 1 else 0) m
 | 0 => rfl
 | m + 1 => by
   rw [nwL6_step, List.filter_append, List.length_append, Int.natCast_add, nw_count p o k m, smN]
   congr 1
   by_cases e : k = pc (nwN p o m 6)
   · rw [if_pos e, List.filter_cons_of_pos (by rw [Int.toNat_natCast, ← e]; simp)]; try rfl
   · rw [if_neg e, List.filter_cons_of_neg (by rw [Int.toNat_natCast]; simp; exact fun h => e h.symm)]; try rfl
theorem pc_sub2 : ∀ f r : Fin 64, sub r.val f.val = true → pc r.val ≤ pc f.val := by decide +kernel
theorem new_pc {n : Int} {p o : List Int} (hp : cxOk n p) (h : sgR p o = true) {j : Nat} (hj : j < o.length) : pc (nwN p o j 6) ≤ (mxL p).toNat ∧ nwN p o j 6 < 64 := by
 have hio := (sg_okO h).1 _ (mem_getD (d := 0) hj)
 have hF := okL_get hp.ok (o.getD j 0).toNat
 have hsub := new_sub (p := p) (o := o) (j := j)
 have h2 := mxK_ge (p := p) (Nat.le_refl _) (o.getD j 0).toNat (by omega)
 have h2 : ((pc (p.getD (o.getD j 0).toNat 0).toNat : Nat) : Int) ≤ mxL p := h2
 have hf64 : (p.getD (o.getD j 0).toNat 0).toNat < 64 := by omega
 generalize (p.getD (o.getD j 0).toNat 0).toNat = f at *
 have hr64 := Nat.lt_of_le_of_lt (sub_le hsub) hf64
 have := pc_sub2 ⟨f, hf64⟩ ⟨_, hr64⟩ hsub
 simp only at this
 omega
theorem mcm {n : Int} {p o : List Int} (hp : cxOk n p) (h : sgR p o = true) : cntL (nwL6 p o o.length) (mxL p).toNat o.length = hsL p := by
 obtain ⟨m1, m2⟩ := mxL_le p
 have hpu : pure p = true := by
   rw [pure_pu hp]
   unfold sgR at h
   rw [Bool.and_eq_true] at h
   exact h.2
 have hd : ∀ i, i < p.length → pc (p.getD i 0).toNat = (mxL p).toNat := fun i hi => by
   unfold pure at hpu
   have := of_decide_eq_true (List.all_eq_true.mp hpu _ (mem_getD (d := 0) hi))
   omega
 have hcl := cnts_length p
 rw [hs_eq]
 apply ext_getD (d := 0) (by rw [cntL_length]; simp [rhL]; omega)
 intro k hk
 rw [cntL_length] at hk
 have hr : (rhL (cnts p)).getD k 0 = hsum (cnts p) k (k + 1) := by
   unfold rhL
   rw [List.getD_eq_getElem?_getD, List.getElem?_map, List.getElem?_range (by omega)]; try rfl
 rw [cntL_getD (by omega), List.take_of_length_le (by rw [nwL6_len]; exact Nat.le_refl _), nw_count, hr, hsum_F, hcl]
 rw [hsF_ext (g' := fun i => smN (fun j => (bnN (mxL p).toNat (pc (nwN p o j 6)) i : Int)) o.length)]
 · rw [hsF_smN (fun j i => (bnN (mxL p).toNat (pc (nwN p o j 6)) i : Int))]
   refine smN_ext fun j hj => ?_
   have hpc := (new_pc hp h hj).1
   exact (unit_all ⟨(mxL p).toNat, by omega⟩ ⟨pc (nwN p o j 6), by omega⟩ ⟨k, by omega⟩ hpc (by simp only; omega)).symm
 · intro i hi
   rw [cnts_cN (by omega), ← faces_sum hp h hd (by omega) (Nat.le_refl _)]
   rw [cN_ext fun x _ => by rw [← faces_all hp h x]]
end Go.Am.Sh

/- Shells: McMullen's law. -/
namespace Go.Am.Sh
open Go Go.Am Go.Proofs
noncomputable abbrev X9 : Cy := X [e18, e15, e27, e43, e29, e23, e19]
noncomputable def L9_0 : Code := lp (bodyOf Try.f9) 0
def s9 (p t : List Int) (i : Nat) : St := ⟨dd 10 ++ .sl I64 (hsL p) :: .dead :: .sl I64 t :: .dead :: .own 0 0 :: .int .i64 i :: dd 92, [.sc 0 3 I64 (cntL t (mxL p).toNat i)]⟩
def ex9 (p t : List Int) : List (List Nat × Ex) := [([10, 14], ⟨0, Unit, fun _ => True, fun _ => ⟨dd 10 ++ .sl I64 (hsL p) :: dd 3 ++ .own 0 0 :: dd 93, [.sc 0 3 I64 (cntL t (mxL p).toNat t.length)]⟩⟩)]
def h9 (p t : List Int) : Hint := ⟨chk 0 [10, 12, 14, 15] (fun i => i ≤ t.length) (s9 p t), (ex9 p t).map (·.2)⟩
structure ok9 (p t : List Int) : Prop where
 hl : t.length ≤ 10
 hh : (hsL p).length = (mxL p).toNat + 1
 ht : ∀ i, i < t.length → (0 ≤ t.getD i 0 ∧ t.getD i 0 < 64) ∧ pc (t.getD i 0).toNat ≤ (mxL p).toNat
noncomputable def R9 : Exit → St → Prop := RetR X9 true false [.tmp 4] [.tt] []
theorem loop9 (p t : List Int) (h : ok9 p t) : LoopOK X9 L9_0 (h9 p t) R9 := by
 refine loop_ok (X_ok _) (H := fun _ _ => none) [10, 12, 14, 15] (fun i => i ≤ t.length) (s9 p t) (fun i => t.length - i) (ex9 p t) 150 fun (i : Nat) hi => ?_
 refine of_eq (q := True ∧ True ∧ True ∧ True ∧ ((i : Int) < (t.length : Int) → True ∧ True ∧ idxPre (i : Int) t.length ∧ True ∧ True ∧ (((0 : Int) ≤ bAnd .i64 (t.getD i (0 : Int)) (63 : Int) ∧ bAnd .i64 (t.getD i (0 : Int)) (63 : Int) < 64) ∧ True) ∧ True ∧ True ∧ True ∧ True ∧ True ∧ ((↑(hsL p).length : Int) ≤ (↑(pc (bAnd .i64 (t.getD i (0 : Int)) (63 : Int)).toNat) : Int) → True ∧ True ∧ (false = true ∧ True) ∧ True) ∧ (¬(↑(hsL p).length : Int) ≤ (↑(pc (bAnd .i64 (t.getD i (0 : Int)) (63 : Int)).toNat) : Int) → True ∧ True ∧ idxPre (↑(pc (bAnd .i64 (t.getD i (0 : Int)) (63 : Int)).toNat) : Int) (cntL t (mxL p).toNat i).length ∧ True ∧ inR .i64 ((cntL t (mxL p).toNat i).getD (pc (bAnd .i64 (t.getD i (0 : Int)) (63 : Int)).toNat) (0 : Int) + 1) ∧ idxPre (↑(pc (bAnd .i64 (t.getD i (0 : Int)) (63 : Int)).toNat) : Int) (cntL t (mxL p).toNat i).length ∧ True ∧ True ∧ inR .i64 ((i : Int) + 1) ∧ True ∧ ∃ (y : Nat), (y ≤ t.length ∧ t.length - y < t.length - i) ∧ (hsL p = hsL p ∧ t = t ∧ True ∧ (i : Int) + 1 = (y : Int) ∧ True) ∧ (cntL t (mxL p).toNat i).set (pc (bAnd .i64 (t.getD i (0 : Int)) (63 : Int)).toNat) ((cntL t (mxL p).toNat i).getD (pc (bAnd .i64 (t.getD i (0 : Int)) (63 : Int)).toNat) (0 : Int) + 1) = cntL t (mxL p).toNat y ∧ True)) ∧ (¬(i : Int) < (t.length : Int) → ∃ (y : Unit), True ∧ (hsL p = hsL p ∧ True ∧ True) ∧ cntL t (mxL p).toNat i = cntL t (mxL p).toNat t.length ∧ True)) (by kernel_rfl) ?_
 simp only [zz]
 have hi : i ≤ t.length := hi
 have hl := h.hl
 refine ⟨fun h3 => ?_, fun h3 => by rw [show i = t.length by omega]⟩
 have hlt : i < t.length := by omega
 obtain ⟨h4, h5⟩ := h.ht i hlt
 have hst := cntL_step (l := t) (d := (mxL p).toNat) hlt h5
 have hle := cntL_le (l := t) (d := (mxL p).toNat) (k := i) (i := pc (t.getD i 0).toNat)
 have hcl := cntL_length t (mxL p).toNat i
 have hhh := h.hh
 obtain ⟨x, hx⟩ : ∃ x : Nat, t.getD i 0 = x := ⟨(t.getD i 0).toNat, by omega⟩
 rw [hx] at h4 h5 hst hle ⊢
 have he : bAnd .i64 (x : Int) 63 = (x : Int) := by
   have := bAnd_nat (a := x) (b := 63) (by omega) (by decide)
   rw [and63 ⟨x, by omega⟩] at this
   exact this
 rw [he]
 rw [Int.toNat_natCast] at h5 hst hle
 rw [Int.toNat_natCast]
 exact ⟨idx_nat hlt, h4, fun h => by omega, fun _ => ⟨idx_nat (by omega), by simp only [inR]; omega, idx_nat (by omega), by simp only [inR]; omega, i + 1, ⟨by omega, by omega⟩, by omega, hst⟩⟩
theorem nwL6_getD {p o : List Int} {m i : Nat} (h : i < m) : (nwL6 p o m).getD i 0 = (nwN p o i 6 : Nat) := by
 unfold nwL6
 rw [List.getD_eq_getElem?_getD, List.getElem?_map, List.getElem?_range h]; try rfl
theorem nwN_first (p o : List Int) : ∀ m, nwN p o 0 m = 0
 | 0 => rfl
 | m + 1 => by
   rw [nwN, if_neg, nwN_first p o m]
   unfold nwF nwA
   rw [List.take_zero, List.any_nil, Bool.and_false]; simp
theorem call9 (n : Int) (l : List Int) (hl : l.length < 1000000000000000) : GCall Try.prog gl 9 true [.int .i64 n, .sl I64 l] [] [.tt] [] := by
 have hc := pu_cx n l
 have hf := sh_facts hc
 have hL := fun h => loop9 (puP (tmP n l)) (nsR (tmN n) (puP (tmP n l)) (shL (puP (tmP n l)))) h
 refine gcall_of (X := X9) ((X_ok _)) (f := 9) (fn := Try.f9) (c := bodyOf Try.f9) (by kernel_rfl) (by kernel_rfl) (view := false) (rvs := [.tmp 4]) (by kernel_rfl) (H := (fun _ => some (h9 (puP (tmP n l)) (nsR (tmN n) (puP (tmP n l)) (shL (puP (tmP n l))))))) 250 (by kernel_rfl) ?_
 refine of_eq (q := True ∧ True ∧ True ∧ (l.length + 1 ≤ 1000000000000000 ∧ True) ∧ True ∧ True ∧ True ∧ True ∧ True ∧ True ∧ True ∧ ((numOk (tmN n) ∧ ((1 : Nat) ≤ (puP (tmP n l)).length ∧ (puP (tmP n l)).length ≤ 10) ∧ ∀ (k : Nat), k < (puP (tmP n l)).length → goodAt (tmN n) (puP (tmP n l)) k) ∧ True) ∧ True ∧ True ∧ True ∧ True ∧ True ∧ True ∧ True ∧ True ∧ True ∧ ((numOk (tmN n) ∧ ((1 : Nat) ≤ (puP (tmP n l)).length ∧ (puP (tmP n l)).length ≤ 10) ∧ ∀ (k : Nat), k < (puP (tmP n l)).length → goodAt (tmN n) (puP (tmP n l)) k) ∧ True) ∧ True ∧ True ∧ True ∧ True ∧ True ∧ True ∧ True ∧ True ∧ (¬(0 : Int) = 0 → True ∧ True ∧ True ∧ (false = true ∧ True) ∧ True) ∧ (¬¬(0 : Int) = 0 → True ∧ True ∧ True ∧ (¬(0 : Int) = 0 → True ∧ True ∧ (false = true ∧ True) ∧ True) ∧ (¬¬(0 : Int) = 0 → True ∧ True ∧ ((!shB (puP (tmP n l))) = true → (True ∧ True) ∧ True ∧ True ∧ (true = true ∧ True) ∧ True) ∧ ((!shB (puP (tmP n l))) = false → True ∧ True ∧ True ∧ ((cxOk (tmN n) (puP (tmP n l)) ∧ (shL (puP (tmP n l))).length < 1000000000000000) ∧ True) ∧ True ∧ True ∧ True ∧ True ∧ True ∧ True ∧ True ∧ True ∧ (¬nsE (puP (tmP n l)) (shL (puP (tmP n l))) = 0 → True ∧ True ∧ True ∧ True ∧ True ∧ True ∧ True ∧ True ∧ True ∧ (false = true ∧ True) ∧ True) ∧ (¬¬nsE (puP (tmP n l)) (shL (puP (tmP n l))) = 0 → True ∧ True ∧ True ∧ True ∧ True ∧ True ∧ True ∧ (¬(↑(nsR (tmN n) (puP (tmP n l)) (shL (puP (tmP n l)))).length : Int) = (↑(puP (tmP n l)).length : Int) → True ∧ True ∧ True ∧ True ∧ True ∧ True ∧ True ∧ (false = true ∧ True) ∧ True) ∧ (¬¬(↑(nsR (tmN n) (puP (tmP n l)) (shL (puP (tmP n l)))).length : Int) = (↑(puP (tmP n l)).length : Int) → True ∧ idxPre (0 : Int) (nsR (tmN n) (puP (tmP n l)) (shL (puP (tmP n l)))).length ∧ True ∧ True ∧ True ∧ True ∧ (¬(nsR (tmN n) (puP (tmP n l)) (shL (puP (tmP n l)))).getD (0 : Nat) (0 : Int) = 0 → True ∧ True ∧ True ∧ True ∧ True ∧ (false = true ∧ True) ∧ True) ∧ (¬¬(nsR (tmN n) (puP (tmP n l)) (shL (puP (tmP n l)))).getD (0 : Nat) (0 : Int) = 0 → True ∧ True ∧ True ∧ True ∧ True ∧ ((↑(hsL (puP (tmP n l))).length : Int) < 1 → True ∧ True ∧ True ∧ (false = true ∧ True) ∧ True) ∧ (¬(↑(hsL (puP (tmP n l))).length : Int) < 1 → True ∧ True ∧ True ∧ True ∧ ((7 : Int) < (↑(hsL (puP (tmP n l))).length : Int) → True ∧ True ∧ (false = true ∧ True) ∧ True) ∧ (¬(7 : Int) < (↑(hsL (puP (tmP n l))).length : Int) → True ∧ True ∧ ((0 : Int) ≤ (↑(hsL (puP (tmP n l))).length : Int) ∧ (↑(hsL (puP (tmP n l))).length : Int) ≤ (↑(hsL (puP (tmP n l))).length : Int) ∧ (↑(hsL (puP (tmP n l))).length : Int) * (↑(nat_lit 8) : Int) ≤ 140737488355328 ∧ (↑(hsL (puP (tmP n l))).length : Int) ≤ 140737488355328) ∧ True ∧ True ∧ LoopOK X9 L9_0 (h9 (puP (tmP n l)) (nsR (tmN n) (puP (tmP n l)) (shL (puP (tmP n l))))) R9 ∧ (∃ (y : Nat), y ≤ (nsR (tmN n) (puP (tmP n l)) (shL (puP (tmP n l)))).length ∧ (hsL (puP (tmP n l)) = hsL (puP (tmP n l)) ∧ nsR (tmN n) (puP (tmP n l)) (shL (puP (tmP n l))) = nsR (tmN n) (puP (tmP n l)) (shL (puP (tmP n l))) ∧ True ∧ (0 : Int) = (y : Int) ∧ True) ∧ List.replicate (hsL (puP (tmP n l))).length (Ty.int .i64).dflt = cntL (nsR (tmN n) (puP (tmP n l)) (shL (puP (tmP n l)))) (mxL (puP (tmP n l))).toNat y ∧ True) ∧ (∀ (y : Unit), True → True ∧ True ∧ ((cntL (nsR (tmN n) (puP (tmP n l)) (shL (puP (tmP n l)))) (mxL (puP (tmP n l))).toNat (nsR (tmN n) (puP (tmP n l)) (shL (puP (tmP n l)))).length).length + 1 ≤ 1000000000000000 ∧ True) ∧ True ∧ (decide (cntL (nsR (tmN n) (puP (tmP n l)) (shL (puP (tmP n l)))) (mxL (puP (tmP n l))).toNat (nsR (tmN n) (puP (tmP n l)) (shL (puP (tmP n l)))).length = hsL (puP (tmP n l))) = true → (True ∧ True) ∧ True ∧ True ∧ True ∧ (true = true ∧ True) ∧ True) ∧ (decide (cntL (nsR (tmN n) (puP (tmP n l)) (shL (puP (tmP n l)))) (mxL (puP (tmP n l))).toNat (nsR (tmN n) (puP (tmP n l)) (shL (puP (tmP n l)))).length = hsL (puP (tmP n l))) = false → True ∧ True ∧ True ∧ (false = true ∧ True) ∧ True)) ∧ True))))))))) (by kernel_rfl) ?_
 simp only [zz]
 generalize puP (tmP n l) = p at *
 refine ⟨by omega, hc, hc, fun h => absurd trivial h, fun _ => ⟨fun h => absurd trivial h, fun _ => ⟨fun _ => trivial, fun hb => ?_⟩⟩⟩
 have hs : shB p = true := by simpa using hb
 have hg := hf.s hs
 obtain ⟨g1, g2⟩ := sg_okO hg
 have hE : nsE p (shL p) = 0 := if_pos hg
 have hT : nsR (tmN n) p (shL p) = nwL6 p (shL p) (shL p).length := by unfold nsR; rw [if_pos hg, nwL_eq hc g1]
 have hm := mcm hc hg
 have hl6 := nwL6_len p (shL p) (shL p).length
 have hhl : (hsL p).length = (mxL p).toNat + 1 := by rw [← hm, cntL_length]
 have hmx := mxL_le p
 have hlp := hc.2.1
 rw [hE]
 rw [hT] at hL ⊢
 have hok : ok9 p (nwL6 p (shL p) (shL p).length) := by
   refine ⟨by omega, hhl, fun i hi => ?_⟩
   rw [nwL6_getD (by omega)]
   have := new_pc hc hg (show i < (shL p).length by omega)
   exact ⟨by omega, by rw [Int.toNat_natCast]; exact this.1⟩
 have h0 : (nwL6 p (shL p) (shL p).length).getD 0 0 = 0 := by rw [nwL6_getD (by omega), nwN_first]; try rfl
 rw [h0, hl6, hm]
 refine ⟨⟨hc, by omega⟩, fun h => absurd rfl h, fun _ => ⟨fun h => absurd (by omega) h, fun _ => ⟨by unfold idxPre; omega, fun h => absurd rfl h, fun _ => ⟨fun h => by omega, fun _ => ⟨fun h => by omega, fun _ => ⟨⟨by omega, by omega, by omega, by omega⟩, hL hok, ⟨0, Nat.zero_le _, rfl, ?_⟩, fun _ _ => ⟨by omega, fun _ => trivial, fun h => by simp at h⟩⟩⟩⟩⟩⟩⟩
 apply ext_getD (d := 0) (by rw [cntL_length]; simp; omega)
 intro i hi
 rw [List.length_replicate] at hi
 rw [cntL_getD (by omega), List.getD_eq_getElem?_getD, List.getElem?_replicate, if_pos hi]
 rfl
end Go.Am.Sh

/- Shells: from the laws' contracts to the given statements: what all laws share. -/
namespace Go.Proofs.Ytfpoonbcnabihaa
open Go Go.ChangeShapes Go.WideShapes Go.ChangeAt Go.RowKit Go.Am Go.Am.Sh
theorem own : ownKnob Try.prog.godebug = none := by kernel_rfl
theorem laidOut : laidOutB Try.prog = true := by kernel_rfl
theorem u3 : Try.prog.underlying 3 = some (.int .i64) := by kernel_rfl
theorem u4 : Try.prog.underlying 4 = some .bool := by kernel_rfl
theorem u22 : Try.prog.underlying 22 = some (.slice 3) := by kernel_rfl
theorem tyOk3 : TyOk Try.prog 3 I64 := u3
theorem tyOk22 : TyOk Try.prog 22 (.sl I64) := ⟨3, u22, u3, by kernel_rfl, by decide, of_decide_eq_true (by kernel_rfl)⟩
theorem reach_le {l : List Nat} (h : l.all (fun x => decide (x ≤ reachBytes)) = true) : ∀ n ∈ l, n ≤ 140737488355328 := fun n hn => by
 have := of_decide_eq_true (List.all_eq_true.mp h n hn)
 have e : reachBytes = 140737488351232 := rfl
 omega
theorem glob_of {W : World} : GlobOk gl (fun b => b < W.heap.size) W := fun g p hp => by cases hp
end Go.Proofs.Ytfpoonbcnabihaa
