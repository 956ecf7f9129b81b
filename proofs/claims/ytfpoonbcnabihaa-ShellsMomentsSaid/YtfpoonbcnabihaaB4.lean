/- Part B4 of the proof that the law named in the last file returns true at every input and leaves its arguments as they were; no condition of its own. -/
import Derived.Test.YtfpoonbcnabihaaB3
import Derived.Test.YtfpoonbcnabihaaA2
import Derived.Test.YtfpoonbcnabihaaRows
import Derived.WalkKit
import Derived.ProofKit
import Derived.OpenShut
import Derived.SizedLaws
import Derived.ChangeOld
import Derived.Below
import Derived.Stop.Joined
set_option linter.unusedSimpArgs false
set_option linter.unusedVariables false
/- Shells: a shelling is searched. -/
namespace Go.Am.Sh
open Go Go.Am Go.Proofs
noncomputable def Xb (l : EL) (m0 : Nat) (bs : List Nat) (dr : Nat → Option Nat) : Cy := { mkX Try.prog tt gl l m0 dr with bs := bs }
theorem Xb_ok (l : EL) (m0 : Nat) (bs : List Nat) (dr : Nat → Option Nat) : (Xb l m0 bs dr).Ok := (mkX_ok tt_ok l m0 dr).bump bs
abbrev Mm := List (Int × Bool)
abbrev Res := Bool × List Int × Mm
def mg (m : Mm) (d : Int) : Bool := (mGet I64 m d).getD false
def mp (m : Mm) (d : Int) : Mm := mPut I64 m d true
/-- The first rounds, until one comes to an end. -/
def lpK (p : List Int) (f : Nat → List Int → Mm → Res) (D : Nat) (l : List Int) (m : Mm) : Nat → Res
 | 0 => (false, l, m)
 | k + 1 => if (lpK p f D l m k).1 = true then lpK p f D l m k else if D / 2 ^ k % 2 = 1 ∨ flw p D k = false then lpK p f D l m k else
     if (f (D ||| 2 ^ k) (l ++ [(k : Int)]) (lpK p f D l m k).2.2).1 = true then f (D ||| 2 ^ k) (l ++ [(k : Int)]) (lpK p f D l m k).2.2
     else (false, l, (f (D ||| 2 ^ k) (l ++ [(k : Int)]) (lpK p f D l m k).2.2).2.2)
/-- The search; as many levels as pieces are left. -/
def gr (p : List Int) : Nat → Nat → List Int → Mm → Res
 | 0, _, l, m => (true, l, m)
 | n + 1, D, l, m => if mg m D = true then (false, l, m) else if (lpK p (gr p n) D l m p.length).1 = true then lpK p (gr p n) D l m p.length else (false, l, mp (lpK p (gr p n) D l m p.length).2.2 D)
theorem gr_list {p : List Int} {n D : Nat} {l : List Int} {m : Mm} (h : (gr p n D l m).1 = false) : (gr p n D l m).2.1 = l := by
 cases n with
 | zero => cases h
 | succ n =>
   rw [gr] at h ⊢
   split
   · rfl
   · rename_i h1; rw [if_neg h1] at h
     split
     · rename_i h2; rw [if_pos h2, h2] at h; cases h
     · rfl
theorem lpK_stop {p : List Int} {f : Nat → List Int → Mm → Res} {D : Nat} {l : List Int} {m : Mm} {k : Nat} (h : (lpK p f D l m k).1 = true) : ∀ j, lpK p f D l m (k + j) = lpK p f D l m k
 | 0 => rfl
 | j + 1 => by rw [show k + (j + 1) = k + j + 1 by omega, lpK, lpK_stop h j, if_pos h]
def clo55 (a b c d : Nat) : AV := .clo 55 [] [.ptr a 0 [], .ptr b 0 [], .ptr c 0 [], .ptr d 0 []]
def mmO (m : Mm) : Ob := .mo I64 .bool m
def gS (v : Nat) (n : Int) (p l : List Int) (m : Mm) : List Ob := [.bx (.own 1 v), .sc v 3 I64 l, .bx (.ptr 3 0 []), cxO n p, .bx (.mp 5), mmO m, .bx (clo55 0 2 4 6)]
def aS (D : Int) : List AV := [.int .i64 D, .ptr 0 0 [], .ptr 2 0 [], .ptr 4 0 [], .ptr 6 0 []]
structure pre55 (n : Int) (p : List Int) (lv D : Nat) (l : List Int) : Prop where
 h : cxOk n p
 D : D < 2 ^ p.length
 l : l.length + lv = p.length
def GS (lv : Nat) : Prop := ∀ (n : Int) (p : List Int) (D : Nat) (l : List Int) (m : Mm), pre55 n p lv D l → GCall Try.prog gl 55 false (aS D) (gS 0 n p l m) [.bool (gr p lv D l m).1] (gS 1 n p (gr p lv D l m).2.1 (gr p lv D l m).2.2)
def unMm : Ob → Option Mm
 | .mo k v m => (if h : k = I64 ∧ v = .bool then some (by obtain ⟨rfl, rfl⟩ := h; exact m) else none)
 | _ => none
def unSc : Ob → Option (List Int)
 | .sc _ _ e xs => castL e I64 xs
 | _ => none
abbrev G5 := Int × Cx3 × List Int × Mm
def get55 (xs : List AV) (obs : List Ob) : Option G5 :=
 match xs with
 | .int .i64 d :: _ => (match unSc (obs.getD 1 .gone), unCx (obs.getD 3 .gone), unMm (obs.getD 5 .gone) with
   | some l, some x, some m => some (d, x, l, m)
   | _, _, _ => none)
 | _ => none
def gSq (v : Nat) (x : Cx3) (l : List Int) (m : Mm) : List Ob := [.bx (.own 1 v), .sc v 3 I64 l, .bx (.ptr 3 0 []), cxQ x, .bx (.mp 5), mmO m, .bx (clo55 0 2 4 6)]
structure ok55 (lv : Nat) (x : G5) : Prop where
 h : okC x.2.1
 d : 0 ≤ x.1
 p : pre55 x.2.1.1 x.2.1.2.1 lv x.1.toNat x.2.2.1
def e55S (lv : Nat) (h : GS lv) : Entry Try.prog gl := entryW 55 ⟨Try.f55, by kernel_rfl, by kernel_rfl, by kernel_rfl⟩ true get55 (ok55 lv) false (fun x => aS x.1) (fun x => gSq 0 x.2.1 x.2.2.1 x.2.2.2) (fun x => [.bool (gr x.2.1.2.1 lv x.1.toNat x.2.2.1 x.2.2.2).1])
 (fun x => gSq 1 x.2.1 (gr x.2.1.2.1 lv x.1.toNat x.2.2.1 x.2.2.2).2.1 (gr x.2.1.2.1 lv x.1.toNat x.2.2.1 x.2.2.2).2.2) (fun x hx => by
   have := h _ _ _ _ x.2.2.2 hx.p
   rw [Int.toNat_of_nonneg hx.d] at this
   have e : ∀ v l m, gSq v x.2.1 l m = gS v x.2.1.1 x.2.1.2.1 l m := fun v l m => by unfold gSq gS; rw [cxQ_ok hx.h]
   rw [e, e]; exact this)
noncomputable abbrev X55 (es : EL) : Cy := Xb es 7 [1] (fun _ => none)
theorem gS0 : GS 0 := by
 intro n p D l m hp
 refine gcall_of (X := (X55 [e56])) ((Xb_ok _ _ _ _)) (f := 55) (fn := Try.f55) (c := bodyOf Try.f55) (by kernel_rfl) (by kernel_rfl) (view := false) (rvs := [.tmp 6]) (by kernel_rfl) (H := fun _ => none) 80 (by kernel_rfl) ?_
 refine of_eq (q := True ∧ True ∧ True ∧ True ∧ True ∧ True ∧ True ∧ True ∧ True ∧ ((l.length : Int) = (p.length : Int) → True ∧ True ∧ (true = true ∧ True) ∧ True ∧ l = (gr p (0 : Nat) D l m).snd.fst ∧ True ∧ (n = n ∧ p = p ∧ mk (isF p) = mk (isF p) ∧ True) ∧ True ∧ m = (gr p (0 : Nat) D l m).snd.snd ∧ (True ∧ True ∧ True ∧ True ∧ True ∧ True) ∧ True) ∧ (¬(l.length : Int) = (p.length : Int) → True ∧ True ∧ True ∧ ((mGet I64 m (D : Int)).getD false = true → True ∧ True ∧ (false = true ∧ True) ∧ True ∧ l = (gr p (0 : Nat) D l m).snd.fst ∧ True ∧ (n = n ∧ p = p ∧ mk (isF p) = mk (isF p) ∧ True) ∧ True ∧ m = (gr p (0 : Nat) D l m).snd.snd ∧ (True ∧ True ∧ True ∧ True ∧ True ∧ True) ∧ True) ∧ ((mGet I64 m (D : Int)).getD false = false → True ∧ True ∧ True ∧ True ∧ True ∧ True ∧ False))) (by kernel_rfl) ?_
 simp only [zz]
 have h1 := hp.l
 exact ⟨fun _ => ⟨rfl, rfl⟩, fun h => absurd (by omega) h⟩
noncomputable def L55_0 : Code := lp (bodyOf Try.f55) 0
theorem or_pow10 {D k : Nat} (hD : D < 1024) (hk : k < 10) : bOr .i64 (D : Int) (1 * 2 ^ k) = ((D ||| 2 ^ k : Nat) : Int) ∧ D ||| 2 ^ k < 1024 ∧ (1 : Int) * 2 ^ k ≤ 512 ∧ (0 : Int) ≤ 1 * 2 ^ k := by
 have h2 : 2 ^ k ≤ 2 ^ 9 := Nat.pow_le_pow_right (by decide) (by omega)
 have e : (2 ^ k : Int) = ((2 ^ k : Nat) : Int) := by rw [Int.natCast_pow]; try rfl
 have h3 : D ||| 2 ^ k < 2 ^ 10 := Nat.or_lt_two_pow hD (by omega)
 have hb : bOr .i64 (D : Int) ((2 ^ k : Nat) : Int) = ((D ||| 2 ^ k : Nat) : Int) := bOr_nat (by omega) (by omega)
 rw [Int.one_mul, e]
 refine ⟨hb, by omega, ?_, Int.natCast_nonneg _⟩
 generalize 2 ^ k = P at *
 omega
theorem lpK_go {p : List Int} {f : Nat → List Int → Mm → Res} {D : Nat} {l : List Int} {m : Mm} {k : Nat} (h : (lpK p f D l m k).1 = false) : lpK p f D l m (k + 1) = if D / 2 ^ k % 2 = 1 ∨ flw p D k = false then lpK p f D l m k else
     if (f (D ||| 2 ^ k) (l ++ [(k : Int)]) (lpK p f D l m k).2.2).1 = true then f (D ||| 2 ^ k) (l ++ [(k : Int)]) (lpK p f D l m k).2.2
     else (false, l, (f (D ||| 2 ^ k) (l ++ [(k : Int)]) (lpK p f D l m k).2.2).2.2) := by rw [lpK, if_neg (by simp [h])]
theorem pre_D {n : Int} {p : List Int} {lv D : Nat} {l : List Int} (h : pre55 n p lv D l) : D < 1024 := by
 have := Nat.pow_le_pow_right (show 0 < 2 by decide) h.h.2.1.2
 have := h.D
 omega
def stS (v : Nat) (n : Int) (p : List Int) (f : Nat → List Int → Mm → Res) (D : Nat) (l : List Int) (m : Mm) (k : Nat) : St := ⟨aS D ++ dd 18 ++ .int .i64 p.length :: .int .i64 k :: dd 34, gS v n p l (lpK p f D l m k).2.2⟩
def inS (p : List Int) (f : Nat → List Int → Mm → Res) (D : Nat) (l : List Int) (m : Mm) (k : Nat) : Prop := k ≤ p.length ∧ (lpK p f D l m k).1 = false
def fmS (n : Int) (p : List Int) (f : Nat → List Int → Mm → Res) (D : Nat) (l : List Int) (m : Mm) : List Fam := [⟨Nat, inS p f D l m, stS 0 n p f D l m, fun k => p.length - k, fun _ _ => none⟩, ⟨Nat, inS p f D l m, stS 1 n p f D l m, fun k => p.length - k, fun _ _ => none⟩]
def exS (n : Int) (p : List Int) (f : Nat → List Int → Mm → Res) (D : Nat) (l : List Int) (m : Mm) : List (List Nat × Ex) := [([0, 1, 2, 3, 4], ⟨0, Unit, fun _ => (lpK p f D l m p.length).1 = false, fun _ => ⟨aS D ++ dd 54, gS 0 n p l (lpK p f D l m p.length).2.2⟩⟩), ([0, 1, 2, 3, 4], ⟨0, Unit, fun _ => (lpK p f D l m p.length).1 = false, fun _ => ⟨aS D ++ dd 54, gS 1 n p l (lpK p f D l m p.length).2.2⟩⟩)]
def hS (n : Int) (p : List Int) (f : Nat → List Int → Mm → Res) (D : Nat) (l : List Int) (m : Mm) : Hint := ⟨chks 7 [0, 1, 2, 3, 4, 23, 24] (fmS n p f D l m), (exS n p f D l m).map (·.2)⟩
noncomputable def HS (n : Int) (p : List Int) (f : Nat → List Int → Mm → Res) (D : Nat) (l : List Int) (m : Mm) : Nat → Option Hint := fun _ => some (hS n p f D l m)
theorem loopS (lv : Nat) (h' : GS lv) (n : Int) (p : List Int) (D : Nat) (l : List Int) (m : Mm) (hp : pre55 n p (lv + 1) D l) (hm : ¬ mg m D = true) : LoopOK (X55 [e56, e55S lv h']) L55_0 (hS n p (gr p lv) D l m)
   (RetR (X55 [e56, e55S lv h']) false false [.tmp 6] [.bool (gr p (lv + 1) D l m).1] (gS 1 n p (gr p (lv + 1) D l m).2.1 (gr p (lv + 1) D l m).2.2)) := by
 refine loop_fams (Xb_ok _ _ _ _) [0, 1, 2, 3, 4, 23, 24] (fmS n p (gr p lv) D l m) (exS n p (gr p lv) D l m) 150 ⟨fun (k : Nat) hk => ?_, fun (k : Nat) hk => ?_, trivial⟩
 · refine of_eq (q := True ∧ ((k : Int) < (p.length : Int) → True ∧ True ∧ True ∧ True ∧ inR .u64 (k : Int) ∧ ((0 : Int) ≤ (k : Int) ∧ (k : Int) < bitsOf .i64) ∧ True ∧ True ∧ True ∧ (bAnd .i64 ((D : Int) / (2 : Int) ^ k) (1 : Int) = 1 → True ∧ inR .i64 ((k : Int) + 1) ∧ True ∧ ((∃ (y : Nat), (inS p (gr p lv) D l m y ∧ p.length - y < p.length - k) ∧ ((D : Int) = (D : Int) ∧ True ∧ True ∧ True ∧ True ∧ (p.length : Int) = (p.length : Int) ∧ (k : Int) + 1 = (y : Int) ∧ True) ∧ True ∧ l = l ∧ True ∧ (n = n ∧ p = p ∧ mk (isF p) = mk (isF p) ∧ True) ∧ True ∧ (lpK p (gr p lv) D l m k).snd.snd = (lpK p (gr p lv) D l m y).snd.snd ∧ (True ∧ True ∧ True ∧ True ∧ True ∧ True) ∧ True) ∨ ∃ (y : Nat), (inS p (gr p lv) D l m y ∧ p.length - y < p.length - k) ∧ ((D : Int) = (D : Int) ∧ True ∧ True ∧ True ∧ True ∧ (p.length : Int) = (p.length : Int) ∧ (k : Int) + 1 = (y : Int) ∧ True) ∧ False ∧ False ∧ True ∧ (n = n ∧ p = p ∧ mk (isF p) = mk (isF p) ∧ True) ∧ True ∧ (lpK p (gr p lv) D l m k).snd.snd = (lpK p (gr p lv) D l m y).snd.snd ∧ (True ∧ True ∧ True ∧ True ∧ True ∧ True) ∧ True)) ∧ (¬bAnd .i64 ((D : Int) / (2 : Int) ^ k) (1 : Int) = 1 → True ∧ True ∧ True ∧ ((ok56 ((D : Int), (k : Int), n, p, mk (isF p)) ∧ (True ∧ (D : Int) = (D : Int) ∧ (k : Int) = (k : Int) ∧ True) ∧ (n = n ∧ p = p ∧ mk (isF p) = mk (isF p) ∧ True) ∧ True) ∧ True ∧ True) ∧ True ∧ True ∧ ((!flw p D k) = true → inR .i64 ((k : Int) + 1) ∧ True ∧ ((∃ (y : Nat), (inS p (gr p lv) D l m y ∧ p.length - y < p.length - k) ∧ ((D : Int) = (D : Int) ∧ True ∧ True ∧ True ∧ True ∧ (p.length : Int) = (p.length : Int) ∧ (k : Int) + 1 = (y : Int) ∧ True) ∧ True ∧ l = l ∧ True ∧ (n = n ∧ p = p ∧ mk (isF p) = mk (isF p) ∧ True) ∧ True ∧ (lpK p (gr p lv) D l m k).snd.snd = (lpK p (gr p lv) D l m y).snd.snd ∧ (True ∧ True ∧ True ∧ True ∧ True ∧ True) ∧ True) ∨ ∃ (y : Nat), (inS p (gr p lv) D l m y ∧ p.length - y < p.length - k) ∧ ((D : Int) = (D : Int) ∧ True ∧ True ∧ True ∧ True ∧ (p.length : Int) = (p.length : Int) ∧ (k : Int) + 1 = (y : Int) ∧ True) ∧ False ∧ False ∧ True ∧ (n = n ∧ p = p ∧ mk (isF p) = mk (isF p) ∧ True) ∧ True ∧ (lpK p (gr p lv) D l m k).snd.snd = (lpK p (gr p lv) D l m y).snd.snd ∧ (True ∧ True ∧ True ∧ True ∧ True ∧ True) ∧ True)) ∧ ((!flw p D k) = false → True ∧ True ∧ True ∧ sumPre l.length [(k : Int)].length (nat_lit 8) ∧ True ∧ True ∧ True ∧ True ∧ inR .u64 (k : Int) ∧ (((0 : Int) ≤ (k : Int) ∧ (k : Int) < bitsOf .i64) ∧ (-9223372036854775808 : Int) ≤ 1 * 2 ^ k ∧ (1 : Int) * 2 ^ k ≤ 9223372036854775807) ∧ True ∧ ((ok55 lv (bOr .i64 (D : Int) ((1 : Int) * 2 ^ k), (n, p, mk (isF p)), l ++ [(k : Int)], (lpK p (gr p lv) D l m k).snd.snd) ∧ (bOr .i64 (D : Int) ((1 : Int) * 2 ^ k) = bOr .i64 (D : Int) ((1 : Int) * 2 ^ k) ∧ True ∧ True ∧ True ∧ True ∧ True) ∧ True ∧ l ++ [(k : Int)] = l ++ [(k : Int)] ∧ True ∧ (n = n ∧ p = p ∧ mk (isF p) = mk (isF p) ∧ True) ∧ True ∧ (lpK p (gr p lv) D l m k).snd.snd = (lpK p (gr p lv) D l m k).snd.snd ∧ (True ∧ True ∧ True ∧ True ∧ True ∧ True) ∧ True) ∧ True ∧ True ∧ True ∧ True ∧ True ∧ True ∧ True ∧ True) ∧ ((gr p lv (bOr .i64 (D : Int) ((1 : Int) * 2 ^ k)).toNat (l ++ [(k : Int)]) (lpK p (gr p lv) D l m k).snd.snd).fst = true → True ∧ True ∧ (true = (gr p (lv + 1) D l m).fst ∧ True) ∧ True ∧ (gr p lv (bOr .i64 (D : Int) ((1 : Int) * 2 ^ k)).toNat (l ++ [(k : Int)]) (lpK p (gr p lv) D l m k).snd.snd).snd.fst = (gr p (lv + 1) D l m).snd.fst ∧ True ∧ (n = n ∧ p = p ∧ mk (isF p) = mk (isF p) ∧ True) ∧ True ∧ (gr p lv (bOr .i64 (D : Int) ((1 : Int) * 2 ^ k)).toNat (l ++ [(k : Int)]) (lpK p (gr p lv) D l m k).snd.snd).snd.snd = (gr p (lv + 1) D l m).snd.snd ∧ (True ∧ True ∧ True ∧ True ∧ True ∧ True) ∧ True) ∧ ((gr p lv (bOr .i64 (D : Int) ((1 : Int) * 2 ^ k)).toNat (l ++ [(k : Int)]) (lpK p (gr p lv) D l m k).snd.snd).fst = false → True ∧ True ∧ True ∧ inR .i64 ((↑(gr p lv (bOr .i64 (D : Int) ((1 : Int) * 2 ^ k)).toNat (l ++ [(k : Int)]) (lpK p (gr p lv) D l m k).snd.snd).snd.fst.length : Int) - 1) ∧ ((0 : Int) ≤ (↑(gr p lv (bOr .i64 (D : Int) ((1 : Int) * 2 ^ k)).toNat (l ++ [(k : Int)]) (lpK p (gr p lv) D l m k).snd.snd).snd.fst.length : Int) - 1 ∧ (↑(gr p lv (bOr .i64 (D : Int) ((1 : Int) * 2 ^ k)).toNat (l ++ [(k : Int)]) (lpK p (gr p lv) D l m k).snd.snd).snd.fst.length : Int) - 1 ≤ (↑(gr p lv (bOr .i64 (D : Int) ((1 : Int) * 2 ^ k)).toNat (l ++ [(k : Int)]) (lpK p (gr p lv) D l m k).snd.snd).snd.fst.length : Int)) ∧ True ∧ inR .i64 ((k : Int) + 1) ∧ True ∧ ((∃ (y : Nat), (inS p (gr p lv) D l m y ∧ p.length - y < p.length - k) ∧ ((D : Int) = (D : Int) ∧ True ∧ True ∧ True ∧ True ∧ (p.length : Int) = (p.length : Int) ∧ (k : Int) + 1 = (y : Int) ∧ True) ∧ False ∧ False ∧ True ∧ (n = n ∧ p = p ∧ mk (isF p) = mk (isF p) ∧ True) ∧ True ∧ (gr p lv (bOr .i64 (D : Int) ((1 : Int) * 2 ^ k)).toNat (l ++ [(k : Int)]) (lpK p (gr p lv) D l m k).snd.snd).snd.snd = (lpK p (gr p lv) D l m y).snd.snd ∧ (True ∧ True ∧ True ∧ True ∧ True ∧ True) ∧ True) ∨ ∃ (y : Nat), (inS p (gr p lv) D l m y ∧ p.length - y < p.length - k) ∧ ((D : Int) = (D : Int) ∧ True ∧ True ∧ True ∧ True ∧ (p.length : Int) = (p.length : Int) ∧ (k : Int) + 1 = (y : Int) ∧ True) ∧ True ∧ List.take ((↑(gr p lv (bOr .i64 (D : Int) ((1 : Int) * 2 ^ k)).toNat (l ++ [(k : Int)]) (lpK p (gr p lv) D l m k).snd.snd).snd.fst.length : Int) - 1).toNat (gr p lv (bOr .i64 (D : Int) ((1 : Int) * 2 ^ k)).toNat (l ++ [(k : Int)]) (lpK p (gr p lv) D l m k).snd.snd).snd.fst = l ∧ True ∧ (n = n ∧ p = p ∧ mk (isF p) = mk (isF p) ∧ True) ∧ True ∧ (gr p lv (bOr .i64 (D : Int) ((1 : Int) * 2 ^ k)).toNat (l ++ [(k : Int)]) (lpK p (gr p lv) D l m k).snd.snd).snd.snd = (lpK p (gr p lv) D l m y).snd.snd ∧ (True ∧ True ∧ True ∧ True ∧ True ∧ True) ∧ True))))) ∧ (¬(k : Int) < (p.length : Int) → (∃ (y : Unit), (lpK p (gr p lv) D l m p.length).fst = false ∧ ((D : Int) = (D : Int) ∧ True ∧ True ∧ True ∧ True ∧ True) ∧ True ∧ l = l ∧ True ∧ (n = n ∧ p = p ∧ mk (isF p) = mk (isF p) ∧ True) ∧ True ∧ (lpK p (gr p lv) D l m k).snd.snd = (lpK p (gr p lv) D l m p.length).snd.snd ∧ (True ∧ True ∧ True ∧ True ∧ True ∧ True) ∧ True) ∨ ∃ (y : Unit), (lpK p (gr p lv) D l m p.length).fst = false ∧ ((D : Int) = (D : Int) ∧ True ∧ True ∧ True ∧ True ∧ True) ∧ False ∧ False ∧ True ∧ (n = n ∧ p = p ∧ mk (isF p) = mk (isF p) ∧ True) ∧ True ∧ (lpK p (gr p lv) D l m k).snd.snd = (lpK p (gr p lv) D l m p.length).snd.snd ∧ (True ∧ True ∧ True ∧ True ∧ True ∧ True) ∧ True)) (by kernel_rfl) ?_
   simp only [zz]
   obtain ⟨k1, k2⟩ := hk
   have hl := hp.l
   have hc := hp.h.2.1
   have hD := pre_D hp
   refine ⟨fun h => ?_, fun h => by rw [show p.length = k by omega]; exact ⟨k2, rfl⟩⟩
   have hkp : k < p.length := by omega
   have hb := or_pow10 hD (k := k) (by omega)
   have hst := lpK_go k2
   rw [bit_shr hD, hb.1, Int.toNat_natCast]
   have hskip : (D / 2 ^ k % 2 = 1 ∨ flw p D k = false) → inR .i64 ((k : Int) + 1) ∧ ∃ y : Nat, (inS p (gr p lv) D l m y ∧ p.length - y < p.length - k) ∧ (k : Int) + 1 = (y : Int) ∧ (lpK p (gr p lv) D l m k).2.2 = (lpK p (gr p lv) D l m y).2.2 := fun hh => by
     rw [if_pos hh] at hst
     exact ⟨by simp only [inR]; omega, k + 1, ⟨⟨by omega, by rw [hst]; exact k2⟩, by omega⟩, by omega, by rw [hst]⟩
   refine ⟨by simp only [inR]; omega, ⟨by omega, by simp only [bitsOf]; omega⟩, fun hx => hskip (.inl (by omega)), fun hx => ⟨⟨⟨hp.h, rfl⟩, ⟨by simp only; omega, by simp only; omega⟩, ⟨by simp only; omega, by simp only; omega⟩⟩, fun hx2 => hskip (.inr (by simpa using hx2)), fun hx2 => ?_⟩⟩
   have hx2 : flw p D k = true := by simpa using hx2
   rw [if_neg (by simp [hx2]; omega)] at hst
   have hlt : D ||| 2 ^ k < 2 ^ p.length := Nat.or_lt_two_pow hp.D (Nat.pow_lt_pow_right (by decide) hkp)
   have hpre : pre55 n p lv (D ||| 2 ^ k) (l ++ [(k : Int)]) := ⟨hp.h, hlt, by simp; omega⟩
   refine ⟨by unfold sumPre; simp; omega, by simp only [inR]; omega, ⟨⟨by omega, by simp only [bitsOf]; omega⟩, by omega, by omega⟩, ⟨⟨hp.h, rfl⟩, by simp only; omega, hpre⟩, fun hr => ?_, fun hr => ?_⟩
   · have hr : (gr p lv (D ||| 2 ^ k) (l ++ [(k : Int)]) (lpK p (gr p lv) D l m k).2.2).1 = true := hr
     rw [if_pos hr] at hst
     have hs := lpK_stop (k := k + 1) (by rw [hst]; exact hr) (p.length - (k + 1))
     rw [show k + 1 + (p.length - (k + 1)) = p.length by omega, hst] at hs
     have e : gr p (lv + 1) D l m = gr p lv (D ||| 2 ^ k) (l ++ [(k : Int)]) (lpK p (gr p lv) D l m k).2.2 := by rw [gr, if_neg hm, hs, if_pos hr]
     rw [e]
     exact ⟨hr.symm, rfl, rfl⟩
   · have hr : (gr p lv (D ||| 2 ^ k) (l ++ [(k : Int)]) (lpK p (gr p lv) D l m k).2.2).1 = false := hr
     rw [if_neg (by simp [hr])] at hst
     have h2 := gr_list hr
     have q1 : inR .i64 (((gr p lv (D ||| 2 ^ k) (l ++ [(k : Int)]) (lpK p (gr p lv) D l m k).2.2).2.1.length : Int) - 1) := by rw [h2]; simp only [inR]; simp; omega
     have q2 : 0 ≤ ((gr p lv (D ||| 2 ^ k) (l ++ [(k : Int)]) (lpK p (gr p lv) D l m k).2.2).2.1.length : Int) - 1 ∧ ((gr p lv (D ||| 2 ^ k) (l ++ [(k : Int)]) (lpK p (gr p lv) D l m k).2.2).2.1.length : Int) - 1 ≤ ((gr p lv (D ||| 2 ^ k) (l ++ [(k : Int)]) (lpK p (gr p lv) D l m k).2.2).2.1.length : Int) := by rw [h2]; simp; omega
     have q3 : (gr p lv (D ||| 2 ^ k) (l ++ [(k : Int)]) (lpK p (gr p lv) D l m k).2.2).2.1.take (((gr p lv (D ||| 2 ^ k) (l ++ [(k : Int)]) (lpK p (gr p lv) D l m k).2.2).2.1.length : Int) - 1).toNat = l := by rw [h2]; simp
     have q4 : (gr p lv (D ||| 2 ^ k) (l ++ [(k : Int)]) (lpK p (gr p lv) D l m k).2.2).2.2 = (lpK p (gr p lv) D l m (k + 1)).2.2 := by rw [hst]
     exact ⟨q1, q2, by simp only [inR]; omega, k + 1, ⟨⟨by omega, by rw [hst]⟩, by omega⟩, by omega, q3, q4⟩
 · refine of_eq (q := True ∧ ((k : Int) < (p.length : Int) → True ∧ True ∧ True ∧ True ∧ inR .u64 (k : Int) ∧ ((0 : Int) ≤ (k : Int) ∧ (k : Int) < bitsOf .i64) ∧ True ∧ True ∧ True ∧ (bAnd .i64 ((D : Int) / (2 : Int) ^ k) (1 : Int) = 1 → True ∧ inR .i64 ((k : Int) + 1) ∧ True ∧ ((∃ (y : Nat), (inS p (gr p lv) D l m y ∧ p.length - y < p.length - k) ∧ ((D : Int) = (D : Int) ∧ True ∧ True ∧ True ∧ True ∧ (p.length : Int) = (p.length : Int) ∧ (k : Int) + 1 = (y : Int) ∧ True) ∧ False ∧ False ∧ True ∧ (n = n ∧ p = p ∧ mk (isF p) = mk (isF p) ∧ True) ∧ True ∧ (lpK p (gr p lv) D l m k).snd.snd = (lpK p (gr p lv) D l m y).snd.snd ∧ (True ∧ True ∧ True ∧ True ∧ True ∧ True) ∧ True) ∨ ∃ (y : Nat), (inS p (gr p lv) D l m y ∧ p.length - y < p.length - k) ∧ ((D : Int) = (D : Int) ∧ True ∧ True ∧ True ∧ True ∧ (p.length : Int) = (p.length : Int) ∧ (k : Int) + 1 = (y : Int) ∧ True) ∧ True ∧ l = l ∧ True ∧ (n = n ∧ p = p ∧ mk (isF p) = mk (isF p) ∧ True) ∧ True ∧ (lpK p (gr p lv) D l m k).snd.snd = (lpK p (gr p lv) D l m y).snd.snd ∧ (True ∧ True ∧ True ∧ True ∧ True ∧ True) ∧ True)) ∧ (¬bAnd .i64 ((D : Int) / (2 : Int) ^ k) (1 : Int) = 1 → True ∧ True ∧ True ∧ ((ok56 ((D : Int), (k : Int), n, p, mk (isF p)) ∧ (True ∧ (D : Int) = (D : Int) ∧ (k : Int) = (k : Int) ∧ True) ∧ (n = n ∧ p = p ∧ mk (isF p) = mk (isF p) ∧ True) ∧ True) ∧ True ∧ True) ∧ True ∧ True ∧ ((!flw p D k) = true → inR .i64 ((k : Int) + 1) ∧ True ∧ ((∃ (y : Nat), (inS p (gr p lv) D l m y ∧ p.length - y < p.length - k) ∧ ((D : Int) = (D : Int) ∧ True ∧ True ∧ True ∧ True ∧ (p.length : Int) = (p.length : Int) ∧ (k : Int) + 1 = (y : Int) ∧ True) ∧ False ∧ False ∧ True ∧ (n = n ∧ p = p ∧ mk (isF p) = mk (isF p) ∧ True) ∧ True ∧ (lpK p (gr p lv) D l m k).snd.snd = (lpK p (gr p lv) D l m y).snd.snd ∧ (True ∧ True ∧ True ∧ True ∧ True ∧ True) ∧ True) ∨ ∃ (y : Nat), (inS p (gr p lv) D l m y ∧ p.length - y < p.length - k) ∧ ((D : Int) = (D : Int) ∧ True ∧ True ∧ True ∧ True ∧ (p.length : Int) = (p.length : Int) ∧ (k : Int) + 1 = (y : Int) ∧ True) ∧ True ∧ l = l ∧ True ∧ (n = n ∧ p = p ∧ mk (isF p) = mk (isF p) ∧ True) ∧ True ∧ (lpK p (gr p lv) D l m k).snd.snd = (lpK p (gr p lv) D l m y).snd.snd ∧ (True ∧ True ∧ True ∧ True ∧ True ∧ True) ∧ True)) ∧ ((!flw p D k) = false → True ∧ True ∧ True ∧ sumPre l.length [(k : Int)].length (nat_lit 8) ∧ True ∧ True ∧ True ∧ True ∧ inR .u64 (k : Int) ∧ (((0 : Int) ≤ (k : Int) ∧ (k : Int) < bitsOf .i64) ∧ (-9223372036854775808 : Int) ≤ 1 * 2 ^ k ∧ (1 : Int) * 2 ^ k ≤ 9223372036854775807) ∧ True ∧ ((ok55 lv (bOr .i64 (D : Int) ((1 : Int) * 2 ^ k), (n, p, mk (isF p)), l ++ [(k : Int)], (lpK p (gr p lv) D l m k).snd.snd) ∧ (bOr .i64 (D : Int) ((1 : Int) * 2 ^ k) = bOr .i64 (D : Int) ((1 : Int) * 2 ^ k) ∧ True ∧ True ∧ True ∧ True ∧ True) ∧ True ∧ l ++ [(k : Int)] = l ++ [(k : Int)] ∧ True ∧ (n = n ∧ p = p ∧ mk (isF p) = mk (isF p) ∧ True) ∧ True ∧ (lpK p (gr p lv) D l m k).snd.snd = (lpK p (gr p lv) D l m k).snd.snd ∧ (True ∧ True ∧ True ∧ True ∧ True ∧ True) ∧ True) ∧ True ∧ True ∧ True ∧ True ∧ True ∧ True ∧ True ∧ True) ∧ ((gr p lv (bOr .i64 (D : Int) ((1 : Int) * 2 ^ k)).toNat (l ++ [(k : Int)]) (lpK p (gr p lv) D l m k).snd.snd).fst = true → True ∧ True ∧ (true = (gr p (lv + 1) D l m).fst ∧ True) ∧ True ∧ (gr p lv (bOr .i64 (D : Int) ((1 : Int) * 2 ^ k)).toNat (l ++ [(k : Int)]) (lpK p (gr p lv) D l m k).snd.snd).snd.fst = (gr p (lv + 1) D l m).snd.fst ∧ True ∧ (n = n ∧ p = p ∧ mk (isF p) = mk (isF p) ∧ True) ∧ True ∧ (gr p lv (bOr .i64 (D : Int) ((1 : Int) * 2 ^ k)).toNat (l ++ [(k : Int)]) (lpK p (gr p lv) D l m k).snd.snd).snd.snd = (gr p (lv + 1) D l m).snd.snd ∧ (True ∧ True ∧ True ∧ True ∧ True ∧ True) ∧ True) ∧ ((gr p lv (bOr .i64 (D : Int) ((1 : Int) * 2 ^ k)).toNat (l ++ [(k : Int)]) (lpK p (gr p lv) D l m k).snd.snd).fst = false → True ∧ True ∧ True ∧ inR .i64 ((↑(gr p lv (bOr .i64 (D : Int) ((1 : Int) * 2 ^ k)).toNat (l ++ [(k : Int)]) (lpK p (gr p lv) D l m k).snd.snd).snd.fst.length : Int) - 1) ∧ ((0 : Int) ≤ (↑(gr p lv (bOr .i64 (D : Int) ((1 : Int) * 2 ^ k)).toNat (l ++ [(k : Int)]) (lpK p (gr p lv) D l m k).snd.snd).snd.fst.length : Int) - 1 ∧ (↑(gr p lv (bOr .i64 (D : Int) ((1 : Int) * 2 ^ k)).toNat (l ++ [(k : Int)]) (lpK p (gr p lv) D l m k).snd.snd).snd.fst.length : Int) - 1 ≤ (↑(gr p lv (bOr .i64 (D : Int) ((1 : Int) * 2 ^ k)).toNat (l ++ [(k : Int)]) (lpK p (gr p lv) D l m k).snd.snd).snd.fst.length : Int)) ∧ True ∧ inR .i64 ((k : Int) + 1) ∧ True ∧ ((∃ (y : Nat), (inS p (gr p lv) D l m y ∧ p.length - y < p.length - k) ∧ ((D : Int) = (D : Int) ∧ True ∧ True ∧ True ∧ True ∧ (p.length : Int) = (p.length : Int) ∧ (k : Int) + 1 = (y : Int) ∧ True) ∧ False ∧ False ∧ True ∧ (n = n ∧ p = p ∧ mk (isF p) = mk (isF p) ∧ True) ∧ True ∧ (gr p lv (bOr .i64 (D : Int) ((1 : Int) * 2 ^ k)).toNat (l ++ [(k : Int)]) (lpK p (gr p lv) D l m k).snd.snd).snd.snd = (lpK p (gr p lv) D l m y).snd.snd ∧ (True ∧ True ∧ True ∧ True ∧ True ∧ True) ∧ True) ∨ ∃ (y : Nat), (inS p (gr p lv) D l m y ∧ p.length - y < p.length - k) ∧ ((D : Int) = (D : Int) ∧ True ∧ True ∧ True ∧ True ∧ (p.length : Int) = (p.length : Int) ∧ (k : Int) + 1 = (y : Int) ∧ True) ∧ True ∧ List.take ((↑(gr p lv (bOr .i64 (D : Int) ((1 : Int) * 2 ^ k)).toNat (l ++ [(k : Int)]) (lpK p (gr p lv) D l m k).snd.snd).snd.fst.length : Int) - 1).toNat (gr p lv (bOr .i64 (D : Int) ((1 : Int) * 2 ^ k)).toNat (l ++ [(k : Int)]) (lpK p (gr p lv) D l m k).snd.snd).snd.fst = l ∧ True ∧ (n = n ∧ p = p ∧ mk (isF p) = mk (isF p) ∧ True) ∧ True ∧ (gr p lv (bOr .i64 (D : Int) ((1 : Int) * 2 ^ k)).toNat (l ++ [(k : Int)]) (lpK p (gr p lv) D l m k).snd.snd).snd.snd = (lpK p (gr p lv) D l m y).snd.snd ∧ (True ∧ True ∧ True ∧ True ∧ True ∧ True) ∧ True))))) ∧ (¬(k : Int) < (p.length : Int) → (∃ (y : Unit), (lpK p (gr p lv) D l m p.length).fst = false ∧ ((D : Int) = (D : Int) ∧ True ∧ True ∧ True ∧ True ∧ True) ∧ False ∧ False ∧ True ∧ (n = n ∧ p = p ∧ mk (isF p) = mk (isF p) ∧ True) ∧ True ∧ (lpK p (gr p lv) D l m k).snd.snd = (lpK p (gr p lv) D l m p.length).snd.snd ∧ (True ∧ True ∧ True ∧ True ∧ True ∧ True) ∧ True) ∨ ∃ (y : Unit), (lpK p (gr p lv) D l m p.length).fst = false ∧ ((D : Int) = (D : Int) ∧ True ∧ True ∧ True ∧ True ∧ True) ∧ True ∧ l = l ∧ True ∧ (n = n ∧ p = p ∧ mk (isF p) = mk (isF p) ∧ True) ∧ True ∧ (lpK p (gr p lv) D l m k).snd.snd = (lpK p (gr p lv) D l m p.length).snd.snd ∧ (True ∧ True ∧ True ∧ True ∧ True ∧ True) ∧ True)) (by kernel_rfl) ?_
   simp only [zz]
   obtain ⟨k1, k2⟩ := hk
   have hl := hp.l
   have hc := hp.h.2.1
   have hD := pre_D hp
   refine ⟨fun h => ?_, fun h => by rw [show p.length = k by omega]; exact ⟨k2, rfl⟩⟩
   have hkp : k < p.length := by omega
   have hb := or_pow10 hD (k := k) (by omega)
   have hst := lpK_go k2
   rw [bit_shr hD, hb.1, Int.toNat_natCast]
   have hskip : (D / 2 ^ k % 2 = 1 ∨ flw p D k = false) → inR .i64 ((k : Int) + 1) ∧ ∃ y : Nat, (inS p (gr p lv) D l m y ∧ p.length - y < p.length - k) ∧ (k : Int) + 1 = (y : Int) ∧ (lpK p (gr p lv) D l m k).2.2 = (lpK p (gr p lv) D l m y).2.2 := fun hh => by
     rw [if_pos hh] at hst
     exact ⟨by simp only [inR]; omega, k + 1, ⟨⟨by omega, by rw [hst]; exact k2⟩, by omega⟩, by omega, by rw [hst]⟩
   refine ⟨by simp only [inR]; omega, ⟨by omega, by simp only [bitsOf]; omega⟩, fun hx => hskip (.inl (by omega)), fun hx => ⟨⟨⟨hp.h, rfl⟩, ⟨by simp only; omega, by simp only; omega⟩, ⟨by simp only; omega, by simp only; omega⟩⟩, fun hx2 => hskip (.inr (by simpa using hx2)), fun hx2 => ?_⟩⟩
   have hx2 : flw p D k = true := by simpa using hx2
   rw [if_neg (by simp [hx2]; omega)] at hst
   have hlt : D ||| 2 ^ k < 2 ^ p.length := Nat.or_lt_two_pow hp.D (Nat.pow_lt_pow_right (by decide) hkp)
   have hpre : pre55 n p lv (D ||| 2 ^ k) (l ++ [(k : Int)]) := ⟨hp.h, hlt, by simp; omega⟩
   refine ⟨by unfold sumPre; simp; omega, by simp only [inR]; omega, ⟨⟨by omega, by simp only [bitsOf]; omega⟩, by omega, by omega⟩, ⟨⟨hp.h, rfl⟩, by simp only; omega, hpre⟩, fun hr => ?_, fun hr => ?_⟩
   · have hr : (gr p lv (D ||| 2 ^ k) (l ++ [(k : Int)]) (lpK p (gr p lv) D l m k).2.2).1 = true := hr
     rw [if_pos hr] at hst
     have hs := lpK_stop (k := k + 1) (by rw [hst]; exact hr) (p.length - (k + 1))
     rw [show k + 1 + (p.length - (k + 1)) = p.length by omega, hst] at hs
     have e : gr p (lv + 1) D l m = gr p lv (D ||| 2 ^ k) (l ++ [(k : Int)]) (lpK p (gr p lv) D l m k).2.2 := by rw [gr, if_neg hm, hs, if_pos hr]
     rw [e]
     exact ⟨hr.symm, rfl, rfl⟩
   · have hr : (gr p lv (D ||| 2 ^ k) (l ++ [(k : Int)]) (lpK p (gr p lv) D l m k).2.2).1 = false := hr
     rw [if_neg (by simp [hr])] at hst
     have h2 := gr_list hr
     have q1 : inR .i64 (((gr p lv (D ||| 2 ^ k) (l ++ [(k : Int)]) (lpK p (gr p lv) D l m k).2.2).2.1.length : Int) - 1) := by rw [h2]; simp only [inR]; simp; omega
     have q2 : 0 ≤ ((gr p lv (D ||| 2 ^ k) (l ++ [(k : Int)]) (lpK p (gr p lv) D l m k).2.2).2.1.length : Int) - 1 ∧ ((gr p lv (D ||| 2 ^ k) (l ++ [(k : Int)]) (lpK p (gr p lv) D l m k).2.2).2.1.length : Int) - 1 ≤ ((gr p lv (D ||| 2 ^ k) (l ++ [(k : Int)]) (lpK p (gr p lv) D l m k).2.2).2.1.length : Int) := by rw [h2]; simp; omega
     have q3 : (gr p lv (D ||| 2 ^ k) (l ++ [(k : Int)]) (lpK p (gr p lv) D l m k).2.2).2.1.take (((gr p lv (D ||| 2 ^ k) (l ++ [(k : Int)]) (lpK p (gr p lv) D l m k).2.2).2.1.length : Int) - 1).toNat = l := by rw [h2]; simp
     have q4 : (gr p lv (D ||| 2 ^ k) (l ++ [(k : Int)]) (lpK p (gr p lv) D l m k).2.2).2.2 = (lpK p (gr p lv) D l m (k + 1)).2.2 := by rw [hst]
     exact ⟨q1, q2, by simp only [inR]; omega, k + 1, ⟨⟨by omega, by rw [hst]⟩, by omega⟩, by omega, q3, q4⟩
theorem gS1 (lv : Nat) (h' : GS lv) : GS (lv + 1) := by
 intro n p D l m hp
 have hL := fun hm => loopS lv h' n p D l m hp hm
 refine gcall_of (X := (X55 [e56, e55S lv h'])) ((Xb_ok _ _ _ _)) (f := 55) (fn := Try.f55) (c := bodyOf Try.f55) (by kernel_rfl) (by kernel_rfl) (view := false) (rvs := [.tmp 6]) (by kernel_rfl) (H := (HS n p (gr p lv) D l m)) 80 (by kernel_rfl) ?_
 refine of_eq (q := True ∧ True ∧ True ∧ True ∧ True ∧ True ∧ True ∧ True ∧ True ∧ ((l.length : Int) = (p.length : Int) → True ∧ True ∧ (true = (gr p (lv + 1) D l m).fst ∧ True) ∧ True ∧ l = (gr p (lv + 1) D l m).snd.fst ∧ True ∧ (n = n ∧ p = p ∧ mk (isF p) = mk (isF p) ∧ True) ∧ True ∧ m = (gr p (lv + 1) D l m).snd.snd ∧ (True ∧ True ∧ True ∧ True ∧ True ∧ True) ∧ True) ∧ (¬(l.length : Int) = (p.length : Int) → True ∧ True ∧ True ∧ ((mGet I64 m (D : Int)).getD false = true → True ∧ True ∧ (false = (gr p (lv + 1) D l m).fst ∧ True) ∧ True ∧ l = (gr p (lv + 1) D l m).snd.fst ∧ True ∧ (n = n ∧ p = p ∧ mk (isF p) = mk (isF p) ∧ True) ∧ True ∧ m = (gr p (lv + 1) D l m).snd.snd ∧ (True ∧ True ∧ True ∧ True ∧ True ∧ True) ∧ True) ∧ ((mGet I64 m (D : Int)).getD false = false → True ∧ True ∧ True ∧ True ∧ True ∧ True ∧ LoopOK (X55 [e56, e55S lv h']) L55_0 (hS n p (gr p lv) D l m) (RetR (X55 [e56, e55S lv h']) false false [ResultVar.tmp (6 : Tmp)] [AV.bool (gr p (lv + 1) D l m).fst] (gS (1 : Nat) n p (gr p (lv + 1) D l m).snd.fst (gr p (lv + 1) D l m).snd.snd)) ∧ ((∃ (y : Nat), inS p (gr p lv) D l m y ∧ ((D : Int) = (D : Int) ∧ True ∧ True ∧ True ∧ True ∧ (p.length : Int) = (p.length : Int) ∧ (0 : Int) = (y : Int) ∧ True) ∧ True ∧ l = l ∧ True ∧ (n = n ∧ p = p ∧ mk (isF p) = mk (isF p) ∧ True) ∧ True ∧ m = (lpK p (gr p lv) D l m y).snd.snd ∧ (True ∧ True ∧ True ∧ True ∧ True ∧ True) ∧ True) ∨ ∃ (y : Nat), inS p (gr p lv) D l m y ∧ ((D : Int) = (D : Int) ∧ True ∧ True ∧ True ∧ True ∧ (p.length : Int) = (p.length : Int) ∧ (0 : Int) = (y : Int) ∧ True) ∧ False ∧ False ∧ True ∧ (n = n ∧ p = p ∧ mk (isF p) = mk (isF p) ∧ True) ∧ True ∧ m = (lpK p (gr p lv) D l m y).snd.snd ∧ (True ∧ True ∧ True ∧ True ∧ True ∧ True) ∧ True) ∧ (∀ (y : Unit), (lpK p (gr p lv) D l m p.length).fst = false → True ∧ True ∧ True ∧ True ∧ True ∧ (false = (gr p (lv + 1) D l m).fst ∧ True) ∧ True ∧ l = (gr p (lv + 1) D l m).snd.fst ∧ True ∧ (n = n ∧ p = p ∧ mk (isF p) = mk (isF p) ∧ True) ∧ True ∧ mPut I64 (lpK p (gr p lv) D l m p.length).snd.snd (D : Int) true = (gr p (lv + 1) D l m).snd.snd ∧ (True ∧ True ∧ True ∧ True ∧ True ∧ True) ∧ True) ∧ (∀ (y : Unit), (lpK p (gr p lv) D l m p.length).fst = false → True ∧ True ∧ True ∧ True ∧ True ∧ (false = (gr p (lv + 1) D l m).fst ∧ True) ∧ True ∧ l = (gr p (lv + 1) D l m).snd.fst ∧ True ∧ (n = n ∧ p = p ∧ mk (isF p) = mk (isF p) ∧ True) ∧ True ∧ mPut I64 (lpK p (gr p lv) D l m p.length).snd.snd (D : Int) true = (gr p (lv + 1) D l m).snd.snd ∧ (True ∧ True ∧ True ∧ True ∧ True ∧ True) ∧ True) ∧ True))) (by kernel_rfl) ?_
 simp only [zz]
 have hl := hp.l
 have hg : mg m D = (mGet I64 m D).getD false := rfl
 refine ⟨fun h => by omega, fun _ => ⟨fun h => ?_, fun h => ⟨hL (by rw [hg, h]; simp) , ⟨0, ⟨Nat.zero_le _, rfl⟩, rfl, rfl⟩, fun _ hf => ?_, fun _ hf => ?_⟩⟩⟩
 · rw [gr, hg, if_pos h]; exact ⟨rfl, rfl, rfl⟩
 · rw [gr, hg, if_neg (by simp [h]), if_neg (by simp [hf])]; exact ⟨rfl, rfl, rfl⟩
 · rw [gr, hg, if_neg (by simp [h]), if_neg (by simp [hf])]; exact ⟨rfl, rfl, rfl⟩
theorem gS_all : ∀ lv, GS lv
 | 0 => gS0
 | lv + 1 => gS1 lv (gS_all lv)
def gN (n : Int) (p : List Int) (m : Mm) : List Ob := [.bx nl, .bx (.ptr 2 0 []), cxO n p, .bx (.mp 4), mmO m, .bx (clo55 0 1 3 5)]
def gO (n : Int) (p l : List Int) (m : Mm) : List Ob := [.bx (.own 6 0), .bx (.ptr 2 0 []), cxO n p, .bx (.mp 4), mmO m, .bx (clo55 0 1 3 5), .sc 0 3 I64 l]
def aN (D : Int) : List AV := [.int .i64 D, .ptr 0 0 [], .ptr 1 0 [], .ptr 3 0 [], .ptr 5 0 []]
def sN (n : Int) (p : List Int) (D : Nat) (m : Mm) (k : Nat) : St := ⟨aN D ++ dd 18 ++ .int .i64 p.length :: .int .i64 k :: dd 34, gN n p m⟩
def sO (n : Int) (p : List Int) (f : Nat → List Int → Mm → Res) (D : Nat) (m : Mm) (k : Nat) : St := ⟨aN D ++ dd 18 ++ .int .i64 p.length :: .int .i64 k :: dd 34, gO n p [] (lpK p f D [] m k).2.2⟩
def fmN (n : Int) (p : List Int) (f : Nat → List Int → Mm → Res) (D : Nat) (m : Mm) : List Fam := [⟨Nat, fun k => k = 0, sN n p D m, fun k => p.length - k, fun _ _ => none⟩, ⟨Nat, inS p f D [] m, sO n p f D m, fun k => p.length - k, fun _ _ => none⟩]
def exN (n : Int) (p : List Int) (f : Nat → List Int → Mm → Res) (D : Nat) (m : Mm) : List (List Nat × Ex) := [([0, 1, 2, 3, 4], ⟨0, Unit, fun _ => (lpK p f D [] m p.length).1 = false, fun _ => ⟨aN D ++ dd 54, gO n p [] (lpK p f D [] m p.length).2.2⟩⟩)]
def hN (n : Int) (p : List Int) (f : Nat → List Int → Mm → Res) (D : Nat) (m : Mm) : Hint := ⟨chks 6 [0, 1, 2, 3, 4, 23, 24] (fmN n p f D m), (exN n p f D m).map (·.2)⟩
noncomputable def HN (n : Int) (p : List Int) (f : Nat → List Int → Mm → Res) (D : Nat) (m : Mm) : Nat → Option Hint := fun _ => some (hN n p f D m)
noncomputable abbrev XN (lv : Nat) : Cy := Xb [e56, e55S lv (gS_all lv)] 6 [] (fun _ => none)
theorem flw_zero (p : List Int) (k : Nat) : flw p 0 k = true := by
 refine decide_eq_true fun j _ h => ?_
 rw [Nat.zero_div] at h; cases h
theorem loopN (lv : Nat) (n : Int) (p : List Int) (D : Nat) (m : Mm) (hp : pre55 n p (lv + 1) D []) (hD0 : D = 0) (hm : ¬ mg m D = true) : LoopOK (XN lv) L55_0 (hN n p (gr p lv) D m)
   (RetR (XN lv) false false [.tmp 6] [.bool (gr p (lv + 1) D [] m).1] (gO n p (gr p (lv + 1) D [] m).2.1 (gr p (lv + 1) D [] m).2.2)) := by
 refine loop_fams (Xb_ok _ _ _ _) [0, 1, 2, 3, 4, 23, 24] (fmN n p (gr p lv) D m) (exN n p (gr p lv) D m) 150 ⟨fun (k : Nat) hk => ?_, fun (k : Nat) hk => ?_, trivial⟩
 · refine of_eq (q := True ∧ ((k : Int) < (p.length : Int) → True ∧ True ∧ True ∧ True ∧ inR .u64 (k : Int) ∧ ((0 : Int) ≤ (k : Int) ∧ (k : Int) < bitsOf .i64) ∧ True ∧ True ∧ True ∧ (bAnd .i64 ((D : Int) / (2 : Int) ^ k) (1 : Int) = 1 → True ∧ inR .i64 ((k : Int) + 1) ∧ True ∧ ((∃ (y : Nat), (y = 0 ∧ p.length - y < p.length - k) ∧ ((D : Int) = (D : Int) ∧ True ∧ True ∧ True ∧ True ∧ (p.length : Int) = (p.length : Int) ∧ (k : Int) + 1 = (y : Int) ∧ True) ∧ True ∧ True ∧ (n = n ∧ p = p ∧ mk (isF p) = mk (isF p) ∧ True) ∧ True ∧ m = m ∧ (True ∧ True ∧ True ∧ True ∧ True ∧ True) ∧ True) ∨ ∃ (y : Nat), (inS p (gr p lv) D [] m y ∧ p.length - y < p.length - k) ∧ ((D : Int) = (D : Int) ∧ True ∧ True ∧ True ∧ True ∧ (p.length : Int) = (p.length : Int) ∧ (k : Int) + 1 = (y : Int) ∧ True) ∧ False ∧ True ∧ (n = n ∧ p = p ∧ mk (isF p) = mk (isF p) ∧ True) ∧ True ∧ m = (lpK p (gr p lv) D [] m y).snd.snd ∧ (True ∧ True ∧ True ∧ True ∧ True ∧ True) ∧ False)) ∧ (¬bAnd .i64 ((D : Int) / (2 : Int) ^ k) (1 : Int) = 1 → True ∧ True ∧ True ∧ ((ok56 ((D : Int), (k : Int), n, p, mk (isF p)) ∧ (True ∧ (D : Int) = (D : Int) ∧ (k : Int) = (k : Int) ∧ True) ∧ (n = n ∧ p = p ∧ mk (isF p) = mk (isF p) ∧ True) ∧ True) ∧ True ∧ True) ∧ True ∧ True ∧ ((!flw p D k) = true → inR .i64 ((k : Int) + 1) ∧ True ∧ ((∃ (y : Nat), (y = 0 ∧ p.length - y < p.length - k) ∧ ((D : Int) = (D : Int) ∧ True ∧ True ∧ True ∧ True ∧ (p.length : Int) = (p.length : Int) ∧ (k : Int) + 1 = (y : Int) ∧ True) ∧ True ∧ True ∧ (n = n ∧ p = p ∧ mk (isF p) = mk (isF p) ∧ True) ∧ True ∧ m = m ∧ (True ∧ True ∧ True ∧ True ∧ True ∧ True) ∧ True) ∨ ∃ (y : Nat), (inS p (gr p lv) D [] m y ∧ p.length - y < p.length - k) ∧ ((D : Int) = (D : Int) ∧ True ∧ True ∧ True ∧ True ∧ (p.length : Int) = (p.length : Int) ∧ (k : Int) + 1 = (y : Int) ∧ True) ∧ False ∧ True ∧ (n = n ∧ p = p ∧ mk (isF p) = mk (isF p) ∧ True) ∧ True ∧ m = (lpK p (gr p lv) D [] m y).snd.snd ∧ (True ∧ True ∧ True ∧ True ∧ True ∧ True) ∧ False)) ∧ ((!flw p D k) = false → True ∧ True ∧ True ∧ sumPre (0 : Nat) [(k : Int)].length (nat_lit 8) ∧ True ∧ True ∧ True ∧ True ∧ inR .u64 (k : Int) ∧ (((0 : Int) ≤ (k : Int) ∧ (k : Int) < bitsOf .i64) ∧ (-9223372036854775808 : Int) ≤ 1 * 2 ^ k ∧ (1 : Int) * 2 ^ k ≤ 9223372036854775807) ∧ True ∧ ((ok55 lv (bOr .i64 (D : Int) ((1 : Int) * 2 ^ k), (n, p, mk (isF p)), [(k : Int)], m) ∧ (bOr .i64 (D : Int) ((1 : Int) * 2 ^ k) = bOr .i64 (D : Int) ((1 : Int) * 2 ^ k) ∧ True ∧ True ∧ True ∧ True ∧ True) ∧ True ∧ [(k : Int)] = [(k : Int)] ∧ True ∧ (n = n ∧ p = p ∧ mk (isF p) = mk (isF p) ∧ True) ∧ True ∧ m = m ∧ (True ∧ True ∧ True ∧ True ∧ True ∧ True) ∧ True) ∧ True ∧ True ∧ True ∧ True ∧ True ∧ True ∧ True ∧ True) ∧ ((gr p lv (bOr .i64 (D : Int) ((1 : Int) * 2 ^ k)).toNat [(k : Int)] m).fst = true → True ∧ True ∧ (true = (gr p (lv + 1) D [] m).fst ∧ True) ∧ True ∧ True ∧ (n = n ∧ p = p ∧ mk (isF p) = mk (isF p) ∧ True) ∧ True ∧ (gr p lv (bOr .i64 (D : Int) ((1 : Int) * 2 ^ k)).toNat [(k : Int)] m).snd.snd = (gr p (lv + 1) D [] m).snd.snd ∧ (True ∧ True ∧ True ∧ True ∧ True ∧ True) ∧ (gr p lv (bOr .i64 (D : Int) ((1 : Int) * 2 ^ k)).toNat [(k : Int)] m).snd.fst = (gr p (lv + 1) D [] m).snd.fst ∧ True) ∧ ((gr p lv (bOr .i64 (D : Int) ((1 : Int) * 2 ^ k)).toNat [(k : Int)] m).fst = false → True ∧ True ∧ True ∧ inR .i64 ((↑(gr p lv (bOr .i64 (D : Int) ((1 : Int) * 2 ^ k)).toNat [(k : Int)] m).snd.fst.length : Int) - 1) ∧ ((0 : Int) ≤ (↑(gr p lv (bOr .i64 (D : Int) ((1 : Int) * 2 ^ k)).toNat [(k : Int)] m).snd.fst.length : Int) - 1 ∧ (↑(gr p lv (bOr .i64 (D : Int) ((1 : Int) * 2 ^ k)).toNat [(k : Int)] m).snd.fst.length : Int) - 1 ≤ (↑(gr p lv (bOr .i64 (D : Int) ((1 : Int) * 2 ^ k)).toNat [(k : Int)] m).snd.fst.length : Int)) ∧ True ∧ inR .i64 ((k : Int) + 1) ∧ True ∧ ((∃ (y : Nat), (y = 0 ∧ p.length - y < p.length - k) ∧ ((D : Int) = (D : Int) ∧ True ∧ True ∧ True ∧ True ∧ (p.length : Int) = (p.length : Int) ∧ (k : Int) + 1 = (y : Int) ∧ True) ∧ False ∧ True ∧ (n = n ∧ p = p ∧ mk (isF p) = mk (isF p) ∧ True) ∧ True ∧ (gr p lv (bOr .i64 (D : Int) ((1 : Int) * 2 ^ k)).toNat [(k : Int)] m).snd.snd = m ∧ (True ∧ True ∧ True ∧ True ∧ True ∧ True) ∧ True) ∨ ∃ (y : Nat), (inS p (gr p lv) D [] m y ∧ p.length - y < p.length - k) ∧ ((D : Int) = (D : Int) ∧ True ∧ True ∧ True ∧ True ∧ (p.length : Int) = (p.length : Int) ∧ (k : Int) + 1 = (y : Int) ∧ True) ∧ True ∧ True ∧ (n = n ∧ p = p ∧ mk (isF p) = mk (isF p) ∧ True) ∧ True ∧ (gr p lv (bOr .i64 (D : Int) ((1 : Int) * 2 ^ k)).toNat [(k : Int)] m).snd.snd = (lpK p (gr p lv) D [] m y).snd.snd ∧ (True ∧ True ∧ True ∧ True ∧ True ∧ True) ∧ List.take ((↑(gr p lv (bOr .i64 (D : Int) ((1 : Int) * 2 ^ k)).toNat [(k : Int)] m).snd.fst.length : Int) - 1).toNat (gr p lv (bOr .i64 (D : Int) ((1 : Int) * 2 ^ k)).toNat [(k : Int)] m).snd.fst = [] ∧ True))))) ∧ (¬(k : Int) < (p.length : Int) → ∃ (y : Unit), (lpK p (gr p lv) D [] m p.length).fst = false ∧ ((D : Int) = (D : Int) ∧ True ∧ True ∧ True ∧ True ∧ True) ∧ False ∧ True ∧ (n = n ∧ p = p ∧ mk (isF p) = mk (isF p) ∧ True) ∧ True ∧ m = (lpK p (gr p lv) D [] m p.length).snd.snd ∧ (True ∧ True ∧ True ∧ True ∧ True ∧ True) ∧ False)) (by kernel_rfl) ?_
   simp only [zz]
   have hk : k = 0 := hk
   have hl : lv + 1 = p.length := by have := hp.l; simpa using this
   have hc := hp.h.2.1
   have hD := pre_D hp
   refine ⟨fun h => ?_, fun h => by omega⟩
   have hkp : k < p.length := by omega
   have hb := or_pow10 hD (k := k) (by omega)
   have e0 : lpK p (gr p lv) D [] m k = (false, [], m) := by rw [hk]; try rfl
   have hst := lpK_go (p := p) (f := gr p lv) (D := D) (l := []) (m := m) (k := k) (by rw [e0])
   have hf : flw p D k = true := by rw [hD0]; exact flw_zero p k
   have hz : D / 2 ^ k % 2 = 0 := by rw [hD0, Nat.zero_div]
   rw [if_neg (by rw [hz, hf]; simp), e0] at hst
   simp only [List.nil_append] at hst
   rw [bit_shr hD, hb.1, Int.toNat_natCast, hz, hf]
   have hlt : D ||| 2 ^ k < 2 ^ p.length := Nat.or_lt_two_pow hp.D (Nat.pow_lt_pow_right (by decide) hkp)
   have hpre : pre55 n p lv (D ||| 2 ^ k) [(k : Int)] := ⟨hp.h, hlt, by simp; omega⟩
   refine ⟨by simp only [inR]; omega, ⟨by omega, by simp only [bitsOf]; omega⟩, fun hx => absurd hx (by decide), fun hx => ⟨⟨⟨hp.h, rfl⟩, ⟨by simp only; omega, by simp only; omega⟩, ⟨by simp only; omega, by simp only; omega⟩⟩, fun hx2 => absurd hx2 (by decide), fun hx2 => ?_⟩⟩
   refine ⟨by unfold sumPre; simp, by simp only [inR]; omega, ⟨⟨by omega, by simp only [bitsOf]; omega⟩, by omega, by omega⟩, ⟨⟨hp.h, rfl⟩, by simp only; omega, hpre⟩, fun hr => ?_, fun hr => ?_⟩
   · have hr : (gr p lv (D ||| 2 ^ k) [(k : Int)] m).1 = true := hr
     rw [if_pos hr] at hst
     have hs := lpK_stop (k := k + 1) (by rw [hst]; exact hr) (p.length - (k + 1))
     rw [show k + 1 + (p.length - (k + 1)) = p.length by omega, hst] at hs
     have e : gr p (lv + 1) D [] m = gr p lv (D ||| 2 ^ k) [(k : Int)] m := by rw [gr, if_neg hm, hs, if_pos hr]
     rw [e]
     exact ⟨hr.symm, rfl, rfl⟩
   · have hr : (gr p lv (D ||| 2 ^ k) [(k : Int)] m).1 = false := hr
     rw [if_neg (by simp [hr])] at hst
     have h2 := gr_list hr
     have q1 : inR .i64 (((gr p lv (D ||| 2 ^ k) [(k : Int)] m).2.1.length : Int) - 1) := by rw [h2]; simp only [inR]; simp
     have q2 : 0 ≤ ((gr p lv (D ||| 2 ^ k) [(k : Int)] m).2.1.length : Int) - 1 ∧ ((gr p lv (D ||| 2 ^ k) [(k : Int)] m).2.1.length : Int) - 1 ≤ ((gr p lv (D ||| 2 ^ k) [(k : Int)] m).2.1.length : Int) := by rw [h2]; simp
     have q3 : (gr p lv (D ||| 2 ^ k) [(k : Int)] m).2.1.take (((gr p lv (D ||| 2 ^ k) [(k : Int)] m).2.1.length : Int) - 1).toNat = [] := by rw [h2]; simp
     have q4 : (gr p lv (D ||| 2 ^ k) [(k : Int)] m).2.2 = (lpK p (gr p lv) D [] m (k + 1)).2.2 := by rw [hst]
     exact ⟨q1, q2, by simp only [inR]; omega, k + 1, ⟨⟨by omega, by rw [hst]⟩, by omega⟩, by omega, q4, q3⟩
 · refine of_eq (q := True ∧ ((k : Int) < (p.length : Int) → True ∧ True ∧ True ∧ True ∧ inR .u64 (k : Int) ∧ ((0 : Int) ≤ (k : Int) ∧ (k : Int) < bitsOf .i64) ∧ True ∧ True ∧ True ∧ (bAnd .i64 ((D : Int) / (2 : Int) ^ k) (1 : Int) = 1 → True ∧ inR .i64 ((k : Int) + 1) ∧ True ∧ ((∃ (y : Nat), (y = 0 ∧ p.length - y < p.length - k) ∧ ((D : Int) = (D : Int) ∧ True ∧ True ∧ True ∧ True ∧ (p.length : Int) = (p.length : Int) ∧ (k : Int) + 1 = (y : Int) ∧ True) ∧ False ∧ True ∧ (n = n ∧ p = p ∧ mk (isF p) = mk (isF p) ∧ True) ∧ True ∧ (lpK p (gr p lv) D [] m k).snd.snd = m ∧ (True ∧ True ∧ True ∧ True ∧ True ∧ True) ∧ True) ∨ ∃ (y : Nat), (inS p (gr p lv) D [] m y ∧ p.length - y < p.length - k) ∧ ((D : Int) = (D : Int) ∧ True ∧ True ∧ True ∧ True ∧ (p.length : Int) = (p.length : Int) ∧ (k : Int) + 1 = (y : Int) ∧ True) ∧ True ∧ True ∧ (n = n ∧ p = p ∧ mk (isF p) = mk (isF p) ∧ True) ∧ True ∧ (lpK p (gr p lv) D [] m k).snd.snd = (lpK p (gr p lv) D [] m y).snd.snd ∧ (True ∧ True ∧ True ∧ True ∧ True ∧ True) ∧ ([] : List Int) = [] ∧ True)) ∧ (¬bAnd .i64 ((D : Int) / (2 : Int) ^ k) (1 : Int) = 1 → True ∧ True ∧ True ∧ ((ok56 ((D : Int), (k : Int), n, p, mk (isF p)) ∧ (True ∧ (D : Int) = (D : Int) ∧ (k : Int) = (k : Int) ∧ True) ∧ (n = n ∧ p = p ∧ mk (isF p) = mk (isF p) ∧ True) ∧ True) ∧ True ∧ True) ∧ True ∧ True ∧ ((!flw p D k) = true → inR .i64 ((k : Int) + 1) ∧ True ∧ ((∃ (y : Nat), (y = 0 ∧ p.length - y < p.length - k) ∧ ((D : Int) = (D : Int) ∧ True ∧ True ∧ True ∧ True ∧ (p.length : Int) = (p.length : Int) ∧ (k : Int) + 1 = (y : Int) ∧ True) ∧ False ∧ True ∧ (n = n ∧ p = p ∧ mk (isF p) = mk (isF p) ∧ True) ∧ True ∧ (lpK p (gr p lv) D [] m k).snd.snd = m ∧ (True ∧ True ∧ True ∧ True ∧ True ∧ True) ∧ True) ∨ ∃ (y : Nat), (inS p (gr p lv) D [] m y ∧ p.length - y < p.length - k) ∧ ((D : Int) = (D : Int) ∧ True ∧ True ∧ True ∧ True ∧ (p.length : Int) = (p.length : Int) ∧ (k : Int) + 1 = (y : Int) ∧ True) ∧ True ∧ True ∧ (n = n ∧ p = p ∧ mk (isF p) = mk (isF p) ∧ True) ∧ True ∧ (lpK p (gr p lv) D [] m k).snd.snd = (lpK p (gr p lv) D [] m y).snd.snd ∧ (True ∧ True ∧ True ∧ True ∧ True ∧ True) ∧ ([] : List Int) = [] ∧ True)) ∧ ((!flw p D k) = false → True ∧ True ∧ True ∧ sumPre ([] : List Int).length [(k : Int)].length (nat_lit 8) ∧ True ∧ True ∧ True ∧ True ∧ inR .u64 (k : Int) ∧ (((0 : Int) ≤ (k : Int) ∧ (k : Int) < bitsOf .i64) ∧ (-9223372036854775808 : Int) ≤ 1 * 2 ^ k ∧ (1 : Int) * 2 ^ k ≤ 9223372036854775807) ∧ True ∧ ((ok55 lv (bOr .i64 (D : Int) ((1 : Int) * 2 ^ k), (n, p, mk (isF p)), [] ++ [(k : Int)], (lpK p (gr p lv) D [] m k).snd.snd) ∧ (bOr .i64 (D : Int) ((1 : Int) * 2 ^ k) = bOr .i64 (D : Int) ((1 : Int) * 2 ^ k) ∧ True ∧ True ∧ True ∧ True ∧ True) ∧ True ∧ [] ++ [(k : Int)] = [] ++ [(k : Int)] ∧ True ∧ (n = n ∧ p = p ∧ mk (isF p) = mk (isF p) ∧ True) ∧ True ∧ (lpK p (gr p lv) D [] m k).snd.snd = (lpK p (gr p lv) D [] m k).snd.snd ∧ (True ∧ True ∧ True ∧ True ∧ True ∧ True) ∧ True) ∧ True ∧ True ∧ True ∧ True ∧ True ∧ True ∧ True ∧ True) ∧ ((gr p lv (bOr .i64 (D : Int) ((1 : Int) * 2 ^ k)).toNat ([] ++ [(k : Int)]) (lpK p (gr p lv) D [] m k).snd.snd).fst = true → True ∧ True ∧ (true = (gr p (lv + 1) D [] m).fst ∧ True) ∧ True ∧ True ∧ (n = n ∧ p = p ∧ mk (isF p) = mk (isF p) ∧ True) ∧ True ∧ (gr p lv (bOr .i64 (D : Int) ((1 : Int) * 2 ^ k)).toNat ([] ++ [(k : Int)]) (lpK p (gr p lv) D [] m k).snd.snd).snd.snd = (gr p (lv + 1) D [] m).snd.snd ∧ (True ∧ True ∧ True ∧ True ∧ True ∧ True) ∧ (gr p lv (bOr .i64 (D : Int) ((1 : Int) * 2 ^ k)).toNat ([] ++ [(k : Int)]) (lpK p (gr p lv) D [] m k).snd.snd).snd.fst = (gr p (lv + 1) D [] m).snd.fst ∧ True) ∧ ((gr p lv (bOr .i64 (D : Int) ((1 : Int) * 2 ^ k)).toNat ([] ++ [(k : Int)]) (lpK p (gr p lv) D [] m k).snd.snd).fst = false → True ∧ True ∧ True ∧ inR .i64 ((↑(gr p lv (bOr .i64 (D : Int) ((1 : Int) * 2 ^ k)).toNat ([] ++ [(k : Int)]) (lpK p (gr p lv) D [] m k).snd.snd).snd.fst.length : Int) - 1) ∧ ((0 : Int) ≤ (↑(gr p lv (bOr .i64 (D : Int) ((1 : Int) * 2 ^ k)).toNat ([] ++ [(k : Int)]) (lpK p (gr p lv) D [] m k).snd.snd).snd.fst.length : Int) - 1 ∧ (↑(gr p lv (bOr .i64 (D : Int) ((1 : Int) * 2 ^ k)).toNat ([] ++ [(k : Int)]) (lpK p (gr p lv) D [] m k).snd.snd).snd.fst.length : Int) - 1 ≤ (↑(gr p lv (bOr .i64 (D : Int) ((1 : Int) * 2 ^ k)).toNat ([] ++ [(k : Int)]) (lpK p (gr p lv) D [] m k).snd.snd).snd.fst.length : Int)) ∧ True ∧ inR .i64 ((k : Int) + 1) ∧ True ∧ ((∃ (y : Nat), (y = 0 ∧ p.length - y < p.length - k) ∧ ((D : Int) = (D : Int) ∧ True ∧ True ∧ True ∧ True ∧ (p.length : Int) = (p.length : Int) ∧ (k : Int) + 1 = (y : Int) ∧ True) ∧ False ∧ True ∧ (n = n ∧ p = p ∧ mk (isF p) = mk (isF p) ∧ True) ∧ True ∧ (gr p lv (bOr .i64 (D : Int) ((1 : Int) * 2 ^ k)).toNat ([] ++ [(k : Int)]) (lpK p (gr p lv) D [] m k).snd.snd).snd.snd = m ∧ (True ∧ True ∧ True ∧ True ∧ True ∧ True) ∧ True) ∨ ∃ (y : Nat), (inS p (gr p lv) D [] m y ∧ p.length - y < p.length - k) ∧ ((D : Int) = (D : Int) ∧ True ∧ True ∧ True ∧ True ∧ (p.length : Int) = (p.length : Int) ∧ (k : Int) + 1 = (y : Int) ∧ True) ∧ True ∧ True ∧ (n = n ∧ p = p ∧ mk (isF p) = mk (isF p) ∧ True) ∧ True ∧ (gr p lv (bOr .i64 (D : Int) ((1 : Int) * 2 ^ k)).toNat ([] ++ [(k : Int)]) (lpK p (gr p lv) D [] m k).snd.snd).snd.snd = (lpK p (gr p lv) D [] m y).snd.snd ∧ (True ∧ True ∧ True ∧ True ∧ True ∧ True) ∧ List.take ((↑(gr p lv (bOr .i64 (D : Int) ((1 : Int) * 2 ^ k)).toNat ([] ++ [(k : Int)]) (lpK p (gr p lv) D [] m k).snd.snd).snd.fst.length : Int) - 1).toNat (gr p lv (bOr .i64 (D : Int) ((1 : Int) * 2 ^ k)).toNat ([] ++ [(k : Int)]) (lpK p (gr p lv) D [] m k).snd.snd).snd.fst = [] ∧ True))))) ∧ (¬(k : Int) < (p.length : Int) → ∃ (y : Unit), (lpK p (gr p lv) D [] m p.length).fst = false ∧ ((D : Int) = (D : Int) ∧ True ∧ True ∧ True ∧ True ∧ True) ∧ True ∧ True ∧ (n = n ∧ p = p ∧ mk (isF p) = mk (isF p) ∧ True) ∧ True ∧ (lpK p (gr p lv) D [] m k).snd.snd = (lpK p (gr p lv) D [] m p.length).snd.snd ∧ (True ∧ True ∧ True ∧ True ∧ True ∧ True) ∧ ([] : List Int) = [] ∧ True)) (by kernel_rfl) ?_
   simp only [zz]
   obtain ⟨k1, k2⟩ := hk
   have hl : lv + 1 = p.length := by have := hp.l; simpa using this
   have hc := hp.h.2.1
   have hD := pre_D hp
   refine ⟨fun h => ?_, fun h => by rw [show p.length = k by omega]; exact ⟨k2, rfl⟩⟩
   have hkp : k < p.length := by omega
   have hb := or_pow10 hD (k := k) (by omega)
   have hst := lpK_go k2
   rw [bit_shr hD, hb.1, Int.toNat_natCast]
   have hskip : (D / 2 ^ k % 2 = 1 ∨ flw p D k = false) → inR .i64 ((k : Int) + 1) ∧ ∃ y : Nat, (inS p (gr p lv) D [] m y ∧ p.length - y < p.length - k) ∧ (k : Int) + 1 = (y : Int) ∧ (lpK p (gr p lv) D [] m k).2.2 = (lpK p (gr p lv) D [] m y).2.2 := fun hh => by
     rw [if_pos hh] at hst
     exact ⟨by simp only [inR]; omega, k + 1, ⟨⟨by omega, by rw [hst]; exact k2⟩, by omega⟩, by omega, by rw [hst]⟩
   refine ⟨by simp only [inR]; omega, ⟨by omega, by simp only [bitsOf]; omega⟩, fun hx => hskip (.inl (by omega)), fun hx => ⟨⟨⟨hp.h, rfl⟩, ⟨by simp only; omega, by simp only; omega⟩, ⟨by simp only; omega, by simp only; omega⟩⟩, fun hx2 => hskip (.inr (by simpa using hx2)), fun hx2 => ?_⟩⟩
   have hx2 : flw p D k = true := by simpa using hx2
   rw [if_neg (by simp [hx2]; omega)] at hst
   have hlt : D ||| 2 ^ k < 2 ^ p.length := Nat.or_lt_two_pow hp.D (Nat.pow_lt_pow_right (by decide) hkp)
   have hpre : pre55 n p lv (D ||| 2 ^ k) ([] ++ [(k : Int)]) := ⟨hp.h, hlt, by simp; omega⟩
   refine ⟨by unfold sumPre; simp, by simp only [inR]; omega, ⟨⟨by omega, by simp only [bitsOf]; omega⟩, by omega, by omega⟩, ⟨⟨hp.h, rfl⟩, by simp only; omega, hpre⟩, fun hr => ?_, fun hr => ?_⟩
   · have hr : (gr p lv (D ||| 2 ^ k) ([] ++ [(k : Int)]) (lpK p (gr p lv) D [] m k).2.2).1 = true := hr
     rw [if_pos hr] at hst
     have hs := lpK_stop (k := k + 1) (by rw [hst]; exact hr) (p.length - (k + 1))
     rw [show k + 1 + (p.length - (k + 1)) = p.length by omega, hst] at hs
     have e : gr p (lv + 1) D [] m = gr p lv (D ||| 2 ^ k) ([] ++ [(k : Int)]) (lpK p (gr p lv) D [] m k).2.2 := by rw [gr, if_neg hm, hs, if_pos hr]
     rw [e]
     exact ⟨hr.symm, rfl, rfl⟩
   · have hr : (gr p lv (D ||| 2 ^ k) ([] ++ [(k : Int)]) (lpK p (gr p lv) D [] m k).2.2).1 = false := hr
     rw [if_neg (by rw [hr]; simp)] at hst
     have h2 := gr_list hr
     have q1 : inR .i64 (((gr p lv (D ||| 2 ^ k) ([] ++ [(k : Int)]) (lpK p (gr p lv) D [] m k).2.2).2.1.length : Int) - 1) := by rw [h2]; simp only [inR]; simp
     have q2 : 0 ≤ ((gr p lv (D ||| 2 ^ k) ([] ++ [(k : Int)]) (lpK p (gr p lv) D [] m k).2.2).2.1.length : Int) - 1 ∧ ((gr p lv (D ||| 2 ^ k) ([] ++ [(k : Int)]) (lpK p (gr p lv) D [] m k).2.2).2.1.length : Int) - 1 ≤ ((gr p lv (D ||| 2 ^ k) ([] ++ [(k : Int)]) (lpK p (gr p lv) D [] m k).2.2).2.1.length : Int) := by rw [h2]; simp
     have q3 : (gr p lv (D ||| 2 ^ k) ([] ++ [(k : Int)]) (lpK p (gr p lv) D [] m k).2.2).2.1.take (((gr p lv (D ||| 2 ^ k) ([] ++ [(k : Int)]) (lpK p (gr p lv) D [] m k).2.2).2.1.length : Int) - 1).toNat = [] := by rw [h2]; simp
     have q4 : (gr p lv (D ||| 2 ^ k) ([] ++ [(k : Int)]) (lpK p (gr p lv) D [] m k).2.2).2.2 = (lpK p (gr p lv) D [] m (k + 1)).2.2 := by rw [hst]
     exact ⟨q1, q2, by simp only [inR]; omega, k + 1, ⟨⟨by omega, by rw [hst]⟩, by omega⟩, by omega, q4, q3⟩
theorem call55 (lv : Nat) (n : Int) (p : List Int) (D : Nat) (m : Mm) (hp : pre55 n p (lv + 1) D []) (hD0 : D = 0) (hm : ¬ mg m D = true) : GCall Try.prog gl 55 false (aN D) (gN n p m) [.bool (gr p (lv + 1) D [] m).1] (gO n p (gr p (lv + 1) D [] m).2.1 (gr p (lv + 1) D [] m).2.2) := by
 refine gcall_of (X := (XN lv)) ((Xb_ok _ _ _ _)) (f := 55) (fn := Try.f55) (c := bodyOf Try.f55) (by kernel_rfl) (by kernel_rfl) (view := false) (rvs := [.tmp 6]) (by kernel_rfl) (H := (HN n p (gr p lv) D m)) 80 (by kernel_rfl) ?_
 have hL := loopN lv n p D m hp hD0 hm
 refine of_eq (q := True ∧ True ∧ True ∧ True ∧ True ∧ True ∧ True ∧ True ∧ True ∧ ((0 : Int) = (p.length : Int) → True ∧ True ∧ (true = (gr p (lv + 1) D [] m).fst ∧ True) ∧ False ∧ True ∧ (n = n ∧ p = p ∧ mk (isF p) = mk (isF p) ∧ True) ∧ True ∧ m = (gr p (lv + 1) D [] m).snd.snd ∧ (True ∧ True ∧ True ∧ True ∧ True ∧ True) ∧ False) ∧ (¬(0 : Int) = (p.length : Int) → True ∧ True ∧ True ∧ ((mGet I64 m (D : Int)).getD false = true → True ∧ True ∧ (false = (gr p (lv + 1) D [] m).fst ∧ True) ∧ False ∧ True ∧ (n = n ∧ p = p ∧ mk (isF p) = mk (isF p) ∧ True) ∧ True ∧ m = (gr p (lv + 1) D [] m).snd.snd ∧ (True ∧ True ∧ True ∧ True ∧ True ∧ True) ∧ False) ∧ ((mGet I64 m (D : Int)).getD false = false → True ∧ True ∧ True ∧ True ∧ True ∧ True ∧ LoopOK (XN lv) L55_0 (hN n p (gr p lv) D m) (RetR (XN lv) false false [ResultVar.tmp (6 : Tmp)] [AV.bool (gr p (lv + 1) D [] m).fst] (gO n p (gr p (lv + 1) D [] m).snd.fst (gr p (lv + 1) D [] m).snd.snd)) ∧ ((∃ (y : Nat), y = 0 ∧ ((D : Int) = (D : Int) ∧ True ∧ True ∧ True ∧ True ∧ (p.length : Int) = (p.length : Int) ∧ (0 : Int) = (y : Int) ∧ True) ∧ True ∧ True ∧ (n = n ∧ p = p ∧ mk (isF p) = mk (isF p) ∧ True) ∧ True ∧ m = m ∧ (True ∧ True ∧ True ∧ True ∧ True ∧ True) ∧ True) ∨ ∃ (y : Nat), inS p (gr p lv) D [] m y ∧ ((D : Int) = (D : Int) ∧ True ∧ True ∧ True ∧ True ∧ (p.length : Int) = (p.length : Int) ∧ (0 : Int) = (y : Int) ∧ True) ∧ False ∧ True ∧ (n = n ∧ p = p ∧ mk (isF p) = mk (isF p) ∧ True) ∧ True ∧ m = (lpK p (gr p lv) D [] m y).snd.snd ∧ (True ∧ True ∧ True ∧ True ∧ True ∧ True) ∧ False) ∧ (∀ (y : Unit), (lpK p (gr p lv) D [] m p.length).fst = false → True ∧ True ∧ True ∧ True ∧ True ∧ (false = (gr p (lv + 1) D [] m).fst ∧ True) ∧ True ∧ True ∧ (n = n ∧ p = p ∧ mk (isF p) = mk (isF p) ∧ True) ∧ True ∧ mPut I64 (lpK p (gr p lv) D [] m p.length).snd.snd (D : Int) true = (gr p (lv + 1) D [] m).snd.snd ∧ (True ∧ True ∧ True ∧ True ∧ True ∧ True) ∧ ([] : List Int) = (gr p (lv + 1) D [] m).snd.fst ∧ True) ∧ True))) (by kernel_rfl) ?_
 simp only [zz]
 have hl : lv + 1 = p.length := by have := hp.l; simpa using this
 have hg : mg m D = (mGet I64 m D).getD false := rfl
 refine ⟨fun h => by omega, fun _ => ⟨fun h => hm (by rw [hg]; exact h), fun h => ⟨hL, ⟨0, rfl, rfl⟩, fun _ hf => ?_⟩⟩⟩
 rw [gr, if_neg hm, if_neg (by simp [hf])]; exact ⟨rfl, rfl, rfl⟩
end Go.Am.Sh

/- Shells: Shell. -/
namespace Go.Am.Sh
open Go Go.Am Go.Proofs
def isNl : Ob → Bool
 | .bx (.vv _) => true
 | _ => false
abbrev G5n := Int × Cx3 × Mm
def get55n (xs : List AV) (obs : List Ob) : Option G5n :=
 match xs with
 | .int .i64 d :: _ => (match isNl (obs.getD 0 .gone), unCx (obs.getD 2 .gone), unMm (obs.getD 4 .gone) with
   | true, some x, some m => some (d, x, m)
   | _, _, _ => none)
 | _ => none
structure ok55n (x : G5n) : Prop where
 h : okC x.2.1
 d : x.1 = 0
 m : x.2.2 = []
def gNq (x : Cx3) (m : Mm) : List Ob := [.bx nl, .bx (.ptr 2 0 []), cxQ x, .bx (.mp 4), mmO m, .bx (clo55 0 1 3 5)]
def gOq (x : Cx3) (l : List Int) (m : Mm) : List Ob := [.bx (.own 6 0), .bx (.ptr 2 0 []), cxQ x, .bx (.mp 4), mmO m, .bx (clo55 0 1 3 5), .sc 0 3 I64 l]
def grow (p : List Int) : Res := gr p p.length 0 [] []
theorem call55N (n : Int) (p : List Int) (h : cxOk n p) : GCall Try.prog gl 55 false (aN 0) (gN n p []) [.bool (grow p).1] (gO n p (grow p).2.1 (grow p).2.2) := by
 have hl := h.2.1.1
 obtain ⟨lv, hlv⟩ : ∃ lv, p.length = lv + 1 := ⟨p.length - 1, by omega⟩
 have := call55 lv n p 0 [] ⟨h, by have := Nat.pow_le_pow_right (show 0 < 2 by decide) hl; omega, by simp; omega⟩ rfl (by simp [mg, mGet])
 rw [← hlv] at this
 exact this
def e55N : Entry Try.prog gl := entryW 55 ⟨Try.f55, by kernel_rfl, by kernel_rfl, by kernel_rfl⟩ true get55n ok55n false (fun x => aN x.1) (fun x => gNq x.2.1 x.2.2) (fun x => [.bool (grow x.2.1.2.1).1])
 (fun x => gOq x.2.1 (grow x.2.1.2.1).2.1 (grow x.2.1.2.1).2.2) (fun x hx => by
   have := call55N _ _ hx.h.h
   have e : gNq x.2.1 [] = gN x.2.1.1 x.2.1.2.1 [] := by unfold gNq gN; rw [cxQ_ok hx.h]
   have e2 : ∀ l m, gOq x.2.1 l m = gO x.2.1.1 x.2.1.2.1 l m := fun l m => by unfold gOq gO; rw [cxQ_ok hx.h]
   rw [hx.d, hx.m, e, e2]; exact this)
def shB (p : List Int) : Bool := pure p && (grow p).1
def shL (p : List Int) : List Int := if pure p = true then (grow p).2.1 else []
theorem call15 (n : Int) (p : List Int) (h : cxOk n p) : GCall Try.prog gl 15 true [.int .i64 n, .sl I64 p] [] [.sl I64 (shL p), .bool (shB p), .int .i64 0] [] := by
 refine gcall_of (X := X [e53, e54, e55N]) (X_ok [e53, e54, e55N]) (f := 15) (fn := Try.f15) (c := bodyOf Try.f15) (by kernel_rfl) (by kernel_rfl) (view := true) (rvs := [.tmp 4, .tmp 5, .tmp 6]) (by kernel_rfl) (H := fun _ => none) 80 (by kernel_rfl) ?_
 refine of_eq (q := True ∧ True ∧ True ∧ True ∧ True ∧ (CxP n p ∧ True) ∧ True ∧ True ∧ True ∧ True ∧ True ∧ True ∧ True ∧ True ∧ (¬(0 : Int) = 0 → True ∧ True ∧ True ∧ True ∧ True ∧ (([] : List Int) = shL p ∧ false = shB p ∧ (0 : Int) = 0 ∧ True) ∧ True) ∧ (¬¬(0 : Int) = 0 → True ∧ ((okC (n, p, mk (isF p)) ∧ (True ∧ True) ∧ (n = n ∧ p = p ∧ mk (isF p) = mk (isF p) ∧ True) ∧ True) ∧ True ∧ True) ∧ True ∧ ((!pure p) = true → True ∧ True ∧ True ∧ True ∧ (([] : List Int) = shL p ∧ false = shB p ∧ (0 : Int) = 0 ∧ True) ∧ True) ∧ ((!pure p) = false → True ∧ True ∧ True ∧ True ∧ True ∧ True ∧ True ∧ True ∧ ((ok55n ((0 : Int), (n, p, mk (isF p)), []) ∧ ((0 : Int) = 0 ∧ True ∧ True ∧ True ∧ True ∧ True) ∧ True ∧ True ∧ (n = n ∧ p = p ∧ mk (isF p) = mk (isF p) ∧ True) ∧ True ∧ ([] : List (Int × Bool)) = [] ∧ (True ∧ True ∧ True ∧ True ∧ True ∧ True) ∧ True) ∧ True ∧ True ∧ True ∧ True ∧ True ∧ True ∧ True) ∧ True ∧ True ∧ True ∧ True ∧ True ∧ True ∧ True ∧ ((grow p).snd.fst = shL p ∧ (grow p).fst = shB p ∧ (0 : Int) = 0 ∧ True) ∧ True))) (by kernel_rfl) ?_
 simp only [zz]
 refine ⟨⟨h⟩, fun h => absurd trivial h, fun _ => ⟨⟨h, rfl⟩, fun hp => ?_, fun hp => ⟨⟨⟨h, rfl⟩, rfl, rfl⟩, ?_⟩⟩⟩
 · have hp : pure p = false := by simpa using hp
   simp [shL, shB, hp]
 · have hp : pure p = true := by simpa using hp
   simp [shL, shB, hp]
end Go.Am.Sh

/- Shells: awake. -/
namespace Go.Am.Sh
open Go Go.Am Go.Proofs
def e15 : Entry Try.prog gl := entry2 15 ⟨Try.f15, by kernel_rfl, by kernel_rfl, by kernel_rfl⟩ I64 SI (fun (n : Int) p => cxOk n p) true (fun _ p => [.sl I64 (shL p), .bool (shB p), .int .i64 0]) (fun _ _ => []) (fun (n : Int) p h => call15 n p h)
def e38 : Entry Try.prog gl := entry2 38 ⟨Try.f38, by kernel_rfl, by kernel_rfl, by kernel_rfl⟩ I64 SI (fun (n : Int) p => cxOk n p) false (fun _ p => [.sl I64 (cnts p), .int .i64 0]) (fun _ _ => []) (fun (n : Int) p h => call38 n p h)
def e27 : Entry Try.prog gl := entry2 27 ⟨Try.f27, by kernel_rfl, by kernel_rfl, by kernel_rfl⟩ I64 SI (fun (n : Int) p => cxOk n p) false (fun _ p => [.sl I64 (hsL p), .int .i64 0]) (fun _ _ => []) (fun (n : Int) p h => call27 n p h)
def e30 : Entry Try.prog gl := entry2 30 ⟨Try.f30, by kernel_rfl, by kernel_rfl, by kernel_rfl⟩ I64 SI (fun (n : Int) p => cxOk n p) false (fun _ p => [.sl I64 (hoL p), .int .i64 0]) (fun _ _ => []) (fun (n : Int) p h => call30 n p h)
def e36 : Entry Try.prog gl := entry2 36 ⟨Try.f36, by kernel_rfl, by kernel_rfl, by kernel_rfl⟩ I64 SI (fun (n : Int) p => cxOk n p) false (fun (n : Int) p => [.sl I64 (fewR (grL (duaG n p))), .int .i64 (fewE (grL (duaG n p)))]) (fun _ _ => []) (fun (n : Int) p h => call36 n p h)
def e24 : Entry Try.prog gl := entry2 24 ⟨Try.f24, by kernel_rfl, by kernel_rfl, by kernel_rfl⟩ I64 I64 (fun (n d : Int) => momOk n d) true (fun (n d : Int) => [.sl I64 (momL n d), .int .i64 0]) (fun _ _ => []) (fun (n d : Int) h => call24 n d h)
def e28 : Entry Try.prog gl := entry2 28 ⟨Try.f28, by kernel_rfl, by kernel_rfl, by kernel_rfl⟩ I64 SI (fun (n : Int) p => cxOk n p) false (fun _ p => [.sl I64 (fcs p), .int .i64 0]) (fun _ _ => []) (fun (n : Int) p h => call28 n p h)
instance (n : Int) (p : List Int) (k : Nat) : Decidable (goodAt n p k) := by unfold goodAt; infer_instance
instance (n : Int) (p : List Int) : Decidable (cxOk n p) := by unfold cxOk numOk; infer_instance
theorem call19 : GCall Try.prog gl 19 true [] [] [.tt] [] := by
 have f1 : cxOk 3 [3, 5, 6] := by decide +kernel
 have f2 : cxOk 3 [7] := by decide +kernel
 have f3 : cxOk 4 [3, 12] := by decide +kernel
 have f4 : cnts [3, 5, 6] = [1, 3, 3] := by kernel_rfl
 have f5 : hsL [3, 5, 6] = [1, 1, 1] := by kernel_rfl
 have f6 : hoL [3, 5, 6] = [0, 1] := by kernel_rfl
 have f7 : shL [7] = [0] := by kernel_rfl
 have f8 : fewR (grL (duaG 4 [3, 12])) = [5, 6, 9, 10] := by kernel_rfl
 have f9 : fewE (grL (duaG 4 [3, 12])) = 0 := by kernel_rfl
 refine gcall_of (X := X [e38, e27, e30, e15, e36, e24, e23]) (X_ok [e38, e27, e30, e15, e36, e24, e23]) (f := 19) (fn := Try.f19) (c := bodyOf Try.f19) (by kernel_rfl) (by kernel_rfl) (view := false) (rvs := [.tmp 0]) (by kernel_rfl) (H := fun _ => none) 200 (by kernel_rfl) ?_
 refine of_eq (q := True ∧ True ∧ ((numOk (3 : Int) ∧ ((1 : Nat) ≤ [(3 : Int), (5 : Int), (6 : Int)].length ∧ [(3 : Int), (5 : Int), (6 : Int)].length ≤ 10) ∧ ∀ (k : Nat), k < [(3 : Int), (5 : Int), (6 : Int)].length → goodAt (3 : Int) [(3 : Int), (5 : Int), (6 : Int)] k) ∧ True) ∧ True ∧ True ∧ True ∧ True ∧ True ∧ True ∧ ((numOk (3 : Int) ∧ ((1 : Nat) ≤ [(3 : Int), (5 : Int), (6 : Int)].length ∧ [(3 : Int), (5 : Int), (6 : Int)].length ≤ 10) ∧ ∀ (k : Nat), k < [(3 : Int), (5 : Int), (6 : Int)].length → goodAt (3 : Int) [(3 : Int), (5 : Int), (6 : Int)] k) ∧ True) ∧ True ∧ True ∧ True ∧ True ∧ True ∧ True ∧ ((numOk (3 : Int) ∧ ((1 : Nat) ≤ [(3 : Int), (5 : Int), (6 : Int)].length ∧ [(3 : Int), (5 : Int), (6 : Int)].length ≤ 10) ∧ ∀ (k : Nat), k < [(3 : Int), (5 : Int), (6 : Int)].length → goodAt (3 : Int) [(3 : Int), (5 : Int), (6 : Int)] k) ∧ True) ∧ True ∧ True ∧ True ∧ True ∧ True ∧ True ∧ ((numOk (3 : Int) ∧ ((1 : Nat) ≤ [(7 : Int)].length ∧ [(7 : Int)].length ≤ 10) ∧ ∀ (k : Nat), k < [(7 : Int)].length → goodAt (3 : Int) [(7 : Int)] k) ∧ True) ∧ True ∧ True ∧ True ∧ True ∧ True ∧ True ∧ True ∧ True ∧ ((numOk (4 : Int) ∧ ((1 : Nat) ≤ [(3 : Int), (12 : Int)].length ∧ [(3 : Int), (12 : Int)].length ≤ 10) ∧ ∀ (k : Nat), k < [(3 : Int), (12 : Int)].length → goodAt (4 : Int) [(3 : Int), (12 : Int)] k) ∧ True) ∧ True ∧ True ∧ True ∧ True ∧ True ∧ (((2 : Int) ≤ 3 ∧ (3 : Int) < 5 ∧ (5 : Int) ≤ 6) ∧ True) ∧ True ∧ True ∧ True ∧ True ∧ True ∧ True ∧ True ∧ True ∧ ((0 : Int) = 0 → True ∧ True ∧ ((cnts [(3 : Int), (5 : Int), (6 : Int)]).length + 1 ≤ 1000000000000000 ∧ True) ∧ True ∧ True ∧ (true = true → True ∧ True ∧ True ∧ True ∧ ((0 : Int) = 0 → True ∧ True ∧ ((hsL [(3 : Int), (5 : Int), (6 : Int)]).length + 1 ≤ 1000000000000000 ∧ True) ∧ True ∧ True ∧ (true = true → True ∧ True ∧ True ∧ True ∧ ((0 : Int) = 0 → True ∧ True ∧ ((hoL [(3 : Int), (5 : Int), (6 : Int)]).length + 1 ≤ 1000000000000000 ∧ True) ∧ True ∧ True ∧ (true = true → True ∧ True ∧ True ∧ True ∧ ((0 : Int) = 0 → True ∧ True ∧ True ∧ (true = true → True ∧ True ∧ ((shL [(7 : Int)]).length + 1 ≤ 1000000000000000 ∧ True) ∧ True ∧ True ∧ (true = true → True ∧ True ∧ True ∧ True ∧ (fewE (grL (duaG (4 : Int) [(3 : Int), (12 : Int)])) = 0 → True ∧ True ∧ ((fewR (grL (duaG (4 : Int) [(3 : Int), (12 : Int)]))).length + 1 ≤ 1000000000000000 ∧ True) ∧ True ∧ True ∧ (true = true → True ∧ True ∧ True ∧ True ∧ ((0 : Int) = 0 → True ∧ True ∧ True ∧ True ∧ True ∧ True ∧ (true = true ∧ True) ∧ True) ∧ (¬(0 : Int) = 0 → True ∧ True ∧ True ∧ (false = true ∧ True) ∧ True)) ∧ (true = false → True ∧ True ∧ True ∧ True ∧ True ∧ (false = true ∧ True) ∧ True)) ∧ (¬fewE (grL (duaG (4 : Int) [(3 : Int), (12 : Int)])) = 0 → True ∧ True ∧ True ∧ True ∧ True ∧ True ∧ True ∧ (false = true ∧ True) ∧ True)) ∧ (true = false → True ∧ True ∧ True ∧ True ∧ True ∧ True ∧ True ∧ True ∧ True ∧ (false = true ∧ True) ∧ True)) ∧ (true = false → True ∧ True ∧ True ∧ True ∧ True ∧ True ∧ True ∧ True ∧ True ∧ True ∧ True ∧ (false = true ∧ True) ∧ True)) ∧ (¬(0 : Int) = 0 → True ∧ True ∧ True ∧ True ∧ True ∧ True ∧ True ∧ True ∧ True ∧ True ∧ True ∧ True ∧ True ∧ (false = true ∧ True) ∧ True)) ∧ (true = false → True ∧ True ∧ True ∧ True ∧ True ∧ True ∧ True ∧ True ∧ True ∧ True ∧ True ∧ True ∧ True ∧ True ∧ True ∧ (false = true ∧ True) ∧ True)) ∧ (¬(0 : Int) = 0 → True ∧ True ∧ True ∧ True ∧ True ∧ True ∧ True ∧ True ∧ True ∧ True ∧ True ∧ True ∧ True ∧ True ∧ True ∧ True ∧ True ∧ (false = true ∧ True) ∧ True)) ∧ (true = false → True ∧ True ∧ True ∧ True ∧ True ∧ True ∧ True ∧ True ∧ True ∧ True ∧ True ∧ True ∧ True ∧ True ∧ True ∧ True ∧ True ∧ True ∧ True ∧ (false = true ∧ True) ∧ True)) ∧ (¬(0 : Int) = 0 → True ∧ True ∧ True ∧ True ∧ True ∧ True ∧ True ∧ True ∧ True ∧ True ∧ True ∧ True ∧ True ∧ True ∧ True ∧ True ∧ True ∧ True ∧ True ∧ True ∧ True ∧ (false = true ∧ True) ∧ True)) ∧ (true = false → True ∧ True ∧ True ∧ True ∧ True ∧ True ∧ True ∧ True ∧ True ∧ True ∧ True ∧ True ∧ True ∧ True ∧ True ∧ True ∧ True ∧ True ∧ True ∧ True ∧ True ∧ True ∧ True ∧ (false = true ∧ True) ∧ True)) ∧ (¬(0 : Int) = 0 → True ∧ True ∧ True ∧ True ∧ True ∧ True ∧ True ∧ True ∧ True ∧ True ∧ True ∧ True ∧ True ∧ True ∧ True ∧ True ∧ True ∧ True ∧ True ∧ True ∧ True ∧ True ∧ True ∧ True ∧ True ∧ (false = true ∧ True) ∧ True)) (by kernel_rfl) ?_
 rw [f4, f5, f6, f7, f8, f9]
 simp
 exact ⟨⟨f1.1, f1.2.2⟩, ⟨f2.1, f2.2.2 0 (by decide)⟩, f3.1, f3.2.2⟩
def e19 : Entry Try.prog gl where
 f := 19
 lend := false
 en := ⟨Try.f19, by kernel_rfl, by kernel_rfl, by kernel_rfl⟩
 go := fun args ob0 => match args, ob0 with
   | [], [] => some (True, true, [.tt], [])
   | _, _ => none
 ok := by
   intro args ob0 p s r o h hp
   split at h <;> try (cases h; done)
   injection h with h; injection h with h1 h2; injection h2 with h2 h3; injection h3 with h3 h4
   subst h1 h2 h3 h4
   exact call19
end Go.Am.Sh

/- Shells: the reference's shellings. -/
namespace Go.Am.Sh
open Go Go.Am Go.Proofs
def puN (p : List Int) (k : Nat) : Prop := ∀ i, i < k → pc (p.getD i 0).toNat = pc (p.getD 0 0).toNat
instance (p k) : Decidable (puN p k) := by unfold puN; infer_instance
def puB (p : List Int) : Bool := decide (puN p p.length)
structure ok10 (p : List Int) : Prop where
 h : okL p
 l : p.length ≤ 10
noncomputable def L58_0 : Code := lp (bodyOf Try.f58) 0
def st58 (p : List Int) (k : Nat) : St := ⟨.sl I64 p :: dd 2 ++ .int .i64 k :: dd 16, []⟩
def ex58 (p : List Int) : List (List Nat × Ex) := [([], ⟨0, Unit, fun _ => puN p p.length, fun _ => ⟨dd 20, []⟩⟩)]
noncomputable def H58 (p : List Int) : Nat → Option Hint := fun _ => some ⟨chk 0 [0, 3] (fun k => k ≤ p.length ∧ puN p k) (st58 p), (ex58 p).map (·.2)⟩
theorem loop58 (p : List Int) (h : ok10 p) : LoopOK (X [e29]) L58_0 ⟨chk 0 [0, 3] (fun k => k ≤ p.length ∧ puN p k) (st58 p), (ex58 p).map (·.2)⟩ (RetR (X [e29]) true false [.tmp 2] [.bool (puB p)] []) := by
 refine loop_ok (X_ok _) (H := fun _ _ => none) [0, 3] (fun k => k ≤ p.length ∧ puN p k) (st58 p) (fun k => p.length - k) (ex58 p) 100 fun (k : Nat) hk => ?_
 refine of_eq (q := True ∧ True ∧ True ∧ True ∧ ((k : Int) < (p.length : Int) → True ∧ True ∧ idxPre (k : Int) p.length ∧ True ∧ ((0 : Int) ≤ p.getD k (0 : Int) ∧ p.getD k (0 : Int) < 64) ∧ True ∧ idxPre (0 : Int) p.length ∧ True ∧ ((0 : Int) ≤ p.getD (0 : Nat) (0 : Int) ∧ p.getD (0 : Nat) (0 : Int) < 64) ∧ True ∧ (¬(↑(pc (Int.toNat (p.getD k (0 : Int)))) : Int) = (↑(pc (Int.toNat (p.getD (0 : Nat) (0 : Int)))) : Int) → True ∧ True ∧ (false = puB p ∧ True) ∧ True) ∧ (¬¬(↑(pc (Int.toNat (p.getD k (0 : Int)))) : Int) = (↑(pc (Int.toNat (p.getD (0 : Nat) (0 : Int)))) : Int) → True ∧ inR .i64 ((k : Int) + 1) ∧ True ∧ ∃ (y : Nat), ((y ≤ p.length ∧ puN p y) ∧ p.length - y < p.length - k) ∧ (p = p ∧ (k : Int) + 1 = (y : Int) ∧ True) ∧ True)) ∧ (¬(k : Int) < (p.length : Int) → ∃ (y : Unit), puN p p.length ∧ True ∧ True)) (by kernel_rfl) ?_
 simp only [zz]
 obtain ⟨h1, h2⟩ := hk
 have hl := h.l
 refine ⟨fun hk => ⟨idx_nat (by omega), okL_get h.h k, idx_nat (i := 0) (by omega), okL_get h.h 0, fun hx => ?_, fun hx => ⟨by simp only [inR]; omega, k + 1, ⟨⟨by omega, fun j hj => ?_⟩, by omega⟩, by omega⟩⟩, fun hk => by rw [show p.length = k by omega]; exact h2⟩
 · refine (decide_eq_false fun hn => hx ?_).symm
   rw [hn k (by omega)]
 · rcases Nat.lt_or_ge j k with h3 | h3
   · exact h2 j h3
   · rw [show j = k by omega]; omega
theorem call58 (p : List Int) (h : ok10 p) : GCall Try.prog gl 58 true [.sl I64 p] [] [.bool (puB p)] [] := by
 refine gcall_of (X := X [e29]) (X_ok [e29]) (f := 58) (fn := Try.f58) (c := bodyOf Try.f58) (by kernel_rfl) (by kernel_rfl) (view := false) (rvs := [.tmp 2]) (by kernel_rfl) (H := (H58 p)) 80 (by kernel_rfl) ?_
 have hL := loop58 p h
 refine of_eq (q := True ∧ True ∧ LoopOK (X [e29]) L58_0 { J := chk (0 : Nat) [(0 : Nat), (3 : Nat)] (fun (k : Nat) => k ≤ p.length ∧ puN p k) (st58 p), exits := List.map (fun (x : List Nat × Ex) => x.snd) (ex58 p) } (RetR (X [e29]) true false [ResultVar.tmp (2 : Tmp)] [AV.bool (puB p)] []) ∧ (∃ (y : Nat), (y ≤ p.length ∧ puN p y) ∧ (p = p ∧ (0 : Int) = (y : Int) ∧ True) ∧ True) ∧ (∀ (y : Unit), puN p p.length → True ∧ True ∧ (true = puB p ∧ True) ∧ True) ∧ True) (by kernel_rfl) ?_
 simp only [zz]
 exact ⟨hL, ⟨0, ⟨Nat.zero_le _, fun j hj => absurd hj (Nat.not_lt_zero j)⟩, rfl⟩, fun _ h => (decide_eq_true h).symm⟩
def e58 : Entry Try.prog gl := entry1 58 ⟨Try.f58, by kernel_rfl, by kernel_rfl, by kernel_rfl⟩ SI (fun p => ok10 p) true (fun p => [.bool (puB p)]) (fun _ => []) (call58)
def fnd (p : List Int) (D s e : Nat) : Nat → Bool
 | 0 => false
 | g + 1 => fnd p D s e g || (decide (D / 2 ^ g % 2 = 1) && decide (pc (mns s (p.getD g 0).toNat) = 1) && decide (mns s (p.getD g 0).toNat &&& e = 0))
def nxN (p : List Int) (D i k : Nat) : Prop := ∀ e, e < k → D / 2 ^ e % 2 = 1 → fnd p D (p.getD i 0).toNat (p.getD e 0).toNat p.length = true
instance (p D i k) : Decidable (nxN p D i k) := by unfold nxN; infer_instance
def nxB (p : List Int) (D i : Nat) : Bool := decide (nxN p D i p.length)
theorem bit_tmod {D k : Nat} : ((D : Int) / 2 ^ k).tmod 2 = ((D / 2 ^ k % 2 : Nat) : Int) := by
 have e : (2 ^ k : Int) = ((2 ^ k : Nat) : Int) := by rw [Int.natCast_pow]; try rfl
 rw [e]
 generalize 2 ^ k = P
 have e1 : (D : Int) / (P : Int) = ((D / P : Nat) : Int) := by rw [Int.natCast_ediv]
 rw [e1, Int.tmod_eq_emod_of_nonneg (Int.natCast_nonneg _)]
 omega
noncomputable def L57_0 : Code := lp (bodyOf Try.f57) 0
noncomputable def L57_2 : Code := lp (bodyOf Try.f57) 2
def sj57 (p : List Int) (D i e g : Nat) : St := ⟨.sl I64 p :: .int .i64 D :: dd 5 ++ .int .i64 (p.getD i 0) :: .int .i64 e :: .bool (fnd p D (p.getD i 0).toNat (p.getD e 0).toNat g) :: .int .i64 g :: dd 52, []⟩
def ej57 (p : List Int) (D i e : Nat) : List (List Nat × Ex) := [([0, 1, 7, 8, 9], ⟨2, Unit, fun _ => True, fun _ => ⟨.sl I64 p :: .int .i64 D :: dd 5 ++ .int .i64 (p.getD i 0) :: .int .i64 e :: .bool (fnd p D (p.getD i 0).toNat (p.getD e 0).toNat p.length) :: dd 53, []⟩⟩)]
def hj57 (p : List Int) (D i e : Nat) : Hint := ⟨chk 0 [0, 1, 7, 8, 9, 10] (fun g => g ≤ p.length) (sj57 p D i e), (ej57 p D i e).map (·.2)⟩
def st57 (p : List Int) (D i e : Nat) : St := ⟨.sl I64 p :: .int .i64 D :: dd 5 ++ .int .i64 (p.getD i 0) :: .int .i64 e :: dd 54, []⟩
def ex57 (p : List Int) (D i : Nat) : List (List Nat × Ex) := [([], ⟨0, Unit, fun _ => nxB p D i = true, fun _ => ⟨dd 63, []⟩⟩)]
noncomputable def H57 (p : List Int) (D i : Nat) : Nat → Option Hint := fun _ => some ⟨chk 0 [0, 1, 7, 8] (fun k => k ≤ p.length ∧ nxN p D i k) (st57 p D i), (ex57 p D i).map (·.2)⟩
theorem loop57b (p : List Int) (D i e : Nat) (h : ok10 p) (hD : D < 1024) (he : e < p.length) (R : Exit → St → Prop) : LoopOK (X [e29]) L57_2 (hj57 p D i e) R := by
 refine loop_ok (X_ok _) (H := fun _ _ => none) [0, 1, 7, 8, 9, 10] (fun g => g ≤ p.length) (sj57 p D i e) (fun k => p.length - k) (ej57 p D i e) 150 fun (k : Nat) hk => ?_
 refine of_eq (q := True ∧ True ∧ True ∧ True ∧ ((k : Int) < (p.length : Int) → True ∧ True ∧ True ∧ idxPre (k : Int) p.length ∧ True ∧ True ∧ True ∧ True ∧ True ∧ (fnd p D (p.getD i (0 : Int)).toNat (p.getD e (0 : Int)).toNat k = true → True ∧ True ∧ True ∧ inR .i64 ((k : Int) + 1) ∧ True ∧ ∃ (y : Nat), (y ≤ p.length ∧ p.length - y < p.length - k) ∧ (p = p ∧ (D : Int) = (D : Int) ∧ p.getD i (0 : Int) = p.getD i (0 : Int) ∧ (e : Int) = (e : Int) ∧ true = fnd p D (p.getD i (0 : Int)).toNat (p.getD e (0 : Int)).toNat y ∧ (k : Int) + 1 = (y : Int) ∧ True) ∧ True) ∧ (fnd p D (p.getD i (0 : Int)).toNat (p.getD e (0 : Int)).toNat k = false → True ∧ True ∧ ((0 : Int) ≤ (k : Int) ∧ (k : Int) < bitsOf .i64) ∧ ¬(2 : Int) = 0 ∧ True ∧ True ∧ (((D : Int) / (2 : Int) ^ k).tmod (2 : Int) = 1 → True ∧ (((0 : Int) ≤ bNot .i64 (p.getD i (0 : Int)) (p.getD k (0 : Int)) ∧ bNot .i64 (p.getD i (0 : Int)) (p.getD k (0 : Int)) < 64) ∧ True) ∧ True ∧ True ∧ True ∧ ((↑(pc (bNot .i64 (p.getD i (0 : Int)) (p.getD k (0 : Int))).toNat) : Int) = 1 → True ∧ True ∧ True ∧ idxPre (e : Int) p.length ∧ True ∧ True ∧ True ∧ True ∧ True ∧ True ∧ True ∧ inR .i64 ((k : Int) + 1) ∧ True ∧ ∃ (y : Nat), (y ≤ p.length ∧ p.length - y < p.length - k) ∧ (p = p ∧ (D : Int) = (D : Int) ∧ p.getD i (0 : Int) = p.getD i (0 : Int) ∧ (e : Int) = (e : Int) ∧ decide (bAnd .i64 (bNot .i64 (p.getD i (0 : Int)) (p.getD k (0 : Int))) (p.getD e (0 : Int)) = 0) = fnd p D (p.getD i (0 : Int)).toNat (p.getD e (0 : Int)).toNat y ∧ (k : Int) + 1 = (y : Int) ∧ True) ∧ True) ∧ (¬(↑(pc (bNot .i64 (p.getD i (0 : Int)) (p.getD k (0 : Int))).toNat) : Int) = 1 → True ∧ True ∧ True ∧ True ∧ inR .i64 ((k : Int) + 1) ∧ True ∧ ∃ (y : Nat), (y ≤ p.length ∧ p.length - y < p.length - k) ∧ (p = p ∧ (D : Int) = (D : Int) ∧ p.getD i (0 : Int) = p.getD i (0 : Int) ∧ (e : Int) = (e : Int) ∧ false = fnd p D (p.getD i (0 : Int)).toNat (p.getD e (0 : Int)).toNat y ∧ (k : Int) + 1 = (y : Int) ∧ True) ∧ True)) ∧ (¬((D : Int) / (2 : Int) ^ k).tmod (2 : Int) = 1 → True ∧ True ∧ True ∧ True ∧ True ∧ True ∧ inR .i64 ((k : Int) + 1) ∧ True ∧ ∃ (y : Nat), (y ≤ p.length ∧ p.length - y < p.length - k) ∧ (p = p ∧ (D : Int) = (D : Int) ∧ p.getD i (0 : Int) = p.getD i (0 : Int) ∧ (e : Int) = (e : Int) ∧ false = fnd p D (p.getD i (0 : Int)).toNat (p.getD e (0 : Int)).toNat y ∧ (k : Int) + 1 = (y : Int) ∧ True) ∧ True))) ∧ (¬(k : Int) < (p.length : Int) → ∃ (y : Unit), True ∧ (p = p ∧ (D : Int) = (D : Int) ∧ p.getD i (0 : Int) = p.getD i (0 : Int) ∧ (e : Int) = (e : Int) ∧ fnd p D (p.getD i (0 : Int)).toNat (p.getD e (0 : Int)).toNat k = fnd p D (p.getD i (0 : Int)).toNat (p.getD e (0 : Int)).toNat p.length ∧ True) ∧ True)) (by kernel_rfl) ?_
 simp only [zz]
 have hk : k ≤ p.length := hk
 have hl := h.l
 obtain ⟨s1, s2⟩ := okL_get h.h i
 obtain ⟨q1, q2⟩ := okL_get h.h k
 obtain ⟨r1, r2⟩ := okL_get h.h e
 refine ⟨fun hlt => ?_, fun hlt => by rw [show p.length = k by omega]⟩
 have hm := mns_lt ⟨(p.getD i 0).toNat, by omega⟩ ⟨(p.getD k 0).toNat, by omega⟩
 simp only at hm
 have e1 : bNot .i64 (p.getD i 0) (p.getD k 0) = ((mns (p.getD i 0).toNat (p.getD k 0).toNat : Nat) : Int) := by
   rw [← bNot_nat (by omega) (by omega), Int.toNat_of_nonneg s1, Int.toNat_of_nonneg q1]
 have e2 : bAnd .i64 ((mns (p.getD i 0).toNat (p.getD k 0).toNat : Nat) : Int) (p.getD e 0) = ((mns (p.getD i 0).toNat (p.getD k 0).toNat &&& (p.getD e 0).toNat : Nat) : Int) := by
   rw [← bAnd_nat (by omega) (by omega), Int.toNat_of_nonneg r1]
 rw [bit_tmod, e1, e2, Int.toNat_natCast]
 have hst : fnd p D (p.getD i 0).toNat (p.getD e 0).toNat (k + 1) = _ := rfl
 have hn : ∀ b, b = fnd p D (p.getD i 0).toNat (p.getD e 0).toNat (k + 1) → inR .i64 ((k : Int) + 1) ∧ ∃ y : Nat, (y ≤ p.length ∧ p.length - y < p.length - k) ∧ b = fnd p D (p.getD i 0).toNat (p.getD e 0).toNat y ∧ (k : Int) + 1 = (y : Int) := fun b hb => ⟨by simp only [inR]; omega, k + 1, by omega, hb, by omega⟩
 refine ⟨idx_nat (by omega), fun hf => hn true (by rw [fnd, hf]; rfl), fun hf => ⟨⟨by omega, by simp only [bitsOf]; omega⟩, by decide, fun hb => ⟨by omega, fun hc => ⟨idx_nat he, hn _ ?_⟩, fun hc => hn false ?_⟩, fun hb => hn false ?_⟩⟩
 · rw [fnd, hf, decide_eq_true (show D / 2 ^ k % 2 = 1 by omega), decide_eq_true (show pc (mns (p.getD i 0).toNat (p.getD k 0).toNat) = 1 by omega)]
   simp
 · rw [fnd, hf, decide_eq_false (show ¬ pc (mns (p.getD i 0).toNat (p.getD k 0).toNat) = 1 by omega)]
   simp
 · rw [fnd, hf, decide_eq_false (show ¬ D / 2 ^ k % 2 = 1 by omega)]
   simp
theorem loop57 (p : List Int) (D i : Nat) (h : ok10 p) (hD : D < 1024) (hi : i < p.length) : LoopOK (X [e29]) L57_0 ⟨chk 0 [0, 1, 7, 8] (fun k => k ≤ p.length ∧ nxN p D i k) (st57 p D i), (ex57 p D i).map (·.2)⟩ (RetR (X [e29]) true false [.tmp 6] [.bool (nxB p D i)] []) := by
 refine loop_ok (X_ok _) (H := fun k _ => some (hj57 p D i k)) [0, 1, 7, 8] (fun k => k ≤ p.length ∧ nxN p D i k) (st57 p D i) (fun k => p.length - k) (ex57 p D i) 150 fun (k : Nat) hk => ?_
 have hL := fun hk => loop57b p D i k h hD hk (bodyR (X [e29]).m0 (ex57 p D i) (RetR (X [e29]) true false [.tmp 6] [.bool (nxB p D i)] []))
 refine of_eq (q := True ∧ True ∧ True ∧ True ∧ ((k : Int) < (p.length : Int) → True ∧ True ∧ ((0 : Int) ≤ (k : Int) ∧ (k : Int) < bitsOf .i64) ∧ ¬(2 : Int) = 0 ∧ True ∧ (((D : Int) / (2 : Int) ^ k).tmod (2 : Int) = 0 → True ∧ inR .i64 ((k : Int) + 1) ∧ True ∧ ∃ (y : Nat), ((y ≤ p.length ∧ nxN p D i y) ∧ p.length - y < p.length - k) ∧ (p = p ∧ (D : Int) = (D : Int) ∧ p.getD i (0 : Int) = p.getD i (0 : Int) ∧ (k : Int) + 1 = (y : Int) ∧ True) ∧ True) ∧ (¬((D : Int) / (2 : Int) ^ k).tmod (2 : Int) = 0 → True ∧ True ∧ LoopOK (X [e29]) L57_2 (hj57 p D i k) (bodyR (X [e29]).m0 (ex57 p D i) (RetR (X [e29]) true false [ResultVar.tmp (6 : Tmp)] [AV.bool (nxB p D i)] [])) ∧ (∃ (y : Nat), y ≤ p.length ∧ (p = p ∧ (D : Int) = (D : Int) ∧ p.getD i (0 : Int) = p.getD i (0 : Int) ∧ (k : Int) = (k : Int) ∧ false = fnd p D (p.getD i (0 : Int)).toNat (p.getD k (0 : Int)).toNat y ∧ (0 : Int) = (y : Int) ∧ True) ∧ True) ∧ (∀ (y : Unit), True → True ∧ True ∧ ((!fnd p D (p.getD i (0 : Int)).toNat (p.getD k (0 : Int)).toNat p.length) = true → True ∧ True ∧ (false = nxB p D i ∧ True) ∧ True) ∧ ((!fnd p D (p.getD i (0 : Int)).toNat (p.getD k (0 : Int)).toNat p.length) = false → True ∧ inR .i64 ((k : Int) + 1) ∧ True ∧ ∃ (y : Nat), ((y ≤ p.length ∧ nxN p D i y) ∧ p.length - y < p.length - k) ∧ (p = p ∧ (D : Int) = (D : Int) ∧ p.getD i (0 : Int) = p.getD i (0 : Int) ∧ (k : Int) + 1 = (y : Int) ∧ True) ∧ True)) ∧ True)) ∧ (¬(k : Int) < (p.length : Int) → ∃ (y : Unit), nxB p D i = true ∧ True ∧ True)) (by kernel_rfl) ?_
 simp only [zz]
 obtain ⟨hk, hf⟩ := hk
 have hl := h.l
 rw [bit_tmod]
 refine ⟨fun hlt => ?_, fun hlt => decide_eq_true (by rw [show p.length = k by omega]; exact hf)⟩
 have hn : (D / 2 ^ k % 2 = 1 → fnd p D (p.getD i 0).toNat (p.getD k 0).toNat p.length = true) → inR .i64 ((k : Int) + 1) ∧ ∃ y : Nat, ((y ≤ p.length ∧ nxN p D i y) ∧ p.length - y < p.length - k) ∧ (k : Int) + 1 = (y : Int) := fun hc => ⟨by simp only [inR]; omega, k + 1, ⟨⟨by omega, fun j hj hb => by
   rcases Nat.lt_or_ge j k with h1 | h1
   · exact hf j h1 hb
   · have : j = k := by omega
     subst this; exact hc hb⟩, by omega⟩, by omega⟩
 refine ⟨⟨by omega, by simp only [bitsOf]; omega⟩, by decide, fun hb => hn fun hc => by omega, fun hb => ⟨hL (by omega), ⟨0, Nat.zero_le _, rfl, rfl⟩, fun _ _ => ⟨fun hx => ?_, fun hx => hn fun _ => by simpa using hx⟩⟩⟩
 refine (decide_eq_false fun hx2 => ?_).symm
 rw [hx2 k (by omega) (by omega)] at hx
 cases hx
theorem call57 (p : List Int) (D i : Nat) (h : ok10 p) (hD : D < 1024) (hi : i < p.length) : GCall Try.prog gl 57 true [.sl I64 p, .int .i64 D, .int .i64 i] [] [.bool (nxB p D i)] [] := by
 refine gcall_of (X := X [e29]) (X_ok [e29]) (f := 57) (fn := Try.f57) (c := bodyOf Try.f57) (by kernel_rfl) (by kernel_rfl) (view := false) (rvs := [.tmp 6]) (by kernel_rfl) (H := (H57 p D i)) 80 (by kernel_rfl) ?_
 have hL := loop57 p D i h hD hi
 refine of_eq (q := True ∧ True ∧ True ∧ idxPre (i : Int) p.length ∧ True ∧ True ∧ True ∧ LoopOK (X [e29]) L57_0 { J := chk (0 : Nat) [(0 : Nat), (1 : Nat), (7 : Nat), (8 : Nat)] (fun (k : Nat) => k ≤ p.length ∧ nxN p D i k) (st57 p D i), exits := List.map (fun (x : List Nat × Ex) => x.snd) (ex57 p D i) } (RetR (X [e29]) true false [ResultVar.tmp (6 : Tmp)] [AV.bool (nxB p D i)] []) ∧ (∃ (y : Nat), (y ≤ p.length ∧ nxN p D i y) ∧ (p = p ∧ (D : Int) = (D : Int) ∧ p.getD i (0 : Int) = p.getD i (0 : Int) ∧ (0 : Int) = (y : Int) ∧ True) ∧ True) ∧ (∀ (y : Unit), nxB p D i = true → True ∧ True ∧ (true = nxB p D i ∧ True) ∧ True) ∧ True) (by kernel_rfl) ?_
 simp only [zz]
 exact ⟨idx_nat hi, hL, ⟨0, ⟨Nat.zero_le _, fun j hj => absurd hj (Nat.not_lt_zero j)⟩, rfl⟩, fun _ h => h.symm⟩
structure ok57 (p : List Int) (D i : Int) : Prop where
 h : ok10 p
 D : 0 ≤ D ∧ D < 1024
 i : 0 ≤ i ∧ i < p.length
theorem call57' (p : List Int) (D i : Int) (h : ok57 p D i) : GCall Try.prog gl 57 true [.sl I64 p, .int .i64 D, .int .i64 i] [] [.bool (nxB p D.toNat i.toNat)] [] := by
 have h1 := h.D
 have h2 := h.i
 have := call57 p D.toNat i.toNat h.h (by omega) (by omega)
 rwa [Int.toNat_of_nonneg h1.1, Int.toNat_of_nonneg h2.1] at this
def e57 : Entry Try.prog gl := entry3 57 ⟨Try.f57, by kernel_rfl, by kernel_rfl, by kernel_rfl⟩ SI I64 I64 (fun p (D i : Int) => ok57 p D i) true (fun p (D i : Int) => [.bool (nxB p D.toNat i.toNat)]) (fun _ _ _ => []) (call57')
def sgB (p : List Int) (i : Int) : Bool := decide (0 ≤ i ∧ i < p.length)
/-- The set of the first k pieces of an order, if they are a shelling so far. -/
def sgK (p o : List Int) : Nat → Option Nat
 | 0 => some 0
 | k + 1 => (sgK p o k).bind fun D => if sgB p (o.getD k 0) = true ∧ D / 2 ^ (o.getD k 0).toNat % 2 = 0 ∧ nxB p D (o.getD k 0).toNat = true then some (D ||| 2 ^ (o.getD k 0).toNat) else none
def sgD (p o : List Int) (k : Nat) : Nat := (sgK p o k).getD 0
def sgR (p o : List Int) : Bool := (sgK p o o.length).isSome && decide (o.length = p.length) && puB p
theorem sg_some {p o : List Int} {k : Nat} (h : (sgK p o k).isSome = true) : sgK p o k = some (sgD p o k) := by
 unfold sgD
 cases hm : sgK p o k with
 | none => rw [hm] at h; cases h
 | some q => rfl
theorem sg_none {p o : List Int} {k : Nat} (h : sgK p o k = none) : ∀ j, sgK p o (k + j) = none
 | 0 => h
 | j + 1 => by rw [show k + (j + 1) = k + j + 1 by omega, sgK, sg_none h j]; try rfl
theorem sg_bad {p o : List Int} {k : Nat} (hk : k < o.length) (h : sgK p o (k + 1) = none) : sgR p o = false := by
 have := sg_none h (o.length - (k + 1))
 rw [show k + 1 + (o.length - (k + 1)) = o.length by omega] at this
 unfold sgR; rw [this]; try rfl
theorem sg_lt {p o : List Int} (hl : p.length ≤ 10) : ∀ {k : Nat} {D : Nat}, sgK p o k = some D → D < 1024
 | 0, D, h => by injection h with h; omega
 | k + 1, D, h => by
   rw [sgK] at h
   cases hm : sgK p o k with
   | none => rw [hm] at h; cases h
   | some q =>
     rw [hm] at h
     simp only [Option.bind_some] at h
     split at h
     · rename_i hc
       injection h with h; subst h
       have hb : 0 ≤ o.getD k 0 ∧ o.getD k 0 < p.length := of_decide_eq_true hc.1
       exact Nat.or_lt_two_pow (n := 10) (sg_lt hl hm) (Nat.pow_lt_pow_right (by decide) (by omega))
     · cases h
noncomputable def L17_0 : Code := lp (bodyOf Try.f17) 0
def st17 (p o : List Int) (k : Nat) : St := ⟨.sl I64 p :: .sl I64 o :: dd 3 ++ .int .i64 (sgD p o k) :: .int .i64 k :: dd 46, []⟩
def in17 (p o : List Int) (k : Nat) : Prop := k ≤ o.length ∧ (sgK p o k).isSome = true
def ex17 (p o : List Int) : List (List Nat × Ex) := [([0, 1], ⟨0, Unit, fun _ => (sgK p o o.length).isSome = true, fun _ => ⟨.sl I64 p :: .sl I64 o :: dd 51, []⟩⟩)]
noncomputable def H17 (p o : List Int) : Nat → Option Hint := fun _ => some ⟨chk 0 [0, 1, 5, 6] (in17 p o) (st17 p o), (ex17 p o).map (·.2)⟩
theorem loop17 (p o : List Int) (h : ok10 p) (ho : o.length < 1000000000000000) : LoopOK (X [e57, e58]) L17_0 ⟨chk 0 [0, 1, 5, 6] (in17 p o) (st17 p o), (ex17 p o).map (·.2)⟩ (RetR (X [e57, e58]) true false [.tmp 4] [.bool (sgR p o)] []) := by
 refine loop_ok (X_ok _) (H := fun _ _ => none) [0, 1, 5, 6] (in17 p o) (st17 p o) (fun k => o.length - k) (ex17 p o) 150 fun (k : Nat) hk => ?_
 refine of_eq (q := True ∧ True ∧ True ∧ True ∧ ((k : Int) < (o.length : Int) → True ∧ True ∧ idxPre (k : Int) o.length ∧ True ∧ True ∧ True ∧ True ∧ True ∧ (o.getD k (0 : Int) < 0 → True ∧ True ∧ True ∧ True ∧ True ∧ True ∧ True ∧ (false = sgR p o ∧ True) ∧ True) ∧ (¬o.getD k (0 : Int) < 0 → True ∧ True ∧ True ∧ True ∧ True ∧ True ∧ ((p.length : Int) ≤ o.getD k (0 : Int) → True ∧ True ∧ True ∧ True ∧ True ∧ (false = sgR p o ∧ True) ∧ True) ∧ (¬(p.length : Int) ≤ o.getD k (0 : Int) → True ∧ True ∧ ((0 : Int) ≤ o.getD k (0 : Int) ∧ o.getD k (0 : Int) < bitsOf .i64) ∧ ¬(2 : Int) = 0 ∧ True ∧ True ∧ True ∧ (((↑(sgD p o k) : Int) / (2 : Int) ^ Int.toNat (o.getD k (0 : Int))).tmod (2 : Int) = 1 → True ∧ True ∧ True ∧ (false = sgR p o ∧ True) ∧ True) ∧ (¬((↑(sgD p o k) : Int) / (2 : Int) ^ Int.toNat (o.getD k (0 : Int))).tmod (2 : Int) = 1 → True ∧ True ∧ True ∧ (ok57 p (↑(sgD p o k) : Int) (o.getD k (0 : Int)) ∧ True) ∧ True ∧ True ∧ ((!nxB p (sgD p o k) (Int.toNat (o.getD k (0 : Int)))) = true → True ∧ True ∧ (false = sgR p o ∧ True) ∧ True) ∧ ((!nxB p (sgD p o k) (Int.toNat (o.getD k (0 : Int)))) = false → True ∧ True ∧ (((0 : Int) ≤ o.getD k (0 : Int) ∧ o.getD k (0 : Int) < bitsOf .i64) ∧ (-9223372036854775808 : Int) ≤ 1 * 2 ^ Int.toNat (o.getD k (0 : Int)) ∧ (1 : Int) * 2 ^ Int.toNat (o.getD k (0 : Int)) ≤ 9223372036854775807) ∧ True ∧ True ∧ True ∧ inR .i64 ((k : Int) + 1) ∧ True ∧ ∃ (y : Nat), (in17 p o y ∧ o.length - y < o.length - k) ∧ (p = p ∧ o = o ∧ bOr .i64 (↑(sgD p o k) : Int) ((1 : Int) * 2 ^ Int.toNat (o.getD k (0 : Int))) = (↑(sgD p o y) : Int) ∧ (k : Int) + 1 = (y : Int) ∧ True) ∧ True))))) ∧ (¬(k : Int) < (o.length : Int) → ∃ (y : Unit), (sgK p o o.length).isSome = true ∧ (p = p ∧ o = o ∧ True) ∧ True)) (by kernel_rfl) ?_
 simp only [zz]
 obtain ⟨k1, k2⟩ := hk
 have hl := h.l
 have hs := sg_some k2
 have hD := sg_lt hl hs
 refine ⟨fun hlt => ?_, fun hlt => by rw [show o.length = k by omega]; exact k2⟩
 have hst : sgK p o (k + 1) = if sgB p (o.getD k 0) = true ∧ sgD p o k / 2 ^ (o.getD k 0).toNat % 2 = 0 ∧ nxB p (sgD p o k) (o.getD k 0).toNat = true then some (sgD p o k ||| 2 ^ (o.getD k 0).toNat) else none := by rw [sgK, hs]; try rfl
 have hbad : ¬ (sgB p (o.getD k 0) = true ∧ sgD p o k / 2 ^ (o.getD k 0).toNat % 2 = 0 ∧ nxB p (sgD p o k) (o.getD k 0).toNat = true) → false = sgR p o := fun hc => by
   rw [if_neg hc] at hst
   exact (sg_bad (by omega) hst).symm
 rw [bit_tmod]
 refine ⟨idx_nat (by omega), fun hx => hbad fun hc => ?_, fun hx => ⟨fun hx2 => hbad fun hc => ?_, fun hx2 => ⟨⟨by omega, by simp only [bitsOf]; omega⟩, by decide, fun hb => hbad fun hc => ?_, fun hb => ⟨⟨h, ⟨by omega, by omega⟩, by omega, by omega⟩, fun hn => hbad fun hc => ?_, fun hn => ?_⟩⟩⟩⟩
 · have : 0 ≤ o.getD k 0 ∧ o.getD k 0 < p.length := of_decide_eq_true hc.1
   omega
 · have : 0 ≤ o.getD k 0 ∧ o.getD k 0 < p.length := of_decide_eq_true hc.1
   omega
 · have := hc.2.1
   omega
 · rw [hc.2.2] at hn; cases hn
 · have hb2 := or_pow10 hD (k := (o.getD k 0).toNat) (by omega)
   rw [if_pos ⟨decide_eq_true ⟨by omega, by omega⟩, by omega, by simpa using hn⟩] at hst
   exact ⟨⟨⟨by omega, by simp only [bitsOf]; omega⟩, by omega, by omega⟩, by simp only [inR]; omega, k + 1, ⟨⟨by omega, by rw [hst]; rfl⟩, by omega⟩, by rw [hb2.1]; unfold sgD; rw [hst]; rfl, by omega⟩
theorem call17 (p o : List Int) (h : ok10 p) (ho : o.length < 1000000000000000) : GCall Try.prog gl 17 true [.sl I64 p, .sl I64 o] [] [.bool (sgR p o)] [] := by
 refine gcall_of (X := X [e57, e58]) (X_ok [e57, e58]) (f := 17) (fn := Try.f17) (c := bodyOf Try.f17) (by kernel_rfl) (by kernel_rfl) (view := false) (rvs := [.tmp 4]) (by kernel_rfl) (H := (H17 p o)) 80 (by kernel_rfl) ?_
 have hL := loop17 p o h ho
 refine of_eq (q := True ∧ True ∧ True ∧ LoopOK (X [e57, e58]) L17_0 { J := chk (0 : Nat) [(0 : Nat), (1 : Nat), (5 : Nat), (6 : Nat)] (in17 p o) (st17 p o), exits := List.map (fun (x : List Nat × Ex) => x.snd) (ex17 p o) } (RetR (X [e57, e58]) true false [ResultVar.tmp (4 : Tmp)] [AV.bool (sgR p o)] []) ∧ (∃ (y : Nat), in17 p o y ∧ (p = p ∧ o = o ∧ (0 : Int) = (↑(sgD p o y) : Int) ∧ (0 : Int) = (y : Int) ∧ True) ∧ True) ∧ (∀ (y : Unit), (sgK p o o.length).isSome = true → True ∧ True ∧ True ∧ True ∧ True ∧ True ∧ ((o.length : Int) = (p.length : Int) → True ∧ (ok10 p ∧ True) ∧ True ∧ True ∧ True ∧ (puB p = sgR p o ∧ True) ∧ True) ∧ (¬(o.length : Int) = (p.length : Int) → True ∧ True ∧ True ∧ (false = sgR p o ∧ True) ∧ True)) ∧ True) (by kernel_rfl) ?_
 simp only [zz]
 refine ⟨hL, ⟨0, ⟨Nat.zero_le _, rfl⟩, rfl, rfl⟩, fun _ hs => ⟨fun he => ⟨h, ?_⟩, fun he => ?_⟩⟩
 · unfold sgR; rw [hs, decide_eq_true (show o.length = p.length by omega)]; simp
 · unfold sgR; rw [decide_eq_false (show ¬ o.length = p.length by omega)]; simp
def e17 : Entry Try.prog gl := entry2 17 ⟨Try.f17, by kernel_rfl, by kernel_rfl, by kernel_rfl⟩ SI SI (fun p o => ok10 p ∧ (o : List Int).length < 1000000000000000) true (fun p o => [.bool (sgR p o)]) (fun _ _ => []) (fun p o h => call17 p o h.1 h.2)
end Go.Am.Sh

/- Shells: the reference's Check. -/
namespace Go.Am.Sh
open Go Go.Am Go.Proofs
def chkE (n : Int) (p : List Int) : Int := if cxOk n p then 0 else errN n
/-- Piece k is in its place. -/
def plc (n : Int) (p : List Int) (k : Nat) : Prop := 1 ≤ p.getD k 0 ∧ p.getD k 0 < 2 ^ n.toNat ∧ (0 < k → p.getD (k - 1) 0 < p.getD k 0)
/-- Pieces j and k are no parts of one another. -/
def prt (p : List Int) (j k : Nat) : Prop := sub (p.getD j 0).toNat (p.getD k 0).toNat = false ∧ sub (p.getD k 0).toNat (p.getD j 0).toNat = false
def plcK (n : Int) (p : List Int) (k : Nat) : Prop := ∀ i, i < k → plc n p i ∧ ∀ j, j < i → prt p j i
theorem pow_le6 {n : Int} (h : numOk n) : (2 ^ n.toNat : Int) ≤ 64 := by
 obtain ⟨e1, e2, e3⟩ := numOk_pow h
 omega
theorem plc_rng {n : Int} {p : List Int} {k : Nat} (h : numOk n) (hp : plc n p k) : 0 ≤ p.getD k 0 ∧ p.getD k 0 < 64 := by
 have := pow_le6 h
 have h1 := hp.1
 have h2 := hp.2.1
 omega
theorem sub_and {a b : Int} (ha : 0 ≤ a ∧ a < 64) (hb : 0 ≤ b ∧ b < 64) : (bAnd .i64 a b = a) ↔ sub a.toNat b.toNat = true := by
 have : bAnd .i64 a b = ((a.toNat &&& b.toNat : Nat) : Int) := by rw [← bAnd_nat (by omega) (by omega), Int.toNat_of_nonneg ha.1, Int.toNat_of_nonneg hb.1]
 rw [this]
 unfold sub
 constructor
 · intro h
   have : a.toNat &&& b.toNat = a.toNat := by omega
   rw [this]; exact Nat.beq_refl _
 · intro h
   have := Nat.eq_of_beq_eq_true h
   omega
theorem cx_of {n : Int} {p : List Int} (h : numOk n) (hl : 1 ≤ p.length ∧ p.length ≤ 10) (hp : plcK n p p.length) : cxOk n p := by
 refine ⟨h, hl, fun k hk => ?_⟩
 obtain ⟨⟨h1, h2, h3⟩, h4⟩ := hp k hk
 refine ⟨h1, h2, h3, fun j hj hne e => ?_⟩
 have r1 := plc_rng h (hp k hk).1
 have r2 := plc_rng h (hp j hj).1
 rw [sub_and r1 r2] at e
 rcases Nat.lt_or_ge j k with hlt | hge
 · rw [(h4 j hlt).2] at e; cases e
 · rw [((hp j hj).2 k (by omega)).1] at e; cases e
theorem cx_plc {n : Int} {p : List Int} (h : cxOk n p) {k : Nat} (hk : k < p.length) : plc n p k := ⟨(h.2.2 k hk).1, (h.2.2 k hk).2.1, (h.2.2 k hk).2.2.1⟩
theorem cx_prt {n : Int} {p : List Int} (h : cxOk n p) {j k : Nat} (hk : k < p.length) (hj : j < k) : prt p j k := by
 have r1 := okL_get h.ok k
 have r2 := okL_get h.ok j
 have a1 := (h.2.2 k hk).2.2.2 j (by omega) (by omega)
 have a2 := (h.2.2 j (by omega)).2.2.2 k hk (by omega)
 rw [Ne, sub_and r1 r2] at a1
 rw [Ne, sub_and r2 r1] at a2
 exact ⟨by simpa using a2, by simpa using a1⟩
theorem chk10 {n : Int} {p : List Int} (h : numOk n) (hb : ¬ cxOk n p) : 10 = chkE n p := by
 unfold chkE errN
 rw [if_neg hb, if_pos (show 1 ≤ n ∧ n ≤ 6 from h)]
noncomputable def L26_0 : Code := lp (bodyOf Try.f26) 0
noncomputable def L26_2 : Code := lp (bodyOf Try.f26) 2
def st26 (n : Int) (p : List Int) (k : Nat) : St := ⟨.int .i64 n :: .sl I64 p :: dd 3 ++ .int .i64 k :: dd 76, []⟩
def in26 (n : Int) (p : List Int) (k : Nat) : Prop := k ≤ p.length ∧ plcK n p k
def ex26 (n : Int) (p : List Int) : List (List Nat × Ex) := [([1], ⟨0, Unit, fun _ => plcK n p p.length, fun _ => ⟨.dead :: .sl I64 p :: dd 80, []⟩⟩)]
def sj26 (n : Int) (p : List Int) (k j : Nat) : St := ⟨.int .i64 n :: .sl I64 p :: dd 3 ++ .int .i64 k :: .int .i64 j :: dd 75, []⟩
def ij26 (p : List Int) (k j : Nat) : Prop := j ≤ k ∧ ∀ i, i < j → prt p i k
def ej26 (n : Int) (p : List Int) (k : Nat) : List (List Nat × Ex) := [([0, 1, 5], ⟨2, Unit, fun _ => ij26 p k k, fun _ => st26 n p k⟩)]
def hj26 (n : Int) (p : List Int) (k : Nat) : Hint := ⟨chk 0 [0, 1, 5, 6] (ij26 p k) (sj26 n p k), (ej26 n p k).map (·.2)⟩
noncomputable def H26 (n : Int) (p : List Int) : Nat → Option Hint := fun _ => some ⟨chk 0 [0, 1, 5] (in26 n p) (st26 n p), (ex26 n p).map (·.2)⟩
noncomputable def R26 (n : Int) (p : List Int) : Exit → St → Prop := RetR (X [e63]) true false [.tmp 4] [.int .i64 (chkE n p)] []
theorem loop26b (n : Int) (p : List Int) (k : Nat) (hn : numOk n) (hl : p.length < 1000000000000000) (hk : k < p.length) (hi : plcK n p k) (hg : plc n p k) : LoopOK (X [e63]) L26_2 (hj26 n p k) (bodyR (X [e63]).m0 (ex26 n p) (R26 n p)) := by
 refine loop_ok (X_ok _) (H := fun _ _ => none) [0, 1, 5, 6] (ij26 p k) (sj26 n p k) (fun j => k - j) (ej26 n p k) 150 fun (j : Nat) hj => ?_
 refine of_eq (q := True ∧ True ∧ True ∧ ((j : Int) < (k : Int) → True ∧ True ∧ idxPre (j : Int) p.length ∧ True ∧ True ∧ True ∧ idxPre (k : Int) p.length ∧ True ∧ (((0 : Int) ≤ p.getD j (0 : Int) ∧ p.getD j (0 : Int) < 64) ∧ (0 : Int) ≤ p.getD k (0 : Int) ∧ p.getD k (0 : Int) < 64) ∧ True ∧ (sub (Int.toNat (p.getD j (0 : Int))) (Int.toNat (p.getD k (0 : Int))) = true → True ∧ True ∧ True ∧ ((10 : Int) = chkE n p ∧ True) ∧ True) ∧ (sub (Int.toNat (p.getD j (0 : Int))) (Int.toNat (p.getD k (0 : Int))) = false → True ∧ True ∧ idxPre (k : Int) p.length ∧ True ∧ True ∧ True ∧ idxPre (j : Int) p.length ∧ True ∧ (((0 : Int) ≤ p.getD k (0 : Int) ∧ p.getD k (0 : Int) < 64) ∧ (0 : Int) ≤ p.getD j (0 : Int) ∧ p.getD j (0 : Int) < 64) ∧ True ∧ (sub (Int.toNat (p.getD k (0 : Int))) (Int.toNat (p.getD j (0 : Int))) = true → True ∧ True ∧ ((10 : Int) = chkE n p ∧ True) ∧ True) ∧ (sub (Int.toNat (p.getD k (0 : Int))) (Int.toNat (p.getD j (0 : Int))) = false → True ∧ inR .i64 ((j : Int) + 1) ∧ True ∧ ∃ (y : Nat), (ij26 p k y ∧ k - y < k - j) ∧ (n = n ∧ p = p ∧ (k : Int) = (k : Int) ∧ (j : Int) + 1 = (y : Int) ∧ True) ∧ True))) ∧ (¬(j : Int) < (k : Int) → ∃ (y : Unit), ij26 p k k ∧ (n = n ∧ p = p ∧ (k : Int) = (k : Int) ∧ True) ∧ True)) (by kernel_rfl) ?_
 simp only [zz]
 obtain ⟨j1, j2⟩ := hj
 have rk := plc_rng hn hg
 refine ⟨fun hlt => ?_, fun hlt => by rw [show k = j by omega] at j2 ⊢; exact ⟨Nat.le_refl _, j2⟩⟩
 have rj := plc_rng hn (hi j (by omega)).1
 refine ⟨idx_nat (by omega), idx_nat hk, ⟨rj, rk⟩, fun hx => chk10 hn fun hc => ?_, fun hx => ⟨idx_nat hk, idx_nat (by omega), ⟨rk, rj⟩, fun hy => chk10 hn fun hc => ?_, fun hy => ⟨by simp only [inR]; omega, j + 1, ⟨⟨by omega, fun i hi2 => ?_⟩, by omega⟩, by omega⟩⟩⟩
 · rw [(cx_prt hc hk (show j < k by omega)).1] at hx; cases hx
 · rw [(cx_prt hc hk (show j < k by omega)).2] at hy; cases hy
 · rcases Nat.lt_or_ge i j with h1 | h1
   · exact j2 i h1
   · rw [show i = j by omega]; exact ⟨hx, hy⟩
theorem loop26 (n : Int) (p : List Int) (hn : numOk n) (hl : p.length < 1000000000000000) : LoopOK (X [e63]) L26_0 ⟨chk 0 [0, 1, 5] (in26 n p) (st26 n p), (ex26 n p).map (·.2)⟩ (R26 n p) := by
 refine loop_ok (X_ok _) (H := fun k _ => some (hj26 n p k)) [0, 1, 5] (in26 n p) (st26 n p) (fun k => p.length - k) (ex26 n p) 150 fun (k : Nat) hk => ?_
 have hL := fun h1 h2 h3 => loop26b n p k hn hl h1 h2 h3
 refine of_eq (q := True ∧ True ∧ True ∧ True ∧ ((k : Int) < (p.length : Int) → True ∧ True ∧ idxPre (k : Int) p.length ∧ True ∧ True ∧ True ∧ (p.getD k (0 : Int) < 1 → True ∧ True ∧ True ∧ True ∧ True ∧ ((10 : Int) = chkE n p ∧ True) ∧ True) ∧ (¬p.getD k (0 : Int) < 1 → True ∧ True ∧ idxPre (k : Int) p.length ∧ True ∧ True ∧ (((0 : Int) ≤ n ∧ n < bitsOf .i64) ∧ (-9223372036854775808 : Int) ≤ 1 * 2 ^ n.toNat ∧ (1 : Int) * 2 ^ n.toNat ≤ 9223372036854775807) ∧ True ∧ True ∧ True ∧ ((1 : Int) * 2 ^ n.toNat ≤ p.getD k (0 : Int) → True ∧ True ∧ True ∧ ((10 : Int) = chkE n p ∧ True) ∧ True) ∧ (¬(1 : Int) * 2 ^ n.toNat ≤ p.getD k (0 : Int) → True ∧ True ∧ True ∧ ((0 : Int) < (k : Int) → True ∧ True ∧ inR .i64 ((k : Int) - 1) ∧ idxPre ((k : Int) - 1) p.length ∧ True ∧ True ∧ True ∧ idxPre (k : Int) p.length ∧ True ∧ True ∧ True ∧ True ∧ (p.getD k (0 : Int) ≤ p.getD ((k : Int) - 1).toNat (0 : Int) → True ∧ True ∧ ((10 : Int) = chkE n p ∧ True) ∧ True) ∧ (¬p.getD k (0 : Int) ≤ p.getD ((k : Int) - 1).toNat (0 : Int) → True ∧ LoopOK (X [e63]) L26_2 (hj26 n p k) (bodyR (X [e63]).m0 (ex26 n p) (R26 n p)) ∧ (∃ (y : Nat), ij26 p k y ∧ (n = n ∧ p = p ∧ (k : Int) = (k : Int) ∧ (0 : Int) = (y : Int) ∧ True) ∧ True) ∧ (∀ (y : Unit), ij26 p k k → True ∧ inR .i64 ((k : Int) + 1) ∧ True ∧ ∃ (y : Nat), (in26 n p y ∧ p.length - y < p.length - k) ∧ (n = n ∧ p = p ∧ (k : Int) + 1 = (y : Int) ∧ True) ∧ True) ∧ True)) ∧ (¬(0 : Int) < (k : Int) → True ∧ True ∧ True ∧ LoopOK (X [e63]) L26_2 (hj26 n p k) (bodyR (X [e63]).m0 (ex26 n p) (R26 n p)) ∧ (∃ (y : Nat), ij26 p k y ∧ (n = n ∧ p = p ∧ (k : Int) = (k : Int) ∧ (0 : Int) = (y : Int) ∧ True) ∧ True) ∧ (∀ (y : Unit), ij26 p k k → True ∧ inR .i64 ((k : Int) + 1) ∧ True ∧ ∃ (y : Nat), (in26 n p y ∧ p.length - y < p.length - k) ∧ (n = n ∧ p = p ∧ (k : Int) + 1 = (y : Int) ∧ True) ∧ True) ∧ True)))) ∧ (¬(k : Int) < (p.length : Int) → ∃ (y : Unit), plcK n p p.length ∧ (p = p ∧ True) ∧ True)) (by kernel_rfl) ?_
 simp only [zz]
 obtain ⟨k1, k2⟩ := hk
 have hp6 := pow_le6 hn
 obtain ⟨n1, n2⟩ := hn
 have hp0 : (0 : Int) < 2 ^ n.toNat := Int.pow_pos (by decide)
 rw [Int.one_mul]
 refine ⟨fun hlt => ?_, fun hlt => by rw [show p.length = k by omega]; exact k2⟩
 have hkl : k < p.length := by omega
 have hin : ∃ y : Nat, ij26 p k y ∧ (0 : Int) = (y : Int) := ⟨0, ⟨Nat.zero_le _, fun i hi => absurd hi (Nat.not_lt_zero i)⟩, rfl⟩
 have hnx : plc n p k → ij26 p k k → inR .i64 ((k : Int) + 1) ∧ ∃ y : Nat, (in26 n p y ∧ p.length - y < p.length - k) ∧ (k : Int) + 1 = (y : Int) := fun hg hj => ⟨by simp only [inR]; omega, k + 1, ⟨⟨by omega, fun i hi => by
   rcases Nat.lt_or_ge i k with h1 | h1
   · exact k2 i h1
   · rw [show i = k by omega]; exact ⟨hg, hj.2⟩⟩, by omega⟩, by omega⟩
 refine ⟨idx_nat hkl, fun hx => chk10 ⟨n1, n2⟩ fun hc => ?_, fun hx => ⟨idx_nat hkl, ⟨⟨by omega, by simp only [bitsOf]; omega⟩, by omega, by omega⟩, fun hy => chk10 ⟨n1, n2⟩ fun hc => ?_, fun hy => ⟨fun h0 => ?_, fun h0 => ?_⟩⟩⟩
 · have := (cx_plc hc hkl).1; omega
 · have := (cx_plc hc hkl).2.1; omega
 · rw [show ((k : Int) - 1).toNat = k - 1 by omega]
   refine ⟨by simp only [inR]; omega, by unfold idxPre; omega, idx_nat hkl, fun hz => chk10 ⟨n1, n2⟩ fun hc => ?_, fun hz => ?_⟩
   · have := (cx_plc hc hkl).2.2 (by omega); omega
   · have hg : plc n p k := ⟨by omega, by omega, fun _ => by omega⟩
     exact ⟨hL hkl k2 hg, hin, fun _ hj => hnx hg hj⟩
 · have hg : plc n p k := ⟨by omega, by omega, fun _ => by omega⟩
   exact ⟨hL hkl k2 hg, hin, fun _ hj => hnx hg hj⟩
theorem call26 (n : Int) (p : List Int) (hl : p.length < 1000000000000000) : GCall Try.prog gl 26 true [.int .i64 n, .sl I64 p] [] [.int .i64 (chkE n p)] [] := by
 refine gcall_of (X := X [e63]) (X_ok [e63]) (f := 26) (fn := Try.f26) (c := bodyOf Try.f26) (by kernel_rfl) (by kernel_rfl) (view := false) (rvs := [.tmp 4]) (by kernel_rfl) (H := (H26 n p)) 80 (by kernel_rfl) ?_
 have hL := fun h => loop26 n p h hl
 refine of_eq (q := True ∧ True ∧ True ∧ True ∧ (n < 1 → True ∧ True ∧ True ∧ ((1 : Int) = chkE n p ∧ True) ∧ True) ∧ (¬n < 1 → True ∧ True ∧ True ∧ ((6 : Int) < n → True ∧ True ∧ ((1 : Int) = chkE n p ∧ True) ∧ True) ∧ (¬(6 : Int) < n → True ∧ LoopOK (X [e63]) L26_0 { J := chk (0 : Nat) [(0 : Nat), (1 : Nat), (5 : Nat)] (in26 n p) (st26 n p), exits := List.map (fun (x : List Nat × Ex) => x.snd) (ex26 n p) } (R26 n p) ∧ (∃ (y : Nat), in26 n p y ∧ (n = n ∧ p = p ∧ (0 : Int) = (y : Int) ∧ True) ∧ True) ∧ (∀ (y : Unit), plcK n p p.length → True ∧ True ∧ True ∧ True ∧ ((p.length : Int) < 1 → True ∧ True ∧ True ∧ ((10 : Int) = chkE n p ∧ True) ∧ True) ∧ (¬(p.length : Int) < 1 → True ∧ True ∧ True ∧ True ∧ ((10 : Int) < (p.length : Int) → True ∧ True ∧ ((10 : Int) = chkE n p ∧ True) ∧ True) ∧ (¬(10 : Int) < (p.length : Int) → True ∧ True ∧ ((0 : Int) = chkE n p ∧ True) ∧ True))) ∧ True))) (by kernel_rfl) ?_
 simp only [zz]
 have h1 : ¬ numOk n → 1 = chkE n p := fun h => by
   unfold chkE errN
   rw [if_neg fun hc => h hc.1, if_neg (show ¬ (1 ≤ n ∧ n ≤ 6) from h)]
 refine ⟨fun h => h1 fun hc => by have := hc.1; omega, fun h => ⟨fun h2 => h1 fun hc => by have := hc.2; omega, fun h2 => ⟨hL ⟨by omega, by omega⟩, ⟨0, ⟨Nat.zero_le _, fun i hi => absurd hi (Nat.not_lt_zero i)⟩, rfl⟩, fun _ hp => ⟨fun h3 => ?_, fun h3 => ⟨fun h4 => ?_, fun h4 => ?_⟩⟩⟩⟩⟩
 · exact chk10 ⟨by omega, by omega⟩ fun hc => by have := hc.2.1.1; omega
 · exact chk10 ⟨by omega, by omega⟩ fun hc => by have := hc.2.1.2; omega
 · unfold chkE; rw [if_pos (cx_of ⟨by omega, by omega⟩ ⟨by omega, by omega⟩ hp)]
def e26 : Entry Try.prog gl := entry2 26 ⟨Try.f26, by kernel_rfl, by kernel_rfl, by kernel_rfl⟩ I64 SI (fun (_ : Int) p => (p : List Int).length < 1000000000000000) true (fun n p => [.int .i64 (chkE n p)]) (fun _ _ => []) (call26)
end Go.Am.Sh

/- Shells: the law of the moment complexes. -/
namespace Go.Am.Sh
open Go Go.Am Go.Proofs
/-- How many of a list have all of a set. -/
def cntM (x : Nat) (p : List Int) (j : Nat) : Nat := ((p.take j).filter fun s => decide (mns x s.toNat = 0)).length
structure mf (n d : Int) : Prop where
 m : momOk n d
 len : 1 ≤ (momL n d).length ∧ (momL n d).length ≤ 10
 cx : cxOk n (momL n d)
 hl : ((hsL (momL n d)).length : Int) = d + 1
 hs : ∀ k, k < d.toNat + 1 → (hsL (momL n d)).getD k 0 = (hsL (momL n d)).getD (d.toNat - k) 0
 sh : shB (momL n d) = true
 sg : sgR (momL n d) (shL (momL n d)) = true
 sl : (shL (momL n d)).length ≤ 10
 two : ∀ k, k < (fcs (momL n d)).length → (pc ((fcs (momL n d)).getD k 0).toNat : Int) = d - 1 → cntM ((fcs (momL n d)).getD k 0).toNat (momL n d) (momL n d).length = 2
instance (n d : Int) : Decidable (momOk n d) := by unfold momOk; infer_instance
def mfB (n d : Nat) : Bool := decide (momOk n d) && decide (1 ≤ (momL n d).length ∧ (momL n d).length ≤ 10) && decide (cxOk n (momL n d)) && decide ((hsL (momL n d)).length = d + 1) && (List.range (d + 1)).all (fun k => decide ((hsL (momL n d)).getD k 0 = (hsL (momL n d)).getD (d - k) 0))
 && shB (momL n d) && sgR (momL n d) (shL (momL n d)) && decide ((shL (momL n d)).length ≤ 10) && (List.range (fcs (momL n d)).length).all (fun k => !decide (pc ((fcs (momL n d)).getD k 0).toNat + 1 = d) || decide (cntM ((fcs (momL n d)).getD k 0).toNat (momL n d) (momL n d).length = 2))
theorem mfB_all : mfB 3 2 = true ∧ mfB 4 2 = true ∧ mfB 4 3 = true ∧ mfB 5 2 = true ∧ mfB 5 3 = true ∧ mfB 5 4 = true ∧ mfB 6 2 = true ∧ mfB 6 3 = true ∧ mfB 6 4 = true ∧ mfB 6 5 = true := by decide +kernel
theorem mf_of {n d : Nat} (h : mfB n d = true) : mf n d := by
 unfold mfB at h
 simp only [Bool.and_eq_true, decide_eq_true_eq, List.all_eq_true, List.mem_range, Bool.or_eq_true, Bool.not_eq_true', decide_eq_false_iff_not] at h
 obtain ⟨⟨⟨⟨⟨⟨⟨⟨h1, h2⟩, h3⟩, h4⟩, h5⟩, h6⟩, h7⟩, h8⟩, h9⟩ := h
 exact ⟨h1, h2, h3, by omega, fun k hk => by rw [Int.toNat_natCast] at hk ⊢; exact h5 k hk, h6, h7, h8, fun k hk hp => (h9 k hk).resolve_left (by omega)⟩
theorem mf_all {n d : Int} (h1 : 3 ≤ n ∧ n ≤ 6) (h2 : 2 ≤ d ∧ d < n) : mf n d := by
 obtain ⟨a1, a2, a3, a4, a5, a6, a7, a8, a9, a10⟩ := mfB_all
 obtain ⟨n, rfl⟩ : ∃ m : Nat, n = m := ⟨n.toNat, by omega⟩
 obtain ⟨d, rfl⟩ : ∃ m : Nat, d = m := ⟨d.toNat, by omega⟩
 have : (n = 3 ∧ d = 2) ∨ (n = 4 ∧ d = 2) ∨ (n = 4 ∧ d = 3) ∨ (n = 5 ∧ d = 2) ∨ (n = 5 ∧ d = 3) ∨ (n = 5 ∧ d = 4) ∨ (n = 6 ∧ d = 2) ∨ (n = 6 ∧ d = 3) ∨ (n = 6 ∧ d = 4) ∨ (n = 6 ∧ d = 5) := by omega
 rcases this with ⟨rfl, rfl⟩ | ⟨rfl, rfl⟩ | ⟨rfl, rfl⟩ | ⟨rfl, rfl⟩ | ⟨rfl, rfl⟩ | ⟨rfl, rfl⟩ | ⟨rfl, rfl⟩ | ⟨rfl, rfl⟩ | ⟨rfl, rfl⟩ | ⟨rfl, rfl⟩
 · exact mf_of a1
 · exact mf_of a2
 · exact mf_of a3
 · exact mf_of a4
 · exact mf_of a5
 · exact mf_of a6
 · exact mf_of a7
 · exact mf_of a8
 · exact mf_of a9
 · exact mf_of a10
noncomputable def L5_0 : Code := lp (bodyOf Try.f5) 0
noncomputable def L5_2 : Code := lp (bodyOf Try.f5) 2
noncomputable def L5_4 : Code := lp (bodyOf Try.f5) 4
def sa5 (d : Int) (p h a : List Int) (k : Nat) : St := ⟨.dead :: .int .i64 d :: dd 3 ++ .sl I64 p :: .dead :: .sl I64 h :: dd 4 ++ .sl I64 a :: .dead :: .int .i64 k :: dd 145, []⟩
def ea5 (d : Int) (p a : List Int) : List (List Nat × Ex) := [([1, 5, 12], ⟨0, Unit, fun _ => True, fun _ => ⟨.dead :: .int .i64 d :: dd 3 ++ .sl I64 p :: dd 6 ++ .sl I64 a :: dd 147, []⟩⟩)]
def ha5 (d : Int) (p h a : List Int) : Hint := ⟨chk 0 [1, 5, 7, 12, 14] (fun k : Nat => (k : Int) ≤ d + 1) (sa5 d p h a), (ea5 d p a).map (·.2)⟩
def sb5 (d : Int) (p a : List Int) (k : Nat) : St := ⟨.dead :: .int .i64 d :: dd 3 ++ .sl I64 p :: dd 6 ++ .sl I64 a :: dd 2 ++ .int .i64 k :: dd 144, []⟩
def eb5 : List (List Nat × Ex) := [([], ⟨2, Unit, fun _ => True, fun _ => ⟨dd 160, []⟩⟩)]
def hb5 (d : Int) (p a : List Int) : Hint := ⟨chk 0 [1, 5, 12, 15] (fun k => k ≤ a.length) (sb5 d p a), eb5.map (·.2)⟩
def sc5 (d : Int) (p a : List Int) (k j : Nat) : St := ⟨.dead :: .int .i64 d :: dd 3 ++ .sl I64 p :: dd 6 ++ .sl I64 a :: dd 2 ++ .int .i64 k :: .int .i64 ((cntM (a.getD k 0).toNat p j : Nat) : Int) :: .int .i64 j :: dd 142, []⟩
def ec5 (d : Int) (p a : List Int) (k : Nat) : List (List Nat × Ex) := [([1, 5, 12, 15, 16], ⟨4, Unit, fun _ => True, fun _ => ⟨.dead :: .int .i64 d :: dd 3 ++ .sl I64 p :: dd 6 ++ .sl I64 a :: dd 2 ++ .int .i64 k :: .int .i64 ((cntM (a.getD k 0).toNat p p.length : Nat) : Int) :: dd 143, []⟩⟩)]
def hc5 (d : Int) (p a : List Int) (k : Nat) : Hint := ⟨chk 0 [1, 5, 12, 15, 16, 17] (fun j => j ≤ p.length) (sc5 d p a k), (ec5 d p a k).map (·.2)⟩
noncomputable abbrev E5 : EL := [e24, e26, e27, e15, e28, e17, e29, e19]
def hs5 : Nat → Bool := fun t => Nat.beq t 19 || Nat.beq t 24
noncomputable abbrev X5 : Cy := Xw E5 hs5
noncomputable def H5 (d : Int) (p h a : List Int) (b : Nat) : Option Hint := some (if Nat.beq b 0 then ha5 d p h a else hb5 d p a)
noncomputable def R5 : Exit → St → Prop := RetR X5 true false [.tmp 4] [.tt] []
theorem cntM_step {x : Nat} {p : List Int} {j : Nat} (h : j < p.length) : cntM x p (j + 1) = if mns x (p.getD j 0).toNat = 0 then cntM x p j + 1 else cntM x p j := by
 unfold cntM
 rw [take_getD (d := 0) h, List.filter_append, List.length_append]
 by_cases hm : mns x (p.getD j 0).toNat = 0
 · rw [if_pos hm, List.filter_cons_of_pos (by simpa using hm)]; try rfl
 · rw [if_neg hm, List.filter_cons_of_neg (by simpa using hm)]; try rfl
theorem cntM_le (x : Nat) (p : List Int) (j : Nat) : cntM x p j ≤ p.length := by
 unfold cntM
 exact Nat.le_trans (List.length_filter_le _ _) (by rw [List.length_take]; omega)
theorem loop5c (d : Int) (p a : List Int) (k : Nat) (hp : okL p) (hl : p.length ≤ 10) (ha : okL a) (hk : k < a.length) (R : Exit → St → Prop) : LoopOK X5 L5_4 (hc5 d p a k) R := by
 refine loop_ok (Xw_ok _ _) (H := fun _ _ => none) [1, 5, 12, 15, 16, 17] (fun j => j ≤ p.length) (sc5 d p a k) (fun j => p.length - j) (ec5 d p a k) 150 fun (j : Nat) hj => ?_
 refine of_eq (q := True ∧ True ∧ True ∧ True ∧ ((j : Int) < (p.length : Int) → True ∧ True ∧ idxPre (k : Int) a.length ∧ True ∧ True ∧ True ∧ idxPre (j : Int) p.length ∧ True ∧ True ∧ True ∧ (bNot .i64 (a.getD k (0 : Int)) (p.getD j (0 : Int)) = 0 → True ∧ inR .i64 ((↑(cntM (a.getD k (0 : Int)).toNat p j) : Int) + 1) ∧ True ∧ True ∧ inR .i64 ((j : Int) + 1) ∧ True ∧ ∃ (y : Nat), (y ≤ p.length ∧ p.length - y < p.length - j) ∧ (d = d ∧ p = p ∧ a = a ∧ (k : Int) = (k : Int) ∧ (↑(cntM (a.getD k (0 : Int)).toNat p j) : Int) + 1 = (↑(cntM (a.getD k (0 : Int)).toNat p y) : Int) ∧ (j : Int) + 1 = (y : Int) ∧ True) ∧ True) ∧ (¬bNot .i64 (a.getD k (0 : Int)) (p.getD j (0 : Int)) = 0 → True ∧ inR .i64 ((j : Int) + 1) ∧ True ∧ ∃ (y : Nat), (y ≤ p.length ∧ p.length - y < p.length - j) ∧ (d = d ∧ p = p ∧ a = a ∧ (k : Int) = (k : Int) ∧ (↑(cntM (a.getD k (0 : Int)).toNat p j) : Int) = (↑(cntM (a.getD k (0 : Int)).toNat p y) : Int) ∧ (j : Int) + 1 = (y : Int) ∧ True) ∧ True)) ∧ (¬(j : Int) < (p.length : Int) → ∃ (y : Unit), True ∧ (d = d ∧ p = p ∧ a = a ∧ (k : Int) = (k : Int) ∧ (↑(cntM (a.getD k (0 : Int)).toNat p j) : Int) = (↑(cntM (a.getD k (0 : Int)).toNat p p.length) : Int) ∧ True) ∧ True)) (by kernel_rfl) ?_
 simp only [zz]
 have hj : j ≤ p.length := hj
 obtain ⟨q1, q2⟩ := okL_get hp j
 obtain ⟨r1, r2⟩ := okL_get ha k
 refine ⟨fun hlt => ?_, fun hlt => by rw [show p.length = j by omega]⟩
 have e1 : bNot .i64 (a.getD k 0) (p.getD j 0) = ((mns (a.getD k 0).toNat (p.getD j 0).toNat : Nat) : Int) := by
   rw [← bNot_nat (by omega) (by omega), Int.toNat_of_nonneg q1, Int.toNat_of_nonneg r1]
 have hst := cntM_step (x := (a.getD k 0).toNat) (p := p) (j := j) (by omega)
 have hle := cntM_le (a.getD k 0).toNat p j
 rw [e1]
 refine ⟨idx_nat hk, idx_nat (by omega), fun hx => ⟨by simp only [inR]; omega, by simp only [inR]; omega, j + 1, by omega, ?_, by omega⟩, fun hx => ⟨by simp only [inR]; omega, j + 1, by omega, ?_, by omega⟩⟩
 · rw [hst, if_pos (by omega)]; try rfl
 · rw [hst, if_neg (by omega)]
theorem and63 : ∀ x : Fin 64, x.val &&& 63 = x.val := by decide +kernel
theorem loop5b (d : Int) (p a : List Int) (hp : okL p) (hl : p.length ≤ 10) (ha : okL a) (hal : a.length ≤ 64) (hd : 2 ≤ d ∧ d ≤ 6) (h2 : ∀ k, k < a.length → (pc (a.getD k 0).toNat : Int) = d - 1 → cntM (a.getD k 0).toNat p p.length = 2) : LoopOK X5 L5_2 (hb5 d p a) R5 := by
 refine loop_ok (Xw_ok _ _) (H := fun k _ => some (hc5 d p a k)) [1, 5, 12, 15] (fun k => k ≤ a.length) (sb5 d p a) (fun k => a.length - k) eb5 150 fun (k : Nat) hk => ?_
 have hL := fun hk => loop5c d p a k hp hl ha hk (bodyR X5.m0 eb5 R5)
 refine of_eq (q := True ∧ True ∧ True ∧ True ∧ ((k : Int) < (a.length : Int) → True ∧ True ∧ LoopOK X5 L5_4 (hc5 d p a k) (bodyR X5.m0 eb5 R5) ∧ (∃ (y : Nat), y ≤ p.length ∧ (d = d ∧ p = p ∧ a = a ∧ (k : Int) = (k : Int) ∧ (0 : Int) = (↑(cntM (a.getD k (0 : Int)).toNat p y) : Int) ∧ (0 : Int) = (y : Int) ∧ True) ∧ True) ∧ (∀ (y : Unit), True → True ∧ True ∧ idxPre (k : Int) a.length ∧ True ∧ True ∧ (((0 : Int) ≤ bAnd .i64 (a.getD k (0 : Int)) (63 : Int) ∧ bAnd .i64 (a.getD k (0 : Int)) (63 : Int) < 64) ∧ True) ∧ True ∧ inR .i64 (d - 1) ∧ True ∧ True ∧ ((↑(pc (bAnd .i64 (a.getD k (0 : Int)) (63 : Int)).toNat) : Int) = d - 1 → True ∧ True ∧ True ∧ (¬(↑(cntM (a.getD k (0 : Int)).toNat p p.length) : Int) = 2 → True ∧ True ∧ (false = true ∧ True) ∧ True) ∧ (¬¬(↑(cntM (a.getD k (0 : Int)).toNat p p.length) : Int) = 2 → True ∧ inR .i64 ((k : Int) + 1) ∧ True ∧ ∃ (y : Nat), (y ≤ a.length ∧ a.length - y < a.length - k) ∧ (d = d ∧ p = p ∧ a = a ∧ (k : Int) + 1 = (y : Int) ∧ True) ∧ True)) ∧ (¬(↑(pc (bAnd .i64 (a.getD k (0 : Int)) (63 : Int)).toNat) : Int) = d - 1 → True ∧ True ∧ inR .i64 ((k : Int) + 1) ∧ True ∧ ∃ (y : Nat), (y ≤ a.length ∧ a.length - y < a.length - k) ∧ (d = d ∧ p = p ∧ a = a ∧ (k : Int) + 1 = (y : Int) ∧ True) ∧ True)) ∧ True) ∧ (¬(k : Int) < (a.length : Int) → ∃ (y : Unit), True ∧ True ∧ True)) (by kernel_rfl) ?_
 simp only [zz]
 have hk : k ≤ a.length := hk
 obtain ⟨r1, r2⟩ := okL_get ha k
 refine ⟨fun hlt => ⟨hL (by omega), ⟨0, Nat.zero_le _, rfl, rfl⟩, fun _ _ => ?_⟩, fun hlt => trivial⟩
 have e1 : bAnd .i64 (a.getD k 0) 63 = a.getD k 0 := by
   have e2 := bAnd_nat (a := (a.getD k 0).toNat) (b := 63) (by omega) (by decide)
   rw [Int.toNat_of_nonneg r1] at e2
   rw [show (63 : Int) = ((63 : Nat) : Int) from rfl, e2]
   have := and63 ⟨(a.getD k 0).toNat, by omega⟩
   simp only at this
   rw [this, Int.toNat_of_nonneg r1]
 rw [e1]
 have hn : inR .i64 ((k : Int) + 1) ∧ ∃ y : Nat, (y ≤ a.length ∧ a.length - y < a.length - k) ∧ (k : Int) + 1 = (y : Int) := ⟨by simp only [inR]; omega, k + 1, by omega, by omega⟩
 refine ⟨idx_nat (by omega), ⟨r1, r2⟩, by simp only [inR]; omega, fun hx => ⟨fun hy => absurd ?_ hy, fun _ => hn⟩, fun _ => hn⟩
 rw [h2 k (by omega) hx]; try rfl
theorem loop5a (d : Int) (p h a : List Int) (hd : 2 ≤ d ∧ d ≤ 6) (hl : (h.length : Int) = d + 1) (hs : ∀ k, k < d.toNat + 1 → h.getD k 0 = h.getD (d.toNat - k) 0) : LoopOK X5 L5_0 (ha5 d p h a) R5 := by
 refine loop_ok (Xw_ok _ _) (H := fun _ _ => none) [1, 5, 7, 12, 14] (fun k : Nat => (k : Int) ≤ d + 1) (sa5 d p h a) (fun k : Nat => (d + 1).toNat - k) (ea5 d p a) 150 fun (k : Nat) hk => ?_
 refine of_eq (q := True ∧ True ∧ True ∧ ((k : Int) ≤ d → True ∧ True ∧ idxPre (k : Int) h.length ∧ True ∧ True ∧ True ∧ True ∧ inR .i64 (d - (k : Int)) ∧ idxPre (d - (k : Int)) h.length ∧ True ∧ True ∧ (¬h.getD k (0 : Int) = h.getD (d - (k : Int)).toNat (0 : Int) → True ∧ True ∧ (false = true ∧ True) ∧ True) ∧ (¬¬h.getD k (0 : Int) = h.getD (d - (k : Int)).toNat (0 : Int) → True ∧ inR .i64 ((k : Int) + 1) ∧ True ∧ ∃ (y : Nat), ((y : Int) ≤ d + 1 ∧ (d + 1).toNat - y < (d + 1).toNat - k) ∧ (d = d ∧ p = p ∧ h = h ∧ a = a ∧ (k : Int) + 1 = (y : Int) ∧ True) ∧ True)) ∧ (¬(k : Int) ≤ d → ∃ (y : Unit), True ∧ (d = d ∧ p = p ∧ a = a ∧ True) ∧ True)) (by kernel_rfl) ?_
 simp only [zz]
 have hk : (k : Int) ≤ d + 1 := hk
 refine ⟨fun hlt => ?_, fun _ => trivial⟩
 have e := hs k (by omega)
 rw [show (d - (k : Int)).toNat = d.toNat - k by omega]
 exact ⟨by unfold idxPre; omega, by simp only [inR]; omega, by unfold idxPre; omega, fun hx => absurd e hx, fun _ => ⟨by simp only [inR]; omega, k + 1, by omega, by omega⟩⟩
theorem u64_nn (n : Int) : 0 ≤ modU .u64 n := by
 show 0 ≤ n % 18446744073709551616
 omega
theorem call5 (n d : Int) : GCall Try.prog gl 5 true [.int .i64 n, .int .i64 d] [] [.tt] [] := by
 have hf : mf (3 + (modU .u64 n).tmod 4) (2 + (modU .u64 d).tmod (3 + (modU .u64 n).tmod 4 - 2)) := by
   have h1 := u64_nn n
   have e := Int.tmod_eq_emod_of_nonneg (b := 4) h1
   have h2 : 0 ≤ (modU .u64 n).tmod 4 ∧ (modU .u64 n).tmod 4 < 4 := by omega
   generalize (modU .u64 n).tmod 4 = r at h2
   have h3 := Int.tmod_nonneg (a := modU .u64 d) (3 + r - 2) (u64_nn d)
   have h4 := Int.tmod_lt_of_pos (modU .u64 d) (show 0 < 3 + r - 2 by omega)
   exact mf_all (by omega) (by omega)
 have hp := hf.cx.ok
 have hL := fun h1 h2 h3 => loop5a (2 + (modU .u64 d).tmod (3 + (modU .u64 n).tmod 4 - 2)) (momL (3 + (modU .u64 n).tmod 4) (2 + (modU .u64 d).tmod (3 + (modU .u64 n).tmod 4 - 2))) (hsL (momL (3 + (modU .u64 n).tmod 4) (2 + (modU .u64 d).tmod (3 + (modU .u64 n).tmod 4 - 2)))) (fcs (momL (3 + (modU .u64 n).tmod 4) (2 + (modU .u64 d).tmod (3 + (modU .u64 n).tmod 4 - 2)))) h1 h2 h3
 have hM := fun h1 h2 h3 h4 h5 h6 => loop5b (2 + (modU .u64 d).tmod (3 + (modU .u64 n).tmod 4 - 2)) (momL (3 + (modU .u64 n).tmod 4) (2 + (modU .u64 d).tmod (3 + (modU .u64 n).tmod 4 - 2))) (fcs (momL (3 + (modU .u64 n).tmod 4) (2 + (modU .u64 d).tmod (3 + (modU .u64 n).tmod 4 - 2)))) h1 h2 h3 h4 h5 h6
 refine gcall_of (X := X5) ((Xw_ok _ _)) (f := 5) (fn := Try.f5) (c := bodyOf Try.f5) (by kernel_rfl) (by kernel_rfl) (view := false) (rvs := [.tmp 4]) (by kernel_rfl) (H := (H5 (2 + (modU .u64 d).tmod (3 + (modU .u64 n).tmod 4 - 2)) (momL (3 + (modU .u64 n).tmod 4) (2 + (modU .u64 d).tmod (3 + (modU .u64 n).tmod 4 - 2))) (hsL (momL (3 + (modU .u64 n).tmod 4) (2 + (modU .u64 d).tmod (3 + (modU .u64 n).tmod 4 - 2)))) (fcs (momL (3 + (modU .u64 n).tmod 4) (2 + (modU .u64 d).tmod (3 + (modU .u64 n).tmod 4 - 2)))))) 200 (by kernel_rfl) ?_
 refine of_eq (q := True ∧ True ∧ True ∧ ¬(4 : Int) = 0 ∧ inR .i64 ((modU .u64 n).tmod (4 : Int)) ∧ inR .i64 ((3 : Int) + (modU .u64 n).tmod (4 : Int)) ∧ True ∧ True ∧ True ∧ True ∧ inR .i64 ((3 : Int) + (modU .u64 n).tmod (4 : Int) - 2) ∧ inR .u64 ((3 : Int) + (modU .u64 n).tmod (4 : Int) - 2) ∧ ¬(3 : Int) + (modU .u64 n).tmod (4 : Int) - 2 = 0 ∧ inR .i64 ((modU .u64 d).tmod ((3 : Int) + (modU .u64 n).tmod (4 : Int) - 2)) ∧ inR .i64 ((2 : Int) + (modU .u64 d).tmod ((3 : Int) + (modU .u64 n).tmod (4 : Int) - 2)) ∧ True ∧ True ∧ True ∧ (((2 : Int) ≤ 2 + (modU .u64 d).tmod ((3 : Int) + (modU .u64 n).tmod (4 : Int) - 2) ∧ (2 : Int) + (modU .u64 d).tmod ((3 : Int) + (modU .u64 n).tmod (4 : Int) - 2) < 3 + (modU .u64 n).tmod (4 : Int) ∧ (3 : Int) + (modU .u64 n).tmod (4 : Int) ≤ 6) ∧ True) ∧ True ∧ True ∧ True ∧ True ∧ True ∧ True ∧ True ∧ True ∧ (¬(0 : Int) = 0 → True ∧ True ∧ True ∧ True ∧ True ∧ True ∧ True ∧ (false = true ∧ True) ∧ True) ∧ (¬¬(0 : Int) = 0 → True ∧ True ∧ True ∧ True ∧ True ∧ ((↑(momL ((3 : Int) + (modU .u64 n).tmod (4 : Int)) ((2 : Int) + (modU .u64 d).tmod ((3 : Int) + (modU .u64 n).tmod (4 : Int) - 2))).length : Int) < 1 → True ∧ True ∧ True ∧ True ∧ True ∧ (false = true ∧ True) ∧ True) ∧ (¬(↑(momL ((3 : Int) + (modU .u64 n).tmod (4 : Int)) ((2 : Int) + (modU .u64 d).tmod ((3 : Int) + (modU .u64 n).tmod (4 : Int) - 2))).length : Int) < 1 → True ∧ True ∧ True ∧ True ∧ True ∧ ((10 : Int) < (↑(momL ((3 : Int) + (modU .u64 n).tmod (4 : Int)) ((2 : Int) + (modU .u64 d).tmod ((3 : Int) + (modU .u64 n).tmod (4 : Int) - 2))).length : Int) → True ∧ True ∧ True ∧ (false = true ∧ True) ∧ True) ∧ (¬(10 : Int) < (↑(momL ((3 : Int) + (modU .u64 n).tmod (4 : Int)) ((2 : Int) + (modU .u64 d).tmod ((3 : Int) + (modU .u64 n).tmod (4 : Int) - 2))).length : Int) → True ∧ True ∧ ((momL ((3 : Int) + (modU .u64 n).tmod (4 : Int)) ((2 : Int) + (modU .u64 d).tmod ((3 : Int) + (modU .u64 n).tmod (4 : Int) - 2))).length + 1 ≤ 1000000000000000 ∧ True) ∧ True ∧ True ∧ (¬chkE ((3 : Int) + (modU .u64 n).tmod (4 : Int)) (momL ((3 : Int) + (modU .u64 n).tmod (4 : Int)) ((2 : Int) + (modU .u64 d).tmod ((3 : Int) + (modU .u64 n).tmod (4 : Int) - 2))) = 0 → True ∧ True ∧ (false = true ∧ True) ∧ True) ∧ (¬¬chkE ((3 : Int) + (modU .u64 n).tmod (4 : Int)) (momL ((3 : Int) + (modU .u64 n).tmod (4 : Int)) ((2 : Int) + (modU .u64 d).tmod ((3 : Int) + (modU .u64 n).tmod (4 : Int) - 2))) = 0 → True ∧ True ∧ ((numOk ((3 : Int) + (modU .u64 n).tmod (4 : Int)) ∧ ((1 : Nat) ≤ (momL ((3 : Int) + (modU .u64 n).tmod (4 : Int)) ((2 : Int) + (modU .u64 d).tmod ((3 : Int) + (modU .u64 n).tmod (4 : Int) - 2))).length ∧ (momL ((3 : Int) + (modU .u64 n).tmod (4 : Int)) ((2 : Int) + (modU .u64 d).tmod ((3 : Int) + (modU .u64 n).tmod (4 : Int) - 2))).length ≤ 10) ∧ ∀ (k : Nat), k < (momL ((3 : Int) + (modU .u64 n).tmod (4 : Int)) ((2 : Int) + (modU .u64 d).tmod ((3 : Int) + (modU .u64 n).tmod (4 : Int) - 2))).length → goodAt ((3 : Int) + (modU .u64 n).tmod (4 : Int)) (momL ((3 : Int) + (modU .u64 n).tmod (4 : Int)) ((2 : Int) + (modU .u64 d).tmod ((3 : Int) + (modU .u64 n).tmod (4 : Int) - 2))) k) ∧ True) ∧ True ∧ True ∧ True ∧ True ∧ True ∧ True ∧ True ∧ ((numOk ((3 : Int) + (modU .u64 n).tmod (4 : Int)) ∧ ((1 : Nat) ≤ (momL ((3 : Int) + (modU .u64 n).tmod (4 : Int)) ((2 : Int) + (modU .u64 d).tmod ((3 : Int) + (modU .u64 n).tmod (4 : Int) - 2))).length ∧ (momL ((3 : Int) + (modU .u64 n).tmod (4 : Int)) ((2 : Int) + (modU .u64 d).tmod ((3 : Int) + (modU .u64 n).tmod (4 : Int) - 2))).length ≤ 10) ∧ ∀ (k : Nat), k < (momL ((3 : Int) + (modU .u64 n).tmod (4 : Int)) ((2 : Int) + (modU .u64 d).tmod ((3 : Int) + (modU .u64 n).tmod (4 : Int) - 2))).length → goodAt ((3 : Int) + (modU .u64 n).tmod (4 : Int)) (momL ((3 : Int) + (modU .u64 n).tmod (4 : Int)) ((2 : Int) + (modU .u64 d).tmod ((3 : Int) + (modU .u64 n).tmod (4 : Int) - 2))) k) ∧ True) ∧ True ∧ True ∧ True ∧ True ∧ True ∧ True ∧ True ∧ True ∧ True ∧ ((numOk ((3 : Int) + (modU .u64 n).tmod (4 : Int)) ∧ ((1 : Nat) ≤ (momL ((3 : Int) + (modU .u64 n).tmod (4 : Int)) ((2 : Int) + (modU .u64 d).tmod ((3 : Int) + (modU .u64 n).tmod (4 : Int) - 2))).length ∧ (momL ((3 : Int) + (modU .u64 n).tmod (4 : Int)) ((2 : Int) + (modU .u64 d).tmod ((3 : Int) + (modU .u64 n).tmod (4 : Int) - 2))).length ≤ 10) ∧ ∀ (k : Nat), k < (momL ((3 : Int) + (modU .u64 n).tmod (4 : Int)) ((2 : Int) + (modU .u64 d).tmod ((3 : Int) + (modU .u64 n).tmod (4 : Int) - 2))).length → goodAt ((3 : Int) + (modU .u64 n).tmod (4 : Int)) (momL ((3 : Int) + (modU .u64 n).tmod (4 : Int)) ((2 : Int) + (modU .u64 d).tmod ((3 : Int) + (modU .u64 n).tmod (4 : Int) - 2))) k) ∧ True) ∧ True ∧ True ∧ True ∧ True ∧ True ∧ True ∧ True ∧ True ∧ (¬(0 : Int) = 0 → True ∧ True ∧ True ∧ True ∧ True ∧ True ∧ True ∧ True ∧ True ∧ True ∧ True ∧ True ∧ True ∧ (false = true ∧ True) ∧ True) ∧ (¬¬(0 : Int) = 0 → True ∧ True ∧ True ∧ True ∧ (¬(0 : Int) = 0 → True ∧ True ∧ True ∧ True ∧ True ∧ True ∧ True ∧ True ∧ True ∧ True ∧ True ∧ (false = true ∧ True) ∧ True) ∧ (¬¬(0 : Int) = 0 → True ∧ True ∧ True ∧ True ∧ (¬(0 : Int) = 0 → True ∧ True ∧ True ∧ True ∧ True ∧ True ∧ True ∧ True ∧ True ∧ (false = true ∧ True) ∧ True) ∧ (¬¬(0 : Int) = 0 → True ∧ True ∧ True ∧ True ∧ ((!shB (momL ((3 : Int) + (modU .u64 n).tmod (4 : Int)) ((2 : Int) + (modU .u64 d).tmod ((3 : Int) + (modU .u64 n).tmod (4 : Int) - 2)))) = true → True ∧ True ∧ True ∧ True ∧ True ∧ True ∧ True ∧ (false = true ∧ True) ∧ True) ∧ ((!shB (momL ((3 : Int) + (modU .u64 n).tmod (4 : Int)) ((2 : Int) + (modU .u64 d).tmod ((3 : Int) + (modU .u64 n).tmod (4 : Int) - 2)))) = false → True ∧ True ∧ True ∧ inR .i64 ((2 : Int) + (modU .u64 d).tmod ((3 : Int) + (modU .u64 n).tmod (4 : Int) - 2) + 1) ∧ True ∧ True ∧ True ∧ (¬(↑(hsL (momL ((3 : Int) + (modU .u64 n).tmod (4 : Int)) ((2 : Int) + (modU .u64 d).tmod ((3 : Int) + (modU .u64 n).tmod (4 : Int) - 2)))).length : Int) = 2 + (modU .u64 d).tmod ((3 : Int) + (modU .u64 n).tmod (4 : Int) - 2) + 1 → True ∧ True ∧ True ∧ True ∧ True ∧ (false = true ∧ True) ∧ True) ∧ (¬¬(↑(hsL (momL ((3 : Int) + (modU .u64 n).tmod (4 : Int)) ((2 : Int) + (modU .u64 d).tmod ((3 : Int) + (modU .u64 n).tmod (4 : Int) - 2)))).length : Int) = 2 + (modU .u64 d).tmod ((3 : Int) + (modU .u64 n).tmod (4 : Int) - 2) + 1 → True ∧ True ∧ ((ok10 (momL ((3 : Int) + (modU .u64 n).tmod (4 : Int)) ((2 : Int) + (modU .u64 d).tmod ((3 : Int) + (modU .u64 n).tmod (4 : Int) - 2))) ∧ (shL (momL ((3 : Int) + (modU .u64 n).tmod (4 : Int)) ((2 : Int) + (modU .u64 d).tmod ((3 : Int) + (modU .u64 n).tmod (4 : Int) - 2)))).length < 1000000000000000) ∧ True) ∧ True ∧ True ∧ True ∧ ((!sgR (momL ((3 : Int) + (modU .u64 n).tmod (4 : Int)) ((2 : Int) + (modU .u64 d).tmod ((3 : Int) + (modU .u64 n).tmod (4 : Int) - 2))) (shL (momL ((3 : Int) + (modU .u64 n).tmod (4 : Int)) ((2 : Int) + (modU .u64 d).tmod ((3 : Int) + (modU .u64 n).tmod (4 : Int) - 2))))) = true → True ∧ True ∧ True ∧ (false = true ∧ True) ∧ True) ∧ ((!sgR (momL ((3 : Int) + (modU .u64 n).tmod (4 : Int)) ((2 : Int) + (modU .u64 d).tmod ((3 : Int) + (modU .u64 n).tmod (4 : Int) - 2))) (shL (momL ((3 : Int) + (modU .u64 n).tmod (4 : Int)) ((2 : Int) + (modU .u64 d).tmod ((3 : Int) + (modU .u64 n).tmod (4 : Int) - 2))))) = false → True ∧ True ∧ True ∧ True ∧ ((64 : Int) < (↑(fcs (momL ((3 : Int) + (modU .u64 n).tmod (4 : Int)) ((2 : Int) + (modU .u64 d).tmod ((3 : Int) + (modU .u64 n).tmod (4 : Int) - 2)))).length : Int) → True ∧ True ∧ (false = true ∧ True) ∧ True) ∧ (¬(64 : Int) < (↑(fcs (momL ((3 : Int) + (modU .u64 n).tmod (4 : Int)) ((2 : Int) + (modU .u64 d).tmod ((3 : Int) + (modU .u64 n).tmod (4 : Int) - 2)))).length : Int) → True ∧ LoopOK X5 L5_0 (ha5 ((2 : Int) + (modU .u64 d).tmod ((3 : Int) + (modU .u64 n).tmod (4 : Int) - 2)) (momL ((3 : Int) + (modU .u64 n).tmod (4 : Int)) ((2 : Int) + (modU .u64 d).tmod ((3 : Int) + (modU .u64 n).tmod (4 : Int) - 2))) (hsL (momL ((3 : Int) + (modU .u64 n).tmod (4 : Int)) ((2 : Int) + (modU .u64 d).tmod ((3 : Int) + (modU .u64 n).tmod (4 : Int) - 2)))) (fcs (momL ((3 : Int) + (modU .u64 n).tmod (4 : Int)) ((2 : Int) + (modU .u64 d).tmod ((3 : Int) + (modU .u64 n).tmod (4 : Int) - 2))))) R5 ∧ (∃ (y : Nat), (y : Int) ≤ 2 + (modU .u64 d).tmod ((3 : Int) + (modU .u64 n).tmod (4 : Int) - 2) + 1 ∧ ((2 : Int) + (modU .u64 d).tmod ((3 : Int) + (modU .u64 n).tmod (4 : Int) - 2) = 2 + (modU .u64 d).tmod ((3 : Int) + (modU .u64 n).tmod (4 : Int) - 2) ∧ momL ((3 : Int) + (modU .u64 n).tmod (4 : Int)) ((2 : Int) + (modU .u64 d).tmod ((3 : Int) + (modU .u64 n).tmod (4 : Int) - 2)) = momL ((3 : Int) + (modU .u64 n).tmod (4 : Int)) ((2 : Int) + (modU .u64 d).tmod ((3 : Int) + (modU .u64 n).tmod (4 : Int) - 2)) ∧ hsL (momL ((3 : Int) + (modU .u64 n).tmod (4 : Int)) ((2 : Int) + (modU .u64 d).tmod ((3 : Int) + (modU .u64 n).tmod (4 : Int) - 2))) = hsL (momL ((3 : Int) + (modU .u64 n).tmod (4 : Int)) ((2 : Int) + (modU .u64 d).tmod ((3 : Int) + (modU .u64 n).tmod (4 : Int) - 2))) ∧ fcs (momL ((3 : Int) + (modU .u64 n).tmod (4 : Int)) ((2 : Int) + (modU .u64 d).tmod ((3 : Int) + (modU .u64 n).tmod (4 : Int) - 2))) = fcs (momL ((3 : Int) + (modU .u64 n).tmod (4 : Int)) ((2 : Int) + (modU .u64 d).tmod ((3 : Int) + (modU .u64 n).tmod (4 : Int) - 2))) ∧ (0 : Int) = (y : Int) ∧ True) ∧ True) ∧ (∀ (y : Unit), True → True ∧ LoopOK X5 L5_2 (hb5 ((2 : Int) + (modU .u64 d).tmod ((3 : Int) + (modU .u64 n).tmod (4 : Int) - 2)) (momL ((3 : Int) + (modU .u64 n).tmod (4 : Int)) ((2 : Int) + (modU .u64 d).tmod ((3 : Int) + (modU .u64 n).tmod (4 : Int) - 2))) (fcs (momL ((3 : Int) + (modU .u64 n).tmod (4 : Int)) ((2 : Int) + (modU .u64 d).tmod ((3 : Int) + (modU .u64 n).tmod (4 : Int) - 2))))) R5 ∧ (∃ (y : Nat), y ≤ (fcs (momL ((3 : Int) + (modU .u64 n).tmod (4 : Int)) ((2 : Int) + (modU .u64 d).tmod ((3 : Int) + (modU .u64 n).tmod (4 : Int) - 2)))).length ∧ ((2 : Int) + (modU .u64 d).tmod ((3 : Int) + (modU .u64 n).tmod (4 : Int) - 2) = 2 + (modU .u64 d).tmod ((3 : Int) + (modU .u64 n).tmod (4 : Int) - 2) ∧ momL ((3 : Int) + (modU .u64 n).tmod (4 : Int)) ((2 : Int) + (modU .u64 d).tmod ((3 : Int) + (modU .u64 n).tmod (4 : Int) - 2)) = momL ((3 : Int) + (modU .u64 n).tmod (4 : Int)) ((2 : Int) + (modU .u64 d).tmod ((3 : Int) + (modU .u64 n).tmod (4 : Int) - 2)) ∧ fcs (momL ((3 : Int) + (modU .u64 n).tmod (4 : Int)) ((2 : Int) + (modU .u64 d).tmod ((3 : Int) + (modU .u64 n).tmod (4 : Int) - 2))) = fcs (momL ((3 : Int) + (modU .u64 n).tmod (4 : Int)) ((2 : Int) + (modU .u64 d).tmod ((3 : Int) + (modU .u64 n).tmod (4 : Int) - 2))) ∧ (0 : Int) = (y : Int) ∧ True) ∧ True) ∧ (∀ (y : Unit), True → (True ∧ True) ∧ True ∧ True ∧ (true = true ∧ True) ∧ True) ∧ True) ∧ True)))))))))))) (by kernel_rfl) ?_
 simp only [zz]
 generalize hN : 3 + (modU .u64 n).tmod 4 = N at *
 generalize hD : 2 + (modU .u64 d).tmod (N - 2) = D at *
 have hL := hL ⟨by have := hf.m; have := this.1; omega, by have := hf.m.2; omega⟩ hf.hl hf.hs
 have hM := hM hp hf.len.2 (fcs_ok _) (fcs_len _) ⟨hf.m.1, by have := hf.m.2; omega⟩ hf.two
 obtain ⟨m1, m2, m3⟩ := hf.m
 have hl := hf.len
 have hc := hf.cx
 have hsl := hf.sl
 have hfl := fcs_len (momL N D)
 refine ⟨by decide, by simp only [inR]; omega, by simp only [inR]; omega, by simp only [inR]; omega, by simp only [inR]; omega, by omega, by simp only [inR]; omega, by simp only [inR]; omega, ⟨m1, m2, m3⟩, fun h => absurd trivial h, fun _ => ⟨fun h => by omega, fun _ => ⟨fun h => by omega, fun _ => ⟨by omega, fun h => absurd ?_ h, fun _ => ?_⟩⟩⟩⟩
 · unfold chkE; rw [if_pos hc]
 refine ⟨hc, hc, hc, fun h => absurd trivial h, fun _ => ⟨fun h => absurd trivial h, fun _ => ⟨fun h => absurd trivial h, fun _ => ⟨fun h => ?_, fun _ => ⟨by simp only [inR]; omega, fun h => absurd hf.hl h, fun _ => ⟨⟨⟨hp, hl.2⟩, by omega⟩, fun h => ?_, fun _ => ⟨fun h => by omega, fun _ => ⟨hL, ⟨0, by omega, rfl⟩, fun _ _ => ⟨hM, ⟨0, Nat.zero_le _, rfl⟩, fun _ h => h⟩⟩⟩⟩⟩⟩⟩⟩⟩
 · rw [hf.sh] at h; cases h
 · rw [hf.sg] at h; cases h
end Go.Am.Sh

/- Shells: from the laws' contracts to the given statements: what all laws share. -/
namespace Go.Proofs.Ytfpoonbcnabihaa
open Go Go.ChangeShapes Go.WideShapes Go.ChangeAt Go.RowKit Go.Am Go.Am.Sh
theorem own : ownKnob Try.prog.godebug = none := by kernel_rfl
theorem laidOut : laidOutB Try.prog = true := by kernel_rfl
theorem u3 : Try.prog.underlying 3 = some (.int .i64) := by kernel_rfl
theorem u4 : Try.prog.underlying 4 = some .bool := by kernel_rfl
theorem tyOk3 : TyOk Try.prog 3 I64 := u3
theorem reach_le {l : List Nat} (h : l.all (fun x => decide (x ≤ reachBytes)) = true) : ∀ n ∈ l, n ≤ 140737488355328 := fun n hn => by
 have := of_decide_eq_true (List.all_eq_true.mp h n hn)
 have e : reachBytes = 140737488351232 := rfl
 omega
theorem glob_of {W : World} : GlobOk gl (fun b => b < W.heap.size) W := fun g p hp => by cases hp
end Go.Proofs.Ytfpoonbcnabihaa
