/- Part B4 of the proof that the law named in the last file returns true at every input and leaves its arguments as they were; no condition of its own. -/
import Derived.Test.YtfpoonbcnabihaaB3
import Derived.Test.YtfpoonbcnabihaaA2
import Derived.Test.YtfpoonbcnabihaaRows
import Derived.WalkKit
import Derived.ProofKit
import Derived.OpenShut
import Derived.SizedLaws
import Derived.ChangeOld
import Derived.Below
import Derived.Stop.Joined
set_option linter.unusedSimpArgs false
set_option linter.unusedVariables false
/- Shells: a shelling is searched. -/
namespace Go.Am.Sh
open Go Go.Am Go.Proofs
noncomputable def Xb (l : EL) (m0 : Nat) (bs : List Nat) (dr : Nat → Option Nat) : Cy := { mkX Try.prog tt gl l m0 dr with bs := bs }
theorem Xb_ok (l : EL) (m0 : Nat) (bs : List Nat) (dr : Nat → Option Nat) : (Xb l m0 bs dr).Ok := (mkX_ok tt_ok l m0 dr).bump bs
abbrev Mm := List (Int × Bool)
abbrev Res := Bool × List Int × Mm
def mg (m : Mm) (d : Int) : Bool := (mGet I64 m d).getD false
def mp (m : Mm) (d : Int) : Mm := mPut I64 m d true
/-- The first rounds, until one comes to an end. -/
def lpK (p : List Int) (f : Nat → List Int → Mm → Res) (D : Nat) (l : List Int) (m : Mm) : Nat → Res
 | 0 => (false, l, m)
 | k + 1 => if (lpK p f D l m k).1 = true then lpK p f D l m k else if D / 2 ^ k % 2 = 1 ∨ flw p D k = false then lpK p f D l m k else
     if (f (D ||| 2 ^ k) (l ++ [(k : Int)]) (lpK p f D l m k).2.2).1 = true then f (D ||| 2 ^ k) (l ++ [(k : Int)]) (lpK p f D l m k).2.2
     else (false, l, (f (D ||| 2 ^ k) (l ++ [(k : Int)]) (lpK p f D l m k).2.2).2.2)
/-- The search; as many levels as pieces are left. -/
def gr (p : List Int) : Nat → Nat → List Int → Mm → Res
 | 0, _, l, m => (true, l, m)
 | n + 1, D, l, m => if mg m D = true then (false, l, m) else if (lpK p (gr p n) D l m p.length).1 = true then lpK p (gr p n) D l m p.length else (false, l, mp (lpK p (gr p n) D l m p.length).2.2 D)
theorem gr_list {p : List Int} {n D : Nat} {l : List Int} {m : Mm} (h : (gr p n D l m).1 = false) : (gr p n D l m).2.1 = l := by
 cases n with
 | zero => cases h
 | succ n =>
   rw [gr] at h ⊢
   split
   · rfl
   · rename_i h1; rw [if_neg h1] at h
     split
     · rename_i h2; rw [if_pos h2, h2] at h; cases h
     · rfl
theorem lpK_stop {p : List Int} {f : Nat → List Int → Mm → Res} {D : Nat} {l : List Int} {m : Mm} {k : Nat} (h : (lpK p f D l m k).1 = true) : ∀ j, lpK p f D l m (k + j) = lpK p f D l m k
 | 0 => rfl
 | j + 1 => by rw [show k + (j + 1) = k + j + 1 by omega, lpK, lpK_stop h j, if_pos h]
def clo55 (a b c d : Nat) : AV := .clo 55 [] [.ptr a 0 [], .ptr b 0 [], .ptr c 0 [], .ptr d 0 []]
def mmO (m : Mm) : Ob := .mo I64 .bool m
def gS (v : Nat) (n : Int) (p l : List Int) (m : Mm) : List Ob := [.bx (.own 1 v), .sc v 3 I64 l, .bx (.ptr 3 0 []), cxO n p, .bx (.mp 5), mmO m, .bx (clo55 0 2 4 6)]
def aS (D : Int) : List AV := [.int .i64 D, .ptr 0 0 [], .ptr 2 0 [], .ptr 4 0 [], .ptr 6 0 []]
structure pre55 (n : Int) (p : List Int) (lv D : Nat) (l : List Int) : Prop where
 h : cxOk n p
 D : D < 2 ^ p.length
 l : l.length + lv = p.length
def GS (lv : Nat) : Prop := ∀ (n : Int) (p : List Int) (D : Nat) (l : List Int) (m : Mm), pre55 n p lv D l → GCall Try.prog gl 55 false (aS D) (gS 0 n p l m) [.bool (gr p lv D l m).1] (gS 1 n p (gr p lv D l m).2.1 (gr p lv D l m).2.2)
def unMm : Ob → Option Mm
 | .mo k v m => (if h : k = I64 ∧ v = .bool then some (by obtain ⟨rfl, rfl⟩ := h; exact m) else none)
 | _ => none
def unSc : Ob → Option (List Int)
 | .sc _ _ e xs => castL e I64 xs
 | _ => none
abbrev G5 := Int × Cx3 × List Int × Mm
def get55 (xs : List AV) (obs : List Ob) : Option G5 :=
 match xs with
 | .int .i64 d :: _ => (match unSc (obs.getD 1 .gone), unCx (obs.getD 3 .gone), unMm (obs.getD 5 .gone) with
   | some l, some x, some m => some (d, x, l, m)
   | _, _, _ => none)
 | _ => none
def gSq (v : Nat) (x : Cx3) (l : List Int) (m : Mm) : List Ob := [.bx (.own 1 v), .sc v 3 I64 l, .bx (.ptr 3 0 []), cxQ x, .bx (.mp 5), mmO m, .bx (clo55 0 2 4 6)]
structure ok55 (lv : Nat) (x : G5) : Prop where
 h : okC x.2.1
 d : 0 ≤ x.1
 p : pre55 x.2.1.1 x.2.1.2.1 lv x.1.toNat x.2.2.1
def e55S (lv : Nat) (h : GS lv) : Entry Try.prog gl := entryW 55 ⟨Try.f55, by kernel_rfl, by kernel_rfl, by kernel_rfl⟩ true get55 (ok55 lv) false (fun x => aS x.1) (fun x => gSq 0 x.2.1 x.2.2.1 x.2.2.2) (fun x => [.bool (gr x.2.1.2.1 lv x.1.toNat x.2.2.1 x.2.2.2).1])
 (fun x => gSq 1 x.2.1 (gr x.2.1.2.1 lv x.1.toNat x.2.2.1 x.2.2.2).2.1 (gr x.2.1.2.1 lv x.1.toNat x.2.2.1 x.2.2.2).2.2) (fun x hx => by
   have := h _ _ _ _ x.2.2.2 hx.p
   rw [Int.toNat_of_nonneg hx.d] at this
   have e : ∀ v l m, gSq v x.2.1 l m = gS v x.2.1.1 x.2.1.2.1 l m := fun v l m => by unfold gSq gS; rw [cxQ_ok hx.h]
   rw [e, e]; exact this)
noncomputable abbrev X55 (es : EL) : Cy := Xb es 7 [1] (fun _ => none)
theorem gS0 : GS 0 := by
 intro n p D l m hp
 refine gcall_of (X := (X55 [e56])) ((Xb_ok _ _ _ _)) (f := 55) (fn := Try.f55) (c := bodyOf Try.f55) (by kernel_rfl) (by kernel_rfl) (view := false) (rvs := [.tmp 6]) (by kernel_rfl) (H := fun _ => none) 80 (by kernel_rfl) ?_
 refine of_eq (q := True ∧ True ∧ True ∧ True ∧ True ∧ True ∧ True ∧ True ∧ True ∧ ((l.length : Int) = (p.length : Int) → True ∧ True ∧ (true = true ∧ True) ∧ True ∧ l = (gr p (0 : Nat) D l m).snd.fst ∧ True ∧ (n = n ∧ p = p ∧ mk (isF p) = mk (isF p) ∧ True) ∧ True ∧ m = (gr p (0 : Nat) D l m).snd.snd ∧ (True ∧ True ∧ True ∧ True ∧ True ∧ True) ∧ True) ∧ (¬(l.length : Int) = (p.length : Int) → True ∧ True ∧ True ∧ ((mGet I64 m (D : Int)).getD false = true → True ∧ True ∧ (false = true ∧ True) ∧ True ∧ l = (gr p (0 : Nat) D l m).snd.fst ∧ True ∧ (n = n ∧ p = p ∧ mk (isF p) = mk (isF p) ∧ True) ∧ True ∧ m = (gr p (0 : Nat) D l m).snd.snd ∧ (True ∧ True ∧ True ∧ True ∧ True ∧ True) ∧ True) ∧ ((mGet I64 m (D : Int)).getD false = false → True ∧ True ∧ True ∧ True ∧ True ∧ True ∧ False))) (by kernel_rfl) ?_
 simp only [zz]
 have h1 := hp.l
 exact ⟨fun _ => ⟨rfl, rfl⟩, fun h => absurd (by omega) h⟩
noncomputable def L55_0 : Code := lp (bodyOf Try.f55) 0
theorem or_pow10 {D k : Nat} (hD : D < 1024) (hk : k < 10) : bOr .i64 (D : Int) (1 * 2 ^ k) = ((D ||| 2 ^ k : Nat) : Int) ∧ D ||| 2 ^ k < 1024 ∧ (1 : Int) * 2 ^ k ≤ 512 ∧ (0 : Int) ≤ 1 * 2 ^ k := by
 have h2 : 2 ^ k ≤ 2 ^ 9 := Nat.pow_le_pow_right (by decide) (by omega)
 have e : (2 ^ k : Int) = ((2 ^ k : Nat) : Int) := by rw [Int.natCast_pow]; try rfl
 have h3 : D ||| 2 ^ k < 2 ^ 10 := Nat.or_lt_two_pow hD (by omega)
 have hb : bOr .i64 (D : Int) ((2 ^ k : Nat) : Int) = ((D ||| 2 ^ k : Nat) : Int) := bOr_nat (by omega) (by omega)
 rw [Int.one_mul, e]
 refine ⟨hb, by omega, ?_, Int.natCast_nonneg _⟩
 generalize 2 ^ k = P at *
 omega
theorem lpK_go {p : List Int} {f : Nat → List Int → Mm → Res} {D : Nat} {l : List Int} {m : Mm} {k : Nat} (h : (lpK p f D l m k).1 = false) : lpK p f D l m (k + 1) = if D / 2 ^ k % 2 = 1 ∨ flw p D k = false then lpK p f D l m k else
     if (f (D ||| 2 ^ k) (l ++ [(k : Int)]) (lpK p f D l m k).2.2).1 = true then f (D ||| 2 ^ k) (l ++ [(k : Int)]) (lpK p f D l m k).2.2
     else (false, l, (f (D ||| 2 ^ k) (l ++ [(k : Int)]) (lpK p f D l m k).2.2).2.2) := by rw [lpK, if_neg (by simp [h])]
theorem pre_D {n : Int} {p : List Int} {lv D : Nat} {l : List Int} (h : pre55 n p lv D l) : D < 1024 := by
 have := Nat.pow_le_pow_right (show 0 < 2 by decide) h.h.2.1.2
 have := h.D
 omega
def stS (v : Nat) (n : Int) (p : List Int) (f : Nat → List Int → Mm → Res) (D : Nat) (l : List Int) (m : Mm) (k : Nat) : St := ⟨aS D ++ dd 18 ++ .int .i64 p.length :: .int .i64 k :: dd 34, gS v n p l (lpK p f D l m k).2.2⟩
def inS (p : List Int) (f : Nat → List Int → Mm → Res) (D : Nat) (l : List Int) (m : Mm) (k : Nat) : Prop := k ≤ p.length ∧ (lpK p f D l m k).1 = false
def fmS (n : Int) (p : List Int) (f : Nat → List Int → Mm → Res) (D : Nat) (l : List Int) (m : Mm) : List Fam := [⟨Nat, inS p f D l m, stS 0 n p f D l m, fun k => p.length - k, fun _ _ => none⟩, ⟨Nat, inS p f D l m, stS 1 n p f D l m, fun k => p.length - k, fun _ _ => none⟩]
def exS (n : Int) (p : List Int) (f : Nat → List Int → Mm → Res) (D : Nat) (l : List Int) (m : Mm) : List (List Nat × Ex) := [([0, 1, 2, 3, 4], ⟨0, Unit, fun _ => (lpK p f D l m p.length).1 = false, fun _ => ⟨aS D ++ dd 54, gS 0 n p l (lpK p f D l m p.length).2.2⟩⟩), ([0, 1, 2, 3, 4], ⟨0, Unit, fun _ => (lpK p f D l m p.length).1 = false, fun _ => ⟨aS D ++ dd 54, gS 1 n p l (lpK p f D l m p.length).2.2⟩⟩)]
def hS (n : Int) (p : List Int) (f : Nat → List Int → Mm → Res) (D : Nat) (l : List Int) (m : Mm) : Hint := ⟨chks 7 [0, 1, 2, 3, 4, 23, 24] (fmS n p f D l m), (exS n p f D l m).map (·.2)⟩
noncomputable def HS (n : Int) (p : List Int) (f : Nat → List Int → Mm → Res) (D : Nat) (l : List Int) (m : Mm) : Nat → Option Hint := fun _ => some (hS n p f D l m)
theorem loopS (lv : Nat) (h' : GS lv) (n : Int) (p : List Int) (D : Nat) (l : List Int) (m : Mm) (hp : pre55 n p (lv + 1) D l) (hm : ¬ mg m D = true) : LoopOK (X55 [e56, e55S lv h']) L55_0 (hS n p (gr p lv) D l m)
   (RetR (X55 [e56, e55S lv h']) false false [.tmp 6] [.bool (gr p (lv + 1) D l m).1] (gS 1 n p (gr p (lv + 1) D l m).2.1 (gr p (lv + 1) D l m).2.2)) := by
 refine loop_fams (Xb_ok _ _ _ _) [0, 1, 2, 3, 4, 23, 24] (fmS n p (gr p lv) D l m) (exS n p (gr p lv) D l m) 150 ⟨fun (k : Nat) hk => ?_, fun (k : Nat) hk => ?_, trivial⟩
 · refine of_eq (q := True ∧ ((k : Int) < (p.length : Int) → True ∧ True ∧ True ∧ True ∧ inR .u64 (k : Int) ∧ ((0 : Int) ≤ (k : Int) ∧ (k : Int) < bitsOf .i64) ∧ True ∧ True ∧ True ∧ (bAnd .i64 ((D : Int) / (2 : Int) ^ k) (1 : Int) = 1 → True ∧ inR .i64 ((k : Int) + 1) ∧ True ∧ ((∃ (y : Nat), (inS p (gr p lv) D l m y ∧ p.length - y < p.length - k) ∧ ((D : Int) = (D : Int) ∧ True ∧ True ∧ True ∧ True ∧ (p.length : Int) = (p.length : Int) ∧ (k : Int) + 1 = (y : Int) ∧ True) ∧ True ∧ l = l ∧ True ∧ (n = n ∧ p = p ∧ mk (isF p) = mk (isF p) ∧ True) ∧ True ∧ (lpK p (gr p lv) D l m k).snd.snd = (lpK p (gr p lv) D l m y).snd.snd ∧ (True ∧ True ∧ True ∧ True ∧ True ∧ True) ∧ True) ∨ ∃ (y : Nat), (inS p (gr p lv) D l m y ∧ p.length - y < p.length - k) ∧ ((D : Int) = (D : Int) ∧ True ∧ True ∧ True ∧ True ∧ (p.length : Int) = (p.length : Int) ∧ (k : Int) + 1 = (y : Int) ∧ True) ∧ False ∧ False ∧ True ∧ (n = n ∧ p = p ∧ mk (isF p) = mk (isF p) ∧ True) ∧ True ∧ (lpK p (gr p lv) D l m k).snd.snd = (lpK p (gr p lv) D l m y).snd.snd ∧ (True ∧ True ∧ True ∧ True ∧ True ∧ True) ∧ True)) ∧ (¬bAnd .i64 ((D : Int) / (2 : Int) ^ k) (1 : Int) = 1 → True ∧ True ∧ True ∧ ((ok56 ((D : Int), (k : Int), n, p, mk (isF p)) ∧ (True ∧ (D : Int) = (D : Int) ∧ (k : Int) = (k : Int) ∧ True) ∧ (n = n ∧ p = p ∧ mk (isF p) = mk (isF p) ∧ True) ∧ True) ∧ True ∧ True) ∧ True ∧ True ∧ ((!flw p D k) = true → inR .i64 ((k : Int) + 1) ∧ True ∧ ((∃ (y : Nat), (inS p (gr p lv) D l m y ∧ p.length - y < p.length - k) ∧ ((D : Int) = (D : Int) ∧ True ∧ True ∧ True ∧ True ∧ (p.length : Int) = (p.length : Int) ∧ (k : Int) + 1 = (y : Int) ∧ True) ∧ True ∧ l = l ∧ True ∧ (n = n ∧ p = p ∧ mk (isF p) = mk (isF p) ∧ True) ∧ True ∧ (lpK p (gr p lv) D l m k).snd.snd = (lpK p (gr p lv) D l m y).snd.snd ∧ (True ∧ True ∧ True ∧ True ∧ True ∧ True) ∧ True) ∨ ∃ (y : Nat), (inS p (gr p lv) D l m y ∧ p.length - y < p.length - k) ∧ ((D : Int) = (D : Int) ∧ True ∧ True ∧ True ∧ True ∧ (p.length : Int) = (p.length : Int) ∧ (k : Int) + 1 = (y : Int) ∧ True) ∧ False ∧ False ∧ True ∧ (n = n ∧ p = p ∧ mk (isF p) = mk (isF p) ∧ True) ∧ True ∧ (lpK p (gr p lv) D l m k).snd.snd = (lpK p (gr p lv) D l m y).snd.snd ∧ (True ∧ True ∧ True ∧ True ∧ True ∧ True) ∧ True)) ∧ ((!flw p D k) = false → True ∧ True ∧ True ∧ sumPre l.length [(k : Int)].length (nat_lit 8) ∧ True ∧ True ∧ True ∧ True ∧ inR .u64 (k : Int) ∧ (((0 : Int) ≤ (k : Int) ∧ (k : Int) < bitsOf .i64) ∧ (-9223372036854775808 : Int) ≤ 1 * 2 ^ k ∧ (1 : Int) * 2 ^ k ≤ 9223372036854775807) ∧ True ∧ ((ok55 lv (bOr .i64 (D : Int) ((1 : Int) * 2 ^ k), (n, p, mk (isF p)), l ++ [(k : Int)], (lpK p (gr p lv) D l m k).snd.snd) ∧ (bOr .i64 (D : Int) ((1 : Int) * 2 ^ k) = bOr .i64 (D : Int) ((1 : Int) * 2 ^ k) ∧ True ∧ True ∧ True ∧ True ∧ True) ∧ True ∧ l ++ [(k : Int)] = l ++ [(k : Int)] ∧ True ∧ (n = n ∧ p = p ∧ mk (isF p) = mk (isF p) ∧ True) ∧ True ∧ (lpK p (gr p lv) D l m k).snd.snd = (lpK p (gr p lv) D l m k).snd.snd ∧ (True ∧ True ∧ True ∧ True ∧ True ∧ True) ∧ True) ∧ True ∧ True ∧ True ∧ True ∧ True ∧ True ∧ True ∧ True) ∧ ((gr p lv (bOr .i64 (D : Int) ((1 : Int) * 2 ^ k)).toNat (l ++ [(k : Int)]) (lpK p (gr p lv) D l m k).snd.snd).fst = true → True ∧ True ∧ (true = (gr p (lv + 1) D l m).fst ∧ True) ∧ True ∧ (gr p lv (bOr .i64 (D : Int) ((1 : Int) * 2 ^ k)).toNat (l ++ [(k : Int)]) (lpK p (gr p lv) D l m k).snd.snd).snd.fst = (gr p (lv + 1) D l m).snd.fst ∧ True ∧ (n = n ∧ p = p ∧ mk (isF p) = mk (isF p) ∧ True) ∧ True ∧ (gr p lv (bOr .i64 (D : Int) ((1 : Int) * 2 ^ k)).toNat (l ++ [(k : Int)]) (lpK p (gr p lv) D l m k).snd.snd).snd.snd = (gr p (lv + 1) D l m).snd.snd ∧ (True ∧ True ∧ True ∧ True ∧ True ∧ True) ∧ True) ∧ ((gr p lv (bOr .i64 (D : Int) ((1 : Int) * 2 ^ k)).toNat (l ++ [(k : Int)]) (lpK p (gr p lv) D l m k).snd.snd).fst = false → True ∧ True ∧ True ∧ inR .i64 ((↑(gr p lv (bOr .i64 (D : Int) ((1 : Int) * 2 ^ k)).toNat (l ++ [(k : Int)]) (lpK p (gr p lv) D l m k).snd.snd).snd.fst.length : Int) - 1) ∧ ((0 : Int) ≤ (↑(gr p lv (bOr .i64 (D : Int) ((1 : Int) * 2 ^ k)).toNat (l ++ [(k : Int)]) (lpK p (gr p lv) D l m k).snd.snd).snd.fst.length : Int) - 1 ∧ (↑(gr p lv (bOr .i64 (D : Int) ((1 : Int) * 2 ^ k)).toNat (l ++ [(k : Int)]) (lpK p (gr p lv) D l m k).snd.snd).snd.fst.length : Int) - 1 ≤ (↑(gr p lv (bOr .i64 (D : Int) ((1 : Int) * 2 ^ k)).toNat (l ++ [(k : Int)]) (lpK p (gr p lv) D l m k).snd.snd).snd.fst.length : Int)) ∧ True ∧ inR .i64 ((k : Int) + 1) ∧ True ∧ ((∃ (y : Nat), (inS p (gr p lv) D l m y ∧ p.length - y < p.length - k) ∧ ((D : Int) = (D : Int) ∧ True ∧ True ∧ True ∧ True ∧ (p.length : Int) = (p.length : Int) ∧ (k : Int) + 1 = (y : Int) ∧ True) ∧ False ∧ False ∧ True ∧ (n = n ∧ p = p ∧ mk (isF p) = mk (isF p) ∧ True) ∧ True ∧ (gr p lv (bOr .i64 (D : Int) ((1 : Int) * 2 ^ k)).toNat (l ++ [(k : Int)]) (lpK p (gr p lv) D l m k).snd.snd).snd.snd = (lpK p (gr p lv) D l m y).snd.snd ∧ (True ∧ True ∧ True ∧ True ∧ True ∧ True) ∧ True) ∨ ∃ (y : Nat), (inS p (gr p lv) D l m y ∧ p.length - y < p.length - k) ∧ ((D : Int) = (D : Int) ∧ True ∧ True ∧ True ∧ True ∧ (p.length : Int) = (p.length : Int) ∧ (k : Int) + 1 = (y : Int) ∧ True) ∧ True ∧ List.take ((↑(gr p lv (bOr .i64 (D : Int) ((1 : Int) * 2 ^ k)).toNat (l ++ [(k : Int)]) (lpK p (gr p lv) D l m k).snd.snd).snd.fst.length : Int) - 1).toNat (gr p lv (bOr .i64 (D : Int) ((1 : Int) * 2 ^ k)).toNat (l ++ [(k : Int)]) (lpK p (gr p lv) D l m k).snd.snd).snd.fst = l ∧ True ∧ (n = n ∧ p = p ∧ mk (isF p) = mk (isF p) ∧ True) ∧ True ∧ (gr p lv (bOr .i64 (D : Int) ((1 : Int) * 2 ^ k)).toNat (l ++ [(k : Int)]) (lpK p (gr p lv) D l m k).snd.snd).snd.snd = (lpK p (gr p lv) D l m y).snd.snd ∧ (True ∧ True ∧ True ∧ True ∧ True ∧ True) ∧ True))))) ∧ (¬(k : Int) < (p.length : Int) → (∃ (y : Unit), (lpK p (gr p lv) D l m p.length).fst = false ∧ ((D : Int) = (D : Int) ∧ True ∧ True ∧ True ∧ True ∧ True) ∧ True ∧ l = l ∧ True ∧ (n = n ∧ p = p ∧ mk (isF p) = mk (isF p) ∧ True) ∧ True ∧ (lpK p (gr p lv) D l m k).snd.snd = (lpK p (gr p lv) D l m p.length).snd.snd ∧ (True ∧ True ∧ True ∧ True ∧ True ∧ True) ∧ True) ∨ ∃ (y : Unit), (lpK p (gr p lv) D l m p.length).fst = false ∧ ((D : Int) = (D : Int) ∧ True ∧ True ∧ True ∧ True ∧ True) ∧ False ∧ False ∧ True ∧ (n = n ∧ p = p ∧ mk (isF p) = mk (isF p) ∧ True) ∧ True ∧ (lpK p (gr p lv) D l m k).snd.snd = (lpK p (gr p lv) D l m p.length).snd.snd ∧ (True ∧ True ∧ True ∧ True ∧ True ∧ True) ∧ True)) (by kernel_rfl) ?_
   simp only [zz]
   obtain ⟨k1, k2⟩ := hk
   have hl := hp.l
   have hc := hp.h.2.1
   have hD := pre_D hp
   refine ⟨fun h => ?_, fun h => by rw [show p.length = k by omega]; exact ⟨k2, rfl⟩⟩
   have hkp : k < p.length := by omega
   have hb := or_pow10 hD (k := k) (by omega)
   have hst := lpK_go k2
   rw [bit_shr hD, hb.1, Int.toNat_natCast]
   have hskip : (D / 2 ^ k % 2 = 1 ∨ flw p D k = false) → inR .i64 ((k : Int) + 1) ∧ ∃ y : Nat, (inS p (gr p lv) D l m y ∧ p.length - y < p.length - k) ∧ (k : Int) + 1 = (y : Int) ∧ (lpK p (gr p lv) D l m k).2.2 = (lpK p (gr p lv) D l m y).2.2 := fun hh => by
     rw [if_pos hh] at hst
     exact ⟨by simp only [inR]; omega, k + 1, ⟨⟨by omega, by rw [hst]; exact k2⟩, by omega⟩, by omega, by rw [hst]⟩
   refine ⟨by simp only [inR]; omega, ⟨by omega, by simp only [bitsOf]; omega⟩, fun hx => hskip (.inl (by omega)), fun hx => ⟨⟨⟨hp.h, rfl⟩, ⟨by simp only; omega, by simp only; omega⟩, ⟨by simp only; omega, by simp only; omega⟩⟩, fun hx2 => hskip (.inr (by simpa using hx2)), fun hx2 => ?_⟩⟩
   have hx2 : flw p D k = true := by simpa using hx2
   rw [if_neg (by simp [hx2]; omega)] at hst
   have hlt : D ||| 2 ^ k < 2 ^ p.length := Nat.or_lt_two_pow hp.D (Nat.pow_lt_pow_right (by decide) hkp)
   have hpre : pre55 n p lv (D ||| 2 ^ k) (l ++ [(k : Int)]) := ⟨hp.h, hlt, by simp; omega⟩
   refine ⟨by unfold sumPre; simp; omega, by simp only [inR]; omega, ⟨⟨by omega, by simp only [bitsOf]; omega⟩, by omega, by omega⟩, ⟨⟨hp.h, rfl⟩, by simp only; omega, hpre⟩, fun hr => ?_, fun hr => ?_⟩
   · have hr : (gr p lv (D ||| 2 ^ k) (l ++ [(k : Int)]) (lpK p (gr p lv) D l m k).2.2).1 = true := hr
     rw [if_pos hr] at hst
     have hs := lpK_stop (k := k + 1) (by rw [hst]; exact hr) (p.length - (k + 1))
     rw [show k + 1 + (p.length - (k + 1)) = p.length by omega, hst] at hs
     have e : gr p (lv + 1) D l m = gr p lv (D ||| 2 ^ k) (l ++ [(k : Int)]) (lpK p (gr p lv) D l m k).2.2 := by rw [gr, if_neg hm, hs, if_pos hr]
     rw [e]
     exact ⟨hr.symm, rfl, rfl⟩
   · have hr : (gr p lv (D ||| 2 ^ k) (l ++ [(k : Int)]) (lpK p (gr p lv) D l m k).2.2).1 = false := hr
     rw [if_neg (by simp [hr])] at hst
     have h2 := gr_list hr
     have q1 : inR .i64 (((gr p lv (D ||| 2 ^ k) (l ++ [(k : Int)]) (lpK p (gr p lv) D l m k).2.2).2.1.length : Int) - 1) := by rw [h2]; simp only [inR]; simp; omega
     have q2 : 0 ≤ ((gr p lv (D ||| 2 ^ k) (l ++ [(k : Int)]) (lpK p (gr p lv) D l m k).2.2).2.1.length : Int) - 1 ∧ ((gr p lv (D ||| 2 ^ k) (l ++ [(k : Int)]) (lpK p (gr p lv) D l m k).2.2).2.1.length : Int) - 1 ≤ ((gr p lv (D ||| 2 ^ k) (l ++ [(k : Int)]) (lpK p (gr p lv) D l m k).2.2).2.1.length : Int) := by rw [h2]; simp; omega
     have q3 : (gr p lv (D ||| 2 ^ k) (l ++ [(k : Int)]) (lpK p (gr p lv) D l m k).2.2).2.1.take (((gr p lv (D ||| 2 ^ k) (l ++ [(k : Int)]) (lpK p (gr p lv) D l m k).2.2).2.1.length : Int) - 1).toNat = l := by rw [h2]; simp
     have q4 : (gr p lv (D ||| 2 ^ k) (l ++ [(k : Int)]) (lpK p (gr p lv) D l m k).2.2).2.2 = (lpK p (gr p lv) D l m (k + 1)).2.2 := by rw [hst]
     exact ⟨q1, q2, by simp only [inR]; omega, k + 1, ⟨⟨by omega, by rw [hst]⟩, by omega⟩, by omega, q3, q4⟩
 · refine of_eq (q := True ∧ ((k : Int) < (p.length : Int) → True ∧ True ∧ True ∧ True ∧ inR .u64 (k : Int) ∧ ((0 : Int) ≤ (k : Int) ∧ (k : Int) < bitsOf .i64) ∧ True ∧ True ∧ True ∧ (bAnd .i64 ((D : Int) / (2 : Int) ^ k) (1 : Int) = 1 → True ∧ inR .i64 ((k : Int) + 1) ∧ True ∧ ((∃ (y : Nat), (inS p (gr p lv) D l m y ∧ p.length - y < p.length - k) ∧ ((D : Int) = (D : Int) ∧ True ∧ True ∧ True ∧ True ∧ (p.length : Int) = (p.length : Int) ∧ (k : Int) + 1 = (y : Int) ∧ True) ∧ False ∧ False ∧ True ∧ (n = n ∧ p = p ∧ mk (isF p) = mk (isF p) ∧ True) ∧ True ∧ (lpK p (gr p lv) D l m k).snd.snd = (lpK p (gr p lv) D l m y).snd.snd ∧ (True ∧ True ∧ True ∧ True ∧ True ∧ True) ∧ True) ∨ ∃ (y : Nat), (inS p (gr p lv) D l m y ∧ p.length - y < p.length - k) ∧ ((D : Int) = (D : Int) ∧ True ∧ True ∧ True ∧ True ∧ (p.length : Int) = (p.length : Int) ∧ (k : Int) + 1 = (y : Int) ∧ True) ∧ True ∧ l = l ∧ True ∧ (n = n ∧ p = p ∧ mk (isF p) = mk (isF p) ∧ True) ∧ True ∧ (lpK p (gr p lv) D l m k).snd.snd = (lpK p (gr p lv) D l m y).snd.snd ∧ (True ∧ True ∧ True ∧ True ∧ True ∧ True) ∧ True)) ∧ (¬bAnd .i64 ((D : Int) / (2 : Int) ^ k) (1 : Int) = 1 → True ∧ True ∧ True ∧ ((ok56 ((D : Int), (k : Int), n, p, mk (isF p)) ∧ (True ∧ (D : Int) = (D : Int) ∧ (k : Int) = (k : Int) ∧ True) ∧ (n = n ∧ p = p ∧ mk (isF p) = mk (isF p) ∧ True) ∧ True) ∧ True ∧ True) ∧ True ∧ True ∧ ((!flw p D k) = true → inR .i64 ((k : Int) + 1) ∧ True ∧ ((∃ (y : Nat), (inS p (gr p lv) D l m y ∧ p.length - y < p.length - k) ∧ ((D : Int) = (D : Int) ∧ True ∧ True ∧ True ∧ True ∧ (p.length : Int) = (p.length : Int) ∧ (k : Int) + 1 = (y : Int) ∧ True) ∧ False ∧ False ∧ True ∧ (n = n ∧ p = p ∧ mk (isF p) = mk (isF p) ∧ True) ∧ True ∧ (lpK p (gr p lv) D l m k).snd.snd = (lpK p (gr p lv) D l m y).snd.snd ∧ (True ∧ True ∧ True ∧ True ∧ True ∧ True) ∧ True) ∨ ∃ (y : Nat), (inS p (gr p lv) D l m y ∧ p.length - y < p.length - k) ∧ ((D : Int) = (D : Int) ∧ True ∧ True ∧ True ∧ True ∧ (p.length : Int) = (p.length : Int) ∧ (k : Int) + 1 = (y : Int) ∧ True) ∧ True ∧ l = l ∧ True ∧ (n = n ∧ p = p ∧ mk (isF p) = mk (isF p) ∧ True) ∧ True ∧ (lpK p (gr p lv) D l m k).snd.snd = (lpK p (gr p lv) D l m y).snd.snd ∧ (True ∧ True ∧ True ∧ True ∧ True ∧ True) ∧ True)) ∧ ((!flw p D k) = false → True ∧ True ∧ True ∧ sumPre l.length [(k : Int)].length (nat_lit 8) ∧ True ∧ True ∧ True ∧ True ∧ inR .u64 (k : Int) ∧ (((0 : Int) ≤ (k : Int) ∧ (k : Int) < bitsOf .i64) ∧ (-9223372036854775808 : Int) ≤ 1 * 2 ^ k ∧ (1 : Int) * 2 ^ k ≤ 9223372036854775807) ∧ True ∧ ((ok55 lv (bOr .i64 (D : Int) ((1 : Int) * 2 ^ k), (n, p, mk (isF p)), l ++ [(k : Int)], (lpK p (gr p lv) D l m k).snd.snd) ∧ (bOr .i64 (D : Int) ((1 : Int) * 2 ^ k) = bOr .i64 (D : Int) ((1 : Int) * 2 ^ k) ∧ True ∧ True ∧ True ∧ True ∧ True) ∧ True ∧ l ++ [(k : Int)] = l ++ [(k : Int)] ∧ True ∧ (n = n ∧ p = p ∧ mk (isF p) = mk (isF p) ∧ True) ∧ True ∧ (lpK p (gr p lv) D l m k).snd.snd = (lpK p (gr p lv) D l m k).snd.snd ∧ (True ∧ True ∧ True ∧ True ∧ True ∧ True) ∧ True) ∧ True ∧ True ∧ True ∧ True ∧ True ∧ True ∧ True ∧ True) ∧ ((gr p lv (bOr .i64 (D : Int) ((1 : Int) * 2 ^ k)).toNat (l ++ [(k : Int)]) (lpK p (gr p lv) D l m k).snd.snd).fst = true → True ∧ True ∧ (true = (gr p (lv + 1) D l m).fst ∧ True) ∧ True ∧ (gr p lv (bOr .i64 (D : Int) ((1 : Int) * 2 ^ k)).toNat (l ++ [(k : Int)]) (lpK p (gr p lv) D l m k).snd.snd).snd.fst = (gr p (lv + 1) D l m).snd.fst ∧ True ∧ (n = n ∧ p = p ∧ mk (isF p) = mk (isF p) ∧ True) ∧ True ∧ (gr p lv (bOr .i64 (D : Int) ((1 : Int) * 2 ^ k)).toNat (l ++ [(k : Int)]) (lpK p (gr p lv) D l m k).snd.snd).snd.snd = (gr p (lv + 1) D l m).snd.snd ∧ (True ∧ True ∧ True ∧ True ∧ True ∧ True) ∧ True) ∧ ((gr p lv (bOr .i64 (D : Int) ((1 : Int) * 2 ^ k)).toNat (l ++ [(k : Int)]) (lpK p (gr p lv) D l m k).snd.snd).fst = false → True ∧ True ∧ True ∧ inR .i64 ((↑(gr p lv (bOr .i64 (D : Int) ((1 : Int) * 2 ^ k)).toNat (l ++ [(k : Int)]) (lpK p (gr p lv) D l m k).snd.snd).snd.fst.length : Int) - 1) ∧ ((0 : Int) ≤ (↑(gr p lv (bOr .i64 (D : Int) ((1 : Int) * 2 ^ k)).toNat (l ++ [(k : Int)]) (lpK p (gr p lv) D l m k).snd.snd).snd.fst.length : Int) - 1 ∧ (↑(gr p lv (bOr .i64 (D : Int) ((1 : Int) * 2 ^ k)).toNat (l ++ [(k : Int)]) (lpK p (gr p lv) D l m k).snd.snd).snd.fst.length : Int) - 1 ≤ (↑(gr p lv (bOr .i64 (D : Int) ((1 : Int) * 2 ^ k)).toNat (l ++ [(k : Int)]) (lpK p (gr p lv) D l m k).snd.snd).snd.fst.length : Int)) ∧ True ∧ inR .i64 ((k : Int) + 1) ∧ True ∧ ((∃ (y : Nat), (inS p (gr p lv) D l m y ∧ p.length - y < p.length - k) ∧ ((D : Int) = (D : Int) ∧ True ∧ True ∧ True ∧ True ∧ (p.length : Int) = (p.length : Int) ∧ (k : Int) + 1 = (y : Int) ∧ True) ∧ False ∧ False ∧ True ∧ (n = n ∧ p = p ∧ mk (isF p) = mk (isF p) ∧ True) ∧ True ∧ (gr p lv (bOr .i64 (D : Int) ((1 : Int) * 2 ^ k)).toNat (l ++ [(k : Int)]) (lpK p (gr p lv) D l m k).snd.snd).snd.snd = (lpK p (gr p lv) D l m y).snd.snd ∧ (True ∧ True ∧ True ∧ True ∧ True ∧ True) ∧ True) ∨ ∃ (y : Nat), (inS p (gr p lv) D l m y ∧ p.length - y < p.length - k) ∧ ((D : Int) = (D : Int) ∧ True ∧ True ∧ True ∧ True ∧ (p.length : Int) = (p.length : Int) ∧ (k : Int) + 1 = (y : Int) ∧ True) ∧ True ∧ List.take ((↑(gr p lv (bOr .i64 (D : Int) ((1 : Int) * 2 ^ k)).toNat (l ++ [(k : Int)]) (lpK p (gr p lv) D l m k).snd.snd).snd.fst.length : Int) - 1).toNat (gr p lv (bOr .i64 (D : Int) ((1 : Int) * 2 ^ k)).toNat (l ++ [(k : Int)]) (lpK p (gr p lv) D l m k).snd.snd).snd.fst = l ∧ True ∧ (n = n ∧ p = p ∧ mk (isF p) = mk (isF p) ∧ True) ∧ True ∧ (gr p lv (bOr .i64 (D : Int) ((1 : Int) * 2 ^ k)).toNat (l ++ [(k : Int)]) (lpK p (gr p lv) D l m k).snd.snd).snd.snd = (lpK p (gr p lv) D l m y).snd.snd ∧ (True ∧ True ∧ True ∧ True ∧ True ∧ True) ∧ True))))) ∧ (¬(k : Int) < (p.length : Int) → (∃ (y : Unit), (lpK p (gr p lv) D l m p.length).fst = false ∧ ((D : Int) = (D : Int) ∧ True ∧ True ∧ True ∧ True ∧ True) ∧ False ∧ False ∧ True ∧ (n = n ∧ p = p ∧ mk (isF p) = mk (isF p) ∧ True) ∧ True ∧ (lpK p (gr p lv) D l m k).snd.snd = (lpK p (gr p lv) D l m p.length).snd.snd ∧ (True ∧ True ∧ True ∧ True ∧ True ∧ True) ∧ True) ∨ ∃ (y : Unit), (lpK p (gr p lv) D l m p.length).fst = false ∧ ((D : Int) = (D : Int) ∧ True ∧ True ∧ True ∧ True ∧ True) ∧ True ∧ l = l ∧ True ∧ (n = n ∧ p = p ∧ mk (isF p) = mk (isF p) ∧ True) ∧ True ∧ (lpK p (gr p lv) D l m k).snd.snd = (lpK p (gr p lv) D l m p.length).snd.snd ∧ (True ∧ True ∧ True ∧ True ∧ True ∧ True) ∧ True)) (by kernel_rfl) ?_
   simp only [zz]
   obtain ⟨k1, k2⟩ := hk
   have hl := hp.l
   have hc := hp.h.2.1
   have hD := pre_D hp
   refine ⟨fun h => ?_, fun h => by rw [show p.length = k by omega]; exact ⟨k2, rfl⟩⟩
   have hkp : k < p.length := by omega
   have hb := or_pow10 hD (k := k) (by omega)
   have hst := lpK_go k2
   rw [bit_shr hD, hb.1, Int.toNat_natCast]
   have hskip : (D / 2 ^ k % 2 = 1 ∨ flw p D k = false) → inR .i64 ((k : Int) + 1) ∧ ∃ y : Nat, (inS p (gr p lv) D l m y ∧ p.length - y < p.length - k) ∧ (k : Int) + 1 = (y : Int) ∧ (lpK p (gr p lv) D l m k).2.2 = (lpK p (gr p lv) D l m y).2.2 := fun hh => by
     rw [if_pos hh] at hst
     exact ⟨by simp only [inR]; omega, k + 1, ⟨⟨by omega, by rw [hst]; exact k2⟩, by omega⟩, by omega, by rw [hst]⟩
   refine ⟨by simp only [inR]; omega, ⟨by omega, by simp only [bitsOf]; omega⟩, fun hx => hskip (.inl (by omega)), fun hx => ⟨⟨⟨hp.h, rfl⟩, ⟨by simp only; omega, by simp only; omega⟩, ⟨by simp only; omega, by simp only; omega⟩⟩, fun hx2 => hskip (.inr (by simpa using hx2)), fun hx2 => ?_⟩⟩
   have hx2 : flw p D k = true := by simpa using hx2
   rw [if_neg (by simp [hx2]; omega)] at hst
   have hlt : D ||| 2 ^ k < 2 ^ p.length := Nat.or_lt_two_pow hp.D (Nat.pow_lt_pow_right (by decide) hkp)
   have hpre : pre55 n p lv (D ||| 2 ^ k) (l ++ [(k : Int)]) := ⟨hp.h, hlt, by simp; omega⟩
   refine ⟨by unfold sumPre; simp; omega, by simp only [inR]; omega, ⟨⟨by omega, by simp only [bitsOf]; omega⟩, by omega, by omega⟩, ⟨⟨hp.h, rfl⟩, by simp only; omega, hpre⟩, fun hr => ?_, fun hr => ?_⟩
   · have hr : (gr p lv (D ||| 2 ^ k) (l ++ [(k : Int)]) (lpK p (gr p lv) D l m k).2.2).1 = true := hr
     rw [if_pos hr] at hst
     have hs := lpK_stop (k := k + 1) (by rw [hst]; exact hr) (p.length - (k + 1))
     rw [show k + 1 + (p.length - (k + 1)) = p.length by omega, hst] at hs
     have e : gr p (lv + 1) D l m = gr p lv (D ||| 2 ^ k) (l ++ [(k : Int)]) (lpK p (gr p lv) D l m k).2.2 := by rw [gr, if_neg hm, hs, if_pos hr]
     rw [e]
     exact ⟨hr.symm, rfl, rfl⟩
   · have hr : (gr p lv (D ||| 2 ^ k) (l ++ [(k : Int)]) (lpK p (gr p lv) D l m k).2.2).1 = false := hr
     rw [if_neg (by simp [hr])] at hst
     have h2 := gr_list hr
     have q1 : inR .i64 (((gr p lv (D ||| 2 ^ k) (l ++ [(k : Int)]) (lpK p (gr p lv) D l m k).2.2).2.1.length : Int) - 1) := by rw [h2]; simp only [inR]; simp; omega
     have q2 : 0 ≤ ((gr p lv (D ||| 2 ^ k) (l ++ [(k : Int)]) (lpK p (gr p lv) D l m k).2.2).2.1.length : Int) - 1 ∧ ((gr p lv (D ||| 2 ^ k) (l ++ [(k : Int)]) (lpK p (gr p lv) D l m k).2.2).2.1.length : Int) - 1 ≤ ((gr p lv (D ||| 2 ^ k) (l ++ [(k : Int)]) (lpK p (gr p lv) D l m k).2.2).2.1.length : Int) := by rw [h2]; simp; omega
     have q3 : (gr p lv (D ||| 2 ^ k) (l ++ [(k : Int)]) (lpK p (gr p lv) D l m k).2.2).2.1.take (((gr p lv (D ||| 2 ^ k) (l ++ [(k : Int)]) (lpK p (gr p lv) D l m k).2.2).2.1.length : Int) - 1).toNat = l := by rw [h2]; simp
     have q4 : (gr p lv (D ||| 2 ^ k) (l ++ [(k : Int)]) (lpK p (gr p lv) D l m k).2.2).2.2 = (lpK p (gr p lv) D l m (k + 1)).2.2 := by rw [hst]
     exact ⟨q1, q2, by simp only [inR]; omega, k + 1, ⟨⟨by omega, by rw [hst]⟩, by omega⟩, by omega, q3, q4⟩
theorem gS1 (lv : Nat) (h' : GS lv) : GS (lv + 1) := by
 intro n p D l m hp
 have hL := fun hm => loopS lv h' n p D l m hp hm
 refine gcall_of (X := (X55 [e56, e55S lv h'])) ((Xb_ok _ _ _ _)) (f := 55) (fn := Try.f55) (c := bodyOf Try.f55) (by kernel_rfl) (by kernel_rfl) (view := false) (rvs := [.tmp 6]) (by kernel_rfl) (H := (HS n p (gr p lv) D l m)) 80 (by kernel_rfl) ?_
 refine of_eq (q := True ∧ True ∧ True ∧ True ∧ True ∧ True ∧ True ∧ True ∧ True ∧ ((l.length : Int) = (p.length : Int) → True ∧ True ∧ (true = (gr p (lv + 1) D l m).fst ∧ True) ∧ True ∧ l = (gr p (lv + 1) D l m).snd.fst ∧ True ∧ (n = n ∧ p = p ∧ mk (isF p) = mk (isF p) ∧ True) ∧ True ∧ m = (gr p (lv + 1) D l m).snd.snd ∧ (True ∧ True ∧ True ∧ True ∧ True ∧ True) ∧ True) ∧ (¬(l.length : Int) = (p.length : Int) → True ∧ True ∧ True ∧ ((mGet I64 m (D : Int)).getD false = true → True ∧ True ∧ (false = (gr p (lv + 1) D l m).fst ∧ True) ∧ True ∧ l = (gr p (lv + 1) D l m).snd.fst ∧ True ∧ (n = n ∧ p = p ∧ mk (isF p) = mk (isF p) ∧ True) ∧ True ∧ m = (gr p (lv + 1) D l m).snd.snd ∧ (True ∧ True ∧ True ∧ True ∧ True ∧ True) ∧ True) ∧ ((mGet I64 m (D : Int)).getD false = false → True ∧ True ∧ True ∧ True ∧ True ∧ True ∧ LoopOK (X55 [e56, e55S lv h']) L55_0 (hS n p (gr p lv) D l m) (RetR (X55 [e56, e55S lv h']) false false [ResultVar.tmp (6 : Tmp)] [AV.bool (gr p (lv + 1) D l m).fst] (gS (1 : Nat) n p (gr p (lv + 1) D l m).snd.fst (gr p (lv + 1) D l m).snd.snd)) ∧ ((∃ (y : Nat), inS p (gr p lv) D l m y ∧ ((D : Int) = (D : Int) ∧ True ∧ True ∧ True ∧ True ∧ (p.length : Int) = (p.length : Int) ∧ (0 : Int) = (y : Int) ∧ True) ∧ True ∧ l = l ∧ True ∧ (n = n ∧ p = p ∧ mk (isF p) = mk (isF p) ∧ True) ∧ True ∧ m = (lpK p (gr p lv) D l m y).snd.snd ∧ (True ∧ True ∧ True ∧ True ∧ True ∧ True) ∧ True) ∨ ∃ (y : Nat), inS p (gr p lv) D l m y ∧ ((D : Int) = (D : Int) ∧ True ∧ True ∧ True ∧ True ∧ (p.length : Int) = (p.length : Int) ∧ (0 : Int) = (y : Int) ∧ True) ∧ False ∧ False ∧ True ∧ (n = n ∧ p = p ∧ mk (isF p) = mk (isF p) ∧ True) ∧ True ∧ m = (lpK p (gr p lv) D l m y).snd.snd ∧ (True ∧ True ∧ True ∧ True ∧ True ∧ True) ∧ True) ∧ (∀ (y : Unit), (lpK p (gr p lv) D l m p.length).fst = false → True ∧ True ∧ True ∧ True ∧ True ∧ (false = (gr p (lv + 1) D l m).fst ∧ True) ∧ True ∧ l = (gr p (lv + 1) D l m).snd.fst ∧ True ∧ (n = n ∧ p = p ∧ mk (isF p) = mk (isF p) ∧ True) ∧ True ∧ mPut I64 (lpK p (gr p lv) D l m p.length).snd.snd (D : Int) true = (gr p (lv + 1) D l m).snd.snd ∧ (True ∧ True ∧ True ∧ True ∧ True ∧ True) ∧ True) ∧ (∀ (y : Unit), (lpK p (gr p lv) D l m p.length).fst = false → True ∧ True ∧ True ∧ True ∧ True ∧ (false = (gr p (lv + 1) D l m).fst ∧ True) ∧ True ∧ l = (gr p (lv + 1) D l m).snd.fst ∧ True ∧ (n = n ∧ p = p ∧ mk (isF p) = mk (isF p) ∧ True) ∧ True ∧ mPut I64 (lpK p (gr p lv) D l m p.length).snd.snd (D : Int) true = (gr p (lv + 1) D l m).snd.snd ∧ (True ∧ True ∧ True ∧ True ∧ True ∧ True) ∧ True) ∧ True))) (by kernel_rfl) ?_
 simp only [zz]
 have hl := hp.l
 have hg : mg m D = (mGet I64 m D).getD false := rfl
 refine ⟨fun h => by omega, fun _ => ⟨fun h => ?_, fun h => ⟨hL (by rw [hg, h]; simp) , ⟨0, ⟨Nat.zero_le _, rfl⟩, rfl, rfl⟩, fun _ hf => ?_, fun _ hf => ?_⟩⟩⟩
 · rw [gr, hg, if_pos h]; exact ⟨rfl, rfl, rfl⟩
 · rw [gr, hg, if_neg (by simp [h]), if_neg (by simp [hf])]; exact ⟨rfl, rfl, rfl⟩
 · rw [gr, hg, if_neg (by simp [h]), if_neg (by simp [hf])]; exact ⟨rfl, rfl, rfl⟩
theorem gS_all : ∀ lv, GS lv
 | 0 => gS0
 | lv + 1 => gS1 lv (gS_all lv)
def gN (n : Int) (p : List Int) (m : Mm) : List Ob := [.bx nl, .bx (.ptr 2 0 []), cxO n p, .bx (.mp 4), mmO m, .bx (clo55 0 1 3 5)]
def gO (n : Int) (p l : List Int) (m : Mm) : List Ob := [.bx (.own 6 0), .bx (.ptr 2 0 []), cxO n p, .bx (.mp 4), mmO m, .bx (clo55 0 1 3 5), .sc 0 3 I64 l]
def aN (D : Int) : List AV := [.int .i64 D, .ptr 0 0 [], .ptr 1 0 [], .ptr 3 0 [], .ptr 5 0 []]
def sN (n : Int) (p : List Int) (D : Nat) (m : Mm) (k : Nat) : St := ⟨aN D ++ dd 18 ++ .int .i64 p.length :: .int .i64 k :: dd 34, gN n p m⟩
def sO (n : Int) (p : List Int) (f : Nat → List Int → Mm → Res) (D : Nat) (m : Mm) (k : Nat) : St := ⟨aN D ++ dd 18 ++ .int .i64 p.length :: .int .i64 k :: dd 34, gO n p [] (lpK p f D [] m k).2.2⟩
def fmN (n : Int) (p : List Int) (f : Nat → List Int → Mm → Res) (D : Nat) (m : Mm) : List Fam := [⟨Nat, fun k => k = 0, sN n p D m, fun k => p.length - k, fun _ _ => none⟩, ⟨Nat, inS p f D [] m, sO n p f D m, fun k => p.length - k, fun _ _ => none⟩]
def exN (n : Int) (p : List Int) (f : Nat → List Int → Mm → Res) (D : Nat) (m : Mm) : List (List Nat × Ex) := [([0, 1, 2, 3, 4], ⟨0, Unit, fun _ => (lpK p f D [] m p.length).1 = false, fun _ => ⟨aN D ++ dd 54, gO n p [] (lpK p f D [] m p.length).2.2⟩⟩)]
def hN (n : Int) (p : List Int) (f : Nat → List Int → Mm → Res) (D : Nat) (m : Mm) : Hint := ⟨chks 6 [0, 1, 2, 3, 4, 23, 24] (fmN n p f D m), (exN n p f D m).map (·.2)⟩
noncomputable def HN (n : Int) (p : List Int) (f : Nat → List Int → Mm → Res) (D : Nat) (m : Mm) : Nat → Option Hint := fun _ => some (hN n p f D m)
noncomputable abbrev XN (lv : Nat) : Cy := Xb [e56, e55S lv (gS_all lv)] 6 [] (fun _ => none)
theorem flw_zero (p : List Int) (k : Nat) : flw p 0 k = true := by
 refine decide_eq_true fun j _ h => ?_
 rw [Nat.zero_div] at h; cases h
theorem loopN (lv : Nat) (n : Int) (p : List Int) (D : Nat) (m : Mm) (hp : pre55 n p (lv + 1) D []) (hD0 : D = 0) (hm : ¬ mg m D = true) : LoopOK (XN lv) L55_0 (hN n p (gr p lv) D m)
   (RetR (XN lv) false false [.tmp 6] [.bool (gr p (lv + 1) D [] m).1] (gO n p (gr p (lv + 1) D [] m).2.1 (gr p (lv + 1) D [] m).2.2)) := by
 refine loop_fams (Xb_ok _ _ _ _) [0, 1, 2, 3, 4, 23, 24] (fmN n p (gr p lv) D m) (exN n p (gr p lv) D m) 150 ⟨fun (k : Nat) hk => ?_, fun (k : Nat) hk => ?_, trivial⟩
 · refine of_eq (q := True ∧ ((k : Int) < (p.length : Int) → True ∧ True ∧ True ∧ True ∧ inR .u64 (k : Int) ∧ ((0 : Int) ≤ (k : Int) ∧ (k : Int) < bitsOf .i64) ∧ True ∧ True ∧ True ∧ (bAnd .i64 ((D : Int) / (2 : Int) ^ k) (1 : Int) = 1 → True ∧ inR .i64 ((k : Int) + 1) ∧ True ∧ ((∃ (y : Nat), (y = 0 ∧ p.length - y < p.length - k) ∧ ((D : Int) = (D : Int) ∧ True ∧ True ∧ True ∧ True ∧ (p.length : Int) = (p.length : Int) ∧ (k : Int) + 1 = (y : Int) ∧ True) ∧ True ∧ True ∧ (n = n ∧ p = p ∧ mk (isF p) = mk (isF p) ∧ True) ∧ True ∧ m = m ∧ (True ∧ True ∧ True ∧ True ∧ True ∧ True) ∧ True) ∨ ∃ (y : Nat), (inS p (gr p lv) D [] m y ∧ p.length - y < p.length - k) ∧ ((D : Int) = (D : Int) ∧ True ∧ True ∧ True ∧ True ∧ (p.length : Int) = (p.length : Int) ∧ (k : Int) + 1 = (y : Int) ∧ True) ∧ False ∧ True ∧ (n = n ∧ p = p ∧ mk (isF p) = mk (isF p) ∧ True) ∧ True ∧ m = (lpK p (gr p lv) D [] m y).snd.snd ∧ (True ∧ True ∧ True ∧ True ∧ True ∧ True) ∧ False)) ∧ (¬bAnd .i64 ((D : Int) / (2 : Int) ^ k) (1 : Int) = 1 → True ∧ True ∧ True ∧ ((ok56 ((D : Int), (k : Int), n, p, mk (isF p)) ∧ (True ∧ (D : Int) = (D : Int) ∧ (k : Int) = (k : Int) ∧ True) ∧ (n = n ∧ p = p ∧ mk (isF p) = mk (isF p) ∧ True) ∧ True) ∧ True ∧ True) ∧ True ∧ True ∧ ((!flw p D k) = true → inR .i64 ((k : Int) + 1) ∧ True ∧ ((∃ (y : Nat), (y = 0 ∧ p.length - y < p.length - k) ∧ ((D : Int) = (D : Int) ∧ True ∧ True ∧ True ∧ True ∧ (p.length : Int) = (p.length : Int) ∧ (k : Int) + 1 = (y : Int) ∧ True) ∧ True ∧ True ∧ (n = n ∧ p = p ∧ mk (isF p) = mk (isF p) ∧ True) ∧ True ∧ m = m ∧ (True ∧ True ∧ True ∧ True ∧ True ∧ True) ∧ True) ∨ ∃ (y : Nat), (inS p (gr p lv) D [] m y ∧ p.length - y < p.length - k) ∧ ((D : Int) = (D : Int) ∧ True ∧ True ∧ True ∧ True ∧ (p.length : Int) = (p.length : Int) ∧ (k : Int) + 1 = (y : Int) ∧ True) ∧ False ∧ True ∧ (n = n ∧ p = p ∧ mk (isF p) = mk (isF p) ∧ True) ∧ True ∧ m = (lpK p (gr p lv) D [] m y).snd.snd ∧ (True ∧ True ∧ True ∧ True ∧ True ∧ True) ∧ False)) ∧ ((!flw p D k) = false → True ∧ True ∧ True ∧ sumPre (0 : Nat) [(k : Int)].length (nat_lit 8) ∧ True ∧ True ∧ True ∧ True ∧ inR .u64 (k : Int) ∧ (((0 : Int) ≤ (k : Int) ∧ (k : Int) < bitsOf .i64) ∧ (-9223372036854775808 : Int) ≤ 1 * 2 ^ k ∧ (1 : Int) * 2 ^ k ≤ 9223372036854775807) ∧ True ∧ ((ok55 lv (bOr .i64 (D : Int) ((1 : Int) * 2 ^ k), (n, p, mk (isF p)), [(k : Int)], m) ∧ (bOr .i64 (D : Int) ((1 : Int) * 2 ^ k) = bOr .i64 (D : Int) ((1 : Int) * 2 ^ k) ∧ True ∧ True ∧ True ∧ True ∧ True) ∧ True ∧ [(k : Int)] = [(k : Int)] ∧ True ∧ (n = n ∧ p = p ∧ mk (isF p) = mk (isF p) ∧ True) ∧ True ∧ m = m ∧ (True ∧ True ∧ True ∧ True ∧ True ∧ True) ∧ True) ∧ True ∧ True ∧ True ∧ True ∧ True ∧ True ∧ True ∧ True) ∧ ((gr p lv (bOr .i64 (D : Int) ((1 : Int) * 2 ^ k)).toNat [(k : Int)] m).fst = true → True ∧ True ∧ (true = (gr p (lv + 1) D [] m).fst ∧ True) ∧ True ∧ True ∧ (n = n ∧ p = p ∧ mk (isF p) = mk (isF p) ∧ True) ∧ True ∧ (gr p lv (bOr .i64 (D : Int) ((1 : Int) * 2 ^ k)).toNat [(k : Int)] m).snd.snd = (gr p (lv + 1) D [] m).snd.snd ∧ (True ∧ True ∧ True ∧ True ∧ True ∧ True) ∧ (gr p lv (bOr .i64 (D : Int) ((1 : Int) * 2 ^ k)).toNat [(k : Int)] m).snd.fst = (gr p (lv + 1) D [] m).snd.fst ∧ True) ∧ ((gr p lv (bOr .i64 (D : Int) ((1 : Int) * 2 ^ k)).toNat [(k : Int)] m).fst = false → True ∧ True ∧ True ∧ inR .i64 ((↑(gr p lv (bOr .i64 (D : Int) ((1 : Int) * 2 ^ k)).toNat [(k : Int)] m).snd.fst.length : Int) - 1) ∧ ((0 : Int) ≤ (↑(gr p lv (bOr .i64 (D : Int) ((1 : Int) * 2 ^ k)).toNat [(k : Int)] m).snd.fst.length : Int) - 1 ∧ (↑(gr p lv (bOr .i64 (D : Int) ((1 : Int) * 2 ^ k)).toNat [(k : Int)] m).snd.fst.length : Int) - 1 ≤ (↑(gr p lv (bOr .i64 (D : Int) ((1 : Int) * 2 ^ k)).toNat [(k : Int)] m).snd.fst.length : Int)) ∧ True ∧ inR .i64 ((k : Int) + 1) ∧ True ∧ ((∃ (y : Nat), (y = 0 ∧ p.length - y < p.length - k) ∧ ((D : Int) = (D : Int) ∧ True ∧ True ∧ True ∧ True ∧ (p.length : Int) = (p.length : Int) ∧ (k : Int) + 1 = (y : Int) ∧ True) ∧ False ∧ True ∧ (n = n ∧ p = p ∧ mk (isF p) = mk (isF p) ∧ True) ∧ True ∧ (gr p lv (bOr .i64 (D : Int) ((1 : Int) * 2 ^ k)).toNat [(k : Int)] m).snd.snd = m ∧ (True ∧ True ∧ True ∧ True ∧ True ∧ True) ∧ True) ∨ ∃ (y : Nat), (inS p (gr p lv) D [] m y ∧ p.length - y < p.length - k) ∧ ((D : Int) = (D : Int) ∧ True ∧ True ∧ True ∧ True ∧ (p.length : Int) = (p.length : Int) ∧ (k : Int) + 1 = (y : Int) ∧ True) ∧ True ∧ True ∧ (n = n ∧ p = p ∧ mk (isF p) = mk (isF p) ∧ True) ∧ True ∧ (gr p lv (bOr .i64 (D : Int) ((1 : Int) * 2 ^ k)).toNat [(k : Int)] m).snd.snd = (lpK p (gr p lv) D [] m y).snd.snd ∧ (True ∧ True ∧ True ∧ True ∧ True ∧ True) ∧ List.take ((↑(gr p lv (bOr .i64 (D : Int) ((1 : Int) * 2 ^ k)).toNat [(k : Int)] m).snd.fst.length : Int) - 1).toNat (gr p lv (bOr .i64 (D : Int) ((1 : Int) * 2 ^ k)).toNat [(k : Int)] m).snd.fst = [] ∧ True))))) ∧ (¬(k : Int) < (p.length : Int) → ∃ (y : Unit), (lpK p (gr p lv) D [] m p.length).fst = false ∧ ((D : Int) = (D : Int) ∧ True ∧ True ∧ True ∧ True ∧ True) ∧ False ∧ True ∧ (n = n ∧ p = p ∧ mk (isF p) = mk (isF p) ∧ True) ∧ True ∧ m = (lpK p (gr p lv) D [] m p.length).snd.snd ∧ (True ∧ True ∧ True ∧ True ∧ True ∧ True) ∧ False)) (by kernel_rfl) ?_
   simp only [zz]
   have hk : k = 0 := hk
   have hl : lv + 1 = p.length := by have := hp.l; simpa using this
   have hc := hp.h.2.1
   have hD := pre_D hp
   refine ⟨fun h => ?_, fun h => by omega⟩
   have hkp : k < p.length := by omega
   have hb := or_pow10 hD (k := k) (by omega)
   have e0 : lpK p (gr p lv) D [] m k = (false, [], m) := by rw [hk]; try rfl
   have hst := lpK_go (p := p) (f := gr p lv) (D := D) (l := []) (m := m) (k := k) (by rw [e0])
   have hf : flw p D k = true := by rw [hD0]; exact flw_zero p k
   have hz : D / 2 ^ k % 2 = 0 := by rw [hD0, Nat.zero_div]
   rw [if_neg (by rw [hz, hf]; simp), e0] at hst
   simp only [List.nil_append] at hst
   rw [bit_shr hD, hb.1, Int.toNat_natCast, hz, hf]
   have hlt : D ||| 2 ^ k < 2 ^ p.length := Nat.or_lt_two_pow hp.D (Nat.pow_lt_pow_right (by decide) hkp)
   have hpre : pre55 n p lv (D ||| 2 ^ k) [(k : Int)] := ⟨hp.h, hlt, by simp; omega⟩
   refine ⟨by simp only [inR]; omega, ⟨by omega, by simp only [bitsOf]; omega⟩, fun hx => absurd hx (by decide), fun hx => ⟨⟨⟨hp.h, rfl⟩, ⟨by simp only; omega, by simp only; omega⟩, ⟨by simp only; omega, by simp only; omega⟩⟩, fun hx2 => absurd hx2 (by decide), fun hx2 => ?_⟩⟩
   refine ⟨by unfold sumPre; simp, by simp only [inR]; omega, ⟨⟨by omega, by simp only [bitsOf]; omega⟩, by omega, by omega⟩, ⟨⟨hp.h, rfl⟩, by simp only; omega, hpre⟩, fun hr => ?_, fun hr => ?_⟩
   · have hr : (gr p lv (D ||| 2 ^ k) [(k : Int)] m).1 = true := hr
     rw [if_pos hr] at hst
     have hs := lpK_stop (k := k + 1) (by rw [hst]; exact hr) (p.length - (k + 1))
     rw [show k + 1 + (p.length - (k + 1)) = p.length by omega, hst] at hs
     have e : gr p (lv + 1) D [] m = gr p lv (D ||| 2 ^ k) [(k : Int)] m := by rw [gr, if_neg hm, hs, if_pos hr]
     rw [e]
     exact ⟨hr.symm, rfl, rfl⟩
   · have hr : (gr p lv (D ||| 2 ^ k) [(k : Int)] m).1 = false := hr
     rw [if_neg (by simp [hr])] at hst
     have h2 := gr_list hr
     have q1 : inR .i64 (((gr p lv (D ||| 2 ^ k) [(k : Int)] m).2.1.length : Int) - 1) := by rw [h2]; simp only [inR]; simp
     have q2 : 0 ≤ ((gr p lv (D ||| 2 ^ k) [(k : Int)] m).2.1.length : Int) - 1 ∧ ((gr p lv (D ||| 2 ^ k) [(k : Int)] m).2.1.length : Int) - 1 ≤ ((gr p lv (D ||| 2 ^ k) [(k : Int)] m).2.1.length : Int) := by rw [h2]; simp
     have q3 : (gr p lv (D ||| 2 ^ k) [(k : Int)] m).2.1.take (((gr p lv (D ||| 2 ^ k) [(k : Int)] m).2.1.length : Int) - 1).toNat = [] := by rw [h2]; simp
     have q4 : (gr p lv (D ||| 2 ^ k) [(k : Int)] m).2.2 = (lpK p (gr p lv) D [] m (k + 1)).2.2 := by rw [hst]
     exact ⟨q1, q2, by simp only [inR]; omega, k + 1, ⟨⟨by omega, by rw [hst]⟩, by omega⟩, by omega, q4, q3⟩
 · refine of_eq (q := True ∧ ((k : Int) < (p.length : Int) → True ∧ True ∧ True ∧ True ∧ inR .u64 (k : Int) ∧ ((0 : Int) ≤ (k : Int) ∧ (k : Int) < bitsOf .i64) ∧ True ∧ True ∧ True ∧ (bAnd .i64 ((D : Int) / (2 : Int) ^ k) (1 : Int) = 1 → True ∧ inR .i64 ((k : Int) + 1) ∧ True ∧ ((∃ (y : Nat), (y = 0 ∧ p.length - y < p.length - k) ∧ ((D : Int) = (D : Int) ∧ True ∧ True ∧ True ∧ True ∧ (p.length : Int) = (p.length : Int) ∧ (k : Int) + 1 = (y : Int) ∧ True) ∧ False ∧ True ∧ (n = n ∧ p = p ∧ mk (isF p) = mk (isF p) ∧ True) ∧ True ∧ (lpK p (gr p lv) D [] m k).snd.snd = m ∧ (True ∧ True ∧ True ∧ True ∧ True ∧ True) ∧ True) ∨ ∃ (y : Nat), (inS p (gr p lv) D [] m y ∧ p.length - y < p.length - k) ∧ ((D : Int) = (D : Int) ∧ True ∧ True ∧ True ∧ True ∧ (p.length : Int) = (p.length : Int) ∧ (k : Int) + 1 = (y : Int) ∧ True) ∧ True ∧ True ∧ (n = n ∧ p = p ∧ mk (isF p) = mk (isF p) ∧ True) ∧ True ∧ (lpK p (gr p lv) D [] m k).snd.snd = (lpK p (gr p lv) D [] m y).snd.snd ∧ (True ∧ True ∧ True ∧ True ∧ True ∧ True) ∧ ([] : List Int) = [] ∧ True)) ∧ (¬bAnd .i64 ((D : Int) / (2 : Int) ^ k) (1 : Int) = 1 → True ∧ True ∧ True ∧ ((ok56 ((D : Int), (k : Int), n, p, mk (isF p)) ∧ (True ∧ (D : Int) = (D : Int) ∧ (k : Int) = (k : Int) ∧ True) ∧ (n = n ∧ p = p ∧ mk (isF p) = mk (isF p) ∧ True) ∧ True) ∧ True ∧ True) ∧ True ∧ True ∧ ((!flw p D k) = true → inR .i64 ((k : Int) + 1) ∧ True ∧ ((∃ (y : Nat), (y = 0 ∧ p.length - y < p.length - k) ∧ ((D : Int) = (D : Int) ∧ True ∧ True ∧ True ∧ True ∧ (p.length : Int) = (p.length : Int) ∧ (k : Int) + 1 = (y : Int) ∧ True) ∧ False ∧ True ∧ (n = n ∧ p = p ∧ mk (isF p) = mk (isF p) ∧ True) ∧ True ∧ (lpK p (gr p lv) D [] m k).snd.snd = m ∧ (True ∧ True ∧ True ∧ True ∧ True ∧ True) ∧ True) ∨ ∃ (y : Nat), (inS p (gr p lv) D [] m y ∧ p.length - y < p.length - k) ∧ ((D : Int) = (D : Int) ∧ True ∧ True ∧ True ∧ True ∧ (p.length : Int) = (p.length : Int) ∧ (k : Int) + 1 = (y : Int) ∧ True) ∧ True ∧ True ∧ (n = n ∧ p = p ∧ mk (isF p) = mk (isF p) ∧ True) ∧ True ∧ (lpK p (gr p lv) D [] m k).snd.snd = (lpK p (gr p lv) D [] m y).snd.snd ∧ (True ∧ True ∧ True ∧ True ∧ True ∧ True) ∧ ([] : List Int) = [] ∧ True)) ∧ ((!flw p D k) = false → True ∧ True ∧ True ∧ sumPre ([] : List Int).length [(k : Int)].length (nat_lit 8) ∧ True ∧ True ∧ True ∧ True ∧ inR .u64 (k : Int) ∧ (((0 : Int) ≤ (k : Int) ∧ (k : Int) < bitsOf .i64) ∧ (-9223372036854775808 : Int) ≤ 1 * 2 ^ k ∧ (1 : Int) * 2 ^ k ≤ 9223372036854775807) ∧ True ∧ ((ok55 lv (bOr .i64 (D : Int) ((1 : Int) * 2 ^ k), (n, p, mk (isF p)), [] ++ [(k : Int)], (lpK p (gr p lv) D [] m k).snd.snd) ∧ (bOr .i64 (D : Int) ((1 : Int) * 2 ^ k) = bOr .i64 (D : Int) ((1 : Int) * 2 ^ k) ∧ True ∧ True ∧ True ∧ True ∧ True) ∧ True ∧ [] ++ [(k : Int)] = [] ++ [(k : Int)] ∧ True ∧ (n = n ∧ p = p ∧ mk (isF p) = mk (isF p) ∧ True) ∧ True ∧ (lpK p (gr p lv) D [] m k).snd.snd = (lpK p (gr p lv) D [] m k).snd.snd ∧ (True ∧ True ∧ True ∧ True ∧ True ∧ True) ∧ True) ∧ True ∧ True ∧ True ∧ True ∧ True ∧ True ∧ True ∧ True) ∧ ((gr p lv (bOr .i64 (D : Int) ((1 : Int) * 2 ^ k)).toNat ([] ++ [(k : Int)]) (lpK p (gr p lv) D [] m k).snd.snd).fst = true → True ∧ True ∧ (true = (gr p (lv + 1) D [] m).fst ∧ True) ∧ True ∧ True ∧ (n = n ∧ p = p ∧ mk (isF p) = mk (isF p) ∧ True) ∧ True ∧ (gr p lv (bOr .i64 (D : Int) ((1 : Int) * 2 ^ k)).toNat ([] ++ [(k : Int)]) (lpK p (gr p lv) D [] m k).snd.snd).snd.snd = (gr p (lv + 1) D [] m).snd.snd ∧ (True ∧ True ∧ True ∧ True ∧ True ∧ True) ∧ (gr p lv (bOr .i64 (D : Int) ((1 : Int) * 2 ^ k)).toNat ([] ++ [(k : Int)]) (lpK p (gr p lv) D [] m k).snd.snd).snd.fst = (gr p (lv + 1) D [] m).snd.fst ∧ True) ∧ ((gr p lv (bOr .i64 (D : Int) ((1 : Int) * 2 ^ k)).toNat ([] ++ [(k : Int)]) (lpK p (gr p lv) D [] m k).snd.snd).fst = false → True ∧ True ∧ True ∧ inR .i64 ((↑(gr p lv (bOr .i64 (D : Int) ((1 : Int) * 2 ^ k)).toNat ([] ++ [(k : Int)]) (lpK p (gr p lv) D [] m k).snd.snd).snd.fst.length : Int) - 1) ∧ ((0 : Int) ≤ (↑(gr p lv (bOr .i64 (D : Int) ((1 : Int) * 2 ^ k)).toNat ([] ++ [(k : Int)]) (lpK p (gr p lv) D [] m k).snd.snd).snd.fst.length : Int) - 1 ∧ (↑(gr p lv (bOr .i64 (D : Int) ((1 : Int) * 2 ^ k)).toNat ([] ++ [(k : Int)]) (lpK p (gr p lv) D [] m k).snd.snd).snd.fst.length : Int) - 1 ≤ (↑(gr p lv (bOr .i64 (D : Int) ((1 : Int) * 2 ^ k)).toNat ([] ++ [(k : Int)]) (lpK p (gr p lv) D [] m k).snd.snd).snd.fst.length : Int)) ∧ True ∧ inR .i64 ((k : Int) + 1) ∧ True ∧ ((∃ (y : Nat), (y = 0 ∧ p.length - y < p.length - k) ∧ ((D : Int) = (D : Int) ∧ True ∧ True ∧ True ∧ True ∧ (p.length : Int) = (p.length : Int) ∧ (k : Int) + 1 = (y : Int) ∧ True) ∧ False ∧ True ∧ (n = n ∧ p = p ∧ mk (isF p) = mk (isF p) ∧ True) ∧ True ∧ (gr p lv (bOr .i64 (D : Int) ((1 : Int) * 2 ^ k)).toNat ([] ++ [(k : Int)]) (lpK p (gr p lv) D [] m k).snd.snd).snd.snd = m ∧ (True ∧ True ∧ True ∧ True ∧ True ∧ True) ∧ True) ∨ ∃ (y : Nat), (inS p (gr p lv) D [] m y ∧ p.length - y < p.length - k) ∧ ((D : Int) = (D : Int) ∧ True ∧ True ∧ True ∧ True ∧ (p.length : Int) = (p.length : Int) ∧ (k : Int) + 1 = (y : Int) ∧ True) ∧ True ∧ True ∧ (n = n ∧ p = p ∧ mk (isF p) = mk (isF p) ∧ True) ∧ True ∧ (gr p lv (bOr .i64 (D : Int) ((1 : Int) * 2 ^ k)).toNat ([] ++ [(k : Int)]) (lpK p (gr p lv) D [] m k).snd.snd).snd.snd = (lpK p (gr p lv) D [] m y).snd.snd ∧ (True ∧ True ∧ True ∧ True ∧ True ∧ True) ∧ List.take ((↑(gr p lv (bOr .i64 (D : Int) ((1 : Int) * 2 ^ k)).toNat ([] ++ [(k : Int)]) (lpK p (gr p lv) D [] m k).snd.snd).snd.fst.length : Int) - 1).toNat (gr p lv (bOr .i64 (D : Int) ((1 : Int) * 2 ^ k)).toNat ([] ++ [(k : Int)]) (lpK p (gr p lv) D [] m k).snd.snd).snd.fst = [] ∧ True))))) ∧ (¬(k : Int) < (p.length : Int) → ∃ (y : Unit), (lpK p (gr p lv) D [] m p.length).fst = false ∧ ((D : Int) = (D : Int) ∧ True ∧ True ∧ True ∧ True ∧ True) ∧ True ∧ True ∧ (n = n ∧ p = p ∧ mk (isF p) = mk (isF p) ∧ True) ∧ True ∧ (lpK p (gr p lv) D [] m k).snd.snd = (lpK p (gr p lv) D [] m p.length).snd.snd ∧ (True ∧ True ∧ True ∧ True ∧ True ∧ True) ∧ ([] : List Int) = [] ∧ True)) (by kernel_rfl) ?_
   simp only [zz]
   obtain ⟨k1, k2⟩ := hk
   have hl : lv + 1 = p.length := by have := hp.l; simpa using this
   have hc := hp.h.2.1
   have hD := pre_D hp
   refine ⟨fun h => ?_, fun h => by rw [show p.length = k by omega]; exact ⟨k2, rfl⟩⟩
   have hkp : k < p.length := by omega
   have hb := or_pow10 hD (k := k) (by omega)
   have hst := lpK_go k2
   rw [bit_shr hD, hb.1, Int.toNat_natCast]
   have hskip : (D / 2 ^ k % 2 = 1 ∨ flw p D k = false) → inR .i64 ((k : Int) + 1) ∧ ∃ y : Nat, (inS p (gr p lv) D [] m y ∧ p.length - y < p.length - k) ∧ (k : Int) + 1 = (y : Int) ∧ (lpK p (gr p lv) D [] m k).2.2 = (lpK p (gr p lv) D [] m y).2.2 := fun hh => by
     rw [if_pos hh] at hst
     exact ⟨by simp only [inR]; omega, k + 1, ⟨⟨by omega, by rw [hst]; exact k2⟩, by omega⟩, by omega, by rw [hst]⟩
   refine ⟨by simp only [inR]; omega, ⟨by omega, by simp only [bitsOf]; omega⟩, fun hx => hskip (.inl (by omega)), fun hx => ⟨⟨⟨hp.h, rfl⟩, ⟨by simp only; omega, by simp only; omega⟩, ⟨by simp only; omega, by simp only; omega⟩⟩, fun hx2 => hskip (.inr (by simpa using hx2)), fun hx2 => ?_⟩⟩
   have hx2 : flw p D k = true := by simpa using hx2
   rw [if_neg (by simp [hx2]; omega)] at hst
   have hlt : D ||| 2 ^ k < 2 ^ p.length := Nat.or_lt_two_pow hp.D (Nat.pow_lt_pow_right (by decide) hkp)
   have hpre : pre55 n p lv (D ||| 2 ^ k) ([] ++ [(k : Int)]) := ⟨hp.h, hlt, by simp; omega⟩
   refine ⟨by unfold sumPre; simp, by simp only [inR]; omega, ⟨⟨by omega, by simp only [bitsOf]; omega⟩, by omega, by omega⟩, ⟨⟨hp.h, rfl⟩, by simp only; omega, hpre⟩, fun hr => ?_, fun hr => ?_⟩
   · have hr : (gr p lv (D ||| 2 ^ k) ([] ++ [(k : Int)]) (lpK p (gr p lv) D [] m k).2.2).1 = true := hr
     rw [if_pos hr] at hst
     have hs := lpK_stop (k := k + 1) (by rw [hst]; exact hr) (p.length - (k + 1))
     rw [show k + 1 + (p.length - (k + 1)) = p.length by omega, hst] at hs
     have e : gr p (lv + 1) D [] m = gr p lv (D ||| 2 ^ k) ([] ++ [(k : Int)]) (lpK p (gr p lv) D [] m k).2.2 := by rw [gr, if_neg hm, hs, if_pos hr]
     rw [e]
     exact ⟨hr.symm, rfl, rfl⟩
   · have hr : (gr p lv (D ||| 2 ^ k) ([] ++ [(k : Int)]) (lpK p (gr p lv) D [] m k).2.2).1 = false := hr
     rw [if_neg (by rw [hr]; simp)] at hst
     have h2 := gr_list hr
     have q1 : inR .i64 (((gr p lv (D ||| 2 ^ k) ([] ++ [(k : Int)]) (lpK p (gr p lv) D [] m k).2.2).2.1.length : Int) - 1) := by rw [h2]; simp only [inR]; simp
     have q2 : 0 ≤ ((gr p lv (D ||| 2 ^ k) ([] ++ [(k : Int)]) (lpK p (gr p lv) D [] m k).2.2).2.1.length : Int) - 1 ∧ ((gr p lv (D ||| 2 ^ k) ([] ++ [(k : Int)]) (lpK p (gr p lv) D [] m k).2.2).2.1.length : Int) - 1 ≤ ((gr p lv (D ||| 2 ^ k) ([] ++ [(k : Int)]) (lpK p (gr p lv) D [] m k).2.2).2.1.length : Int) := by rw [h2]; simp
     have q3 : (gr p lv (D ||| 2 ^ k) ([] ++ [(k : Int)]) (lpK p (gr p lv) D [] m k).2.2).2.1.take (((gr p lv (D ||| 2 ^ k) ([] ++ [(k : Int)]) (lpK p (gr p lv) D [] m k).2.2).2.1.length : Int) - 1).toNat = [] := by rw [h2]; simp
     have q4 : (gr p lv (D ||| 2 ^ k) ([] ++ [(k : Int)]) (lpK p (gr p lv) D [] m k).2.2).2.2 = (lpK p (gr p lv) D [] m (k + 1)).2.2 := by rw [hst]
     exact ⟨q1, q2, by simp only [inR]; omega, k + 1, ⟨⟨by omega, by rw [hst]⟩, by omega⟩, by omega, q4, q3⟩
theorem call55 (lv : Nat) (n : Int) (p : List Int) (D : Nat) (m : Mm) (hp : pre55 n p (lv + 1) D []) (hD0 : D = 0) (hm : ¬ mg m D = true) : GCall Try.prog gl 55 false (aN D) (gN n p m) [.bool (gr p (lv + 1) D [] m).1] (gO n p (gr p (lv + 1) D [] m).2.1 (gr p (lv + 1) D [] m).2.2) := by
 refine gcall_of (X := (XN lv)) ((Xb_ok _ _ _ _)) (f := 55) (fn := Try.f55) (c := bodyOf Try.f55) (by kernel_rfl) (by kernel_rfl) (view := false) (rvs := [.tmp 6]) (by kernel_rfl) (H := (HN n p (gr p lv) D m)) 80 (by kernel_rfl) ?_
 have hL := loopN lv n p D m hp hD0 hm
 refine of_eq (q := True ∧ True ∧ True ∧ True ∧ True ∧ True ∧ True ∧ True ∧ True ∧ ((0 : Int) = (p.length : Int) → True ∧ True ∧ (true = (gr p (lv + 1) D [] m).fst ∧ True) ∧ False ∧ True ∧ (n = n ∧ p = p ∧ mk (isF p) = mk (isF p) ∧ True) ∧ True ∧ m = (gr p (lv + 1) D [] m).snd.snd ∧ (True ∧ True ∧ True ∧ True ∧ True ∧ True) ∧ False) ∧ (¬(0 : Int) = (p.length : Int) → True ∧ True ∧ True ∧ ((mGet I64 m (D : Int)).getD false = true → True ∧ True ∧ (false = (gr p (lv + 1) D [] m).fst ∧ True) ∧ False ∧ True ∧ (n = n ∧ p = p ∧ mk (isF p) = mk (isF p) ∧ True) ∧ True ∧ m = (gr p (lv + 1) D [] m).snd.snd ∧ (True ∧ True ∧ True ∧ True ∧ True ∧ True) ∧ False) ∧ ((mGet I64 m (D : Int)).getD false = false → True ∧ True ∧ True ∧ True ∧ True ∧ True ∧ LoopOK (XN lv) L55_0 (hN n p (gr p lv) D m) (RetR (XN lv) false false [ResultVar.tmp (6 : Tmp)] [AV.bool (gr p (lv + 1) D [] m).fst] (gO n p (gr p (lv + 1) D [] m).snd.fst (gr p (lv + 1) D [] m).snd.snd)) ∧ ((∃ (y : Nat), y = 0 ∧ ((D : Int) = (D : Int) ∧ True ∧ True ∧ True ∧ True ∧ (p.length : Int) = (p.length : Int) ∧ (0 : Int) = (y : Int) ∧ True) ∧ True ∧ True ∧ (n = n ∧ p = p ∧ mk (isF p) = mk (isF p) ∧ True) ∧ True ∧ m = m ∧ (True ∧ True ∧ True ∧ True ∧ True ∧ True) ∧ True) ∨ ∃ (y : Nat), inS p (gr p lv) D [] m y ∧ ((D : Int) = (D : Int) ∧ True ∧ True ∧ True ∧ True ∧ (p.length : Int) = (p.length : Int) ∧ (0 : Int) = (y : Int) ∧ True) ∧ False ∧ True ∧ (n = n ∧ p = p ∧ mk (isF p) = mk (isF p) ∧ True) ∧ True ∧ m = (lpK p (gr p lv) D [] m y).snd.snd ∧ (True ∧ True ∧ True ∧ True ∧ True ∧ True) ∧ False) ∧ (∀ (y : Unit), (lpK p (gr p lv) D [] m p.length).fst = false → True ∧ True ∧ True ∧ True ∧ True ∧ (false = (gr p (lv + 1) D [] m).fst ∧ True) ∧ True ∧ True ∧ (n = n ∧ p = p ∧ mk (isF p) = mk (isF p) ∧ True) ∧ True ∧ mPut I64 (lpK p (gr p lv) D [] m p.length).snd.snd (D : Int) true = (gr p (lv + 1) D [] m).snd.snd ∧ (True ∧ True ∧ True ∧ True ∧ True ∧ True) ∧ ([] : List Int) = (gr p (lv + 1) D [] m).snd.fst ∧ True) ∧ True))) (by kernel_rfl) ?_
 simp only [zz]
 have hl : lv + 1 = p.length := by have := hp.l; simpa using this
 have hg : mg m D = (mGet I64 m D).getD false := rfl
 refine ⟨fun h => by omega, fun _ => ⟨fun h => hm (by rw [hg]; exact h), fun h => ⟨hL, ⟨0, rfl, rfl⟩, fun _ hf => ?_⟩⟩⟩
 rw [gr, if_neg hm, if_neg (by simp [hf])]; exact ⟨rfl, rfl, rfl⟩
end Go.Am.Sh

/- Shells: Shell. -/
namespace Go.Am.Sh
open Go Go.Am Go.Proofs
def isNl : Ob → Bool
 | .bx (.vv _) => true
 | _ => false
abbrev G5n := Int × Cx3 × Mm
def get55n (xs : List AV) (obs : List Ob) : Option G5n :=
 match xs with
 | .int .i64 d :: _ => (match isNl (obs.getD 0 .gone), unCx (obs.getD 2 .gone), unMm (obs.getD 4 .gone) with
   | true, some x, some m => some (d, x, m)
   | _, _, _ => none)
 | _ => none
structure ok55n (x : G5n) : Prop where
 h : okC x.2.1
 d : x.1 = 0
 m : x.2.2 = []
def gNq (x : Cx3) (m : Mm) : List Ob := [.bx nl, .bx (.ptr 2 0 []), cxQ x, .bx (.mp 4), mmO m, .bx (clo55 0 1 3 5)]
def gOq (x : Cx3) (l : List Int) (m : Mm) : List Ob := [.bx (.own 6 0), .bx (.ptr 2 0 []), cxQ x, .bx (.mp 4), mmO m, .bx (clo55 0 1 3 5), .sc 0 3 I64 l]
def grow (p : List Int) : Res := gr p p.length 0 [] []
theorem call55N (n : Int) (p : List Int) (h : cxOk n p) : GCall Try.prog gl 55 false (aN 0) (gN n p []) [.bool (grow p).1] (gO n p (grow p).2.1 (grow p).2.2) := by
 have hl := h.2.1.1
 obtain ⟨lv, hlv⟩ : ∃ lv, p.length = lv + 1 := ⟨p.length - 1, by omega⟩
 have := call55 lv n p 0 [] ⟨h, by have := Nat.pow_le_pow_right (show 0 < 2 by decide) hl; omega, by simp; omega⟩ rfl (by simp [mg, mGet])
 rw [← hlv] at this
 exact this
def e55N : Entry Try.prog gl := entryW 55 ⟨Try.f55, by kernel_rfl, by kernel_rfl, by kernel_rfl⟩ true get55n ok55n false (fun x => aN x.1) (fun x => gNq x.2.1 x.2.2) (fun x => [.bool (grow x.2.1.2.1).1])
 (fun x => gOq x.2.1 (grow x.2.1.2.1).2.1 (grow x.2.1.2.1).2.2) (fun x hx => by
   have := call55N _ _ hx.h.h
   have e : gNq x.2.1 [] = gN x.2.1.1 x.2.1.2.1 [] := by unfold gNq gN; rw [cxQ_ok hx.h]
   have e2 : ∀ l m, gOq x.2.1 l m = gO x.2.1.1 x.2.1.2.1 l m := fun l m => by unfold gOq gO; rw [cxQ_ok hx.h]
   rw [hx.d, hx.m, e, e2]; exact this)
def shB (p : List Int) : Bool := pure p && (grow p).1
def shL (p : List Int) : List Int := if pure p = true then (grow p).2.1 else []
theorem call15 (n : Int) (p : List Int) (h : cxOk n p) : GCall Try.prog gl 15 true [.int .i64 n, .sl I64 p] [] [.sl I64 (shL p), .bool (shB p), .int .i64 0] [] := by
 refine gcall_of (X := X [e53, e54, e55N]) (X_ok [e53, e54, e55N]) (f := 15) (fn := Try.f15) (c := bodyOf Try.f15) (by kernel_rfl) (by kernel_rfl) (view := true) (rvs := [.tmp 4, .tmp 5, .tmp 6]) (by kernel_rfl) (H := fun _ => none) 80 (by kernel_rfl) ?_
 refine of_eq (q := True ∧ True ∧ True ∧ True ∧ True ∧ (CxP n p ∧ True) ∧ True ∧ True ∧ True ∧ True ∧ True ∧ True ∧ True ∧ True ∧ (¬(0 : Int) = 0 → True ∧ True ∧ True ∧ True ∧ True ∧ (([] : List Int) = shL p ∧ false = shB p ∧ (0 : Int) = 0 ∧ True) ∧ True) ∧ (¬¬(0 : Int) = 0 → True ∧ ((okC (n, p, mk (isF p)) ∧ (True ∧ True) ∧ (n = n ∧ p = p ∧ mk (isF p) = mk (isF p) ∧ True) ∧ True) ∧ True ∧ True) ∧ True ∧ ((!pure p) = true → True ∧ True ∧ True ∧ True ∧ (([] : List Int) = shL p ∧ false = shB p ∧ (0 : Int) = 0 ∧ True) ∧ True) ∧ ((!pure p) = false → True ∧ True ∧ True ∧ True ∧ True ∧ True ∧ True ∧ True ∧ ((ok55n ((0 : Int), (n, p, mk (isF p)), []) ∧ ((0 : Int) = 0 ∧ True ∧ True ∧ True ∧ True ∧ True) ∧ True ∧ True ∧ (n = n ∧ p = p ∧ mk (isF p) = mk (isF p) ∧ True) ∧ True ∧ ([] : List (Int × Bool)) = [] ∧ (True ∧ True ∧ True ∧ True ∧ True ∧ True) ∧ True) ∧ True ∧ True ∧ True ∧ True ∧ True ∧ True ∧ True) ∧ True ∧ True ∧ True ∧ True ∧ True ∧ True ∧ True ∧ ((grow p).snd.fst = shL p ∧ (grow p).fst = shB p ∧ (0 : Int) = 0 ∧ True) ∧ True))) (by kernel_rfl) ?_
 simp only [zz]
 refine ⟨⟨h⟩, fun h => absurd trivial h, fun _ => ⟨⟨h, rfl⟩, fun hp => ?_, fun hp => ⟨⟨⟨h, rfl⟩, rfl, rfl⟩, ?_⟩⟩⟩
 · have hp : pure p = false := by simpa using hp
   simp [shL, shB, hp]
 · have hp : pure p = true := by simpa using hp
   simp [shL, shB, hp]
end Go.Am.Sh

/- Shells: awake. -/
namespace Go.Am.Sh
open Go Go.Am Go.Proofs
def e15 : Entry Try.prog gl := entry2 15 ⟨Try.f15, by kernel_rfl, by kernel_rfl, by kernel_rfl⟩ I64 SI (fun (n : Int) p => cxOk n p) true (fun _ p => [.sl I64 (shL p), .bool (shB p), .int .i64 0]) (fun _ _ => []) (fun (n : Int) p h => call15 n p h)
def e38 : Entry Try.prog gl := entry2 38 ⟨Try.f38, by kernel_rfl, by kernel_rfl, by kernel_rfl⟩ I64 SI (fun (n : Int) p => cxOk n p) false (fun _ p => [.sl I64 (cnts p), .int .i64 0]) (fun _ _ => []) (fun (n : Int) p h => call38 n p h)
def e27 : Entry Try.prog gl := entry2 27 ⟨Try.f27, by kernel_rfl, by kernel_rfl, by kernel_rfl⟩ I64 SI (fun (n : Int) p => cxOk n p) false (fun _ p => [.sl I64 (hsL p), .int .i64 0]) (fun _ _ => []) (fun (n : Int) p h => call27 n p h)
def e30 : Entry Try.prog gl := entry2 30 ⟨Try.f30, by kernel_rfl, by kernel_rfl, by kernel_rfl⟩ I64 SI (fun (n : Int) p => cxOk n p) false (fun _ p => [.sl I64 (hoL p), .int .i64 0]) (fun _ _ => []) (fun (n : Int) p h => call30 n p h)
def e36 : Entry Try.prog gl := entry2 36 ⟨Try.f36, by kernel_rfl, by kernel_rfl, by kernel_rfl⟩ I64 SI (fun (n : Int) p => cxOk n p) false (fun (n : Int) p => [.sl I64 (fewR (grL (duaG n p))), .int .i64 (fewE (grL (duaG n p)))]) (fun _ _ => []) (fun (n : Int) p h => call36 n p h)
def e24 : Entry Try.prog gl := entry2 24 ⟨Try.f24, by kernel_rfl, by kernel_rfl, by kernel_rfl⟩ I64 I64 (fun (n d : Int) => momOk n d) true (fun (n d : Int) => [.sl I64 (momL n d), .int .i64 0]) (fun _ _ => []) (fun (n d : Int) h => call24 n d h)
instance (n : Int) (p : List Int) (k : Nat) : Decidable (goodAt n p k) := by unfold goodAt; infer_instance
instance (n : Int) (p : List Int) : Decidable (cxOk n p) := by unfold cxOk numOk; infer_instance
theorem call19 : GCall Try.prog gl 19 true [] [] [.tt] [] := by
 have f1 : cxOk 3 [3, 5, 6] := by decide +kernel
 have f2 : cxOk 3 [7] := by decide +kernel
 have f3 : cxOk 4 [3, 12] := by decide +kernel
 have f4 : cnts [3, 5, 6] = [1, 3, 3] := by kernel_rfl
 have f5 : hsL [3, 5, 6] = [1, 1, 1] := by kernel_rfl
 have f6 : hoL [3, 5, 6] = [0, 1] := by kernel_rfl
 have f7 : shL [7] = [0] := by kernel_rfl
 have f8 : fewR (grL (duaG 4 [3, 12])) = [5, 6, 9, 10] := by kernel_rfl
 have f9 : fewE (grL (duaG 4 [3, 12])) = 0 := by kernel_rfl
 refine gcall_of (X := X [e38, e27, e30, e15, e36, e24, e23]) (X_ok [e38, e27, e30, e15, e36, e24, e23]) (f := 19) (fn := Try.f19) (c := bodyOf Try.f19) (by kernel_rfl) (by kernel_rfl) (view := false) (rvs := [.tmp 0]) (by kernel_rfl) (H := fun _ => none) 200 (by kernel_rfl) ?_
 refine of_eq (q := True ∧ True ∧ ((numOk (3 : Int) ∧ ((1 : Nat) ≤ [(3 : Int), (5 : Int), (6 : Int)].length ∧ [(3 : Int), (5 : Int), (6 : Int)].length ≤ 10) ∧ ∀ (k : Nat), k < [(3 : Int), (5 : Int), (6 : Int)].length → goodAt (3 : Int) [(3 : Int), (5 : Int), (6 : Int)] k) ∧ True) ∧ True ∧ True ∧ True ∧ True ∧ True ∧ True ∧ ((numOk (3 : Int) ∧ ((1 : Nat) ≤ [(3 : Int), (5 : Int), (6 : Int)].length ∧ [(3 : Int), (5 : Int), (6 : Int)].length ≤ 10) ∧ ∀ (k : Nat), k < [(3 : Int), (5 : Int), (6 : Int)].length → goodAt (3 : Int) [(3 : Int), (5 : Int), (6 : Int)] k) ∧ True) ∧ True ∧ True ∧ True ∧ True ∧ True ∧ True ∧ ((numOk (3 : Int) ∧ ((1 : Nat) ≤ [(3 : Int), (5 : Int), (6 : Int)].length ∧ [(3 : Int), (5 : Int), (6 : Int)].length ≤ 10) ∧ ∀ (k : Nat), k < [(3 : Int), (5 : Int), (6 : Int)].length → goodAt (3 : Int) [(3 : Int), (5 : Int), (6 : Int)] k) ∧ True) ∧ True ∧ True ∧ True ∧ True ∧ True ∧ True ∧ ((numOk (3 : Int) ∧ ((1 : Nat) ≤ [(7 : Int)].length ∧ [(7 : Int)].length ≤ 10) ∧ ∀ (k : Nat), k < [(7 : Int)].length → goodAt (3 : Int) [(7 : Int)] k) ∧ True) ∧ True ∧ True ∧ True ∧ True ∧ True ∧ True ∧ True ∧ True ∧ ((numOk (4 : Int) ∧ ((1 : Nat) ≤ [(3 : Int), (12 : Int)].length ∧ [(3 : Int), (12 : Int)].length ≤ 10) ∧ ∀ (k : Nat), k < [(3 : Int), (12 : Int)].length → goodAt (4 : Int) [(3 : Int), (12 : Int)] k) ∧ True) ∧ True ∧ True ∧ True ∧ True ∧ True ∧ (((2 : Int) ≤ 3 ∧ (3 : Int) < 5 ∧ (5 : Int) ≤ 6) ∧ True) ∧ True ∧ True ∧ True ∧ True ∧ True ∧ True ∧ True ∧ True ∧ ((0 : Int) = 0 → True ∧ True ∧ ((cnts [(3 : Int), (5 : Int), (6 : Int)]).length + 1 ≤ 1000000000000000 ∧ True) ∧ True ∧ True ∧ (true = true → True ∧ True ∧ True ∧ True ∧ ((0 : Int) = 0 → True ∧ True ∧ ((hsL [(3 : Int), (5 : Int), (6 : Int)]).length + 1 ≤ 1000000000000000 ∧ True) ∧ True ∧ True ∧ (true = true → True ∧ True ∧ True ∧ True ∧ ((0 : Int) = 0 → True ∧ True ∧ ((hoL [(3 : Int), (5 : Int), (6 : Int)]).length + 1 ≤ 1000000000000000 ∧ True) ∧ True ∧ True ∧ (true = true → True ∧ True ∧ True ∧ True ∧ ((0 : Int) = 0 → True ∧ True ∧ True ∧ (true = true → True ∧ True ∧ ((shL [(7 : Int)]).length + 1 ≤ 1000000000000000 ∧ True) ∧ True ∧ True ∧ (true = true → True ∧ True ∧ True ∧ True ∧ (fewE (grL (duaG (4 : Int) [(3 : Int), (12 : Int)])) = 0 → True ∧ True ∧ ((fewR (grL (duaG (4 : Int) [(3 : Int), (12 : Int)]))).length + 1 ≤ 1000000000000000 ∧ True) ∧ True ∧ True ∧ (true = true → True ∧ True ∧ True ∧ True ∧ ((0 : Int) = 0 → True ∧ True ∧ True ∧ True ∧ True ∧ True ∧ (true = true ∧ True) ∧ True) ∧ (¬(0 : Int) = 0 → True ∧ True ∧ True ∧ (false = true ∧ True) ∧ True)) ∧ (true = false → True ∧ True ∧ True ∧ True ∧ True ∧ (false = true ∧ True) ∧ True)) ∧ (¬fewE (grL (duaG (4 : Int) [(3 : Int), (12 : Int)])) = 0 → True ∧ True ∧ True ∧ True ∧ True ∧ True ∧ True ∧ (false = true ∧ True) ∧ True)) ∧ (true = false → True ∧ True ∧ True ∧ True ∧ True ∧ True ∧ True ∧ True ∧ True ∧ (false = true ∧ True) ∧ True)) ∧ (true = false → True ∧ True ∧ True ∧ True ∧ True ∧ True ∧ True ∧ True ∧ True ∧ True ∧ True ∧ (false = true ∧ True) ∧ True)) ∧ (¬(0 : Int) = 0 → True ∧ True ∧ True ∧ True ∧ True ∧ True ∧ True ∧ True ∧ True ∧ True ∧ True ∧ True ∧ True ∧ (false = true ∧ True) ∧ True)) ∧ (true = false → True ∧ True ∧ True ∧ True ∧ True ∧ True ∧ True ∧ True ∧ True ∧ True ∧ True ∧ True ∧ True ∧ True ∧ True ∧ (false = true ∧ True) ∧ True)) ∧ (¬(0 : Int) = 0 → True ∧ True ∧ True ∧ True ∧ True ∧ True ∧ True ∧ True ∧ True ∧ True ∧ True ∧ True ∧ True ∧ True ∧ True ∧ True ∧ True ∧ (false = true ∧ True) ∧ True)) ∧ (true = false → True ∧ True ∧ True ∧ True ∧ True ∧ True ∧ True ∧ True ∧ True ∧ True ∧ True ∧ True ∧ True ∧ True ∧ True ∧ True ∧ True ∧ True ∧ True ∧ (false = true ∧ True) ∧ True)) ∧ (¬(0 : Int) = 0 → True ∧ True ∧ True ∧ True ∧ True ∧ True ∧ True ∧ True ∧ True ∧ True ∧ True ∧ True ∧ True ∧ True ∧ True ∧ True ∧ True ∧ True ∧ True ∧ True ∧ True ∧ (false = true ∧ True) ∧ True)) ∧ (true = false → True ∧ True ∧ True ∧ True ∧ True ∧ True ∧ True ∧ True ∧ True ∧ True ∧ True ∧ True ∧ True ∧ True ∧ True ∧ True ∧ True ∧ True ∧ True ∧ True ∧ True ∧ True ∧ True ∧ (false = true ∧ True) ∧ True)) ∧ (¬(0 : Int) = 0 → True ∧ True ∧ True ∧ True ∧ True ∧ True ∧ True ∧ True ∧ True ∧ True ∧ True ∧ True ∧ True ∧ True ∧ True ∧ True ∧ True ∧ True ∧ True ∧ True ∧ True ∧ True ∧ True ∧ True ∧ True ∧ (false = true ∧ True) ∧ True)) (by kernel_rfl) ?_
 rw [f4, f5, f6, f7, f8, f9]
 simp
 exact ⟨⟨f1.1, f1.2.2⟩, ⟨f2.1, f2.2.2 0 (by decide)⟩, f3.1, f3.2.2⟩
def e19 : Entry Try.prog gl where
 f := 19
 lend := false
 en := ⟨Try.f19, by kernel_rfl, by kernel_rfl, by kernel_rfl⟩
 go := fun args ob0 => match args, ob0 with
   | [], [] => some (True, true, [.tt], [])
   | _, _ => none
 ok := by
   intro args ob0 p s r o h hp
   split at h <;> try (cases h; done)
   injection h with h; injection h with h1 h2; injection h2 with h2 h3; injection h3 with h3 h4
   subst h1 h2 h3 h4
   exact call19
end Go.Am.Sh

/- Shells: the reference's shellings. -/
namespace Go.Am.Sh
open Go Go.Am Go.Proofs
def puN (p : List Int) (k : Nat) : Prop := ∀ i, i < k → pc (p.getD i 0).toNat = pc (p.getD 0 0).toNat
instance (p k) : Decidable (puN p k) := by unfold puN; infer_instance
def puB (p : List Int) : Bool := decide (puN p p.length)
structure ok10 (p : List Int) : Prop where
 h : okL p
 l : p.length ≤ 10
noncomputable def L58_0 : Code := lp (bodyOf Try.f58) 0
def st58 (p : List Int) (k : Nat) : St := ⟨.sl I64 p :: dd 2 ++ .int .i64 k :: dd 16, []⟩
def ex58 (p : List Int) : List (List Nat × Ex) := [([], ⟨0, Unit, fun _ => puN p p.length, fun _ => ⟨dd 20, []⟩⟩)]
noncomputable def H58 (p : List Int) : Nat → Option Hint := fun _ => some ⟨chk 0 [0, 3] (fun k => k ≤ p.length ∧ puN p k) (st58 p), (ex58 p).map (·.2)⟩
theorem loop58 (p : List Int) (h : ok10 p) : LoopOK (X [e29]) L58_0 ⟨chk 0 [0, 3] (fun k => k ≤ p.length ∧ puN p k) (st58 p), (ex58 p).map (·.2)⟩ (RetR (X [e29]) true false [.tmp 2] [.bool (puB p)] []) := by
 refine loop_ok (X_ok _) (H := fun _ _ => none) [0, 3] (fun k => k ≤ p.length ∧ puN p k) (st58 p) (fun k => p.length - k) (ex58 p) 100 fun (k : Nat) hk => ?_
 refine of_eq (q := True ∧ True ∧ True ∧ True ∧ ((k : Int) < (p.length : Int) → True ∧ True ∧ idxPre (k : Int) p.length ∧ True ∧ ((0 : Int) ≤ p.getD k (0 : Int) ∧ p.getD k (0 : Int) < 64) ∧ True ∧ idxPre (0 : Int) p.length ∧ True ∧ ((0 : Int) ≤ p.getD (0 : Nat) (0 : Int) ∧ p.getD (0 : Nat) (0 : Int) < 64) ∧ True ∧ (¬(↑(pc (Int.toNat (p.getD k (0 : Int)))) : Int) = (↑(pc (Int.toNat (p.getD (0 : Nat) (0 : Int)))) : Int) → True ∧ True ∧ (false = puB p ∧ True) ∧ True) ∧ (¬¬(↑(pc (Int.toNat (p.getD k (0 : Int)))) : Int) = (↑(pc (Int.toNat (p.getD (0 : Nat) (0 : Int)))) : Int) → True ∧ inR .i64 ((k : Int) + 1) ∧ True ∧ ∃ (y : Nat), ((y ≤ p.length ∧ puN p y) ∧ p.length - y < p.length - k) ∧ (p = p ∧ (k : Int) + 1 = (y : Int) ∧ True) ∧ True)) ∧ (¬(k : Int) < (p.length : Int) → ∃ (y : Unit), puN p p.length ∧ True ∧ True)) (by kernel_rfl) ?_
 simp only [zz]
 obtain ⟨h1, h2⟩ := hk
 have hl := h.l
 refine ⟨fun hk => ⟨idx_nat (by omega), okL_get h.h k, idx_nat (i := 0) (by omega), okL_get h.h 0, fun hx => ?_, fun hx => ⟨by simp only [inR]; omega, k + 1, ⟨⟨by omega, fun j hj => ?_⟩, by omega⟩, by omega⟩⟩, fun hk => by rw [show p.length = k by omega]; exact h2⟩
 · refine (decide_eq_false fun hn => hx ?_).symm
   rw [hn k (by omega)]
 · rcases Nat.lt_or_ge j k with h3 | h3
   · exact h2 j h3
   · rw [show j = k by omega]; omega
theorem call58 (p : List Int) (h : ok10 p) : GCall Try.prog gl 58 true [.sl I64 p] [] [.bool (puB p)] [] := by
 refine gcall_of (X := X [e29]) (X_ok [e29]) (f := 58) (fn := Try.f58) (c := bodyOf Try.f58) (by kernel_rfl) (by kernel_rfl) (view := false) (rvs := [.tmp 2]) (by kernel_rfl) (H := (H58 p)) 80 (by kernel_rfl) ?_
 have hL := loop58 p h
 refine of_eq (q := True ∧ True ∧ LoopOK (X [e29]) L58_0 { J := chk (0 : Nat) [(0 : Nat), (3 : Nat)] (fun (k : Nat) => k ≤ p.length ∧ puN p k) (st58 p), exits := List.map (fun (x : List Nat × Ex) => x.snd) (ex58 p) } (RetR (X [e29]) true false [ResultVar.tmp (2 : Tmp)] [AV.bool (puB p)] []) ∧ (∃ (y : Nat), (y ≤ p.length ∧ puN p y) ∧ (p = p ∧ (0 : Int) = (y : Int) ∧ True) ∧ True) ∧ (∀ (y : Unit), puN p p.length → True ∧ True ∧ (true = puB p ∧ True) ∧ True) ∧ True) (by kernel_rfl) ?_
 simp only [zz]
 exact ⟨hL, ⟨0, ⟨Nat.zero_le _, fun j hj => absurd hj (Nat.not_lt_zero j)⟩, rfl⟩, fun _ h => (decide_eq_true h).symm⟩
def e58 : Entry Try.prog gl := entry1 58 ⟨Try.f58, by kernel_rfl, by kernel_rfl, by kernel_rfl⟩ SI (fun p => ok10 p) true (fun p => [.bool (puB p)]) (fun _ => []) (call58)
def fnd (p : List Int) (D s e : Nat) : Nat → Bool
 | 0 => false
 | g + 1 => fnd p D s e g || (decide (D / 2 ^ g % 2 = 1) && decide (pc (mns s (p.getD g 0).toNat) = 1) && decide (mns s (p.getD g 0).toNat &&& e = 0))
def nxN (p : List Int) (D i k : Nat) : Prop := ∀ e, e < k → D / 2 ^ e % 2 = 1 → fnd p D (p.getD i 0).toNat (p.getD e 0).toNat p.length = true
instance (p D i k) : Decidable (nxN p D i k) := by unfold nxN; infer_instance
def nxB (p : List Int) (D i : Nat) : Bool := decide (nxN p D i p.length)
theorem bit_tmod {D k : Nat} : ((D : Int) / 2 ^ k).tmod 2 = ((D / 2 ^ k % 2 : Nat) : Int) := by
 have e : (2 ^ k : Int) = ((2 ^ k : Nat) : Int) := by rw [Int.natCast_pow]; try rfl
 rw [e]
 generalize 2 ^ k = P
 have e1 : (D : Int) / (P : Int) = ((D / P : Nat) : Int) := by rw [Int.natCast_ediv]
 rw [e1, Int.tmod_eq_emod_of_nonneg (Int.natCast_nonneg _)]
 omega
noncomputable def L57_0 : Code := lp (bodyOf Try.f57) 0
noncomputable def L57_2 : Code := lp (bodyOf Try.f57) 2
def sj57 (p : List Int) (D i e g : Nat) : St := ⟨.sl I64 p :: .int .i64 D :: dd 5 ++ .int .i64 (p.getD i 0) :: .int .i64 e :: .bool (fnd p D (p.getD i 0).toNat (p.getD e 0).toNat g) :: .int .i64 g :: dd 52, []⟩
def ej57 (p : List Int) (D i e : Nat) : List (List Nat × Ex) := [([0, 1, 7, 8, 9], ⟨2, Unit, fun _ => True, fun _ => ⟨.sl I64 p :: .int .i64 D :: dd 5 ++ .int .i64 (p.getD i 0) :: .int .i64 e :: .bool (fnd p D (p.getD i 0).toNat (p.getD e 0).toNat p.length) :: dd 53, []⟩⟩)]
def hj57 (p : List Int) (D i e : Nat) : Hint := ⟨chk 0 [0, 1, 7, 8, 9, 10] (fun g => g ≤ p.length) (sj57 p D i e), (ej57 p D i e).map (·.2)⟩
def st57 (p : List Int) (D i e : Nat) : St := ⟨.sl I64 p :: .int .i64 D :: dd 5 ++ .int .i64 (p.getD i 0) :: .int .i64 e :: dd 54, []⟩
def ex57 (p : List Int) (D i : Nat) : List (List Nat × Ex) := [([], ⟨0, Unit, fun _ => nxB p D i = true, fun _ => ⟨dd 63, []⟩⟩)]
noncomputable def H57 (p : List Int) (D i : Nat) : Nat → Option Hint := fun _ => some ⟨chk 0 [0, 1, 7, 8] (fun k => k ≤ p.length ∧ nxN p D i k) (st57 p D i), (ex57 p D i).map (·.2)⟩
theorem loop57b (p : List Int) (D i e : Nat) (h : ok10 p) (hD : D < 1024) (he : e < p.length) (R : Exit → St → Prop) : LoopOK (X [e29]) L57_2 (hj57 p D i e) R := by
 refine loop_ok (X_ok _) (H := fun _ _ => none) [0, 1, 7, 8, 9, 10] (fun g => g ≤ p.length) (sj57 p D i e) (fun k => p.length - k) (ej57 p D i e) 150 fun (k : Nat) hk => ?_
 refine of_eq (q := True ∧ True ∧ True ∧ True ∧ ((k : Int) < (p.length : Int) → True ∧ True ∧ True ∧ idxPre (k : Int) p.length ∧ True ∧ True ∧ True ∧ True ∧ True ∧ (fnd p D (p.getD i (0 : Int)).toNat (p.getD e (0 : Int)).toNat k = true → True ∧ True ∧ True ∧ inR .i64 ((k : Int) + 1) ∧ True ∧ ∃ (y : Nat), (y ≤ p.length ∧ p.length - y < p.length - k) ∧ (p = p ∧ (D : Int) = (D : Int) ∧ p.getD i (0 : Int) = p.getD i (0 : Int) ∧ (e : Int) = (e : Int) ∧ true = fnd p D (p.getD i (0 : Int)).toNat (p.getD e (0 : Int)).toNat y ∧ (k : Int) + 1 = (y : Int) ∧ True) ∧ True) ∧ (fnd p D (p.getD i (0 : Int)).toNat (p.getD e (0 : Int)).toNat k = false → True ∧ True ∧ ((0 : Int) ≤ (k : Int) ∧ (k : Int) < bitsOf .i64) ∧ ¬(2 : Int) = 0 ∧ True ∧ True ∧ (((D : Int) / (2 : Int) ^ k).tmod (2 : Int) = 1 → True ∧ (((0 : Int) ≤ bNot .i64 (p.getD i (0 : Int)) (p.getD k (0 : Int)) ∧ bNot .i64 (p.getD i (0 : Int)) (p.getD k (0 : Int)) < 64) ∧ True) ∧ True ∧ True ∧ True ∧ ((↑(pc (bNot .i64 (p.getD i (0 : Int)) (p.getD k (0 : Int))).toNat) : Int) = 1 → True ∧ True ∧ True ∧ idxPre (e : Int) p.length ∧ True ∧ True ∧ True ∧ True ∧ True ∧ True ∧ True ∧ inR .i64 ((k : Int) + 1) ∧ True ∧ ∃ (y : Nat), (y ≤ p.length ∧ p.length - y < p.length - k) ∧ (p = p ∧ (D : Int) = (D : Int) ∧ p.getD i (0 : Int) = p.getD i (0 : Int) ∧ (e : Int) = (e : Int) ∧ decide (bAnd .i64 (bNot .i64 (p.getD i (0 : Int)) (p.getD k (0 : Int))) (p.getD e (0 : Int)) = 0) = fnd p D (p.getD i (0 : Int)).toNat (p.getD e (0 : Int)).toNat y ∧ (k : Int) + 1 = (y : Int) ∧ True) ∧ True) ∧ (¬(↑(pc (bNot .i64 (p.getD i (0 : Int)) (p.getD k (0 : Int))).toNat) : Int) = 1 → True ∧ True ∧ True ∧ True ∧ inR .i64 ((k : Int) + 1) ∧ True ∧ ∃ (y : Nat), (y ≤ p.length ∧ p.length - y < p.length - k) ∧ (p = p ∧ (D : Int) = (D : Int) ∧ p.getD i (0 : Int) = p.getD i (0 : Int) ∧ (e : Int) = (e : Int) ∧ false = fnd p D (p.getD i (0 : Int)).toNat (p.getD e (0 : Int)).toNat y ∧ (k : Int) + 1 = (y : Int) ∧ True) ∧ True)) ∧ (¬((D : Int) / (2 : Int) ^ k).tmod (2 : Int) = 1 → True ∧ True ∧ True ∧ True ∧ True ∧ True ∧ inR .i64 ((k : Int) + 1) ∧ True ∧ ∃ (y : Nat), (y ≤ p.length ∧ p.length - y < p.length - k) ∧ (p = p ∧ (D : Int) = (D : Int) ∧ p.getD i (0 : Int) = p.getD i (0 : Int) ∧ (e : Int) = (e : Int) ∧ false = fnd p D (p.getD i (0 : Int)).toNat (p.getD e (0 : Int)).toNat y ∧ (k : Int) + 1 = (y : Int) ∧ True) ∧ True))) ∧ (¬(k : Int) < (p.length : Int) → ∃ (y : Unit), True ∧ (p = p ∧ (D : Int) = (D : Int) ∧ p.getD i (0 : Int) = p.getD i (0 : Int) ∧ (e : Int) = (e : Int) ∧ fnd p D (p.getD i (0 : Int)).toNat (p.getD e (0 : Int)).toNat k = fnd p D (p.getD i (0 : Int)).toNat (p.getD e (0 : Int)).toNat p.length ∧ True) ∧ True)) (by kernel_rfl) ?_
 simp only [zz]
 have hk : k ≤ p.length := hk
 have hl := h.l
 obtain ⟨s1, s2⟩ := okL_get h.h i
 obtain ⟨q1, q2⟩ := okL_get h.h k
 obtain ⟨r1, r2⟩ := okL_get h.h e
 refine ⟨fun hlt => ?_, fun hlt => by rw [show p.length = k by omega]⟩
 have hm := mns_lt ⟨(p.getD i 0).toNat, by omega⟩ ⟨(p.getD k 0).toNat, by omega⟩
 simp only at hm
 have e1 : bNot .i64 (p.getD i 0) (p.getD k 0) = ((mns (p.getD i 0).toNat (p.getD k 0).toNat : Nat) : Int) := by
   rw [← bNot_nat (by omega) (by omega), Int.toNat_of_nonneg s1, Int.toNat_of_nonneg q1]
 have e2 : bAnd .i64 ((mns (p.getD i 0).toNat (p.getD k 0).toNat : Nat) : Int) (p.getD e 0) = ((mns (p.getD i 0).toNat (p.getD k 0).toNat &&& (p.getD e 0).toNat : Nat) : Int) := by
   rw [← bAnd_nat (by omega) (by omega), Int.toNat_of_nonneg r1]
 rw [bit_tmod, e1, e2, Int.toNat_natCast]
 have hst : fnd p D (p.getD i 0).toNat (p.getD e 0).toNat (k + 1) = _ := rfl
 have hn : ∀ b, b = fnd p D (p.getD i 0).toNat (p.getD e 0).toNat (k + 1) → inR .i64 ((k : Int) + 1) ∧ ∃ y : Nat, (y ≤ p.length ∧ p.length - y < p.length - k) ∧ b = fnd p D (p.getD i 0).toNat (p.getD e 0).toNat y ∧ (k : Int) + 1 = (y : Int) := fun b hb => ⟨by simp only [inR]; omega, k + 1, by omega, hb, by omega⟩
 refine ⟨idx_nat (by omega), fun hf => hn true (by rw [fnd, hf]; rfl), fun hf => ⟨⟨by omega, by simp only [bitsOf]; omega⟩, by decide, fun hb => ⟨by omega, fun hc => ⟨idx_nat he, hn _ ?_⟩, fun hc => hn false ?_⟩, fun hb => hn false ?_⟩⟩
 · rw [fnd, hf, decide_eq_true (show D / 2 ^ k % 2 = 1 by omega), decide_eq_true (show pc (mns (p.getD i 0).toNat (p.getD k 0).toNat) = 1 by omega)]
   simp
 · rw [fnd, hf, decide_eq_false (show ¬ pc (mns (p.getD i 0).toNat (p.getD k 0).toNat) = 1 by omega)]
   simp
 · rw [fnd, hf, decide_eq_false (show ¬ D / 2 ^ k % 2 = 1 by omega)]
   simp
theorem loop57 (p : List Int) (D i : Nat) (h : ok10 p) (hD : D < 1024) (hi : i < p.length) : LoopOK (X [e29]) L57_0 ⟨chk 0 [0, 1, 7, 8] (fun k => k ≤ p.length ∧ nxN p D i k) (st57 p D i), (ex57 p D i).map (·.2)⟩ (RetR (X [e29]) true false [.tmp 6] [.bool (nxB p D i)] []) := by
 refine loop_ok (X_ok _) (H := fun k _ => some (hj57 p D i k)) [0, 1, 7, 8] (fun k => k ≤ p.length ∧ nxN p D i k) (st57 p D i) (fun k => p.length - k) (ex57 p D i) 150 fun (k : Nat) hk => ?_
 have hL := fun hk => loop57b p D i k h hD hk (bodyR (X [e29]).m0 (ex57 p D i) (RetR (X [e29]) true false [.tmp 6] [.bool (nxB p D i)] []))
 refine of_eq (q := True ∧ True ∧ True ∧ True ∧ ((k : Int) < (p.length : Int) → True ∧ True ∧ ((0 : Int) ≤ (k : Int) ∧ (k : Int) < bitsOf .i64) ∧ ¬(2 : Int) = 0 ∧ True ∧ (((D : Int) / (2 : Int) ^ k).tmod (2 : Int) = 0 → True ∧ inR .i64 ((k : Int) + 1) ∧ True ∧ ∃ (y : Nat), ((y ≤ p.length ∧ nxN p D i y) ∧ p.length - y < p.length - k) ∧ (p = p ∧ (D : Int) = (D : Int) ∧ p.getD i (0 : Int) = p.getD i (0 : Int) ∧ (k : Int) + 1 = (y : Int) ∧ True) ∧ True) ∧ (¬((D : Int) / (2 : Int) ^ k).tmod (2 : Int) = 0 → True ∧ True ∧ LoopOK (X [e29]) L57_2 (hj57 p D i k) (bodyR (X [e29]).m0 (ex57 p D i) (RetR (X [e29]) true false [ResultVar.tmp (6 : Tmp)] [AV.bool (nxB p D i)] [])) ∧ (∃ (y : Nat), y ≤ p.length ∧ (p = p ∧ (D : Int) = (D : Int) ∧ p.getD i (0 : Int) = p.getD i (0 : Int) ∧ (k : Int) = (k : Int) ∧ false = fnd p D (p.getD i (0 : Int)).toNat (p.getD k (0 : Int)).toNat y ∧ (0 : Int) = (y : Int) ∧ True) ∧ True) ∧ (∀ (y : Unit), True → True ∧ True ∧ ((!fnd p D (p.getD i (0 : Int)).toNat (p.getD k (0 : Int)).toNat p.length) = true → True ∧ True ∧ (false = nxB p D i ∧ True) ∧ True) ∧ ((!fnd p D (p.getD i (0 : Int)).toNat (p.getD k (0 : Int)).toNat p.length) = false → True ∧ inR .i64 ((k : Int) + 1) ∧ True ∧ ∃ (y : Nat), ((y ≤ p.length ∧ nxN p D i y) ∧ p.length - y < p.length - k) ∧ (p = p ∧ (D : Int) = (D : Int) ∧ p.getD i (0 : Int) = p.getD i (0 : Int) ∧ (k : Int) + 1 = (y : Int) ∧ True) ∧ True)) ∧ True)) ∧ (¬(k : Int) < (p.length : Int) → ∃ (y : Unit), nxB p D i = true ∧ True ∧ True)) (by kernel_rfl) ?_
 simp only [zz]
 obtain ⟨hk, hf⟩ := hk
 have hl := h.l
 rw [bit_tmod]
 refine ⟨fun hlt => ?_, fun hlt => decide_eq_true (by rw [show p.length = k by omega]; exact hf)⟩
 have hn : (D / 2 ^ k % 2 = 1 → fnd p D (p.getD i 0).toNat (p.getD k 0).toNat p.length = true) → inR .i64 ((k : Int) + 1) ∧ ∃ y : Nat, ((y ≤ p.length ∧ nxN p D i y) ∧ p.length - y < p.length - k) ∧ (k : Int) + 1 = (y : Int) := fun hc => ⟨by simp only [inR]; omega, k + 1, ⟨⟨by omega, fun j hj hb => by
   rcases Nat.lt_or_ge j k with h1 | h1
   · exact hf j h1 hb
   · have : j = k := by omega
     subst this; exact hc hb⟩, by omega⟩, by omega⟩
 refine ⟨⟨by omega, by simp only [bitsOf]; omega⟩, by decide, fun hb => hn fun hc => by omega, fun hb => ⟨hL (by omega), ⟨0, Nat.zero_le _, rfl, rfl⟩, fun _ _ => ⟨fun hx => ?_, fun hx => hn fun _ => by simpa using hx⟩⟩⟩
 refine (decide_eq_false fun hx2 => ?_).symm
 rw [hx2 k (by omega) (by omega)] at hx
 cases hx
theorem call57 (p : List Int) (D i : Nat) (h : ok10 p) (hD : D < 1024) (hi : i < p.length) : GCall Try.prog gl 57 true [.sl I64 p, .int .i64 D, .int .i64 i] [] [.bool (nxB p D i)] [] := by
 refine gcall_of (X := X [e29]) (X_ok [e29]) (f := 57) (fn := Try.f57) (c := bodyOf Try.f57) (by kernel_rfl) (by kernel_rfl) (view := false) (rvs := [.tmp 6]) (by kernel_rfl) (H := (H57 p D i)) 80 (by kernel_rfl) ?_
 have hL := loop57 p D i h hD hi
 refine of_eq (q := True ∧ True ∧ True ∧ idxPre (i : Int) p.length ∧ True ∧ True ∧ True ∧ LoopOK (X [e29]) L57_0 { J := chk (0 : Nat) [(0 : Nat), (1 : Nat), (7 : Nat), (8 : Nat)] (fun (k : Nat) => k ≤ p.length ∧ nxN p D i k) (st57 p D i), exits := List.map (fun (x : List Nat × Ex) => x.snd) (ex57 p D i) } (RetR (X [e29]) true false [ResultVar.tmp (6 : Tmp)] [AV.bool (nxB p D i)] []) ∧ (∃ (y : Nat), (y ≤ p.length ∧ nxN p D i y) ∧ (p = p ∧ (D : Int) = (D : Int) ∧ p.getD i (0 : Int) = p.getD i (0 : Int) ∧ (0 : Int) = (y : Int) ∧ True) ∧ True) ∧ (∀ (y : Unit), nxB p D i = true → True ∧ True ∧ (true = nxB p D i ∧ True) ∧ True) ∧ True) (by kernel_rfl) ?_
 simp only [zz]
 exact ⟨idx_nat hi, hL, ⟨0, ⟨Nat.zero_le _, fun j hj => absurd hj (Nat.not_lt_zero j)⟩, rfl⟩, fun _ h => h.symm⟩
structure ok57 (p : List Int) (D i : Int) : Prop where
 h : ok10 p
 D : 0 ≤ D ∧ D < 1024
 i : 0 ≤ i ∧ i < p.length
theorem call57' (p : List Int) (D i : Int) (h : ok57 p D i) : GCall Try.prog gl 57 true [.sl I64 p, .int .i64 D, .int .i64 i] [] [.bool (nxB p D.toNat i.toNat)] [] := by
 have h1 := h.D
 have h2 := h.i
 have := call57 p D.toNat i.toNat h.h (by omega) (by omega)
 rwa [Int.toNat_of_nonneg h1.1, Int.toNat_of_nonneg h2.1] at this
def e57 : Entry Try.prog gl := entry3 57 ⟨Try.f57, by kernel_rfl, by kernel_rfl, by kernel_rfl⟩ SI I64 I64 (fun p (D i : Int) => ok57 p D i) true (fun p (D i : Int) => [.bool (nxB p D.toNat i.toNat)]) (fun _ _ _ => []) (call57')
def sgB (p : List Int) (i : Int) : Bool := decide (0 ≤ i ∧ i < p.length)
/-- The set of the first k pieces of an order, if they are a shelling so far. -/
def sgK (p o : List Int) : Nat → Option Nat
 | 0 => some 0
 | k + 1 => (sgK p o k).bind fun D => if sgB p (o.getD k 0) = true ∧ D / 2 ^ (o.getD k 0).toNat % 2 = 0 ∧ nxB p D (o.getD k 0).toNat = true then some (D ||| 2 ^ (o.getD k 0).toNat) else none
def sgD (p o : List Int) (k : Nat) : Nat := (sgK p o k).getD 0
def sgR (p o : List Int) : Bool := (sgK p o o.length).isSome && decide (o.length = p.length) && puB p
theorem sg_some {p o : List Int} {k : Nat} (h : (sgK p o k).isSome = true) : sgK p o k = some (sgD p o k) := by
 unfold sgD
 cases hm : sgK p o k with
 | none => rw [hm] at h; cases h
 | some q => rfl
theorem sg_none {p o : List Int} {k : Nat} (h : sgK p o k = none) : ∀ j, sgK p o (k + j) = none
 | 0 => h
 | j + 1 => by rw [show k + (j + 1) = k + j + 1 by omega, sgK, sg_none h j]; try rfl
theorem sg_bad {p o : List Int} {k : Nat} (hk : k < o.length) (h : sgK p o (k + 1) = none) : sgR p o = false := by
 have := sg_none h (o.length - (k + 1))
 rw [show k + 1 + (o.length - (k + 1)) = o.length by omega] at this
 unfold sgR; rw [this]; try rfl
theorem sg_lt {p o : List Int} (hl : p.length ≤ 10) : ∀ {k : Nat} {D : Nat}, sgK p o k = some D → D < 1024
 | 0, D, h => by injection h with h; omega
 | k + 1, D, h => by
   rw [sgK] at h
   cases hm : sgK p o k with
   | none => rw [hm] at h; cases h
   | some q =>
     rw [hm] at h
     simp only [Option.bind_some] at h
     split at h
     · rename_i hc
       injection h with h; subst h
       have hb : 0 ≤ o.getD k 0 ∧ o.getD k 0 < p.length := of_decide_eq_true hc.1
       exact Nat.or_lt_two_pow (n := 10) (sg_lt hl hm) (Nat.pow_lt_pow_right (by decide) (by omega))
     · cases h
noncomputable def L17_0 : Code := lp (bodyOf Try.f17) 0
def st17 (p o : List Int) (k : Nat) : St := ⟨.sl I64 p :: .sl I64 o :: dd 3 ++ .int .i64 (sgD p o k) :: .int .i64 k :: dd 46, []⟩
def in17 (p o : List Int) (k : Nat) : Prop := k ≤ o.length ∧ (sgK p o k).isSome = true
def ex17 (p o : List Int) : List (List Nat × Ex) := [([0, 1], ⟨0, Unit, fun _ => (sgK p o o.length).isSome = true, fun _ => ⟨.sl I64 p :: .sl I64 o :: dd 51, []⟩⟩)]
noncomputable def H17 (p o : List Int) : Nat → Option Hint := fun _ => some ⟨chk 0 [0, 1, 5, 6] (in17 p o) (st17 p o), (ex17 p o).map (·.2)⟩
theorem loop17 (p o : List Int) (h : ok10 p) (ho : o.length < 1000000000000000) : LoopOK (X [e57, e58]) L17_0 ⟨chk 0 [0, 1, 5, 6] (in17 p o) (st17 p o), (ex17 p o).map (·.2)⟩ (RetR (X [e57, e58]) true false [.tmp 4] [.bool (sgR p o)] []) := by
 refine loop_ok (X_ok _) (H := fun _ _ => none) [0, 1, 5, 6] (in17 p o) (st17 p o) (fun k => o.length - k) (ex17 p o) 150 fun (k : Nat) hk => ?_
 refine of_eq (q := True ∧ True ∧ True ∧ True ∧ ((k : Int) < (o.length : Int) → True ∧ True ∧ idxPre (k : Int) o.length ∧ True ∧ True ∧ True ∧ True ∧ True ∧ (o.getD k (0 : Int) < 0 → True ∧ True ∧ True ∧ True ∧ True ∧ True ∧ True ∧ (false = sgR p o ∧ True) ∧ True) ∧ (¬o.getD k (0 : Int) < 0 → True ∧ True ∧ True ∧ True ∧ True ∧ True ∧ ((p.length : Int) ≤ o.getD k (0 : Int) → True ∧ True ∧ True ∧ True ∧ True ∧ (false = sgR p o ∧ True) ∧ True) ∧ (¬(p.length : Int) ≤ o.getD k (0 : Int) → True ∧ True ∧ ((0 : Int) ≤ o.getD k (0 : Int) ∧ o.getD k (0 : Int) < bitsOf .i64) ∧ ¬(2 : Int) = 0 ∧ True ∧ True ∧ True ∧ (((↑(sgD p o k) : Int) / (2 : Int) ^ Int.toNat (o.getD k (0 : Int))).tmod (2 : Int) = 1 → True ∧ True ∧ True ∧ (false = sgR p o ∧ True) ∧ True) ∧ (¬((↑(sgD p o k) : Int) / (2 : Int) ^ Int.toNat (o.getD k (0 : Int))).tmod (2 : Int) = 1 → True ∧ True ∧ True ∧ (ok57 p (↑(sgD p o k) : Int) (o.getD k (0 : Int)) ∧ True) ∧ True ∧ True ∧ ((!nxB p (sgD p o k) (Int.toNat (o.getD k (0 : Int)))) = true → True ∧ True ∧ (false = sgR p o ∧ True) ∧ True) ∧ ((!nxB p (sgD p o k) (Int.toNat (o.getD k (0 : Int)))) = false → True ∧ True ∧ (((0 : Int) ≤ o.getD k (0 : Int) ∧ o.getD k (0 : Int) < bitsOf .i64) ∧ (-9223372036854775808 : Int) ≤ 1 * 2 ^ Int.toNat (o.getD k (0 : Int)) ∧ (1 : Int) * 2 ^ Int.toNat (o.getD k (0 : Int)) ≤ 9223372036854775807) ∧ True ∧ True ∧ True ∧ inR .i64 ((k : Int) + 1) ∧ True ∧ ∃ (y : Nat), (in17 p o y ∧ o.length - y < o.length - k) ∧ (p = p ∧ o = o ∧ bOr .i64 (↑(sgD p o k) : Int) ((1 : Int) * 2 ^ Int.toNat (o.getD k (0 : Int))) = (↑(sgD p o y) : Int) ∧ (k : Int) + 1 = (y : Int) ∧ True) ∧ True))))) ∧ (¬(k : Int) < (o.length : Int) → ∃ (y : Unit), (sgK p o o.length).isSome = true ∧ (p = p ∧ o = o ∧ True) ∧ True)) (by kernel_rfl) ?_
 simp only [zz]
 obtain ⟨k1, k2⟩ := hk
 have hl := h.l
 have hs := sg_some k2
 have hD := sg_lt hl hs
 refine ⟨fun hlt => ?_, fun hlt => by rw [show o.length = k by omega]; exact k2⟩
 have hst : sgK p o (k + 1) = if sgB p (o.getD k 0) = true ∧ sgD p o k / 2 ^ (o.getD k 0).toNat % 2 = 0 ∧ nxB p (sgD p o k) (o.getD k 0).toNat = true then some (sgD p o k ||| 2 ^ (o.getD k 0).toNat) else none := by rw [sgK, hs]; try rfl
 have hbad : ¬ (sgB p (o.getD k 0) = true ∧ sgD p o k / 2 ^ (o.getD k 0).toNat % 2 = 0 ∧ nxB p (sgD p o k) (o.getD k 0).toNat = true) → false = sgR p o := fun hc => by
   rw [if_neg hc] at hst
   exact (sg_bad (by omega) hst).symm
 rw [bit_tmod]
 refine ⟨idx_nat (by omega), fun hx => hbad fun hc => ?_, fun hx => ⟨fun hx2 => hbad fun hc => ?_, fun hx2 => ⟨⟨by omega, by simp only [bitsOf]; omega⟩, by decide, fun hb => hbad fun hc => ?_, fun hb => ⟨⟨h, ⟨by omega, by omega⟩, by omega, by omega⟩, fun hn => hbad fun hc => ?_, fun hn => ?_⟩⟩⟩⟩
 · have : 0 ≤ o.getD k 0 ∧ o.getD k 0 < p.length := of_decide_eq_true hc.1
   omega
 · have : 0 ≤ o.getD k 0 ∧ o.getD k 0 < p.length := of_decide_eq_true hc.1
   omega
 · have := hc.2.1
   omega
 · rw [hc.2.2] at hn; cases hn
 · have hb2 := or_pow10 hD (k := (o.getD k 0).toNat) (by omega)
   rw [if_pos ⟨decide_eq_true ⟨by omega, by omega⟩, by omega, by simpa using hn⟩] at hst
   exact ⟨⟨⟨by omega, by simp only [bitsOf]; omega⟩, by omega, by omega⟩, by simp only [inR]; omega, k + 1, ⟨⟨by omega, by rw [hst]; rfl⟩, by omega⟩, by rw [hb2.1]; unfold sgD; rw [hst]; rfl, by omega⟩
theorem call17 (p o : List Int) (h : ok10 p) (ho : o.length < 1000000000000000) : GCall Try.prog gl 17 true [.sl I64 p, .sl I64 o] [] [.bool (sgR p o)] [] := by
 refine gcall_of (X := X [e57, e58]) (X_ok [e57, e58]) (f := 17) (fn := Try.f17) (c := bodyOf Try.f17) (by kernel_rfl) (by kernel_rfl) (view := false) (rvs := [.tmp 4]) (by kernel_rfl) (H := (H17 p o)) 80 (by kernel_rfl) ?_
 have hL := loop17 p o h ho
 refine of_eq (q := True ∧ True ∧ True ∧ LoopOK (X [e57, e58]) L17_0 { J := chk (0 : Nat) [(0 : Nat), (1 : Nat), (5 : Nat), (6 : Nat)] (in17 p o) (st17 p o), exits := List.map (fun (x : List Nat × Ex) => x.snd) (ex17 p o) } (RetR (X [e57, e58]) true false [ResultVar.tmp (4 : Tmp)] [AV.bool (sgR p o)] []) ∧ (∃ (y : Nat), in17 p o y ∧ (p = p ∧ o = o ∧ (0 : Int) = (↑(sgD p o y) : Int) ∧ (0 : Int) = (y : Int) ∧ True) ∧ True) ∧ (∀ (y : Unit), (sgK p o o.length).isSome = true → True ∧ True ∧ True ∧ True ∧ True ∧ True ∧ ((o.length : Int) = (p.length : Int) → True ∧ (ok10 p ∧ True) ∧ True ∧ True ∧ True ∧ (puB p = sgR p o ∧ True) ∧ True) ∧ (¬(o.length : Int) = (p.length : Int) → True ∧ True ∧ True ∧ (false = sgR p o ∧ True) ∧ True)) ∧ True) (by kernel_rfl) ?_
 simp only [zz]
 refine ⟨hL, ⟨0, ⟨Nat.zero_le _, rfl⟩, rfl, rfl⟩, fun _ hs => ⟨fun he => ⟨h, ?_⟩, fun he => ?_⟩⟩
 · unfold sgR; rw [hs, decide_eq_true (show o.length = p.length by omega)]; simp
 · unfold sgR; rw [decide_eq_false (show ¬ o.length = p.length by omega)]; simp
def e17 : Entry Try.prog gl := entry2 17 ⟨Try.f17, by kernel_rfl, by kernel_rfl, by kernel_rfl⟩ SI SI (fun p o => ok10 p ∧ (o : List Int).length < 1000000000000000) true (fun p o => [.bool (sgR p o)]) (fun _ _ => []) (fun p o h => call17 p o h.1 h.2)
end Go.Am.Sh

/- Shells: the reference's Check. -/
namespace Go.Am.Sh
open Go Go.Am Go.Proofs
theorem sub_and {a b : Int} (ha : 0 ≤ a ∧ a < 64) (hb : 0 ≤ b ∧ b < 64) : (bAnd .i64 a b = a) ↔ sub a.toNat b.toNat = true := by
 have : bAnd .i64 a b = ((a.toNat &&& b.toNat : Nat) : Int) := by rw [← bAnd_nat (by omega) (by omega), Int.toNat_of_nonneg ha.1, Int.toNat_of_nonneg hb.1]
 rw [this]
 unfold sub
 constructor
 · intro h
   have : a.toNat &&& b.toNat = a.toNat := by omega
   rw [this]; exact Nat.beq_refl _
 · intro h
   have := Nat.eq_of_beq_eq_true h
   omega
end Go.Am.Sh

/- Shells: the law of the moment complexes. -/
namespace Go.Am.Sh
open Go Go.Am Go.Proofs
/-- How many of a list have all of a set. -/
def cntM (x : Nat) (p : List Int) (j : Nat) : Nat := ((p.take j).filter fun s => decide (mns x s.toNat = 0)).length
structure mf (n d : Int) : Prop where
 m : momOk n d
 len : 1 ≤ (momL n d).length ∧ (momL n d).length ≤ 10
 hl : ((hsL (momL n d)).length : Int) = d + 1
 hs : ∀ k, k < d.toNat + 1 → (hsL (momL n d)).getD k 0 = (hsL (momL n d)).getD (d.toNat - k) 0
 sh : shB (momL n d) = true
 sg : sgR (momL n d) (shL (momL n d)) = true
 sl : (shL (momL n d)).length ≤ 10
 two : ∀ k, k < (fcs (momL n d)).length → (pc ((fcs (momL n d)).getD k 0).toNat : Int) = d - 1 → cntM ((fcs (momL n d)).getD k 0).toNat (momL n d) (momL n d).length = 2
instance (n d : Int) : Decidable (momOk n d) := by unfold momOk; infer_instance
theorem u64_nn (n : Int) : 0 ≤ modU .u64 n := by
 show 0 ≤ n % 18446744073709551616
 omega
end Go.Am.Sh

/- Shells: the reference's Pieces. -/
namespace Go.Am.Sh
open Go Go.Am Go.Proofs
/-- Set x is one of the first k of a list. -/
def inK (s : List Int) (x : Nat) : Nat → Bool
 | 0 => false
 | k + 1 => inK s x k || decide (s.getD k 0 = x)
/-- Set x is no part of another of the first k. -/
def mxS (s : List Int) (x : Nat) : Nat → Bool
 | 0 => true
 | k + 1 => mxS s x k && (decide (s.getD k 0 = x) || !sub x (s.getD k 0).toNat)
def pieB (s : List Int) (x : Nat) : Bool := inK s x s.length && mxS s x s.length
def pieL (s : List Int) : List Int := trueN (pieB s) 64
structure ok22 (s : List Int) : Prop where
 h : okL s
 l : s.length < 1000000
noncomputable def L22_0 : Code := lp (bodyOf Try.f22) 0
noncomputable def L22_2 : Code := lp (bodyOf Try.f22) 2
def sz22 (s : List Int) (k : Nat) : St := ⟨.sl I64 s :: dd 2 ++ nl :: .int .i64 k :: dd 49, []⟩
def jz22 (s : List Int) (k i : Nat) : St := ⟨.sl I64 s :: dd 2 ++ nl :: .int .i64 k :: .bool (inK s k i) :: .bool (mxS s k i) :: .int .i64 i :: dd 46, []⟩
def ejz22 (s : List Int) (k : Nat) : List (List Nat × Ex) := [([0, 3, 4, 5, 6], ⟨2, Unit, fun _ => True, fun _ => ⟨.sl I64 s :: dd 2 ++ nl :: .int .i64 k :: .bool (inK s k s.length) :: .bool (mxS s k s.length) :: dd 47, []⟩⟩)]
def hz22 (s : List Int) (k : Nat) : Hint := ⟨chk 0 [0, 3, 4, 5, 6, 7] (fun i => i ≤ s.length) (jz22 s k), (ejz22 s k).map (·.2)⟩
theorem loop22z (s : List Int) (k : Nat) (h : ok22 s) (hk : k < 64) (R : Exit → St → Prop) : LoopOK (X [e63]) L22_2 (hz22 s k) R := by
 refine loop_ok (X_ok _) (H := fun _ _ => none) [0, 3, 4, 5, 6, 7] (fun i => i ≤ s.length) (jz22 s k) (fun i => s.length - i) (ejz22 s k) 150 fun (i : Nat) hi => ?_
 refine of_eq (q := True ∧ True ∧ True ∧ True ∧ ((i : Int) < (s.length : Int) → True ∧ True ∧ (inK s k i = true → True ∧ True ∧ True ∧ True ∧ (mxS s k i = true → True ∧ True ∧ idxPre (i : Int) s.length ∧ True ∧ True ∧ True ∧ True ∧ (s.getD i (0 : Int) = (k : Int) → True ∧ True ∧ True ∧ True ∧ inR .i64 ((i : Int) + 1) ∧ True ∧ ∃ (y : Nat), (y ≤ s.length ∧ s.length - y < s.length - i) ∧ (s = s ∧ True ∧ (k : Int) = (k : Int) ∧ true = inK s k y ∧ true = mxS s k y ∧ (i : Int) + 1 = (y : Int) ∧ True) ∧ True) ∧ (¬s.getD i (0 : Int) = (k : Int) → True ∧ True ∧ True ∧ idxPre (i : Int) s.length ∧ True ∧ ((((0 : Int) ≤ (k : Int) ∧ (k : Int) < 64) ∧ (0 : Int) ≤ s.getD i (0 : Int) ∧ s.getD i (0 : Int) < 64) ∧ True) ∧ True ∧ True ∧ True ∧ True ∧ True ∧ inR .i64 ((i : Int) + 1) ∧ True ∧ ∃ (y : Nat), (y ≤ s.length ∧ s.length - y < s.length - i) ∧ (s = s ∧ True ∧ (k : Int) = (k : Int) ∧ true = inK s k y ∧ (!sub k (Int.toNat (s.getD i (0 : Int)))) = mxS s k y ∧ (i : Int) + 1 = (y : Int) ∧ True) ∧ True)) ∧ (mxS s k i = false → True ∧ True ∧ True ∧ inR .i64 ((i : Int) + 1) ∧ True ∧ ∃ (y : Nat), (y ≤ s.length ∧ s.length - y < s.length - i) ∧ (s = s ∧ True ∧ (k : Int) = (k : Int) ∧ true = inK s k y ∧ false = mxS s k y ∧ (i : Int) + 1 = (y : Int) ∧ True) ∧ True)) ∧ (inK s k i = false → True ∧ True ∧ idxPre (i : Int) s.length ∧ True ∧ True ∧ True ∧ True ∧ True ∧ True ∧ True ∧ (mxS s k i = true → True ∧ True ∧ idxPre (i : Int) s.length ∧ True ∧ True ∧ True ∧ True ∧ (s.getD i (0 : Int) = (k : Int) → True ∧ True ∧ True ∧ True ∧ inR .i64 ((i : Int) + 1) ∧ True ∧ ∃ (y : Nat), (y ≤ s.length ∧ s.length - y < s.length - i) ∧ (s = s ∧ True ∧ (k : Int) = (k : Int) ∧ decide (s.getD i (0 : Int) = (k : Int)) = inK s k y ∧ true = mxS s k y ∧ (i : Int) + 1 = (y : Int) ∧ True) ∧ True) ∧ (¬s.getD i (0 : Int) = (k : Int) → True ∧ True ∧ True ∧ idxPre (i : Int) s.length ∧ True ∧ ((((0 : Int) ≤ (k : Int) ∧ (k : Int) < 64) ∧ (0 : Int) ≤ s.getD i (0 : Int) ∧ s.getD i (0 : Int) < 64) ∧ True) ∧ True ∧ True ∧ True ∧ True ∧ True ∧ inR .i64 ((i : Int) + 1) ∧ True ∧ ∃ (y : Nat), (y ≤ s.length ∧ s.length - y < s.length - i) ∧ (s = s ∧ True ∧ (k : Int) = (k : Int) ∧ decide (s.getD i (0 : Int) = (k : Int)) = inK s k y ∧ (!sub k (Int.toNat (s.getD i (0 : Int)))) = mxS s k y ∧ (i : Int) + 1 = (y : Int) ∧ True) ∧ True)) ∧ (mxS s k i = false → True ∧ True ∧ True ∧ inR .i64 ((i : Int) + 1) ∧ True ∧ ∃ (y : Nat), (y ≤ s.length ∧ s.length - y < s.length - i) ∧ (s = s ∧ True ∧ (k : Int) = (k : Int) ∧ decide (s.getD i (0 : Int) = (k : Int)) = inK s k y ∧ false = mxS s k y ∧ (i : Int) + 1 = (y : Int) ∧ True) ∧ True))) ∧ (¬(i : Int) < (s.length : Int) → ∃ (y : Unit), True ∧ (s = s ∧ True ∧ (k : Int) = (k : Int) ∧ inK s k i = inK s k s.length ∧ mxS s k i = mxS s k s.length ∧ True) ∧ True)) (by kernel_rfl) ?_
 simp only [zz]
 have hi : i ≤ s.length := hi
 obtain ⟨q1, q2⟩ := okL_get h.h i
 have hl := h.l
 refine ⟨fun hlt => ?_, fun hlt => by rw [show s.length = i by omega]; exact ⟨rfl, rfl⟩⟩
 have hx : idxPre (i : Int) s.length := idx_nat (by omega)
 have hn : ∀ b c, b = inK s k (i + 1) → c = mxS s k (i + 1) → inR .i64 ((i : Int) + 1) ∧ ∃ y : Nat, (y ≤ s.length ∧ s.length - y < s.length - i) ∧ b = inK s k y ∧ c = mxS s k y ∧ (i : Int) + 1 = (y : Int) := fun b c hb hc => ⟨by simp only [inR]; omega, i + 1, by omega, hb, hc, by omega⟩
 have hr : (0 ≤ (k : Int) ∧ (k : Int) < 64) ∧ 0 ≤ s.getD i 0 ∧ s.getD i 0 < 64 := ⟨⟨by omega, by omega⟩, q1, q2⟩
 refine ⟨fun hI => ⟨fun hM => ⟨hx, fun he => hn _ _ ?_ ?_, fun he => ⟨hx, hr, hn _ _ ?_ ?_⟩⟩, fun hM => hn _ _ ?_ ?_⟩, fun hI => ⟨hx, fun hM => ⟨hx, fun he => hn _ _ ?_ ?_, fun he => ⟨hx, hr, hn _ _ ?_ ?_⟩⟩, fun hM => hn _ _ ?_ ?_⟩⟩
 · rw [inK, hI]; try rfl
 · rw [mxS, hM, decide_eq_true he]; try rfl
 · rw [inK, hI]; try rfl
 · rw [mxS, hM, decide_eq_false he]; try rfl
 · rw [inK, hI]; try rfl
 · rw [mxS, hM]; try rfl
 · rw [inK, hI]; try rfl
 · rw [mxS, hM, decide_eq_true he]; try rfl
 · rw [inK, hI]; try rfl
 · rw [mxS, hM, decide_eq_false he]; try rfl
 · rw [inK, hI]; try rfl
 · rw [mxS, hM]; try rfl
def st22 (s : List Int) (k : Nat) : St := ⟨.sl I64 s :: dd 2 ++ .own 0 0 :: .int .i64 k :: dd 49, [.sc 0 3 I64 (trueN (pieB s) k)]⟩
def jt22 (s : List Int) (k i : Nat) : St := ⟨.sl I64 s :: dd 2 ++ .own 0 0 :: .int .i64 k :: .bool (inK s k i) :: .bool (mxS s k i) :: .int .i64 i :: dd 46, [.sc 0 3 I64 (trueN (pieB s) k)]⟩
def ejt22 (s : List Int) (k : Nat) : List (List Nat × Ex) := [([0, 3, 4, 5, 6], ⟨2, Unit, fun _ => True, fun _ => ⟨.sl I64 s :: dd 2 ++ .own 0 0 :: .int .i64 k :: .bool (inK s k s.length) :: .bool (mxS s k s.length) :: dd 47, [.sc 0 3 I64 (trueN (pieB s) k)]⟩⟩)]
def ht22 (s : List Int) (k : Nat) : Hint := ⟨chk 0 [0, 3, 4, 5, 6, 7] (fun i => i ≤ s.length) (jt22 s k), (ejt22 s k).map (·.2)⟩
theorem loop22t (s : List Int) (k : Nat) (h : ok22 s) (hk : k < 64) (R : Exit → St → Prop) : LoopOK (X [e63]) L22_2 (ht22 s k) R := by
 refine loop_ok (X_ok _) (H := fun _ _ => none) [0, 3, 4, 5, 6, 7] (fun i => i ≤ s.length) (jt22 s k) (fun i => s.length - i) (ejt22 s k) 150 fun (i : Nat) hi => ?_
 refine of_eq (q := True ∧ True ∧ True ∧ True ∧ ((i : Int) < (s.length : Int) → True ∧ True ∧ (inK s k i = true → True ∧ True ∧ True ∧ True ∧ (mxS s k i = true → True ∧ True ∧ idxPre (i : Int) s.length ∧ True ∧ True ∧ True ∧ True ∧ (s.getD i (0 : Int) = (k : Int) → True ∧ True ∧ True ∧ True ∧ inR .i64 ((i : Int) + 1) ∧ True ∧ ∃ (y : Nat), (y ≤ s.length ∧ s.length - y < s.length - i) ∧ (s = s ∧ True ∧ (k : Int) = (k : Int) ∧ true = inK s k y ∧ true = mxS s k y ∧ (i : Int) + 1 = (y : Int) ∧ True) ∧ trueN (pieB s) k = trueN (pieB s) k ∧ True) ∧ (¬s.getD i (0 : Int) = (k : Int) → True ∧ True ∧ True ∧ idxPre (i : Int) s.length ∧ True ∧ ((((0 : Int) ≤ (k : Int) ∧ (k : Int) < 64) ∧ (0 : Int) ≤ s.getD i (0 : Int) ∧ s.getD i (0 : Int) < 64) ∧ True) ∧ True ∧ True ∧ True ∧ True ∧ True ∧ inR .i64 ((i : Int) + 1) ∧ True ∧ ∃ (y : Nat), (y ≤ s.length ∧ s.length - y < s.length - i) ∧ (s = s ∧ True ∧ (k : Int) = (k : Int) ∧ true = inK s k y ∧ (!sub k (Int.toNat (s.getD i (0 : Int)))) = mxS s k y ∧ (i : Int) + 1 = (y : Int) ∧ True) ∧ trueN (pieB s) k = trueN (pieB s) k ∧ True)) ∧ (mxS s k i = false → True ∧ True ∧ True ∧ inR .i64 ((i : Int) + 1) ∧ True ∧ ∃ (y : Nat), (y ≤ s.length ∧ s.length - y < s.length - i) ∧ (s = s ∧ True ∧ (k : Int) = (k : Int) ∧ true = inK s k y ∧ false = mxS s k y ∧ (i : Int) + 1 = (y : Int) ∧ True) ∧ trueN (pieB s) k = trueN (pieB s) k ∧ True)) ∧ (inK s k i = false → True ∧ True ∧ idxPre (i : Int) s.length ∧ True ∧ True ∧ True ∧ True ∧ True ∧ True ∧ True ∧ (mxS s k i = true → True ∧ True ∧ idxPre (i : Int) s.length ∧ True ∧ True ∧ True ∧ True ∧ (s.getD i (0 : Int) = (k : Int) → True ∧ True ∧ True ∧ True ∧ inR .i64 ((i : Int) + 1) ∧ True ∧ ∃ (y : Nat), (y ≤ s.length ∧ s.length - y < s.length - i) ∧ (s = s ∧ True ∧ (k : Int) = (k : Int) ∧ decide (s.getD i (0 : Int) = (k : Int)) = inK s k y ∧ true = mxS s k y ∧ (i : Int) + 1 = (y : Int) ∧ True) ∧ trueN (pieB s) k = trueN (pieB s) k ∧ True) ∧ (¬s.getD i (0 : Int) = (k : Int) → True ∧ True ∧ True ∧ idxPre (i : Int) s.length ∧ True ∧ ((((0 : Int) ≤ (k : Int) ∧ (k : Int) < 64) ∧ (0 : Int) ≤ s.getD i (0 : Int) ∧ s.getD i (0 : Int) < 64) ∧ True) ∧ True ∧ True ∧ True ∧ True ∧ True ∧ inR .i64 ((i : Int) + 1) ∧ True ∧ ∃ (y : Nat), (y ≤ s.length ∧ s.length - y < s.length - i) ∧ (s = s ∧ True ∧ (k : Int) = (k : Int) ∧ decide (s.getD i (0 : Int) = (k : Int)) = inK s k y ∧ (!sub k (Int.toNat (s.getD i (0 : Int)))) = mxS s k y ∧ (i : Int) + 1 = (y : Int) ∧ True) ∧ trueN (pieB s) k = trueN (pieB s) k ∧ True)) ∧ (mxS s k i = false → True ∧ True ∧ True ∧ inR .i64 ((i : Int) + 1) ∧ True ∧ ∃ (y : Nat), (y ≤ s.length ∧ s.length - y < s.length - i) ∧ (s = s ∧ True ∧ (k : Int) = (k : Int) ∧ decide (s.getD i (0 : Int) = (k : Int)) = inK s k y ∧ false = mxS s k y ∧ (i : Int) + 1 = (y : Int) ∧ True) ∧ trueN (pieB s) k = trueN (pieB s) k ∧ True))) ∧ (¬(i : Int) < (s.length : Int) → ∃ (y : Unit), True ∧ (s = s ∧ True ∧ (k : Int) = (k : Int) ∧ inK s k i = inK s k s.length ∧ mxS s k i = mxS s k s.length ∧ True) ∧ trueN (pieB s) k = trueN (pieB s) k ∧ True)) (by kernel_rfl) ?_
 simp only [zz]
 have hi : i ≤ s.length := hi
 obtain ⟨q1, q2⟩ := okL_get h.h i
 have hl := h.l
 refine ⟨fun hlt => ?_, fun hlt => by rw [show s.length = i by omega]; exact ⟨rfl, rfl⟩⟩
 have hx : idxPre (i : Int) s.length := idx_nat (by omega)
 have hn : ∀ b c, b = inK s k (i + 1) → c = mxS s k (i + 1) → inR .i64 ((i : Int) + 1) ∧ ∃ y : Nat, (y ≤ s.length ∧ s.length - y < s.length - i) ∧ b = inK s k y ∧ c = mxS s k y ∧ (i : Int) + 1 = (y : Int) := fun b c hb hc => ⟨by simp only [inR]; omega, i + 1, by omega, hb, hc, by omega⟩
 have hr : (0 ≤ (k : Int) ∧ (k : Int) < 64) ∧ 0 ≤ s.getD i 0 ∧ s.getD i 0 < 64 := ⟨⟨by omega, by omega⟩, q1, q2⟩
 refine ⟨fun hI => ⟨fun hM => ⟨hx, fun he => hn _ _ ?_ ?_, fun he => ⟨hx, hr, hn _ _ ?_ ?_⟩⟩, fun hM => hn _ _ ?_ ?_⟩, fun hI => ⟨hx, fun hM => ⟨hx, fun he => hn _ _ ?_ ?_, fun he => ⟨hx, hr, hn _ _ ?_ ?_⟩⟩, fun hM => hn _ _ ?_ ?_⟩⟩
 · rw [inK, hI]; try rfl
 · rw [mxS, hM, decide_eq_true he]; try rfl
 · rw [inK, hI]; try rfl
 · rw [mxS, hM, decide_eq_false he]; try rfl
 · rw [inK, hI]; try rfl
 · rw [mxS, hM]; try rfl
 · rw [inK, hI]; try rfl
 · rw [mxS, hM, decide_eq_true he]; try rfl
 · rw [inK, hI]; try rfl
 · rw [mxS, hM, decide_eq_false he]; try rfl
 · rw [inK, hI]; try rfl
 · rw [mxS, hM]; try rfl
noncomputable def fm22 (s : List Int) : List Fam := [⟨Nat, fun k => k ≤ 64 ∧ trueN (pieB s) k = [], sz22 s, fun k => 64 - k, fun k _ => some (hz22 s k)⟩, ⟨Nat, fun k => k ≤ 64, st22 s, fun k => 64 - k, fun k _ => some (ht22 s k)⟩]
def ex22 (s : List Int) : List (List Nat × Ex) := [([3], ⟨0, Unit, fun _ => pieL s = [], fun _ => ⟨dd 3 ++ nl :: dd 50, []⟩⟩), ([3], ⟨0, Unit, fun _ => True, fun _ => ⟨dd 3 ++ .own 0 0 :: dd 50, [.sc 0 3 I64 (pieL s)]⟩⟩)]
noncomputable def H22 (s : List Int) : Nat → Option Hint := fun _ => some ⟨chks 0 [0, 3, 4] (fm22 s), (ex22 s).map (·.2)⟩
theorem loop22 (s : List Int) (h : ok22 s) (R : Exit → St → Prop) : LoopOK (X [e63]) L22_0 ⟨chks 0 [0, 3, 4] (fm22 s), (ex22 s).map (·.2)⟩ R := by
 refine loop_fams (X_ok _) [0, 3, 4] (fm22 s) (ex22 s) 150 ⟨fun (k : Nat) hk => ?_, fun (k : Nat) hk => ?_, trivial⟩
 · have hL := fun hk => loop22z s k h hk
   refine of_eq (q := True ∧ True ∧ ((k : Int) < 64 → True ∧ True ∧ True ∧ LoopOK (X [e63]) L22_2 (hz22 s k) (bodyR (X [e63]).m0 (ex22 s) R) ∧ (∃ (y : Nat), y ≤ s.length ∧ (s = s ∧ True ∧ (k : Int) = (k : Int) ∧ false = inK s k y ∧ true = mxS s k y ∧ (0 : Int) = (y : Int) ∧ True) ∧ True) ∧ (∀ (y : Unit), True → True ∧ True ∧ (inK s k s.length = true → True ∧ True ∧ (mxS s k s.length = true → True ∧ True ∧ True ∧ sumPre (0 : Nat) [(k : Int)].length (nat_lit 8) ∧ True ∧ True ∧ inR .i64 ((k : Int) + 1) ∧ True ∧ ((∃ (y : Nat), ((y ≤ 64 ∧ trueN (pieB s) y = []) ∧ (64 : Nat) - y < 64 - k) ∧ (s = s ∧ False ∧ (k : Int) + 1 = (y : Int) ∧ True) ∧ True) ∨ ∃ (y : Nat), (y ≤ 64 ∧ (64 : Nat) - y < 64 - k) ∧ (s = s ∧ True ∧ (k : Int) + 1 = (y : Int) ∧ True) ∧ [(k : Int)] = trueN (pieB s) y ∧ True)) ∧ (mxS s k s.length = false → True ∧ inR .i64 ((k : Int) + 1) ∧ True ∧ ((∃ (y : Nat), ((y ≤ 64 ∧ trueN (pieB s) y = []) ∧ (64 : Nat) - y < 64 - k) ∧ (s = s ∧ True ∧ (k : Int) + 1 = (y : Int) ∧ True) ∧ True) ∨ ∃ (y : Nat), (y ≤ 64 ∧ (64 : Nat) - y < 64 - k) ∧ (s = s ∧ False ∧ (k : Int) + 1 = (y : Int) ∧ True) ∧ False))) ∧ (inK s k s.length = false → True ∧ True ∧ inR .i64 ((k : Int) + 1) ∧ True ∧ ((∃ (y : Nat), ((y ≤ 64 ∧ trueN (pieB s) y = []) ∧ (64 : Nat) - y < 64 - k) ∧ (s = s ∧ True ∧ (k : Int) + 1 = (y : Int) ∧ True) ∧ True) ∨ ∃ (y : Nat), (y ≤ 64 ∧ (64 : Nat) - y < 64 - k) ∧ (s = s ∧ False ∧ (k : Int) + 1 = (y : Int) ∧ True) ∧ False))) ∧ True) ∧ (¬(k : Int) < 64 → (∃ (y : Unit), pieL s = [] ∧ (True ∧ True) ∧ True) ∨ ∃ (y : Unit), True ∧ (False ∧ True) ∧ False)) (by kernel_rfl) ?_
   simp only [zz]
   obtain ⟨k1, k2⟩ := hk
   have hf : k < 64 → pieB s k = false → inR .i64 ((k : Int) + 1) ∧ ∃ y : Nat, ((y ≤ 64 ∧ trueN (pieB s) y = []) ∧ 64 - y < 64 - k) ∧ (k : Int) + 1 = (y : Int) := fun h3 hb => ⟨by simp only [inR]; omega, k + 1, ⟨⟨by omega, by rw [trueN, hb, k2]; rfl⟩, by omega⟩, by omega⟩
   have hz : ∃ y : Nat, y ≤ s.length ∧ false = inK s k y ∧ true = mxS s k y ∧ (0 : Int) = (y : Int) := ⟨0, Nat.zero_le _, rfl, rfl, rfl⟩
   refine ⟨fun h3 => ⟨hL (by omega) _, hz, fun _ _ => ⟨fun hI => ⟨fun hM => ⟨by unfold sumPre; simp, by simp only [inR]; omega, k + 1, by omega, by omega, ?_⟩, fun hM => hf (by omega) ?_⟩, fun hI => hf (by omega) ?_⟩⟩, fun h3 => ?_⟩
   · have hb : pieB s k = true := by unfold pieB; rw [hI, hM]; try rfl
     rw [trueN, if_pos hb, k2]; try rfl
   · unfold pieB; rw [hI, hM]; try rfl
   · unfold pieB; rw [hI]; try rfl
   · unfold pieL; rw [show 64 = k by omega, k2]
 · have hL := fun hk => loop22t s k h hk
   refine of_eq (q := True ∧ True ∧ ((k : Int) < 64 → True ∧ True ∧ True ∧ LoopOK (X [e63]) L22_2 (ht22 s k) (bodyR (X [e63]).m0 (ex22 s) R) ∧ (∃ (y : Nat), y ≤ s.length ∧ (s = s ∧ True ∧ (k : Int) = (k : Int) ∧ false = inK s k y ∧ true = mxS s k y ∧ (0 : Int) = (y : Int) ∧ True) ∧ trueN (pieB s) k = trueN (pieB s) k ∧ True) ∧ (∀ (y : Unit), True → True ∧ True ∧ (inK s k s.length = true → True ∧ True ∧ (mxS s k s.length = true → True ∧ True ∧ True ∧ sumPre (trueN (pieB s) k).length [(k : Int)].length (nat_lit 8) ∧ True ∧ True ∧ inR .i64 ((k : Int) + 1) ∧ True ∧ ((∃ (y : Nat), ((y ≤ 64 ∧ trueN (pieB s) y = []) ∧ (64 : Nat) - y < 64 - k) ∧ (s = s ∧ False ∧ (k : Int) + 1 = (y : Int) ∧ True) ∧ True) ∨ ∃ (y : Nat), (y ≤ 64 ∧ (64 : Nat) - y < 64 - k) ∧ (s = s ∧ True ∧ (k : Int) + 1 = (y : Int) ∧ True) ∧ trueN (pieB s) k ++ [(k : Int)] = trueN (pieB s) y ∧ True)) ∧ (mxS s k s.length = false → True ∧ inR .i64 ((k : Int) + 1) ∧ True ∧ ((∃ (y : Nat), ((y ≤ 64 ∧ trueN (pieB s) y = []) ∧ (64 : Nat) - y < 64 - k) ∧ (s = s ∧ False ∧ (k : Int) + 1 = (y : Int) ∧ True) ∧ True) ∨ ∃ (y : Nat), (y ≤ 64 ∧ (64 : Nat) - y < 64 - k) ∧ (s = s ∧ True ∧ (k : Int) + 1 = (y : Int) ∧ True) ∧ trueN (pieB s) k = trueN (pieB s) y ∧ True))) ∧ (inK s k s.length = false → True ∧ True ∧ inR .i64 ((k : Int) + 1) ∧ True ∧ ((∃ (y : Nat), ((y ≤ 64 ∧ trueN (pieB s) y = []) ∧ (64 : Nat) - y < 64 - k) ∧ (s = s ∧ False ∧ (k : Int) + 1 = (y : Int) ∧ True) ∧ True) ∨ ∃ (y : Nat), (y ≤ 64 ∧ (64 : Nat) - y < 64 - k) ∧ (s = s ∧ True ∧ (k : Int) + 1 = (y : Int) ∧ True) ∧ trueN (pieB s) k = trueN (pieB s) y ∧ True))) ∧ True) ∧ (¬(k : Int) < 64 → (∃ (y : Unit), pieL s = [] ∧ (False ∧ True) ∧ True) ∨ ∃ (y : Unit), True ∧ (True ∧ True) ∧ trueN (pieB s) k = pieL s ∧ True)) (by kernel_rfl) ?_
   simp only [zz]
   have hk : k ≤ 64 := hk
   have hl := trueN_len (pieB s) k
   have hf : k < 64 → pieB s k = false → inR .i64 ((k : Int) + 1) ∧ ∃ y : Nat, (y ≤ 64 ∧ 64 - y < 64 - k) ∧ (k : Int) + 1 = (y : Int) ∧ trueN (pieB s) k = trueN (pieB s) y := fun h3 hb => ⟨by simp only [inR]; omega, k + 1, by omega, by omega, by rw [trueN, hb]; rfl⟩
   have hz : ∃ y : Nat, y ≤ s.length ∧ false = inK s k y ∧ true = mxS s k y ∧ (0 : Int) = (y : Int) := ⟨0, Nat.zero_le _, rfl, rfl, rfl⟩
   refine ⟨fun h3 => ⟨hL (by omega) _, hz, fun _ _ => ⟨fun hI => ⟨fun hM => ⟨by unfold sumPre; simp; omega, by simp only [inR]; omega, k + 1, by omega, by omega, ?_⟩, fun hM => hf (by omega) ?_⟩, fun hI => hf (by omega) ?_⟩⟩, fun h3 => ?_⟩
   · have hb : pieB s k = true := by unfold pieB; rw [hI, hM]; try rfl
     rw [trueN, if_pos hb]; try rfl
   · unfold pieB; rw [hI, hM]; try rfl
   · unfold pieB; rw [hI]; try rfl
   · unfold pieL; rw [show 64 = k by omega]
theorem call22 (s : List Int) (h : ok22 s) : GCall Try.prog gl 22 true [.sl I64 s] [] [.sl I64 (pieL s)] [] := by
 refine gcall_of (X := (X [e63])) ((X_ok _)) (f := 22) (fn := Try.f22) (c := bodyOf Try.f22) (by kernel_rfl) (by kernel_rfl) (view := true) (rvs := [.tmp 2]) (by kernel_rfl) (H := (H22 s)) 80 (by kernel_rfl) ?_
 have hL := loop22 s h
 refine of_eq (q := True ∧ True ∧ True ∧ LoopOK (X [e63]) L22_0 { J := chks (0 : Nat) [(0 : Nat), (3 : Nat), (4 : Nat)] (fm22 s), exits := List.map (fun (x : List Nat × Ex) => x.snd) (ex22 s) } (RetR (X [e63]) true true [ResultVar.tmp (2 : Tmp)] [AV.sl I64 (pieL s)] []) ∧ ((∃ (y : Nat), (y ≤ 64 ∧ trueN (pieB s) y = []) ∧ (s = s ∧ True ∧ (0 : Int) = (y : Int) ∧ True) ∧ True) ∨ ∃ (y : Nat), y ≤ 64 ∧ (s = s ∧ False ∧ (0 : Int) = (y : Int) ∧ True) ∧ False) ∧ (∀ (y : Unit), pieL s = [] → True ∧ True ∧ True ∧ (([] : List Int) = pieL s ∧ True) ∧ True) ∧ (∀ (y : Unit), True → True ∧ True ∧ True ∧ (pieL s = pieL s ∧ True) ∧ True) ∧ True) (by kernel_rfl) ?_
 simp only [zz]
 exact ⟨hL _, ⟨0, ⟨Nat.zero_le _, rfl⟩, rfl⟩, fun _ h => h.symm, fun _ h => h⟩
def e22 : Entry Try.prog gl := entry1 22 ⟨Try.f22, by kernel_rfl, by kernel_rfl, by kernel_rfl⟩ SI (fun s => ok22 s) true (fun s => [.sl I64 (pieL s)]) (fun _ => []) (call22)
end Go.Am.Sh

/- Shells: tame. -/
namespace Go.Am.Sh
open Go Go.Am Go.Proofs
def hs14 : Nat → Bool := fun t => Nat.beq t 10 || Nat.beq t 30
noncomputable def Xh (l : EL) (hs : Nat → Bool) (dr : Nat → Option Nat) : Cy := { Xd l dr with hs := hs }
theorem Xh_ok (l : EL) (hs : Nat → Bool) (dr : Nat → Option Nat) : (Xh l hs dr).Ok := { tt := (Xd_ok l dr).tt, Γ := (Xd_ok l dr).Γ, Γd := (Xd_ok l dr).Γd, Yl := (Xd_ok l dr).Yl }
noncomputable abbrev X14 : Cy := Xh [e22] hs14 (drOf [(6, 11)])
def tmN (n : Int) : Int := 1 + (modU .u64 n).tmod 6
def tmS (n : Int) (l : List Int) (k : Nat) : List Int := 1 :: (l.take k).map fun x => (modU .u64 x).tmod (2 ^ (tmN n).toNat)
theorem tmN_bd (n : Int) : numOk (tmN n) := by
 have h1 : 0 ≤ modU .u64 n := u64_nn n
 have e := Int.tmod_eq_emod_of_nonneg (b := 6) h1
 unfold tmN numOk
 omega
theorem tm_pow (n : Int) : modU .u64 (1 * 2 ^ (tmN n).toNat) = 2 ^ (tmN n).toNat := by
 obtain ⟨e1, e2, e3⟩ := numOk_pow (tmN_bd n)
 rw [Int.one_mul, ← e1]
 show _ % 18446744073709551616 = _
 omega
theorem tm_pos (n : Int) : (2 : Int) ≤ 2 ^ (tmN n).toNat ∧ (2 : Int) ^ (tmN n).toNat ≤ 64 := by
 obtain ⟨e1, e2, e3⟩ := numOk_pow (tmN_bd n)
 omega
theorem tm_x {n : Int} (x : Int) : 0 ≤ (modU .u64 x).tmod (2 ^ (tmN n).toNat) ∧ (modU .u64 x).tmod (2 ^ (tmN n).toNat) < 2 ^ (tmN n).toNat ∧ (modU .u64 x).tmod (2 ^ (tmN n).toNat) < 64 := by
 have h := tm_pos n
 have h3 := Int.tmod_nonneg (a := modU .u64 x) (2 ^ (tmN n).toNat) (u64_nn x)
 have h4 := Int.tmod_lt_of_pos (modU .u64 x) (show (0 : Int) < 2 ^ (tmN n).toNat by omega)
 omega
theorem tm_mem {n : Int} {l : List Int} {k : Nat} {x : Int} (h : x ∈ tmS n l k) : 0 ≤ x ∧ x < 2 ^ (tmN n).toNat := by
 have hp := tm_pos n
 unfold tmS at h
 simp only [List.mem_cons, List.mem_map] at h
 rcases h with h | ⟨y, _, h⟩
 · omega
 · have := tm_x (n := n) y
   omega
theorem tm_ok (n : Int) (l : List Int) : ok22 (tmS n l 10) := ⟨fun x hx => by have := tm_mem hx; have := tm_pos n; omega, by unfold tmS; simp; omega⟩
theorem tm_lt (n : Int) (l : List Int) : ∀ x ∈ tmS n l 10, x < 2 ^ (tmN n).toNat := fun x hx => (tm_mem hx).2
theorem trueN_asc {g : Nat → Bool} : ∀ {k i j : Nat}, i < j → j < (trueN g k).length → (trueN g k).getD i 0 < (trueN g k).getD j 0
 | 0, i, j, _, h => by simp [trueN] at h
 | k + 1, i, j, hij, h => by
   rw [trueN] at h ⊢
   by_cases hg : g k = true
   · rw [if_pos hg] at h ⊢
     rw [List.length_append, List.length_singleton] at h
     rcases Nat.lt_or_ge j (trueN g k).length with hj | hj
     · rw [getD_append_left (by omega), getD_append_left hj]; exact trueN_asc hij hj
     · have e : (trueN g k ++ [(k : Int)]).getD j 0 = k := by
         rw [List.getD_eq_getElem?_getD, List.getElem?_append_right hj, show j - (trueN g k).length = 0 by omega]; try rfl
       rw [e, getD_append_left (by omega)]
       obtain ⟨m, h1, h2, _⟩ := trueN_mem (mem_getD (d := 0) (show i < (trueN g k).length by omega))
       omega
   · rw [if_neg hg] at h ⊢; exact trueN_asc hij h
theorem inK_iff {s : List Int} {x : Nat} : ∀ {k : Nat}, inK s x k = true ↔ ∃ i, i < k ∧ s.getD i 0 = x
 | 0 => by simp [inK]
 | k + 1 => by
   rw [inK, Bool.or_eq_true, inK_iff, decide_eq_true_eq]
   constructor
   · rintro (⟨i, h1, h2⟩ | h)
     · exact ⟨i, by omega, h2⟩
     · exact ⟨k, by omega, h⟩
   · rintro ⟨i, h1, h2⟩
     rcases Nat.lt_or_ge i k with h3 | h3
     · exact .inl ⟨i, h3, h2⟩
     · exact .inr (by rw [show k = i by omega]; exact h2)
theorem mxS_iff {s : List Int} {x : Nat} : ∀ {k : Nat}, mxS s x k = true ↔ ∀ i, i < k → s.getD i 0 = x ∨ sub x (s.getD i 0).toNat = false
 | 0 => by simp [mxS]
 | k + 1 => by
   rw [mxS, Bool.and_eq_true, mxS_iff, Bool.or_eq_true, decide_eq_true_eq, Bool.not_eq_true']
   constructor
   · rintro ⟨h1, h2⟩ i hi
     rcases Nat.lt_or_ge i k with h3 | h3
     · exact h1 i h3
     · rw [show i = k by omega]; exact h2
   · intro h
     exact ⟨fun i hi => h i (by omega), h k (by omega)⟩
theorem pie_mem {s : List Int} {y : Int} (h : y ∈ pieL s) : ∃ x : Nat, y = x ∧ x < 64 ∧ (∃ i, i < s.length ∧ s.getD i 0 = x) ∧ ∀ i, i < s.length → s.getD i 0 = x ∨ sub x (s.getD i 0).toNat = false := by
 obtain ⟨x, h1, h2, h3⟩ := trueN_mem h
 unfold pieB at h3
 rw [Bool.and_eq_true, inK_iff, mxS_iff] at h3
 exact ⟨x, h1, h2, h3.1, h3.2⟩
theorem pie_pos {s : List Int} (h1 : ∃ i, i < s.length ∧ 1 ≤ s.getD i 0) : ∀ y ∈ pieL s, 1 ≤ y := fun y hy => by
 obtain ⟨x, rfl, h2, h3, h4⟩ := pie_mem hy
 obtain ⟨i, hi, h5⟩ := h1
 rcases Nat.eq_zero_or_pos x with h0 | h0
 · subst h0
   rcases h4 i hi with h6 | h6
   · omega
   · rw [sub_zero] at h6; cases h6
 · omega
theorem max_ex (s : List Int) : ∀ k, ∃ i, i < k + 1 ∧ ∀ j, j < k + 1 → s.getD j 0 ≤ s.getD i 0
 | 0 => ⟨0, by omega, fun j hj => by rw [show j = 0 by omega]; exact Int.le_refl _⟩
 | k + 1 => by
   obtain ⟨i, h1, h2⟩ := max_ex s k
   by_cases h : s.getD i 0 ≤ s.getD (k + 1) 0
   · refine ⟨k + 1, by omega, fun j hj => ?_⟩
     rcases Nat.lt_or_ge j (k + 1) with h3 | h3
     · exact Int.le_trans (h2 j h3) h
     · rw [show j = k + 1 by omega]; exact Int.le_refl _
   · refine ⟨i, by omega, fun j hj => ?_⟩
     rcases Nat.lt_or_ge j (k + 1) with h3 | h3
     · exact h2 j h3
     · rw [show j = k + 1 by omega]; omega
theorem pie_ne {s : List Int} (h : okL s) (hl : 1 ≤ s.length) : 1 ≤ (pieL s).length := by
 obtain ⟨k, hk⟩ : ∃ k, s.length = k + 1 := ⟨s.length - 1, by omega⟩
 obtain ⟨i, h1, h2⟩ := max_ex s k
 have hr := okL_get h i
 have hb : pieB s (s.getD i 0).toNat = true := by
   unfold pieB
   rw [Bool.and_eq_true, inK_iff, mxS_iff]
   refine ⟨⟨i, by omega, by omega⟩, fun j hj => ?_⟩
   have h3 := h2 j (by omega)
   have h4 := okL_get h j
   cases hs : sub (s.getD i 0).toNat (s.getD j 0).toNat with
   | false => exact .inr rfl
   | true => have := sub_le hs; exact .inl (by omega)
 have := trueN_has (g := pieB s) (k := 64) (by omega) hb
 exact List.length_pos_of_mem this
theorem take_get {l : List Int} {k m : Nat} (h : k < m) : (l.take m).getD k 0 = l.getD k 0 := by
 rw [List.getD_eq_getElem?_getD, List.getD_eq_getElem?_getD, List.getElem?_take_of_lt h]
theorem pie_cx {n : Int} {s : List Int} (hn : numOk n) (h : ok22 s) (hlt : ∀ x ∈ s, x < 2 ^ n.toNat) (h1 : ∃ i, i < s.length ∧ 1 ≤ s.getD i 0) : cxOk n ((pieL s).take 10) := by
 have hne := pie_ne h.h (by obtain ⟨i, hi, _⟩ := h1; omega)
 have hlen : ((pieL s).take 10).length ≤ 10 ∧ 1 ≤ ((pieL s).take 10).length ∧ ((pieL s).take 10).length ≤ (pieL s).length := by rw [List.length_take]; omega
 refine ⟨hn, ⟨hlen.2.1, hlen.1⟩, fun k hk => ?_⟩
 have hk1 : k < (pieL s).length := by omega
 have hmem := mem_getD (d := (0 : Int)) hk1
 have hpos := pie_pos h1 _ hmem
 obtain ⟨x, e, hx, ⟨i, hi, hi2⟩, hmx⟩ := pie_mem hmem
 have hrk := trueN_ok (pieB s) _ hmem
 refine ⟨by rw [take_get (by omega)]; exact hpos, by rw [take_get (by omega), e, ← hi2]; exact hlt _ (mem_getD hi), fun h0 => by rw [take_get (by omega), take_get (by omega)]; exact trueN_asc (by omega) hk1, fun j hj hne2 => ?_⟩
 have hj1 : j < (pieL s).length := by omega
 have hmem2 := mem_getD (d := (0 : Int)) hj1
 obtain ⟨y, e2, hy, ⟨i2, hi3, hi4⟩, hmy⟩ := pie_mem hmem2
 have hrj := trueN_ok (pieB s) _ hmem2
 rw [take_get (by omega), take_get (by omega), Ne, sub_and hrk hrj, e, e2, Int.toNat_natCast, Int.toNat_natCast]
 rcases hmx i2 hi3 with h5 | h5
 · exfalso
   have hxy : (pieL s).getD k 0 = (pieL s).getD j 0 := by omega
   rcases Nat.lt_or_ge j k with h6 | h6
   · have := trueN_asc (g := pieB s) (k := 64) h6 hk1
     unfold pieL at hxy; omega
   · have := trueN_asc (g := pieB s) (k := 64) (show k < j by omega) hj1
     unfold pieL at hxy; omega
 · rw [hi4, Int.toNat_natCast] at h5
   rw [h5]; simp
noncomputable def L14_0 : Code := lp (bodyOf Try.f14) 0
def st14 (n : Int) (l : List Int) (k : Nat) : St := ⟨.int .i64 (tmN n) :: .sl I64 l :: dd 4 ++ .own 0 0 :: .int .i64 k :: dd 51, [.sc 0 3 I64 (tmS n l k)]⟩
def in14 (l : List Int) (k : Nat) : Prop := k ≤ l.length ∧ k ≤ 10
def ex14 (n : Int) (l : List Int) : List (List Nat × Ex) := [([0, 6], ⟨0, Unit, fun _ => True, fun _ => ⟨.int .i64 (tmN n) :: dd 5 ++ .own 0 0 :: dd 52, [.sc 0 3 I64 (tmS n l 10)]⟩⟩)]
noncomputable def H14 (n : Int) (l : List Int) : Nat → Option Hint := fun _ => some ⟨chk 0 [0, 1, 6, 7] (in14 l) (st14 n l), (ex14 n l).map (·.2)⟩
theorem loop14 (n : Int) (l : List Int) (hl : l.length < 1000000000000000) (R : Exit → St → Prop) : LoopOK X14 L14_0 ⟨chk 0 [0, 1, 6, 7] (in14 l) (st14 n l), (ex14 n l).map (·.2)⟩ R := by
 refine loop_ok (Xh_ok _ _ _) (H := fun _ _ => none) [0, 1, 6, 7] (in14 l) (st14 n l) (fun k => l.length - k) (ex14 n l) 150 fun (k : Nat) hk => ?_
 refine of_eq (q := True ∧ True ∧ True ∧ True ∧ True ∧ ((k : Int) < (l.length : Int) → True ∧ True ∧ True ∧ ((k : Int) < 10 → True ∧ True ∧ True ∧ idxPre (k : Int) l.length ∧ True ∧ True ∧ True ∧ (((0 : Int) ≤ tmN n ∧ tmN n < bitsOf .u64) ∧ True) ∧ ¬modU .u64 ((1 : Int) * 2 ^ (tmN n).toNat) = 0 ∧ inR .i64 ((modU .u64 (l.getD k (0 : Int))).tmod (modU .u64 ((1 : Int) * 2 ^ (tmN n).toNat))) ∧ True ∧ sumPre (tmS n l k).length [(modU .u64 (l.getD k (0 : Int))).tmod (modU .u64 ((1 : Int) * 2 ^ (tmN n).toNat))].length (nat_lit 8) ∧ True ∧ True ∧ inR .i64 ((k : Int) + 1) ∧ True ∧ ∃ (y : Nat), (in14 l y ∧ l.length - y < l.length - k) ∧ (tmN n = tmN n ∧ l = l ∧ True ∧ (k : Int) + 1 = (y : Int) ∧ True) ∧ tmS n l k ++ [(modU .u64 (l.getD k (0 : Int))).tmod (modU .u64 ((1 : Int) * 2 ^ (tmN n).toNat))] = tmS n l y ∧ True) ∧ (¬(k : Int) < 10 → ∃ (y : Unit), True ∧ (tmN n = tmN n ∧ True ∧ True) ∧ tmS n l k = tmS n l (10 : Nat) ∧ True)) ∧ (¬(k : Int) < (l.length : Int) → True ∧ ∃ (y : Unit), True ∧ (tmN n = tmN n ∧ True ∧ True) ∧ tmS n l k = tmS n l (10 : Nat) ∧ True)) (by kernel_rfl) ?_
 simp only [zz]
 obtain ⟨k1, k2⟩ := hk
 obtain ⟨b1, b2⟩ := tmN_bd n
 have hp := tm_pow n
 refine ⟨fun h => ⟨fun h2 => ?_, fun h2 => by rw [show k = 10 by omega]⟩, fun h => ?_⟩
 · rw [hp]
   have hx := tm_x (n := n) (l.getD k 0)
   have hlen : (tmS n l k).length ≤ 11 := by unfold tmS; simp; omega
   refine ⟨idx_nat (by omega), ⟨by omega, by simp only [bitsOf]; omega⟩, by have := tm_pos n; omega, by simp only [inR]; omega, by unfold sumPre; simp; omega, by simp only [inR]; omega, k + 1, ⟨⟨by omega, by omega⟩, by omega⟩, by omega, ?_⟩
   unfold tmS
   rw [take_getD (d := 0) (show k < l.length by omega), List.map_append]
   rfl
 · unfold tmS
   rw [List.take_of_length_le (by omega), List.take_of_length_le (by omega)]
def tmP (n : Int) (l : List Int) : List Int := (pieL (tmS n l 10)).take 10
theorem call14 (n : Int) (l : List Int) (hl : l.length < 1000000000000000) : GCall Try.prog gl 14 false [.int .i64 n, .sl I64 l] [] [.int .i64 (tmN n), .sl I64 (tmP n l)] [] := by
 refine gcall_of (X := X14) ((Xh_ok _ _ _)) (f := 14) (fn := Try.f14) (c := bodyOf Try.f14) (by kernel_rfl) (by kernel_rfl) (view := true) (rvs := [.tmp 4, .tmp 5]) (by kernel_rfl) (H := (H14 n l)) 200 (by kernel_rfl) ?_
 have hL := loop14 n l hl
 refine of_eq (q := True ∧ True ∧ True ∧ True ∧ ¬(6 : Int) = 0 ∧ inR .i64 ((modU .u64 n).tmod (6 : Int)) ∧ inR .i64 ((1 : Int) + (modU .u64 n).tmod (6 : Int)) ∧ True ∧ True ∧ True ∧ True ∧ LoopOK X14 L14_0 { J := chk (0 : Nat) [(0 : Nat), (1 : Nat), (6 : Nat), (7 : Nat)] (in14 l) (st14 n l), exits := List.map (fun (x : List Nat × Ex) => x.snd) (ex14 n l) } (RetR X14 false true [ResultVar.tmp (4 : Tmp), ResultVar.tmp (5 : Tmp)] [AV.int .i64 (tmN n), AV.sl I64 (tmP n l)] []) ∧ (∃ (y : Nat), in14 l y ∧ ((1 : Int) + (modU .u64 n).tmod (6 : Int) = tmN n ∧ l = l ∧ True ∧ (0 : Int) = (y : Int) ∧ True) ∧ [(1 : Int)] = tmS n l y ∧ True) ∧ (∀ (y : Unit), True → True ∧ (ok22 (tmS n l (10 : Nat)) ∧ True) ∧ True ∧ True ∧ True ∧ True ∧ True ∧ ((1 : Int) < (↑(pieL (tmS n l (10 : Nat))).length : Int) → True ∧ idxPre (0 : Int) (pieL (tmS n l (10 : Nat))).length ∧ True ∧ True ∧ True ∧ ((pieL (tmS n l (10 : Nat))).getD (0 : Nat) (0 : Int) = 0 → True ∧ slPre (pieL (tmS n l (10 : Nat))).length (pieL (tmS n l (10 : Nat))).length (some (1 : Int)) none none ∧ True ∧ True ∧ True ∧ True ∧ True ∧ True ∧ True ∧ True ∧ True ∧ slPre (cutL (pieL (tmS n l (10 : Nat))) (some (1 : Int)) none).length (cutL (pieL (tmS n l (10 : Nat))) (some (1 : Int)) none).length none (some (minI (↑(cutL (pieL (tmS n l (10 : Nat))) (some (1 : Int)) none).length : Int) (10 : Int))) (some (minI (↑(cutL (pieL (tmS n l (10 : Nat))) (some (1 : Int)) none).length : Int) (10 : Int))) ∧ True ∧ True ∧ True ∧ (tmN n = tmN n ∧ cutL (cutL (pieL (tmS n l (10 : Nat))) (some (1 : Int)) none) none (some (minI (↑(cutL (pieL (tmS n l (10 : Nat))) (some (1 : Int)) none).length : Int) (10 : Int))) = tmP n l ∧ True) ∧ True) ∧ (¬(pieL (tmS n l (10 : Nat))).getD (0 : Nat) (0 : Int) = 0 → True ∧ True ∧ True ∧ True ∧ True ∧ True ∧ True ∧ True ∧ slPre (pieL (tmS n l (10 : Nat))).length (pieL (tmS n l (10 : Nat))).length none (some (minI (↑(pieL (tmS n l (10 : Nat))).length : Int) (10 : Int))) (some (minI (↑(pieL (tmS n l (10 : Nat))).length : Int) (10 : Int))) ∧ True ∧ True ∧ True ∧ (tmN n = tmN n ∧ cutL (pieL (tmS n l (10 : Nat))) none (some (minI (↑(pieL (tmS n l (10 : Nat))).length : Int) (10 : Int))) = tmP n l ∧ True) ∧ True)) ∧ (¬(1 : Int) < (↑(pieL (tmS n l (10 : Nat))).length : Int) → True ∧ True ∧ True ∧ True ∧ True ∧ True ∧ True ∧ True ∧ True ∧ slPre (pieL (tmS n l (10 : Nat))).length (pieL (tmS n l (10 : Nat))).length none (some (minI (↑(pieL (tmS n l (10 : Nat))).length : Int) (10 : Int))) (some (minI (↑(pieL (tmS n l (10 : Nat))).length : Int) (10 : Int))) ∧ True ∧ True ∧ True ∧ (tmN n = tmN n ∧ cutL (pieL (tmS n l (10 : Nat))) none (some (minI (↑(pieL (tmS n l (10 : Nat))).length : Int) (10 : Int))) = tmP n l ∧ True) ∧ True)) ∧ True) (by kernel_rfl) ?_
 simp only [zz]
 obtain ⟨b1, b2⟩ := tmN_bd n
 have hb : 1 + (modU .u64 n).tmod 6 = tmN n := rfl
 have hz : ∀ L : List Int, cutL L none (some (minI (L.length : Int) 10)) = L.take 10 ∧ slPre L.length L.length none (some (minI (L.length : Int) 10)) (some (minI (L.length : Int) 10)) := fun L => by
   unfold minI cutL slPre
   simp only
   by_cases h : (10 : Int) < L.length
   · rw [if_pos h]; exact ⟨rfl, by omega⟩
   · rw [if_neg h, Int.toNat_natCast]
     exact ⟨by rw [List.take_of_length_le (Nat.le_refl _), List.take_of_length_le (by omega)], by omega⟩
 rw [hb]
 obtain ⟨z1, z2⟩ := hz (pieL (tmS n l 10))
 refine ⟨by decide, by simp only [inR]; omega, by simp only [inR]; omega, hL _, ⟨0, ⟨Nat.zero_le _, Nat.zero_le _⟩, ⟨rfl, rfl⟩, by simp [tmS]⟩, fun _ _ => ⟨tm_ok n l, fun h => ⟨by unfold idxPre; omega, fun h0 => ?_, fun _ => ⟨z2, z1⟩⟩, fun _ => ⟨z2, z1⟩⟩⟩
 exfalso
 have := pie_pos (s := tmS n l 10) ⟨0, by simp [tmS], by simp [tmS]⟩ _ (mem_getD (d := 0) (show 0 < (pieL (tmS n l 10)).length by omega))
 omega
theorem tm_cx (n : Int) (l : List Int) : cxOk (tmN n) (tmP n l) := pie_cx (tmN_bd n) (tm_ok n l) (tm_lt n l) ⟨0, by simp [tmS], by simp [tmS]⟩
end Go.Am.Sh

/- Shells: the reference's Counts, choose, Hs, Euler. -/
namespace Go.Am.Sh
open Go Go.Am Go.Proofs
def e14 : Entry Try.prog gl := entry2 14 ⟨Try.f14, by kernel_rfl, by kernel_rfl, by kernel_rfl⟩ I64 SI (fun (_ : Int) l => (l : List Int).length < 1000000000000000) false (fun n l => [.int .i64 (tmN n), .sl I64 (tmP n l)]) (fun _ _ => []) (call14)
def chK (n : Int) : Nat → Int
 | 0 => 1
 | k + 1 => (chK n k * (n - (k + 1) + 1)).tdiv (k + 1)
end Go.Am.Sh

/- Shells: the reference's Hs and Euler. -/
namespace Go.Am.Sh
open Go Go.Am Go.Proofs
def sg (j : Nat) : Int := 1 - 2 * ((j % 2 : Nat) : Int)
def htm (f : List Int) (k i : Nat) : Int := f.getD i 0 * chK ((f.length - 1 - i : Nat) : Int) (k - i) * sg (k - i)
def hsum (f : List Int) (k : Nat) : Nat → Int
 | 0 => 0
 | i + 1 => hsum f k i + htm f k i
def rhL (f : List Int) : List Int := (List.range f.length).map fun j => hsum f j (j + 1)
structure okF (f : List Int) : Prop where
 b : bdd 64 f
 l : 1 ≤ f.length ∧ f.length ≤ 7
end Go.Am.Sh

/- Shells: the law of the counts. -/
namespace Go.Am.Sh
open Go Go.Am Go.Proofs
theorem hq1 (a : Int) : hsK [a] 1 = rhL [a] := by
 simp [hsK, rhL, hsum, htm, sg, chK]
theorem hq2 (a b : Int) : hsK [a, b] 2 = rhL [a, b] := by
 simp [hsK, rhL, hsum, htm, sg, chK, triJ, List.range_succ]
 try omega
theorem hq3 (a b c : Int) : hsK [a, b, c] 3 = rhL [a, b, c] := by
 simp [hsK, rhL, hsum, htm, sg, chK, triJ, List.range_succ]
 try omega
end Go.Am.Sh

/- Shells: Made. -/
namespace Go.Am.Sh
open Go Go.Am Go.Proofs
def obN (n : Int) : List Ob := [.bx (.int .i64 n)]
def badB (n s : Int) : Bool := decide (s < 0 ∨ 2 ^ n.toNat ≤ s)
structure ok83m (x : List Int × Int) : Prop where
 n : numOk x.2
 l : x.1.length ≤ 64
def badL (n : Int) (p : List Int) : Bool := p.any (badB n)
def madOk (n : Int) (p : List Int) : Prop := numOk n ∧ p.length ≤ 64 ∧ badL n p = false
instance (n p) : Decidable (madOk n p) := by unfold madOk numOk; infer_instance
end Go.Am.Sh

/- Shells: the reference's Moment. -/
namespace Go.Am.Sh
open Go Go.Am Go.Proofs
def gapB (k a b : Nat) : Bool := decide (k / 2 ^ a % 2 = 0) && decide (k / 2 ^ b % 2 = 0) && decide (pc (k / 2 ^ (a + 1) % 2 ^ (b - a - 1)) % 2 = 1)
def inB (k a : Nat) : Nat → Bool
 | 0 => true
 | j + 1 => inB k a j && !gapB k a (a + 1 + j)
theorem pow_cast (j : Nat) : (2 ^ j : Int) = ((2 ^ j : Nat) : Int) := by rw [Int.natCast_pow]; try rfl
theorem kt {k a j : Nat} : ((k : Int) / 2 ^ (a + 1)).tmod (1 * 2 ^ j) = ((k / 2 ^ (a + 1) % 2 ^ j : Nat) : Int) := by
 rw [Int.one_mul, pow_cast, pow_cast]
 generalize 2 ^ (a + 1) = P
 generalize 2 ^ j = Q
 have e1 : (k : Int) / (P : Int) = ((k / P : Nat) : Int) := by rw [Int.natCast_ediv]
 rw [e1, Int.tmod_eq_emod_of_nonneg (Int.natCast_nonneg _), Int.natCast_emod]
theorem pt {x : Nat} : ((pc x : Nat) : Int).tmod 2 = ((pc x % 2 : Nat) : Int) := by
 rw [Int.tmod_eq_emod_of_nonneg (Int.natCast_nonneg _)]; omega
end Go.Am.Sh

/- Shells: the law's pure. -/
namespace Go.Am.Sh
open Go Go.Am Go.Proofs
def lastP (p : List Int) (s : Int) : Bool := decide (pc s.toNat = pc (p.getD (p.length - 1) 0).toNat)
def puK (p : List Int) (k : Nat) : List Int := (p.take k).filter (lastP p)
def puP (p : List Int) : List Int := p.filter (lastP p)
noncomputable def L18_0 : Code := lp (bodyOf Try.f18) 0
def sz18 (n : Int) (p : List Int) (k : Nat) : St := ⟨.int .i64 n :: dd 5 ++ .sl I64 p :: nl :: .int .i64 k :: dd 34, []⟩
def st18 (n : Int) (p : List Int) (k : Nat) : St := ⟨.int .i64 n :: dd 5 ++ .sl I64 p :: .own 0 0 :: .int .i64 k :: dd 34, [.sc 0 3 I64 (puK p k)]⟩
def fm18 (n : Int) (p : List Int) : List Fam := [⟨Nat, fun k => k ≤ p.length ∧ puK p k = [], sz18 n p, fun k => p.length - k, fun _ _ => none⟩, ⟨Nat, fun k => k ≤ p.length, st18 n p, fun k => p.length - k, fun _ _ => none⟩]
def ex18 (n : Int) (p : List Int) : List (List Nat × Ex) := [([0, 7], ⟨0, Unit, fun _ => puP p = [], fun _ => ⟨.int .i64 n :: dd 6 ++ nl :: dd 35, []⟩⟩), ([0, 7], ⟨0, Unit, fun _ => True, fun _ => ⟨.int .i64 n :: dd 6 ++ .own 0 0 :: dd 35, [.sc 0 3 I64 (puP p)]⟩⟩)]
noncomputable def H18 (n : Int) (p : List Int) : Nat → Option Hint := fun _ => some ⟨chks 0 [0, 6, 7, 8] (fm18 n p), (ex18 n p).map (·.2)⟩
theorem puK_step {p : List Int} {k : Nat} (h : k < p.length) : puK p (k + 1) = if lastP p (p.getD k 0) = true then puK p k ++ [p.getD k 0] else puK p k := by
 unfold puK
 rw [take_getD (d := 0) h, List.filter_append]
 by_cases hl : lastP p (p.getD k 0) = true
 · rw [if_pos hl, List.filter_cons_of_pos hl]; try rfl
 · rw [if_neg hl, List.filter_cons_of_neg hl]; simp
theorem puK_end {p : List Int} {k : Nat} (h : k = p.length) : puK p k = puP p := by
 unfold puK puP; rw [h, List.take_length]
theorem puK_len (p : List Int) (k : Nat) : (puK p k).length ≤ k := Nat.le_trans (List.length_filter_le _ _) (by rw [List.length_take]; omega)
theorem loop18 (n : Int) (p : List Int) (h : ok10 p) (R : Exit → St → Prop) : LoopOK (X [e14, e29]) L18_0 ⟨chks 0 [0, 6, 7, 8] (fm18 n p), (ex18 n p).map (·.2)⟩ R := by
 refine loop_fams (X_ok _) [0, 6, 7, 8] (fm18 n p) (ex18 n p) 150 ⟨fun (k : Nat) hk => ?_, fun (k : Nat) hk => ?_, trivial⟩
 · refine of_eq (q := True ∧ True ∧ True ∧ True ∧ ((k : Int) < (p.length : Int) → True ∧ True ∧ idxPre (k : Int) p.length ∧ True ∧ ((0 : Int) ≤ p.getD k (0 : Int) ∧ p.getD k (0 : Int) < 64) ∧ True ∧ True ∧ True ∧ inR .i64 ((p.length : Int) - 1) ∧ idxPre ((p.length : Int) - 1) p.length ∧ True ∧ ((0 : Int) ≤ p.getD ((p.length : Int) - 1).toNat (0 : Int) ∧ p.getD ((p.length : Int) - 1).toNat (0 : Int) < 64) ∧ True ∧ ((↑(pc (Int.toNat (p.getD k (0 : Int)))) : Int) = (↑(pc (Int.toNat (p.getD ((p.length : Int) - 1).toNat (0 : Int)))) : Int) → True ∧ True ∧ True ∧ idxPre (k : Int) p.length ∧ True ∧ True ∧ sumPre (0 : Nat) [p.getD k (0 : Int)].length (nat_lit 8) ∧ True ∧ True ∧ inR .i64 ((k : Int) + 1) ∧ True ∧ ((∃ (y : Nat), ((y ≤ p.length ∧ puK p y = []) ∧ p.length - y < p.length - k) ∧ (n = n ∧ p = p ∧ False ∧ (k : Int) + 1 = (y : Int) ∧ True) ∧ True) ∨ ∃ (y : Nat), (y ≤ p.length ∧ p.length - y < p.length - k) ∧ (n = n ∧ p = p ∧ True ∧ (k : Int) + 1 = (y : Int) ∧ True) ∧ [p.getD k (0 : Int)] = puK p y ∧ True)) ∧ (¬(↑(pc (Int.toNat (p.getD k (0 : Int)))) : Int) = (↑(pc (Int.toNat (p.getD ((p.length : Int) - 1).toNat (0 : Int)))) : Int) → True ∧ inR .i64 ((k : Int) + 1) ∧ True ∧ ((∃ (y : Nat), ((y ≤ p.length ∧ puK p y = []) ∧ p.length - y < p.length - k) ∧ (n = n ∧ p = p ∧ True ∧ (k : Int) + 1 = (y : Int) ∧ True) ∧ True) ∨ ∃ (y : Nat), (y ≤ p.length ∧ p.length - y < p.length - k) ∧ (n = n ∧ p = p ∧ False ∧ (k : Int) + 1 = (y : Int) ∧ True) ∧ False))) ∧ (¬(k : Int) < (p.length : Int) → (∃ (y : Unit), puP p = [] ∧ (n = n ∧ True ∧ True) ∧ True) ∨ ∃ (y : Unit), True ∧ (n = n ∧ False ∧ True) ∧ False)) (by kernel_rfl) ?_
   simp only [zz]
   obtain ⟨k1, k2⟩ := hk
   have hl := h.l
   refine ⟨fun hlt => ?_, fun hlt => by rw [← puK_end (show k = p.length by omega)]; exact k2⟩
   have hst := puK_step (p := p) (k := k) (by omega)
   rw [show ((p.length : Int) - 1).toNat = p.length - 1 by omega]
   refine ⟨idx_nat (by omega), okL_get h.h k, by simp only [inR]; omega, by unfold idxPre; omega, okL_get h.h _, fun he => ⟨idx_nat (by omega), by unfold sumPre; simp, by simp only [inR]; omega, k + 1, by omega, by omega, ?_⟩, fun he => ⟨by simp only [inR]; omega, k + 1, ⟨⟨by omega, ?_⟩, by omega⟩, by omega⟩⟩
   · rw [hst, if_pos (show lastP p (p.getD k 0) = true from decide_eq_true (by omega)), k2]; try rfl
   · rw [hst, if_neg (by unfold lastP; rw [decide_eq_true_eq]; omega), k2]
 · refine of_eq (q := True ∧ True ∧ True ∧ True ∧ ((k : Int) < (p.length : Int) → True ∧ True ∧ idxPre (k : Int) p.length ∧ True ∧ ((0 : Int) ≤ p.getD k (0 : Int) ∧ p.getD k (0 : Int) < 64) ∧ True ∧ True ∧ True ∧ inR .i64 ((p.length : Int) - 1) ∧ idxPre ((p.length : Int) - 1) p.length ∧ True ∧ ((0 : Int) ≤ p.getD ((p.length : Int) - 1).toNat (0 : Int) ∧ p.getD ((p.length : Int) - 1).toNat (0 : Int) < 64) ∧ True ∧ ((↑(pc (Int.toNat (p.getD k (0 : Int)))) : Int) = (↑(pc (Int.toNat (p.getD ((p.length : Int) - 1).toNat (0 : Int)))) : Int) → True ∧ True ∧ True ∧ idxPre (k : Int) p.length ∧ True ∧ True ∧ sumPre (puK p k).length [p.getD k (0 : Int)].length (nat_lit 8) ∧ True ∧ True ∧ inR .i64 ((k : Int) + 1) ∧ True ∧ ((∃ (y : Nat), ((y ≤ p.length ∧ puK p y = []) ∧ p.length - y < p.length - k) ∧ (n = n ∧ p = p ∧ False ∧ (k : Int) + 1 = (y : Int) ∧ True) ∧ True) ∨ ∃ (y : Nat), (y ≤ p.length ∧ p.length - y < p.length - k) ∧ (n = n ∧ p = p ∧ True ∧ (k : Int) + 1 = (y : Int) ∧ True) ∧ puK p k ++ [p.getD k (0 : Int)] = puK p y ∧ True)) ∧ (¬(↑(pc (Int.toNat (p.getD k (0 : Int)))) : Int) = (↑(pc (Int.toNat (p.getD ((p.length : Int) - 1).toNat (0 : Int)))) : Int) → True ∧ inR .i64 ((k : Int) + 1) ∧ True ∧ ((∃ (y : Nat), ((y ≤ p.length ∧ puK p y = []) ∧ p.length - y < p.length - k) ∧ (n = n ∧ p = p ∧ False ∧ (k : Int) + 1 = (y : Int) ∧ True) ∧ True) ∨ ∃ (y : Nat), (y ≤ p.length ∧ p.length - y < p.length - k) ∧ (n = n ∧ p = p ∧ True ∧ (k : Int) + 1 = (y : Int) ∧ True) ∧ puK p k = puK p y ∧ True))) ∧ (¬(k : Int) < (p.length : Int) → (∃ (y : Unit), puP p = [] ∧ (n = n ∧ False ∧ True) ∧ True) ∨ ∃ (y : Unit), True ∧ (n = n ∧ True ∧ True) ∧ puK p k = puP p ∧ True)) (by kernel_rfl) ?_
   simp only [zz]
   have hk : k ≤ p.length := hk
   have hl := h.l
   have hle := puK_len p k
   refine ⟨fun hlt => ?_, fun hlt => puK_end (show k = p.length by omega)⟩
   have hst := puK_step (p := p) (k := k) (by omega)
   rw [show ((p.length : Int) - 1).toNat = p.length - 1 by omega]
   refine ⟨idx_nat (by omega), okL_get h.h k, by simp only [inR]; omega, by unfold idxPre; omega, okL_get h.h _, fun he => ⟨idx_nat (by omega), by unfold sumPre; simp; omega, by simp only [inR]; omega, k + 1, by omega, by omega, ?_⟩, fun he => ⟨by simp only [inR]; omega, k + 1, by omega, by omega, ?_⟩⟩
   · rw [hst, if_pos (show lastP p (p.getD k 0) = true from decide_eq_true (by omega))]; try rfl
   · rw [hst, if_neg (by unfold lastP; rw [decide_eq_true_eq]; omega)]
theorem call18 (n : Int) (l : List Int) (hl : l.length < 1000000000000000) : GCall Try.prog gl 18 true [.int .i64 n, .sl I64 l] [] [.int .i64 (tmN n), .sl I64 (puP (tmP n l))] [] := by
 have hc := tm_cx n l
 refine gcall_of (X := X [e14, e29]) (X_ok [e14, e29]) (f := 18) (fn := Try.f18) (c := bodyOf Try.f18) (by kernel_rfl) (by kernel_rfl) (view := true) (rvs := [.tmp 4, .tmp 5]) (by kernel_rfl) (H := (H18 (tmN n) (tmP n l))) 80 (by kernel_rfl) ?_
 have hL := loop18 (tmN n) (tmP n l) ⟨hc.ok, hc.2.1.2⟩
 refine of_eq (q := True ∧ True ∧ True ∧ True ∧ (l.length + 1 ≤ 1000000000000000 ∧ True) ∧ True ∧ True ∧ True ∧ True ∧ True ∧ True ∧ True ∧ LoopOK (X [e14, e29]) L18_0 { J := chks (0 : Nat) [(0 : Nat), (6 : Nat), (7 : Nat), (8 : Nat)] (fm18 (tmN n) (tmP n l)), exits := List.map (fun (x : List Nat × Ex) => x.snd) (ex18 (tmN n) (tmP n l)) } (RetR (X [e14, e29]) true true [ResultVar.tmp (4 : Tmp), ResultVar.tmp (5 : Tmp)] [AV.int .i64 (tmN n), AV.sl I64 (puP (tmP n l))] []) ∧ ((∃ (y : Nat), (y ≤ (tmP n l).length ∧ puK (tmP n l) y = []) ∧ (tmN n = tmN n ∧ tmP n l = tmP n l ∧ True ∧ (0 : Int) = (y : Int) ∧ True) ∧ True) ∨ ∃ (y : Nat), y ≤ (tmP n l).length ∧ (tmN n = tmN n ∧ tmP n l = tmP n l ∧ False ∧ (0 : Int) = (y : Int) ∧ True) ∧ False) ∧ (∀ (y : Unit), puP (tmP n l) = [] → True ∧ True ∧ True ∧ True ∧ True ∧ (tmN n = tmN n ∧ ([] : List Int) = puP (tmP n l) ∧ True) ∧ True) ∧ (∀ (y : Unit), True → True ∧ True ∧ True ∧ True ∧ True ∧ (tmN n = tmN n ∧ puP (tmP n l) = puP (tmP n l) ∧ True) ∧ True) ∧ True) (by kernel_rfl) ?_
 simp only [zz]
 exact ⟨by omega, hL _, ⟨0, ⟨Nat.zero_le _, rfl⟩, rfl⟩, fun _ h => h.symm, fun _ h => h⟩
def e18 : Entry Try.prog gl := entry2 18 ⟨Try.f18, by kernel_rfl, by kernel_rfl, by kernel_rfl⟩ I64 SI (fun (_ : Int) l => (l : List Int).length < 1000000000000000) true (fun n l => [.int .i64 (tmN n), .sl I64 (puP (tmP n l))]) (fun _ _ => []) (call18)
structure cxS (n : Int) (p : List Int) : Prop where
 rng : ∀ s ∈ p, 1 ≤ s ∧ s < 2 ^ n.toNat
 asc : p.Pairwise (· < ·)
 anti : ∀ a ∈ p, ∀ b ∈ p, a ≠ b → bAnd .i64 a b ≠ a
theorem pair_get {l : List Int} : (∀ k, 0 < k → k < l.length → l.getD (k - 1) 0 < l.getD k 0) → l.Pairwise (· < ·) := by
 induction l with
 | nil => intro _; exact List.Pairwise.nil
 | cons a l ih =>
   intro h
   have h1 : ∀ k, 0 < k → k < l.length → l.getD (k - 1) 0 < l.getD k 0 := fun k h0 hk => by
     have := h (k + 1) (by omega) (by simp; omega)
     rw [show k + 1 - 1 = (k - 1) + 1 by omega] at this
     simpa using this
   have ip := ih h1
   refine List.Pairwise.cons (fun b hb => ?_) ip
   cases l with
   | nil => cases hb
   | cons c l =>
     have h2 : a < c := by simpa using h 1 (by omega) (by simp)
     rcases List.mem_cons.mp hb with h3 | h3
     · rw [h3]; exact h2
     · exact Int.lt_trans h2 ((List.pairwise_cons.mp ip).1 b h3)
theorem get_pair {l : List Int} (h : l.Pairwise (· < ·)) {i j : Nat} (hij : i < j) (hj : j < l.length) : l.getD i 0 < l.getD j 0 := by
 rw [getD_lt hj, getD_lt (show i < l.length by omega)]
 exact List.pairwise_iff_getElem.mp h i j (by omega) hj hij
theorem cxS_of {n : Int} {p : List Int} (h : cxOk n p) : cxS n p := by
 have hg : ∀ s ∈ p, ∃ k, k < p.length ∧ p.getD k 0 = s := fun s hs => by
   obtain ⟨k, hk, e⟩ := List.getElem_of_mem hs
   exact ⟨k, hk, by rw [getD_lt hk]; exact e⟩
 refine ⟨fun s hs => ?_, pair_get fun k h0 hk => (h.2.2 k hk).2.2.1 h0, fun a ha b hb hne => ?_⟩
 · obtain ⟨k, hk, rfl⟩ := hg s hs
   exact ⟨(h.2.2 k hk).1, (h.2.2 k hk).2.1⟩
 · obtain ⟨i, hi, rfl⟩ := hg a ha
   obtain ⟨j, hj, rfl⟩ := hg b hb
   exact (h.2.2 i hi).2.2.2 j hj (fun e => hne (by rw [e]))
theorem cx_ofS {n : Int} {p : List Int} (hn : numOk n) (hl : 1 ≤ p.length ∧ p.length ≤ 10) (h : cxS n p) : cxOk n p := by
 refine ⟨hn, hl, fun k hk => ?_⟩
 have hr := h.rng _ (mem_getD (d := 0) hk)
 refine ⟨hr.1, hr.2, fun h0 => get_pair h.asc (by omega) hk, fun j hj hne => h.anti _ (mem_getD hk) _ (mem_getD hj) fun e => ?_⟩
 rcases Nat.lt_or_ge j k with h1 | h1
 · have := get_pair h.asc h1 hk; omega
 · have := get_pair h.asc (show k < j by omega) hj; omega
theorem cx_filter {n : Int} {p : List Int} (f : Int → Bool) (h : cxOk n p) (h1 : 1 ≤ (p.filter f).length) : cxOk n (p.filter f) := by
 have hs := cxS_of h
 have hle := List.length_filter_le f p
 have hl := h.2.1
 refine cx_ofS h.1 ⟨h1, by omega⟩ ⟨fun s hs2 => hs.rng s (List.mem_filter.mp hs2).1, hs.asc.filter f, fun a ha b hb hne => hs.anti a (List.mem_filter.mp ha).1 b (List.mem_filter.mp hb).1 hne⟩
theorem pu_cx (n : Int) (l : List Int) : cxOk (tmN n) (puP (tmP n l)) := by
 have h := tm_cx n l
 have hl := h.2.1
 refine cx_filter _ h ?_
 have : (tmP n l).getD ((tmP n l).length - 1) 0 ∈ (tmP n l).filter (lastP (tmP n l)) := List.mem_filter.mpr ⟨mem_getD (by omega), decide_eq_true rfl⟩
 exact List.length_pos_of_mem this
end Go.Am.Sh

/- Shells: what follows, in the program and in the reference; IsShelling. -/
namespace Go.Am.Sh
open Go Go.Am Go.Proofs
theorem mns_bit (a e v : Nat) : (mns a e).testBit v = (a.testBit v && !e.testBit v) := by
 unfold mns
 rw [Nat.testBit_xor, Nat.testBit_and]
 cases a.testBit v <;> cases e.testBit v <;> rfl
theorem mns_or (a b e : Nat) : mns (a ||| b) e = mns a e ||| mns b e := by
 apply Nat.eq_of_testBit_eq
 intro v
 rw [mns_bit, Nat.testBit_or, Nat.testBit_or, mns_bit, mns_bit]
 cases a.testBit v <;> cases b.testBit v <;> cases e.testBit v <;> rfl
theorem or_ne (x y : Nat) : x ||| y ≠ 0 ↔ x ≠ 0 ∨ y ≠ 0 := by
 rw [Ne, Nat.or_eq_zero_iff]; omega
theorem one_and : ∀ m e : Fin 64, pc m.val = 1 → ((m.val &&& e.val = 0) ↔ mns m.val e.val ≠ 0) := by decide +kernel
theorem low_fnd {n : Int} {p : List Int} (hp : cxOk n p) {D s e : Nat} (hs : s < 64) (he : e < 64) : ∀ k, (mns (lowK p D s k) e ≠ 0) ↔ fnd p D s e k = true
 | 0 => by
   have : mns 0 e = 0 := by unfold mns; rw [Nat.zero_and]; try rfl
   simp [lowK, fnd, this]
 | k + 1 => by
   have ih := low_fnd hp (D := D) hs he k
   have h1 := okL_get hp.ok k
   have hm := mns_lt ⟨s, hs⟩ ⟨(p.getD k 0).toNat, by omega⟩
   simp only at hm
   have ho := one_and ⟨mns s (p.getD k 0).toNat, hm⟩ ⟨e, he⟩
   simp only at ho
   rw [lowK, fnd, Bool.or_eq_true, Bool.and_eq_true, Bool.and_eq_true, decide_eq_true_eq, decide_eq_true_eq, decide_eq_true_eq, ← ih]
   by_cases hc : D / 2 ^ k % 2 = 1 ∧ pc (mns s (p.getD k 0).toNat) = 1
   · rw [if_pos hc, mns_or, or_ne]
     constructor
     · rintro (h | h)
       · exact .inl h
       · exact .inr ⟨hc, (ho hc.2).mpr h⟩
     · rintro (h | h)
       · exact .inl h
       · exact .inr ((ho hc.2).mp h.2)
   · rw [if_neg hc]
     constructor
     · exact .inl
     · rintro (h | h)
       · exact h
       · exact absurd h.1 hc
theorem flw_nx {n : Int} {p : List Int} (hp : cxOk n p) (D i : Nat) : flw p D i = nxB p D i := by
 have hs := okL_get hp.ok i
 unfold flw nxB
 rw [decide_eq_decide]
 unfold flwN nxN low
 constructor
 · intro h e he hb
   have hr := okL_get hp.ok e
   exact (low_fnd hp (by omega) (by omega) _).mp (h e he hb)
 · intro h e he hb
   have hr := okL_get hp.ok e
   exact (low_fnd hp (by omega) (by omega) _).mpr (h e he hb)
theorem pure_pu {n : Int} {p : List Int} (hp : cxOk n p) : pure p = puB p := by
 have h1 := hp.2.1.1
 have hmx : ∃ j, j < p.length ∧ ((pc (p.getD j 0).toNat : Nat) : Int) = mxL p := by
   have key : ∀ k, 1 ≤ k → k ≤ p.length → ∃ j, j < k ∧ ((pc (p.getD j 0).toNat : Nat) : Int) = mxK p k := by
     intro k
     induction k with
     | zero => intro h; omega
     | succ k ih =>
       intro _ hk
       rw [mxK_step (by omega)]
       unfold maxI
       by_cases hlt : mxK p k < ((pc (p.getD k 0).toNat : Nat) : Int)
       · rw [if_pos hlt]; exact ⟨k, by omega, rfl⟩
       · rw [if_neg hlt]
         rcases Nat.eq_zero_or_pos k with h0 | h0
         · subst h0
           refine ⟨0, by omega, ?_⟩
           have : mxK p 0 = 0 := rfl
           omega
         · obtain ⟨j, h2, h3⟩ := ih h0 (by omega)
           exact ⟨j, by omega, h3⟩
   exact key p.length h1 (Nat.le_refl _)
 obtain ⟨j, hj, hj2⟩ := hmx
 rw [Bool.eq_iff_iff]
 unfold pure puB
 rw [List.all_eq_true, decide_eq_true_eq]
 constructor
 · intro h i hi
   have a := of_decide_eq_true (h _ (mem_getD (d := 0) hi))
   have b := of_decide_eq_true (h _ (mem_getD (d := 0) (show 0 < p.length by omega)))
   omega
 · intro h s hs
   obtain ⟨k, hk, e⟩ := List.getElem_of_mem hs
   have a := h k hk
   have b := h j hj
   rw [getD_lt hk, e] at a
   exact decide_eq_true (by omega)
end Go.Am.Sh

/- Shells: the reference's Shellable. -/
namespace Go.Am.Sh
open Go Go.Am Go.Proofs
/-- The sets that are reached: one row, the first k of its pieces. -/
def rowC (p : List Int) (D : Nat) (xs : List Bool) : Nat → List Bool
 | 0 => xs
 | k + 1 => if D / 2 ^ k % 2 = 0 ∧ nxB p D k = true then (rowC p D xs k).set (D ||| 2 ^ k) true else rowC p D xs k
/-- ... the first rows. -/
def canC (p : List Int) : Nat → List Bool
 | 0 => (List.replicate (2 ^ p.length) false).set 0 true
 | D + 1 => if (canC p D).getD D false = true then rowC p D (canC p D) p.length else canC p D
def shR (p : List Int) : Bool := puB p && (canC p (2 ^ p.length)).getD (2 ^ p.length - 1) false
end Go.Am.Sh

/- Shells: what the search finds is what the reference reaches. -/
namespace Go.Am.Sh
open Go Go.Am Go.Proofs
structure rOk (p : List Int) (r : Res) : Prop where
 s : (sgK p r.2.1 r.2.1.length).isSome = true
 l : r.2.1.length = p.length
end Go.Am.Sh

/- Shells: the law of the shellings. -/
namespace Go.Am.Sh
open Go Go.Am Go.Proofs
structure shF (p : List Int) : Prop where
 e : shB p = shR p
 s : shB p = true → sgR p (shL p) = true
 z : shB p = false → shL p = []
 l : (shL p).length ≤ 10
end Go.Am.Sh

/- Shells: the walk of the law of the shellings. -/
namespace Go.Am.Sh
open Go Go.Am Go.Proofs
end Go.Am.Sh

/- Shells: Made, as the law says it; IsShelling. -/
namespace Go.Am.Sh
open Go Go.Am Go.Proofs
noncomputable def L73_0 : Code := lp (bodyOf Try.f73) 0
def st73 (n : Int) (p o : List Int) (k : Nat) : St := ⟨.ptr 0 0 [] :: dd 4 ++ .int .i64 (sgD p o k) :: dd 15 ++ .sl I64 o :: .int .i64 o.length :: .int .i64 k :: dd 35, [cxO n p]⟩
def ex73 (n : Int) (p o : List Int) : List (List Nat × Ex) := [([], ⟨0, Unit, fun _ => (sgK p o o.length).isSome = true, fun _ => ⟨dd 59, [cxO n p]⟩⟩)]
noncomputable def H73 (n : Int) (p o : List Int) : Nat → Option Hint := fun _ => some ⟨chk 1 [0, 5, 21, 22, 23] (in17 p o) (st73 n p o), (ex73 n p o).map (·.2)⟩
noncomputable abbrev X73 : Cy := X1 [e54, e56]
theorem loop73 (n : Int) (p o : List Int) (h : cxOk n p) (hl : o.length = p.length) (hp : pure p = true) : LoopOK X73 L73_0 ⟨chk 1 [0, 5, 21, 22, 23] (in17 p o) (st73 n p o), (ex73 n p o).map (·.2)⟩ (RetR X73 false false [.tmp 4] [.bool (sgR p o)] [cxO n p]) := by
 refine loop_ok (X1_ok _) (H := fun _ _ => none) [0, 5, 21, 22, 23] (in17 p o) (st73 n p o) (fun k => o.length - k) (ex73 n p o) 150 fun (k : Nat) hk => ?_
 refine of_eq (q := True ∧ ((k : Int) < (o.length : Int) → idxPre (k : Int) o.length ∧ True ∧ True ∧ True ∧ True ∧ True ∧ (o.getD k (0 : Int) < 0 → True ∧ True ∧ True ∧ True ∧ True ∧ True ∧ True ∧ (false = sgR p o ∧ True) ∧ (n = n ∧ p = p ∧ mk (isF p) = mk (isF p) ∧ True) ∧ True) ∧ (¬o.getD k (0 : Int) < 0 → True ∧ True ∧ True ∧ True ∧ True ∧ True ∧ True ∧ True ∧ True ∧ ((p.length : Int) ≤ o.getD k (0 : Int) → True ∧ True ∧ True ∧ True ∧ True ∧ (false = sgR p o ∧ True) ∧ (n = n ∧ p = p ∧ mk (isF p) = mk (isF p) ∧ True) ∧ True) ∧ (¬(p.length : Int) ≤ o.getD k (0 : Int) → True ∧ True ∧ inR .u64 (o.getD k (0 : Int)) ∧ ((0 : Int) ≤ o.getD k (0 : Int) ∧ o.getD k (0 : Int) < bitsOf .i64) ∧ True ∧ True ∧ True ∧ True ∧ (bAnd .i64 ((↑(sgD p o k) : Int) / (2 : Int) ^ Int.toNat (o.getD k (0 : Int))) (1 : Int) = 1 → True ∧ True ∧ True ∧ (false = sgR p o ∧ True) ∧ (n = n ∧ p = p ∧ mk (isF p) = mk (isF p) ∧ True) ∧ True) ∧ (¬bAnd .i64 ((↑(sgD p o k) : Int) / (2 : Int) ^ Int.toNat (o.getD k (0 : Int))) (1 : Int) = 1 → True ∧ True ∧ True ∧ ((ok56 ((↑(sgD p o k) : Int), o.getD k (0 : Int), n, p, mk (isF p)) ∧ (True ∧ (↑(sgD p o k) : Int) = (↑(sgD p o k) : Int) ∧ o.getD k (0 : Int) = o.getD k (0 : Int) ∧ True) ∧ (n = n ∧ p = p ∧ mk (isF p) = mk (isF p) ∧ True) ∧ True) ∧ True ∧ True) ∧ True ∧ True ∧ ((!flw p (sgD p o k) (Int.toNat (o.getD k (0 : Int)))) = true → True ∧ True ∧ (false = sgR p o ∧ True) ∧ (n = n ∧ p = p ∧ mk (isF p) = mk (isF p) ∧ True) ∧ True) ∧ ((!flw p (sgD p o k) (Int.toNat (o.getD k (0 : Int)))) = false → True ∧ True ∧ inR .u64 (o.getD k (0 : Int)) ∧ (((0 : Int) ≤ o.getD k (0 : Int) ∧ o.getD k (0 : Int) < bitsOf .i64) ∧ (-9223372036854775808 : Int) ≤ 1 * 2 ^ Int.toNat (o.getD k (0 : Int)) ∧ (1 : Int) * 2 ^ Int.toNat (o.getD k (0 : Int)) ≤ 9223372036854775807) ∧ True ∧ True ∧ inR .i64 ((k : Int) + 1) ∧ True ∧ ∃ (y : Nat), (in17 p o y ∧ o.length - y < o.length - k) ∧ (True ∧ bOr .i64 (↑(sgD p o k) : Int) ((1 : Int) * 2 ^ Int.toNat (o.getD k (0 : Int))) = (↑(sgD p o y) : Int) ∧ o = o ∧ (o.length : Int) = (o.length : Int) ∧ (k : Int) + 1 = (y : Int) ∧ True) ∧ (n = n ∧ p = p ∧ mk (isF p) = mk (isF p) ∧ True) ∧ True))))) ∧ (¬(k : Int) < (o.length : Int) → ∃ (y : Unit), (sgK p o o.length).isSome = true ∧ True ∧ (n = n ∧ p = p ∧ mk (isF p) = mk (isF p) ∧ True) ∧ True)) (by kernel_rfl) ?_
 simp only [zz]
 obtain ⟨k1, k2⟩ := hk
 have hl2 := h.2.1
 have hs := sg_some k2
 have hD := sg_lt hl2.2 hs
 refine ⟨fun hlt => ?_, fun hlt => by rw [show o.length = k by omega]; exact k2⟩
 have hst : sgK p o (k + 1) = if sgB p (o.getD k 0) = true ∧ sgD p o k / 2 ^ (o.getD k 0).toNat % 2 = 0 ∧ nxB p (sgD p o k) (o.getD k 0).toNat = true then some (sgD p o k ||| 2 ^ (o.getD k 0).toNat) else none := by rw [sgK, hs]; try rfl
 have hbad : ¬ (sgB p (o.getD k 0) = true ∧ sgD p o k / 2 ^ (o.getD k 0).toNat % 2 = 0 ∧ nxB p (sgD p o k) (o.getD k 0).toNat = true) → false = sgR p o := fun hc => by
   rw [if_neg hc] at hst
   exact (sg_bad (by omega) hst).symm
 rw [bit_shr hD, flw_nx h]
 refine ⟨idx_nat (by omega), fun hx => hbad fun hc => ?_, fun hx => ⟨fun hx2 => hbad fun hc => ?_, fun hx2 => ⟨by simp only [inR]; omega, ⟨by omega, by simp only [bitsOf]; omega⟩, fun hb => hbad fun hc => ?_, fun hb => ⟨⟨⟨h, rfl⟩, ⟨by simp only; omega, by simp only; omega⟩, ⟨by simp only; omega, by simp only; omega⟩⟩, fun hn => hbad fun hc => ?_, fun hn => ?_⟩⟩⟩⟩
 · have : 0 ≤ o.getD k 0 ∧ o.getD k 0 < p.length := of_decide_eq_true hc.1
   omega
 · have : 0 ≤ o.getD k 0 ∧ o.getD k 0 < p.length := of_decide_eq_true hc.1
   omega
 · have := hc.2.1
   omega
 · rw [hc.2.2] at hn; cases hn
 · have hb2 := or_pow10 hD (k := (o.getD k 0).toNat) (by omega)
   rw [if_pos ⟨decide_eq_true ⟨by omega, by omega⟩, by omega, by simpa using hn⟩] at hst
   exact ⟨by simp only [inR]; omega, ⟨⟨by omega, by simp only [bitsOf]; omega⟩, by omega, by omega⟩, by simp only [inR]; omega, k + 1, ⟨⟨by omega, by rw [hst]; rfl⟩, by omega⟩, by rw [hb2.1]; unfold sgD; rw [hst]; rfl, by omega⟩
theorem call73 (n : Int) (p o : List Int) (h : cxOk n p) (ho : o.length < 1000000000000000) : GCall Try.prog gl 73 false [.ptr 0 0 [], .sl I64 o] [cxO n p] [.bool (sgR p o)] [cxO n p] := by
 refine gcall_of (X := X73) ((X1_ok _)) (f := 73) (fn := Try.f73) (c := bodyOf Try.f73) (by kernel_rfl) (by kernel_rfl) (view := false) (rvs := [.tmp 4]) (by kernel_rfl) (H := (H73 n p o)) 150 (by kernel_rfl) ?_
 have hL := fun h1 h2 => loop73 n p o h h1 h2
 refine of_eq (q := True ∧ True ∧ ((okC (n, p, mk (isF p)) ∧ (True ∧ True) ∧ (n = n ∧ p = p ∧ mk (isF p) = mk (isF p) ∧ True) ∧ True) ∧ True ∧ True) ∧ True ∧ True ∧ ((!pure p) = true → True ∧ True ∧ True ∧ (false = sgR p o ∧ True) ∧ (n = n ∧ p = p ∧ mk (isF p) = mk (isF p) ∧ True) ∧ True) ∧ ((!pure p) = false → True ∧ True ∧ True ∧ True ∧ True ∧ True ∧ True ∧ True ∧ True ∧ (¬(o.length : Int) = (p.length : Int) → True ∧ True ∧ (false = sgR p o ∧ True) ∧ (n = n ∧ p = p ∧ mk (isF p) = mk (isF p) ∧ True) ∧ True) ∧ (¬¬(o.length : Int) = (p.length : Int) → True ∧ True ∧ True ∧ True ∧ LoopOK X73 L73_0 { J := chk (1 : Nat) [(0 : Nat), (5 : Nat), (21 : Nat), (22 : Nat), (23 : Nat)] (in17 p o) (st73 n p o), exits := List.map (fun (x : List Nat × Ex) => x.snd) (ex73 n p o) } (RetR X73 false false [ResultVar.tmp (4 : Tmp)] [AV.bool (sgR p o)] [cxO n p]) ∧ (∃ (y : Nat), in17 p o y ∧ (True ∧ (0 : Int) = (↑(sgD p o y) : Int) ∧ o = o ∧ (o.length : Int) = (o.length : Int) ∧ (0 : Int) = (y : Int) ∧ True) ∧ (n = n ∧ p = p ∧ mk (isF p) = mk (isF p) ∧ True) ∧ True) ∧ (∀ (y : Unit), (sgK p o o.length).isSome = true → True ∧ True ∧ (true = sgR p o ∧ True) ∧ (n = n ∧ p = p ∧ mk (isF p) = mk (isF p) ∧ True) ∧ True) ∧ True))) (by kernel_rfl) ?_
 simp only [zz]
 refine ⟨⟨h, rfl⟩, fun hx => ?_, fun hx => ⟨fun hy => ?_, fun hy => ⟨hL (by omega) (by simpa using hx), ⟨0, ⟨Nat.zero_le _, rfl⟩, rfl, rfl⟩, fun _ hz => ?_⟩⟩⟩
 · have hx : pure p = false := by simpa using hx
   unfold sgR; rw [← pure_pu h, hx]; simp
 · unfold sgR; rw [decide_eq_false (show ¬ o.length = p.length by omega)]; simp
 · have hx : pure p = true := by simpa using hx
   unfold sgR; rw [hz, decide_eq_true (show o.length = p.length by omega), ← pure_pu h, hx]; try rfl
def get73 (xs : List AV) (obs : List Ob) : Option (List Int × Cx3) :=
 match xs with
 | [_, .sl e l] => (match castL e I64 l with
   | some l => (unCx (obs.getD 0 .gone)).map fun x => (l, x)
   | none => none)
 | _ => none
structure ok73 (x : List Int × Cx3) : Prop where
 h : okC x.2
 l : x.1.length < 1000000000000000
def e73 : Entry Try.prog gl := entryW 73 ⟨Try.f73, by kernel_rfl, by kernel_rfl, by kernel_rfl⟩ true get73 ok73 false (fun x => [.ptr 0 0 [], .sl I64 x.1]) (fun x => [cxQ x.2]) (fun x => [.bool (sgR x.2.2.1 x.1)]) (fun x => [cxQ x.2]) (fun x h => by rw [cxQ_ok h.h]; exact call73 _ _ _ h.h.h h.l)
theorem call44 (n : Int) (p o : List Int) (h : cxOk n p ∧ o.length < 1000000000000000) : GCall Try.prog gl 44 true [.int .i64 n, .sl I64 p, .sl I64 o] [] [.bool (sgR p o), .int .i64 0] [] := by
 refine gcall_of (X := X [e53, e73]) (X_ok [e53, e73]) (f := 44) (fn := Try.f44) (c := bodyOf Try.f44) (by kernel_rfl) (by kernel_rfl) (view := false) (rvs := [.tmp 6, .tmp 7]) (by kernel_rfl) (H := fun _ => none) 80 (by kernel_rfl) ?_
 refine of_eq (q := True ∧ True ∧ True ∧ True ∧ (CxP n p ∧ True) ∧ True ∧ True ∧ True ∧ True ∧ True ∧ True ∧ True ∧ (¬(0 : Int) = 0 → True ∧ True ∧ True ∧ True ∧ (false = sgR p o ∧ (0 : Int) = 0 ∧ True) ∧ True) ∧ (¬¬(0 : Int) = 0 → True ∧ True ∧ ((ok73 (o, n, p, mk (isF p)) ∧ (True ∧ o = o ∧ True) ∧ (n = n ∧ p = p ∧ mk (isF p) = mk (isF p) ∧ True) ∧ True) ∧ True ∧ True) ∧ True ∧ True ∧ True ∧ (sgR p o = sgR p o ∧ (0 : Int) = 0 ∧ True) ∧ True)) (by kernel_rfl) ?_
 simp only [zz]
 exact ⟨⟨h.1⟩, fun hx => absurd trivial hx, fun _ => ⟨⟨h.1, rfl⟩, h.2⟩⟩
def e44 : Entry Try.prog gl := entry3 44 ⟨Try.f44, by kernel_rfl, by kernel_rfl, by kernel_rfl⟩ I64 SI SI (fun (n : Int) p o => cxOk n p ∧ (o : List Int).length < 1000000000000000) true (fun _ p o => [.bool (sgR p o), .int .i64 0]) (fun _ _ _ => []) (fun (n : Int) p o h => call44 n p o h)
end Go.Am.Sh

/- Shells: the law of the makers. -/
namespace Go.Am.Sh
open Go Go.Am Go.Proofs
instance (n d : Int) : Decidable (momOk n d) := by unfold momOk; infer_instance
def n4 (n : Int) : Int := 3 + (modU .u64 n).tmod 4
def d4 (n d : Int) : Int := 2 + (modU .u64 d).tmod (n4 n - 2)
end Go.Am.Sh

/- Shells: the law of the makers, the outer loop. -/
namespace Go.Am.Sh
open Go Go.Am Go.Proofs
def nH : Nat → Option Hint := fun _ => none
end Go.Am.Sh

/- Shells: News. -/
namespace Go.Am.Sh
open Go Go.Am Go.Proofs
def obW (w : Int) (p : List Int) : List Ob := [.bx (.int .i64 w), .bx (.sl I64 p)]
def inB74 (w : Int) (p : List Int) (j : Int) : Bool := sub w.toNat (p.getD j.toNat 0).toNat
def pre74 (w : Int) (p : List Int) (j : Int) : Prop := okL p ∧ (0 ≤ w ∧ w < 64) ∧ 0 ≤ j ∧ j < p.length
theorem call74 (w : Int) (p : List Int) (j : Int) (h : pre74 w p j) : GCall Try.prog gl 74 false [.int .i64 j, .ptr 0 0 [], .ptr 1 0 []] (obW w p) [.bool (inB74 w p j)] (obW w p) := by
 refine gcall_of (X := (Xm [] 2 (fun _ => none))) ((Xm_ok _ _ _)) (f := 74) (fn := Try.f74) (c := bodyOf Try.f74) (by kernel_rfl) (by kernel_rfl) (view := false) (rvs := [.tmp 4]) (by kernel_rfl) (H := fun _ => none) 80 (by kernel_rfl) ?_
 refine of_eq (q := True ∧ True ∧ True ∧ True ∧ idxPre j p.length ∧ True ∧ True ∧ True ∧ True ∧ True ∧ (decide (bNot .i64 w (p.getD j.toNat (0 : Int)) = 0) = inB74 w p j ∧ True) ∧ w = w ∧ p = p ∧ True) (by kernel_rfl) ?_
 simp only [zz]
 obtain ⟨h1, h2, h3⟩ := h
 have hp := okL_get h1 j.toNat
 obtain ⟨a, rfl⟩ : ∃ a : Nat, w = a := ⟨w.toNat, by omega⟩
 obtain ⟨i, rfl⟩ : ∃ i : Nat, j = i := ⟨j.toNat, by omega⟩
 simp only [Int.toNat_natCast] at *
 unfold inB74
 obtain ⟨b, hq⟩ : ∃ b : Nat, p.getD i 0 = b := ⟨(p.getD i 0).toNat, by omega⟩
 simp only [Int.toNat_natCast, hq]
 rw [hq] at hp
 have := sub_mns ⟨a, by omega⟩ ⟨b, by omega⟩
 simp only at this
 rw [bNot_nat (by omega) (by omega)]
 refine ⟨idx_nat (by omega), ?_⟩
 rw [Bool.eq_iff_iff, decide_eq_true_eq, ← this]; omega
def get74 (xs : List AV) (obs : List Ob) : Option (Int × List Int × Int) :=
 match xs, obs with
 | [.int .i64 j, _, _], [.bx (.int .i64 w), .bx (.sl e l)] => (castL e I64 l).map fun l => (w, l, j)
 | _, _ => none
def e74 : Entry Try.prog gl := entryW 74 ⟨Try.f74, by kernel_rfl, by kernel_rfl, by kernel_rfl⟩ true get74 (fun x => pre74 x.1 x.2.1 x.2.2) false (fun x => [.int .i64 x.2.2, .ptr 0 0 [], .ptr 1 0 []]) (fun x => obW x.1 x.2.1) (fun x => [.bool (inB74 x.1 x.2.1 x.2.2)]) (fun x => obW x.1 x.2.1) (fun x h => call74 _ _ _ h)
def clo74 : AV := .clo 74 [] [.ptr 0 0 [], .ptr 1 0 []]
def nwX (w : Int) (p l : List Int) : Int := if ∃ s ∈ l, inB74 w p s = true then ((l.findIdx (inB74 w p) : Nat) : Int) else -1
def okO (p l : List Int) : Prop := ∀ j ∈ l, 0 ≤ j ∧ j < p.length
structure pre59n (w : Int) (p l : List Int) : Prop where
 hp : okL p
 hw : 0 ≤ w ∧ w < 64
 ho : okO p l
 hl : l.length ≤ 64
def iw83 (w : Int) (p l : List Int) (k : Nat) : Prop := k ≤ l.length ∧ ∀ q ∈ l.take k, inB74 w p q = false
def sw83 (w : Int) (p l : List Int) (k : Nat) : St := ⟨.sl I64 l :: clo74 :: dd 5 ++ .int .i64 l.length :: .int .i64 k :: dd 10, obW w p⟩
def ew83 (w : Int) (p l : List Int) : List (List Nat × Ex) := [([], ⟨0, Unit, fun _ => ∀ q ∈ l, inB74 w p q = false, fun _ => ⟨dd 19, obW w p⟩⟩)]
noncomputable def Hw83 (w : Int) (p l : List Int) : Nat → Option Hint := fun _ => some ⟨chk 2 [0, 1, 7, 8] (iw83 w p l) (sw83 w p l), (ew83 w p l).map (·.2)⟩
noncomputable abbrev Xw83 : Cy := Xm [e74] 2 (fun _ => none)
theorem loop83w (w : Int) (p l : List Int) (h : pre59n w p l) : LoopOK Xw83 L83_0 ⟨chk 2 [0, 1, 7, 8] (iw83 w p l) (sw83 w p l), (ew83 w p l).map (·.2)⟩ (RetR Xw83 false false [.tmp 4] [.int .i64 (nwX w p l)] (obW w p)) := by
 refine loop_ok (Xm_ok _ _ _) (H := fun _ _ => none) [0, 1, 7, 8] (iw83 w p l) (sw83 w p l) (fun k => l.length - k) (ew83 w p l) 90 fun (k : Nat) hk => ?_
 refine of_eq (q := True ∧ ((k : Int) < (l.length : Int) → True ∧ True ∧ True ∧ True ∧ True ∧ idxPre (k : Int) l.length ∧ True ∧ ((pre74 w p (l.getD k (0 : Int)) ∧ (l.getD k (0 : Int) = l.getD k (0 : Int) ∧ True ∧ True ∧ True) ∧ w = w ∧ p = p ∧ True) ∧ True ∧ True ∧ True) ∧ (inB74 w p (l.getD k (0 : Int)) = true → True ∧ True ∧ True ∧ ((k : Int) = nwX w p l ∧ True) ∧ w = w ∧ p = p ∧ True) ∧ (inB74 w p (l.getD k (0 : Int)) = false → inR .i64 ((k : Int) + 1) ∧ True ∧ ∃ (y : Nat), (iw83 w p l y ∧ l.length - y < l.length - k) ∧ (l = l ∧ (True ∧ True ∧ True ∧ True) ∧ (l.length : Int) = (l.length : Int) ∧ (k : Int) + 1 = (y : Int) ∧ True) ∧ w = w ∧ p = p ∧ True)) ∧ (¬(k : Int) < (l.length : Int) → ∃ (y : Unit), (∀ (q : Int), q ∈ l → inB74 w p q = false) ∧ True ∧ w = w ∧ p = p ∧ True)) (by kernel_rfl) ?_
 simp only [zz]
 obtain ⟨h1, h2⟩ := hk
 have hl := h.hl
 refine ⟨fun hk => ?_, fun hk => ?_⟩
 · have hk : k < l.length := by omega
   refine ⟨idx_nat hk, ⟨h.hp, h.hw, h.ho _ (mem_getD hk)⟩, fun hx => ?_, fun hx => ⟨by simp only [inR]; omega, k + 1, ⟨⟨by omega, (all_take (d := 0) hk).mpr ⟨h2, hx⟩⟩, by omega⟩, by omega⟩⟩
   unfold nwX
   rw [if_pos ⟨_, mem_getD hk, hx⟩, find_at hk h2 hx]
 · rwa [List.take_of_length_le (by omega)] at h2
theorem call83w (w : Int) (p l : List Int) (h : pre59n w p l) : GCall Try.prog gl 83 false [.sl I64 l, clo74] (obW w p) [.int .i64 (nwX w p l)] (obW w p) := by
 refine gcall_of (X := Xw83) ((Xm_ok _ _ _)) (f := 83) (fn := Try.f83) (c := bodyOf Try.f83) (by kernel_rfl) (by kernel_rfl) (view := false) (rvs := [.tmp 4]) (by kernel_rfl) (H := (Hw83 w p l)) 80 (by kernel_rfl) ?_
 have hL := loop83w w p l h
 refine of_eq (q := True ∧ True ∧ True ∧ True ∧ LoopOK Xw83 L83_0 { J := chk (2 : Nat) [(0 : Nat), (1 : Nat), (7 : Nat), (8 : Nat)] (iw83 w p l) (sw83 w p l), exits := List.map (fun (x : List Nat × Ex) => x.snd) (ew83 w p l) } (RetR Xw83 false false [ResultVar.tmp (4 : Tmp)] [AV.int .i64 (nwX w p l)] (obW w p)) ∧ (∃ (y : Nat), iw83 w p l y ∧ (l = l ∧ (True ∧ True ∧ True ∧ True) ∧ (l.length : Int) = (l.length : Int) ∧ (0 : Int) = (y : Int) ∧ True) ∧ w = w ∧ p = p ∧ True) ∧ (∀ (y : Unit), (∀ (q : Int), q ∈ l → inB74 w p q = false) → True ∧ True ∧ ((-1 : Int) = nwX w p l ∧ True) ∧ w = w ∧ p = p ∧ True) ∧ True) (by kernel_rfl) ?_
 simp only [zz]
 refine ⟨hL, ⟨0, ⟨by omega, by simp⟩, rfl⟩, fun _ h => ?_⟩
 unfold nwX; rw [if_neg]
 rintro ⟨q, h1, h2⟩
 rw [h q h1] at h2; cases h2
def get83w (xs : List AV) (obs : List Ob) : Option (Int × List Int × List Int) :=
 match xs, obs with
 | [.sl e l, _], [.bx (.int .i64 w), .bx (.sl e2 p)] => (match castL e I64 l, castL e2 I64 p with
   | some l, some p => some (w, p, l)
   | _, _ => none)
 | _, _ => none
def e83w : Entry Try.prog gl := entryW 83 ⟨Try.f83, by kernel_rfl, by kernel_rfl, by kernel_rfl⟩ true get83w (fun x => pre59n x.1 x.2.1 x.2.2) false (fun x => [.sl I64 x.2.2, clo74]) (fun x => obW x.1 x.2.1) (fun x => [.int .i64 (nwX x.1 x.2.1 x.2.2)]) (fun x => obW x.1 x.2.1) (fun x h => call83w _ _ _ h)
def nwA (w : Int) (p l : List Int) : Bool := l.any (inB74 w p)
theorem nwX_iff {w : Int} {p l : List Int} : 0 ≤ nwX w p l ↔ nwA w p l = true := by
 unfold nwX nwA
 rw [List.any_eq_true]
 constructor
 · intro h
   refine Classical.byContradiction fun h2 => ?_
   rw [if_neg h2] at h
   omega
 · intro h
   rw [if_pos h]; omega
theorem call59w (w : Int) (p l : List Int) (h : pre59n w p l) : GCall Try.prog gl 59 false [.sl I64 l, clo74] (obW w p) [.bool (nwA w p l)] (obW w p) := by
 refine gcall_of (X := (Xm [e83w] 2 (fun _ => none))) ((Xm_ok _ _ _)) (f := 59) (fn := Try.f59) (c := bodyOf Try.f59) (by kernel_rfl) (by kernel_rfl) (view := false) (rvs := [.tmp 4]) (by kernel_rfl) (H := fun _ => none) 80 (by kernel_rfl) ?_
 refine of_eq (q := True ∧ True ∧ True ∧ ((pre59n w p l ∧ (l = l ∧ (True ∧ True ∧ True ∧ True) ∧ True) ∧ w = w ∧ p = p ∧ True) ∧ True ∧ True ∧ True) ∧ True ∧ True ∧ True ∧ (decide ((0 : Int) ≤ nwX w p l) = nwA w p l ∧ True) ∧ w = w ∧ p = p ∧ True) (by kernel_rfl) ?_
 simp only [zz]
 refine ⟨h, ?_⟩
 have := nwX_iff (w := w) (p := p) (l := l)
 cases h : nwA w p l <;> simp [h] at this ⊢ <;> omega
def e59w : Entry Try.prog gl := entryW 59 ⟨Try.f59, by kernel_rfl, by kernel_rfl, by kernel_rfl⟩ true get83w (fun x => pre59n x.1 x.2.1 x.2.2) false (fun x => [.sl I64 x.2.2, clo74]) (fun x => obW x.1 x.2.1) (fun x => [.bool (nwA x.1 x.2.1 x.2.2)]) (fun x => obW x.1 x.2.1) (fun x h => call59w _ _ _ h)
def nwF (p o : List Int) (k v : Nat) : Bool := decide ((p.getD (o.getD k 0).toNat 0).toNat / 2 ^ v % 2 = 1) && nwA ((mns (p.getD (o.getD k 0).toNat 0).toNat (2 ^ v) : Nat) : Int) p (o.take k)
def nwN (p o : List Int) (k : Nat) : Nat → Nat
 | 0 => 0
 | v + 1 => if nwF p o k v = true then nwN p o k v ||| 2 ^ v else nwN p o k v
def nwL (n : Int) (p o : List Int) (k : Nat) : List Int := (List.range k).map fun k => ((nwN p o k n.toNat : Nat) : Int)
noncomputable abbrev X43 : Cy := Xd [e53, x53, e73, e59w] (drOf [(15, 12013)])
structure ok43 (n : Int) (p o : List Int) : Prop where
 hc : cxOk n p
 ho : okO p o
 hl : o.length ≤ 10
noncomputable def L43_0 : Code := lp (bodyOf Try.f43) 0
noncomputable def L43_2 : Code := lp (bodyOf Try.f43) 2
def hd43 (n : Int) (o : List Int) (x : AV) : List AV := .int .i64 n :: .dead :: .sl I64 o :: .dead :: .ptr 0 0 [] :: dd 5 ++ [x]
theorem nw_bit : ∀ s : Fin 64, ∀ v : Fin 6, (mns s.val (2 ^ v.val) = s.val) = (s.val / 2 ^ v.val % 2 = 0) := by decide +kernel
theorem nwN_lt (p o : List Int) (k : Nat) : ∀ v, nwN p o k v < 2 ^ v
 | 0 => by rw [nwN]; decide
 | v + 1 => by
   have := nwN_lt p o k v
   rw [nwN]
   split
   · exact Nat.or_lt_two_pow (Nat.lt_of_lt_of_le this (Nat.pow_le_pow_right (by decide) (by omega))) (Nat.pow_lt_pow_right (by decide) (by omega))
   · exact Nat.lt_of_lt_of_le this (Nat.pow_le_pow_right (by decide) (by omega))
def jz43 (n : Int) (p o : List Int) (k v : Nat) : St := ⟨hd43 n o (nl) ++ .int .i64 k :: .int .i64 (o.getD k 0) :: .int .i64 (nwN p o k v : Nat) :: dd 15 ++ .sl I64 o :: .int .i64 o.length :: .int .i64 k :: dd 4 ++ .int .i64 n :: .int .i64 v :: dd 35, [.bx (.sl I64 p)]⟩
def ejz43 (n : Int) (p o : List Int) (k : Nat) : List (List Nat × Ex) := [([0, 2, 4, 10, 13, 29, 30, 31], ⟨2, Unit, fun _ => True, fun _ => ⟨hd43 n o (nl) ++ dd 2 ++ .int .i64 (nwN p o k n.toNat : Nat) :: dd 15 ++ .sl I64 o :: .int .i64 o.length :: .int .i64 k :: dd 41, [.bx (.sl I64 p)]⟩⟩)]
def hz43 (n : Int) (p o : List Int) (k : Nat) : Hint := ⟨chk 0 [0, 2, 4, 10, 11, 12, 13, 29, 30, 31, 36, 37] (fun v => v ≤ n.toNat) (jz43 n p o k), (ejz43 n p o k).map (·.2)⟩
theorem loop43z (n : Int) (p o : List Int) (k : Nat) (h : ok43 n p o) (hk : k < o.length) (R : Exit → St → Prop) : LoopOK X43 L43_2 (hz43 n p o k) R := by
 refine loop_ok (Xd_ok _ _) (H := fun _ _ => none) [0, 2, 4, 10, 11, 12, 13, 29, 30, 31, 36, 37] (fun v => v ≤ n.toNat) (jz43 n p o k) (fun v => n.toNat - v) (ejz43 n p o k) 150 fun (v : Nat) hv => ?_
 refine of_eq (q := True ∧ ((v : Int) < n → True ∧ True ∧ True ∧ True ∧ idxPre (o.getD k (0 : Int)) p.length ∧ True ∧ True ∧ inR .u64 (v : Int) ∧ (((0 : Int) ≤ (v : Int) ∧ (v : Int) < bitsOf .i64) ∧ (-9223372036854775808 : Int) ≤ 1 * 2 ^ v ∧ (1 : Int) * 2 ^ v ≤ 9223372036854775807) ∧ True ∧ True ∧ True ∧ True ∧ true = true ∧ True ∧ true = true ∧ True ∧ true = true ∧ idxPre (o.getD k (0 : Int)) p.length ∧ true = true ∧ True ∧ true = true ∧ True ∧ true = true ∧ True ∧ true = true ∧ (¬bNot .i64 (p.getD (o.getD k (0 : Int)).toNat (0 : Int)) ((1 : Int) * 2 ^ v) = p.getD (o.getD k (0 : Int)).toNat (0 : Int) → True ∧ true = true ∧ True ∧ true = true ∧ slPre o.length o.length none (some (k : Int)) none ∧ true = true ∧ True ∧ true = true ∧ ((pre59n (bNot .i64 (p.getD (o.getD k (0 : Int)).toNat (0 : Int)) ((1 : Int) * 2 ^ v)) p (cutL o none (some (k : Int))) ∧ (cutL o none (some (k : Int)) = cutL o none (some (k : Int)) ∧ (True ∧ True ∧ True ∧ True) ∧ True) ∧ bNot .i64 (p.getD (o.getD k (0 : Int)).toNat (0 : Int)) ((1 : Int) * 2 ^ v) = bNot .i64 (p.getD (o.getD k (0 : Int)).toNat (0 : Int)) ((1 : Int) * 2 ^ v) ∧ p = p ∧ True) ∧ True ∧ True ∧ True) ∧ True ∧ True ∧ True ∧ (nwA (bNot .i64 (p.getD (o.getD k (0 : Int)).toNat (0 : Int)) ((1 : Int) * 2 ^ v)) p (cutL o none (some (k : Int))) = true → True ∧ True ∧ inR .u64 (v : Int) ∧ (((0 : Int) ≤ (v : Int) ∧ (v : Int) < bitsOf .i64) ∧ (-9223372036854775808 : Int) ≤ 1 * 2 ^ v ∧ (1 : Int) * 2 ^ v ≤ 9223372036854775807) ∧ True ∧ True ∧ inR .i64 ((v : Int) + 1) ∧ True ∧ ∃ (y : Nat), (y ≤ n.toNat ∧ n.toNat - y < n.toNat - v) ∧ (n = n ∧ o = o ∧ True ∧ True ∧ (k : Int) = (k : Int) ∧ o.getD k (0 : Int) = o.getD k (0 : Int) ∧ bOr .i64 (↑(nwN p o k v) : Int) ((1 : Int) * 2 ^ v) = (↑(nwN p o k y) : Int) ∧ o = o ∧ (o.length : Int) = (o.length : Int) ∧ (k : Int) = (k : Int) ∧ n = n ∧ (v : Int) + 1 = (y : Int) ∧ True) ∧ p = p ∧ True) ∧ (nwA (bNot .i64 (p.getD (o.getD k (0 : Int)).toNat (0 : Int)) ((1 : Int) * 2 ^ v)) p (cutL o none (some (k : Int))) = false → inR .i64 ((v : Int) + 1) ∧ True ∧ ∃ (y : Nat), (y ≤ n.toNat ∧ n.toNat - y < n.toNat - v) ∧ (n = n ∧ o = o ∧ True ∧ True ∧ (k : Int) = (k : Int) ∧ o.getD k (0 : Int) = o.getD k (0 : Int) ∧ (↑(nwN p o k v) : Int) = (↑(nwN p o k y) : Int) ∧ o = o ∧ (o.length : Int) = (o.length : Int) ∧ (k : Int) = (k : Int) ∧ n = n ∧ (v : Int) + 1 = (y : Int) ∧ True) ∧ p = p ∧ True)) ∧ (¬¬bNot .i64 (p.getD (o.getD k (0 : Int)).toNat (0 : Int)) ((1 : Int) * 2 ^ v) = p.getD (o.getD k (0 : Int)).toNat (0 : Int) → True ∧ True ∧ True ∧ inR .i64 ((v : Int) + 1) ∧ True ∧ ∃ (y : Nat), (y ≤ n.toNat ∧ n.toNat - y < n.toNat - v) ∧ (n = n ∧ o = o ∧ True ∧ True ∧ (k : Int) = (k : Int) ∧ o.getD k (0 : Int) = o.getD k (0 : Int) ∧ (↑(nwN p o k v) : Int) = (↑(nwN p o k y) : Int) ∧ o = o ∧ (o.length : Int) = (o.length : Int) ∧ (k : Int) = (k : Int) ∧ n = n ∧ (v : Int) + 1 = (y : Int) ∧ True) ∧ p = p ∧ True)) ∧ (¬(v : Int) < n → ∃ (y : Unit), True ∧ (n = n ∧ o = o ∧ True ∧ True ∧ (↑(nwN p o k v) : Int) = (↑(nwN p o k n.toNat) : Int) ∧ o = o ∧ (o.length : Int) = (o.length : Int) ∧ (k : Int) = (k : Int) ∧ True) ∧ p = p ∧ True)) (by kernel_rfl) ?_
 simp only [zz]
 have hv : v ≤ n.toNat := hv
 obtain ⟨n1, n2⟩ := h.hc.1
 have hok := h.hc.ok
 have hj := h.ho _ (mem_getD (d := 0) hk)
 have hF : nwF p o k v = (decide ((p.getD (o.getD k 0).toNat 0).toNat / 2 ^ v % 2 = 1) && nwA ((mns (p.getD (o.getD k 0).toNat 0).toNat (2 ^ v) : Nat) : Int) p (o.take k)) := rfl
 have hN : nwN p o k (v + 1) = if nwF p o k v = true then nwN p o k v ||| 2 ^ v else nwN p o k v := rfl
 have hlt := nwN_lt p o k v
 have hf := okL_get hok (o.getD k 0).toNat
 have hle := h.hl
 refine ⟨fun h3 => ?_, fun h3 => by rw [show v = n.toNat by omega]⟩
 have hv6 : v < 6 := by omega
 obtain ⟨s, hs⟩ : ∃ s : Nat, p.getD (o.getD k 0).toNat 0 = s := ⟨(p.getD (o.getD k 0).toNat 0).toNat, by omega⟩
 rw [hs] at hf hF ⊢
 have hs64 : s < 64 := by omega
 have hb := nw_bit ⟨s, hs64⟩ ⟨v, hv6⟩
 have hm := mns_lt ⟨s, hs64⟩ ⟨2 ^ v, Nat.pow_lt_pow_right (a := 2) (m := v) (n := 6) (by decide) hv6⟩
 simp only [Int.toNat_natCast] at hb hm hF ⊢
 have h2 : 2 ^ v < 64 := Nat.pow_lt_pow_right (a := 2) (by decide) hv6
 have e : (2 ^ v : Int) = ((2 ^ v : Nat) : Int) := by rw [Int.natCast_pow]; try rfl
 have hlt2 : nwN p o k v < 64 := by omega
 rw [e]
 generalize hP : 2 ^ v = P at *
 have e3 : bNot .i64 (s : Int) (1 * (P : Int)) = ((mns s P : Nat) : Int) := by
   rw [Int.one_mul, bNot_nat (by omega) (by omega)]
 have e4 : bOr .i64 (nwN p o k v : Nat) (1 * (P : Int)) = ((nwN p o k v ||| P : Nat) : Int) := by
   rw [Int.one_mul, bOr_nat (by omega) (by omega)]
 have hsh : (0 ≤ (v : Int) ∧ (v : Int) < bitsOf .i64) ∧ -9223372036854775808 ≤ 1 * (P : Int) ∧ 1 * (P : Int) ≤ 9223372036854775807 := ⟨⟨by omega, by simp only [bitsOf]; omega⟩, by omega, by omega⟩
 have hu : inR .u64 (v : Int) := by simp only [inR]; omega
 have hx : idxPre (o.getD k 0) p.length := by unfold idxPre; omega
 have hnx : ∀ z : Int, z = (nwN p o k (v + 1) : Nat) → inR .i64 ((v : Int) + 1) ∧ ∃ y, (y ≤ n.toNat ∧ n.toNat - y < n.toNat - v) ∧ z = ((nwN p o k y : Nat) : Int) ∧ (v : Int) + 1 = (y : Int) := fun z hz => ⟨by simp only [inR]; omega, v + 1, ⟨by omega, by omega⟩, hz, by omega⟩
 have hcut : cutL o none (some (k : Int)) = o.take k := by simp [cutL]
 rw [e3, e4, hcut]
 have hpre : pre59n ((mns s P : Nat) : Int) p (o.take k) := ⟨hok, ⟨by omega, by omega⟩, fun j hj => h.ho j (List.mem_of_mem_take hj), by simp; omega⟩
 have hF2 : nwF p o k v = true ↔ (s / P % 2 = 1 ∧ nwA ((mns s P : Nat) : Int) p (o.take k) = true) := by rw [hF, Bool.and_eq_true, decide_eq_true_eq]
 refine ⟨hx, hu, hsh, hx, fun h5 => ⟨by unfold slPre; omega, hpre, fun h6 => ⟨hu, hsh, hnx _ ?_⟩, fun h6 => hnx _ ?_⟩, fun h5 => hnx _ ?_⟩
 · have : s / P % 2 = 1 := by
     have : ¬ mns s P = s := by omega
     rw [hb] at this; omega
   rw [hN, if_pos (hF2.mpr ⟨this, h6⟩)]
 · rw [hN, if_neg (fun h => by rw [(hF2.mp h).2] at h6; cases h6)]
 · have : mns s P = s := by omega
   rw [hb] at this
   rw [hN, if_neg (fun h => by have := (hF2.mp h).1; omega)]
def jt43 (n : Int) (p o : List Int) (k v : Nat) : St := ⟨hd43 n o (.own 1 0) ++ .int .i64 k :: .int .i64 (o.getD k 0) :: .int .i64 (nwN p o k v : Nat) :: dd 15 ++ .sl I64 o :: .int .i64 o.length :: .int .i64 k :: dd 4 ++ .int .i64 n :: .int .i64 v :: dd 35, [.bx (.sl I64 p), .sc 0 3 I64 (nwL n p o k)]⟩
def ejt43 (n : Int) (p o : List Int) (k : Nat) : List (List Nat × Ex) := [([0, 2, 4, 10, 13, 29, 30, 31], ⟨2, Unit, fun _ => True, fun _ => ⟨hd43 n o (.own 1 0) ++ dd 2 ++ .int .i64 (nwN p o k n.toNat : Nat) :: dd 15 ++ .sl I64 o :: .int .i64 o.length :: .int .i64 k :: dd 41, [.bx (.sl I64 p), .sc 0 3 I64 (nwL n p o k)]⟩⟩)]
def ht43 (n : Int) (p o : List Int) (k : Nat) : Hint := ⟨chk 0 [0, 2, 4, 10, 11, 12, 13, 29, 30, 31, 36, 37] (fun v => v ≤ n.toNat) (jt43 n p o k), (ejt43 n p o k).map (·.2)⟩
theorem loop43t (n : Int) (p o : List Int) (k : Nat) (h : ok43 n p o) (hk : k < o.length) (R : Exit → St → Prop) : LoopOK X43 L43_2 (ht43 n p o k) R := by
 refine loop_ok (Xd_ok _ _) (H := fun _ _ => none) [0, 2, 4, 10, 11, 12, 13, 29, 30, 31, 36, 37] (fun v => v ≤ n.toNat) (jt43 n p o k) (fun v => n.toNat - v) (ejt43 n p o k) 150 fun (v : Nat) hv => ?_
 refine of_eq (q := True ∧ ((v : Int) < n → True ∧ True ∧ True ∧ True ∧ idxPre (o.getD k (0 : Int)) p.length ∧ True ∧ True ∧ inR .u64 (v : Int) ∧ (((0 : Int) ≤ (v : Int) ∧ (v : Int) < bitsOf .i64) ∧ (-9223372036854775808 : Int) ≤ 1 * 2 ^ v ∧ (1 : Int) * 2 ^ v ≤ 9223372036854775807) ∧ True ∧ True ∧ True ∧ True ∧ true = true ∧ True ∧ true = true ∧ True ∧ true = true ∧ idxPre (o.getD k (0 : Int)) p.length ∧ true = true ∧ True ∧ true = true ∧ True ∧ true = true ∧ True ∧ true = true ∧ (¬bNot .i64 (p.getD (o.getD k (0 : Int)).toNat (0 : Int)) ((1 : Int) * 2 ^ v) = p.getD (o.getD k (0 : Int)).toNat (0 : Int) → True ∧ true = true ∧ True ∧ true = true ∧ slPre o.length o.length none (some (k : Int)) none ∧ true = true ∧ True ∧ true = true ∧ ((pre59n (bNot .i64 (p.getD (o.getD k (0 : Int)).toNat (0 : Int)) ((1 : Int) * 2 ^ v)) p (cutL o none (some (k : Int))) ∧ (cutL o none (some (k : Int)) = cutL o none (some (k : Int)) ∧ (True ∧ True ∧ True ∧ True) ∧ True) ∧ bNot .i64 (p.getD (o.getD k (0 : Int)).toNat (0 : Int)) ((1 : Int) * 2 ^ v) = bNot .i64 (p.getD (o.getD k (0 : Int)).toNat (0 : Int)) ((1 : Int) * 2 ^ v) ∧ p = p ∧ True) ∧ True ∧ True ∧ True) ∧ True ∧ True ∧ True ∧ (nwA (bNot .i64 (p.getD (o.getD k (0 : Int)).toNat (0 : Int)) ((1 : Int) * 2 ^ v)) p (cutL o none (some (k : Int))) = true → True ∧ True ∧ inR .u64 (v : Int) ∧ (((0 : Int) ≤ (v : Int) ∧ (v : Int) < bitsOf .i64) ∧ (-9223372036854775808 : Int) ≤ 1 * 2 ^ v ∧ (1 : Int) * 2 ^ v ≤ 9223372036854775807) ∧ True ∧ True ∧ inR .i64 ((v : Int) + 1) ∧ True ∧ ∃ (y : Nat), (y ≤ n.toNat ∧ n.toNat - y < n.toNat - v) ∧ (n = n ∧ o = o ∧ True ∧ True ∧ (k : Int) = (k : Int) ∧ o.getD k (0 : Int) = o.getD k (0 : Int) ∧ bOr .i64 (↑(nwN p o k v) : Int) ((1 : Int) * 2 ^ v) = (↑(nwN p o k y) : Int) ∧ o = o ∧ (o.length : Int) = (o.length : Int) ∧ (k : Int) = (k : Int) ∧ n = n ∧ (v : Int) + 1 = (y : Int) ∧ True) ∧ p = p ∧ nwL n p o k = nwL n p o k ∧ True) ∧ (nwA (bNot .i64 (p.getD (o.getD k (0 : Int)).toNat (0 : Int)) ((1 : Int) * 2 ^ v)) p (cutL o none (some (k : Int))) = false → inR .i64 ((v : Int) + 1) ∧ True ∧ ∃ (y : Nat), (y ≤ n.toNat ∧ n.toNat - y < n.toNat - v) ∧ (n = n ∧ o = o ∧ True ∧ True ∧ (k : Int) = (k : Int) ∧ o.getD k (0 : Int) = o.getD k (0 : Int) ∧ (↑(nwN p o k v) : Int) = (↑(nwN p o k y) : Int) ∧ o = o ∧ (o.length : Int) = (o.length : Int) ∧ (k : Int) = (k : Int) ∧ n = n ∧ (v : Int) + 1 = (y : Int) ∧ True) ∧ p = p ∧ nwL n p o k = nwL n p o k ∧ True)) ∧ (¬¬bNot .i64 (p.getD (o.getD k (0 : Int)).toNat (0 : Int)) ((1 : Int) * 2 ^ v) = p.getD (o.getD k (0 : Int)).toNat (0 : Int) → True ∧ True ∧ True ∧ inR .i64 ((v : Int) + 1) ∧ True ∧ ∃ (y : Nat), (y ≤ n.toNat ∧ n.toNat - y < n.toNat - v) ∧ (n = n ∧ o = o ∧ True ∧ True ∧ (k : Int) = (k : Int) ∧ o.getD k (0 : Int) = o.getD k (0 : Int) ∧ (↑(nwN p o k v) : Int) = (↑(nwN p o k y) : Int) ∧ o = o ∧ (o.length : Int) = (o.length : Int) ∧ (k : Int) = (k : Int) ∧ n = n ∧ (v : Int) + 1 = (y : Int) ∧ True) ∧ p = p ∧ nwL n p o k = nwL n p o k ∧ True)) ∧ (¬(v : Int) < n → ∃ (y : Unit), True ∧ (n = n ∧ o = o ∧ True ∧ True ∧ (↑(nwN p o k v) : Int) = (↑(nwN p o k n.toNat) : Int) ∧ o = o ∧ (o.length : Int) = (o.length : Int) ∧ (k : Int) = (k : Int) ∧ True) ∧ p = p ∧ nwL n p o k = nwL n p o k ∧ True)) (by kernel_rfl) ?_
 simp only [zz]
 have hv : v ≤ n.toNat := hv
 obtain ⟨n1, n2⟩ := h.hc.1
 have hok := h.hc.ok
 have hj := h.ho _ (mem_getD (d := 0) hk)
 have hF : nwF p o k v = (decide ((p.getD (o.getD k 0).toNat 0).toNat / 2 ^ v % 2 = 1) && nwA ((mns (p.getD (o.getD k 0).toNat 0).toNat (2 ^ v) : Nat) : Int) p (o.take k)) := rfl
 have hN : nwN p o k (v + 1) = if nwF p o k v = true then nwN p o k v ||| 2 ^ v else nwN p o k v := rfl
 have hlt := nwN_lt p o k v
 have hf := okL_get hok (o.getD k 0).toNat
 have hle := h.hl
 refine ⟨fun h3 => ?_, fun h3 => by rw [show v = n.toNat by omega]⟩
 have hv6 : v < 6 := by omega
 obtain ⟨s, hs⟩ : ∃ s : Nat, p.getD (o.getD k 0).toNat 0 = s := ⟨(p.getD (o.getD k 0).toNat 0).toNat, by omega⟩
 rw [hs] at hf hF ⊢
 have hs64 : s < 64 := by omega
 have hb := nw_bit ⟨s, hs64⟩ ⟨v, hv6⟩
 have hm := mns_lt ⟨s, hs64⟩ ⟨2 ^ v, Nat.pow_lt_pow_right (a := 2) (m := v) (n := 6) (by decide) hv6⟩
 simp only [Int.toNat_natCast] at hb hm hF ⊢
 have h2 : 2 ^ v < 64 := Nat.pow_lt_pow_right (a := 2) (by decide) hv6
 have e : (2 ^ v : Int) = ((2 ^ v : Nat) : Int) := by rw [Int.natCast_pow]; try rfl
 have hlt2 : nwN p o k v < 64 := by omega
 rw [e]
 generalize hP : 2 ^ v = P at *
 have e3 : bNot .i64 (s : Int) (1 * (P : Int)) = ((mns s P : Nat) : Int) := by
   rw [Int.one_mul, bNot_nat (by omega) (by omega)]
 have e4 : bOr .i64 (nwN p o k v : Nat) (1 * (P : Int)) = ((nwN p o k v ||| P : Nat) : Int) := by
   rw [Int.one_mul, bOr_nat (by omega) (by omega)]
 have hsh : (0 ≤ (v : Int) ∧ (v : Int) < bitsOf .i64) ∧ -9223372036854775808 ≤ 1 * (P : Int) ∧ 1 * (P : Int) ≤ 9223372036854775807 := ⟨⟨by omega, by simp only [bitsOf]; omega⟩, by omega, by omega⟩
 have hu : inR .u64 (v : Int) := by simp only [inR]; omega
 have hx : idxPre (o.getD k 0) p.length := by unfold idxPre; omega
 have hnx : ∀ z : Int, z = (nwN p o k (v + 1) : Nat) → inR .i64 ((v : Int) + 1) ∧ ∃ y, (y ≤ n.toNat ∧ n.toNat - y < n.toNat - v) ∧ z = ((nwN p o k y : Nat) : Int) ∧ (v : Int) + 1 = (y : Int) := fun z hz => ⟨by simp only [inR]; omega, v + 1, ⟨by omega, by omega⟩, hz, by omega⟩
 have hcut : cutL o none (some (k : Int)) = o.take k := by simp [cutL]
 rw [e3, e4, hcut]
 have hpre : pre59n ((mns s P : Nat) : Int) p (o.take k) := ⟨hok, ⟨by omega, by omega⟩, fun j hj => h.ho j (List.mem_of_mem_take hj), by simp; omega⟩
 have hF2 : nwF p o k v = true ↔ (s / P % 2 = 1 ∧ nwA ((mns s P : Nat) : Int) p (o.take k) = true) := by rw [hF, Bool.and_eq_true, decide_eq_true_eq]
 have hF2 : nwF p o k v = true ↔ (s / P % 2 = 1 ∧ nwA ((mns s P : Nat) : Int) p (o.take k) = true) := by rw [hF, Bool.and_eq_true, decide_eq_true_eq]
 refine ⟨hx, hu, hsh, hx, fun h5 => ⟨by unfold slPre; omega, hpre, fun h6 => ⟨hu, hsh, hnx _ ?_⟩, fun h6 => hnx _ ?_⟩, fun h5 => hnx _ ?_⟩
 · have : s / P % 2 = 1 := by
     have : ¬ mns s P = s := by omega
     rw [hb] at this; omega
   rw [hN, if_pos (hF2.mpr ⟨this, h6⟩)]
 · rw [hN, if_neg (fun h => by rw [(hF2.mp h).2] at h6; cases h6)]
 · have : mns s P = s := by omega
   rw [hb] at this
   rw [hN, if_neg (fun h => by have := (hF2.mp h).1; omega)]
def sz43 (n : Int) (p o : List Int) (_ : Unit) : St := ⟨hd43 n o nl ++ dd 18 ++ .sl I64 o :: .int .i64 o.length :: .int .i64 0 :: dd 41, [.bx (.sl I64 p)]⟩
def st43 (n : Int) (p o : List Int) (k : Nat) : St := ⟨hd43 n o (.own 1 0) ++ dd 18 ++ .sl I64 o :: .int .i64 o.length :: .int .i64 k :: dd 41, [.bx (.sl I64 p), .sc 0 3 I64 (nwL n p o k)]⟩
def fm43 (n : Int) (p o : List Int) : List Fam := [⟨Unit, fun _ => True, sz43 n p o, fun _ => 20, fun _ _ => some (hz43 n p o 0)⟩, ⟨Nat, fun k => k ≤ o.length, st43 n p o, fun k => o.length - k, fun k _ => some (ht43 n p o k)⟩]
def ex43 (n : Int) (p o : List Int) : List (List Nat × Ex) := [([10], ⟨0, Unit, fun _ => o.length = 0, fun _ => ⟨dd 10 ++ nl :: dd 62, []⟩⟩), ([10], ⟨0, Unit, fun _ => True, fun _ => ⟨dd 10 ++ .own 0 0 :: dd 62, [.sc 0 3 I64 (nwL n p o o.length)]⟩⟩)]
def h43 (n : Int) (p o : List Int) : Hint := ⟨chks 0 [0, 2, 4, 10, 29, 30, 31] (fm43 n p o), (ex43 n p o).map (·.2)⟩
theorem nwL_step (n : Int) (p o : List Int) (k : Nat) : nwL n p o (k + 1) = nwL n p o k ++ [((nwN p o k n.toNat : Nat) : Int)] := by
 unfold nwL
 rw [List.range_succ, List.map_append]; try rfl
theorem nwL_len (n : Int) (p o : List Int) (k : Nat) : (nwL n p o k).length = k := by unfold nwL; simp
theorem loop43 (n : Int) (p o : List Int) (h : ok43 n p o) (R : Exit → St → Prop) : LoopOK X43 L43_0 (h43 n p o) R := by
 have hle := h.hl
 refine loop_fams (Xd_ok _ _) [0, 2, 4, 10, 29, 30, 31] (fm43 n p o) (ex43 n p o) 150 ⟨fun _ _ => ?_, fun (k : Nat) hk => ?_, trivial⟩
 · have hL := fun hh => loop43z n p o 0 h hh (bodyR 0 (ex43 n p o) R)
   refine of_eq (q := True ∧ ((0 : Int) < (o.length : Int) → True ∧ idxPre (0 : Int) o.length ∧ True ∧ True ∧ True ∧ True ∧ True ∧ True ∧ LoopOK X43 L43_2 (hz43 n p o (0 : Nat)) (bodyR (0 : Nat) (ex43 n p o) R) ∧ (∃ (y : Nat), y ≤ n.toNat ∧ (n = n ∧ o = o ∧ True ∧ True ∧ (0 : Int) = 0 ∧ o.getD (0 : Nat) (0 : Int) = o.getD (0 : Nat) (0 : Int) ∧ (0 : Int) = (↑(nwN p o (0 : Nat) y) : Int) ∧ o = o ∧ (o.length : Int) = (o.length : Int) ∧ (0 : Int) = 0 ∧ n = n ∧ (0 : Int) = (y : Int) ∧ True) ∧ p = p ∧ True) ∧ (∀ (y : Unit), True → True ∧ True ∧ True ∧ sumPre (0 : Nat) [(↑(nwN p o (0 : Nat) n.toNat) : Int)].length (nat_lit 8) ∧ True ∧ inR .i64 (1 : Int) ∧ True ∧ ((∃ (y : Unit), (True ∧ (20 : Nat) < 20) ∧ (n = n ∧ o = o ∧ True ∧ False ∧ o = o ∧ (o.length : Int) = (o.length : Int) ∧ (1 : Int) = 0 ∧ True) ∧ p = p ∧ True) ∨ ∃ (y : Nat), (y ≤ o.length ∧ o.length - y < 20) ∧ (n = n ∧ o = o ∧ True ∧ True ∧ o = o ∧ (o.length : Int) = (o.length : Int) ∧ (1 : Int) = (y : Int) ∧ True) ∧ p = p ∧ [(↑(nwN p o (0 : Nat) n.toNat) : Int)] = nwL n p o y ∧ True)) ∧ True) ∧ (¬(0 : Int) < (o.length : Int) → (∃ (y : Unit), o.length = 0 ∧ (True ∧ True) ∧ True) ∨ ∃ (y : Unit), True ∧ (False ∧ True) ∧ False)) (by kernel_rfl) ?_
   simp only [zz]
   exact ⟨fun h => ⟨by unfold idxPre; omega, hL (by omega), ⟨0, by omega, rfl, rfl⟩, fun _ _ => ⟨by unfold sumPre; simp, by simp only [inR]; omega, 1, ⟨by omega, by omega⟩, rfl, rfl⟩⟩, fun h => by omega⟩
 · have hL := fun hh => loop43t n p o k h hh (bodyR 0 (ex43 n p o) R)
   refine of_eq (q := True ∧ ((k : Int) < (o.length : Int) → True ∧ idxPre (k : Int) o.length ∧ True ∧ True ∧ True ∧ True ∧ True ∧ True ∧ LoopOK X43 L43_2 (ht43 n p o k) (bodyR (0 : Nat) (ex43 n p o) R) ∧ (∃ (y : Nat), y ≤ n.toNat ∧ (n = n ∧ o = o ∧ True ∧ True ∧ (k : Int) = (k : Int) ∧ o.getD k (0 : Int) = o.getD k (0 : Int) ∧ (0 : Int) = (↑(nwN p o k y) : Int) ∧ o = o ∧ (o.length : Int) = (o.length : Int) ∧ (k : Int) = (k : Int) ∧ n = n ∧ (0 : Int) = (y : Int) ∧ True) ∧ p = p ∧ nwL n p o k = nwL n p o k ∧ True) ∧ (∀ (y : Unit), True → True ∧ True ∧ True ∧ sumPre (nwL n p o k).length [(↑(nwN p o k n.toNat) : Int)].length (nat_lit 8) ∧ True ∧ inR .i64 ((k : Int) + 1) ∧ True ∧ ((∃ (y : Unit), (True ∧ (20 : Nat) < o.length - k) ∧ (n = n ∧ o = o ∧ True ∧ False ∧ o = o ∧ (o.length : Int) = (o.length : Int) ∧ (k : Int) + 1 = 0 ∧ True) ∧ p = p ∧ True) ∨ ∃ (y : Nat), (y ≤ o.length ∧ o.length - y < o.length - k) ∧ (n = n ∧ o = o ∧ True ∧ True ∧ o = o ∧ (o.length : Int) = (o.length : Int) ∧ (k : Int) + 1 = (y : Int) ∧ True) ∧ p = p ∧ nwL n p o k ++ [(↑(nwN p o k n.toNat) : Int)] = nwL n p o y ∧ True)) ∧ True) ∧ (¬(k : Int) < (o.length : Int) → (∃ (y : Unit), o.length = 0 ∧ (False ∧ True) ∧ True) ∨ ∃ (y : Unit), True ∧ (True ∧ True) ∧ nwL n p o k = nwL n p o o.length ∧ True)) (by kernel_rfl) ?_
   simp only [zz]
   have hk : k ≤ o.length := hk
   have hl := nwL_len n p o k
   exact ⟨fun h => ⟨idx_nat (by omega), hL (by omega), ⟨0, by omega, rfl, rfl⟩, fun _ _ => ⟨by unfold sumPre; simp; omega, by simp only [inR]; omega, k + 1, ⟨by omega, by omega⟩, by omega, (nwL_step _ _ _ _).symm⟩⟩, fun h => by rw [show k = o.length by omega]⟩
theorem call43 (n : Int) (p o : List Int) (h : ok43 n p o) (hs : sgR p o = true) : GCall Try.prog gl 43 false [.int .i64 n, .sl I64 p, .sl I64 o] [] [.sl I64 (nwL n p o o.length), .int .i64 0] [] := by
 have hL := loop43 n p o h
 refine gcall_of (X := X43) ((Xd_ok _ _)) (f := 43) (fn := Try.f43) (c := bodyOf Try.f43) (by kernel_rfl) (by kernel_rfl) (view := true) (rvs := [.tmp 6, .tmp 7]) (by kernel_rfl) (H := (fun _ => some (h43 n p o))) 150 (by kernel_rfl) ?_
 refine of_eq (q := True ∧ True ∧ True ∧ True ∧ True ∧ (CxP n p ∧ True) ∧ True ∧ True ∧ True ∧ True ∧ True ∧ True ∧ True ∧ (¬(0 : Int) = 0 → True ∧ True ∧ True ∧ True ∧ (([] : List Int) = nwL n p o o.length ∧ (0 : Int) = 0 ∧ True) ∧ True) ∧ (¬¬(0 : Int) = 0 → True ∧ True ∧ ((ok73 (o, n, p, mk (isF p)) ∧ (True ∧ o = o ∧ True) ∧ (n = n ∧ p = p ∧ mk (isF p) = mk (isF p) ∧ True) ∧ True) ∧ True ∧ True) ∧ True ∧ ((!sgR p o) = true → True ∧ True ∧ True ∧ (([] : List Int) = nwL n p o o.length ∧ (1 : Int) = 0 ∧ True) ∧ True) ∧ ((!sgR p o) = false → True ∧ True ∧ True ∧ True ∧ LoopOK X43 L43_0 (h43 n p o) (RetR X43 false true [ResultVar.tmp (6 : Tmp), ResultVar.tmp (7 : Tmp)] [AV.sl I64 (nwL n p o o.length), AV.int .i64 (0 : Int)] []) ∧ ((∃ (y : Unit), True ∧ (n = n ∧ o = o ∧ True ∧ True ∧ o = o ∧ (o.length : Int) = (o.length : Int) ∧ (0 : Int) = 0 ∧ True) ∧ p = p ∧ True) ∨ ∃ (y : Nat), y ≤ o.length ∧ (n = n ∧ o = o ∧ True ∧ False ∧ o = o ∧ (o.length : Int) = (o.length : Int) ∧ (0 : Int) = (y : Int) ∧ True) ∧ p = p ∧ False) ∧ (∀ (y : Unit), o.length = 0 → True ∧ True ∧ True ∧ True ∧ (([] : List Int) = nwL n p o o.length ∧ (0 : Int) = 0 ∧ True) ∧ True) ∧ (∀ (y : Unit), True → True ∧ True ∧ True ∧ True ∧ (nwL n p o o.length = nwL n p o o.length ∧ (0 : Int) = 0 ∧ True) ∧ True) ∧ True))) (by kernel_rfl) ?_
 simp only [zz]
 refine ⟨⟨h.hc⟩, fun hx => absurd trivial hx, fun _ => ⟨⟨⟨h.hc, rfl⟩, by have := h.hl; simp only; omega⟩, fun hx => (by rw [hs] at hx; cases hx), fun _ => ⟨hL _, fun _ h0 => ?_, fun _ _ => trivial⟩⟩⟩
 rw [h0]; try rfl
theorem sg_okO {p o : List Int} (h : sgR p o = true) : okO p o ∧ o.length = p.length := by
 have h' := h
 unfold sgR at h
 rw [Bool.and_eq_true, Bool.and_eq_true, decide_eq_true_eq] at h
 refine ⟨fun j hj => ?_, h.1.2⟩
 obtain ⟨k, hk, rfl⟩ := List.getElem_of_mem hj
 have hb : sgB p (o.getD k 0) = true := by
   cases hb : sgB p (o.getD k 0) with
   | true => rfl
   | false =>
     have hn : sgK p o (k + 1) = none := by
       cases hD : sgK p o k with
       | none => rw [sgK, hD]; try rfl
       | some D =>
         have : sgK p o (k + 1) = if sgB p (o.getD k 0) = true ∧ D / 2 ^ (o.getD k 0).toNat % 2 = 0 ∧ nxB p D (o.getD k 0).toNat = true then some (D ||| 2 ^ (o.getD k 0).toNat) else none := by rw [sgK, hD]; try rfl
         rw [this, if_neg (fun hc => by rw [hb] at hc; cases hc.1)]
     rw [sg_bad hk hn] at h'; cases h'
 unfold sgB at hb
 rw [getD_lt hk] at hb
 exact of_decide_eq_true hb
theorem call43y (n : Int) (p o : List Int) (h : cxOk n p ∧ o.length < 1000000000000000) (hs : sgR p o = false) : GCall Try.prog gl 43 false [.int .i64 n, .sl I64 p, .sl I64 o] [] [.sl I64 [], .int .i64 1] [] := by
 have hL := fun (hh : ok43 n p o) R => loop43 n p o hh R
 refine gcall_of (X := X43) ((Xd_ok _ _)) (f := 43) (fn := Try.f43) (c := bodyOf Try.f43) (by kernel_rfl) (by kernel_rfl) (view := true) (rvs := [.tmp 6, .tmp 7]) (by kernel_rfl) (H := (fun _ => some (h43 n p o))) 150 (by kernel_rfl) ?_
 refine of_eq (q := True ∧ True ∧ True ∧ True ∧ True ∧ (CxP n p ∧ True) ∧ True ∧ True ∧ True ∧ True ∧ True ∧ True ∧ True ∧ (¬(0 : Int) = 0 → True ∧ True ∧ True ∧ True ∧ (([] : List Int) = [] ∧ (0 : Int) = 1 ∧ True) ∧ True) ∧ (¬¬(0 : Int) = 0 → True ∧ True ∧ ((ok73 (o, n, p, mk (isF p)) ∧ (True ∧ o = o ∧ True) ∧ (n = n ∧ p = p ∧ mk (isF p) = mk (isF p) ∧ True) ∧ True) ∧ True ∧ True) ∧ True ∧ ((!sgR p o) = true → True ∧ True ∧ True ∧ (([] : List Int) = [] ∧ (1 : Int) = 1 ∧ True) ∧ True) ∧ ((!sgR p o) = false → True ∧ True ∧ True ∧ True ∧ LoopOK X43 L43_0 (h43 n p o) (RetR X43 false true [ResultVar.tmp (6 : Tmp), ResultVar.tmp (7 : Tmp)] [AV.sl I64 [], AV.int .i64 (1 : Int)] []) ∧ ((∃ (y : Unit), True ∧ (n = n ∧ o = o ∧ True ∧ True ∧ o = o ∧ (o.length : Int) = (o.length : Int) ∧ (0 : Int) = 0 ∧ True) ∧ p = p ∧ True) ∨ ∃ (y : Nat), y ≤ o.length ∧ (n = n ∧ o = o ∧ True ∧ False ∧ o = o ∧ (o.length : Int) = (o.length : Int) ∧ (0 : Int) = (y : Int) ∧ True) ∧ p = p ∧ False) ∧ (∀ (y : Unit), o.length = 0 → True ∧ True ∧ True ∧ True ∧ (([] : List Int) = [] ∧ (0 : Int) = 1 ∧ True) ∧ True) ∧ (∀ (y : Unit), True → True ∧ True ∧ True ∧ True ∧ (nwL n p o o.length = [] ∧ (0 : Int) = 1 ∧ True) ∧ True) ∧ True))) (by kernel_rfl) ?_
 simp only [zz]
 exact ⟨⟨h.1⟩, fun hx => absurd trivial hx, fun _ => ⟨⟨⟨h.1, rfl⟩, h.2⟩, fun _ => trivial, fun hx => (by rw [hs] at hx; cases hx)⟩⟩
def nsR (n : Int) (p o : List Int) : List Int := if sgR p o = true then nwL n p o o.length else []
def nsE (p o : List Int) : Int := if sgR p o = true then 0 else 1
theorem call43g (n : Int) (p o : List Int) (h : cxOk n p ∧ o.length < 1000000000000000) : GCall Try.prog gl 43 false [.int .i64 n, .sl I64 p, .sl I64 o] [] [.sl I64 (nsR n p o), .int .i64 (nsE p o)] [] := by
 unfold nsR nsE
 cases hs : sgR p o with
 | true =>
   obtain ⟨h1, h2⟩ := sg_okO hs
   exact call43 n p o ⟨h.1, h1, by have := h.1.2.1; omega⟩ hs
 | false => exact call43y n p o h hs
def e43 : Entry Try.prog gl := entry3 43 ⟨Try.f43, by kernel_rfl, by kernel_rfl, by kernel_rfl⟩ I64 SI SI (fun (n : Int) p o => cxOk n p ∧ (o : List Int).length < 1000000000000000) false (fun (n : Int) p o => [.sl I64 (nsR n p o), .int .i64 (nsE p o)]) (fun _ _ _ => []) (fun (n : Int) p o h => call43g n p o h)
end Go.Am.Sh

/- Shells: News, as the reference finds them. -/
namespace Go.Am.Sh
open Go Go.Am Go.Proofs
def ok45 (p o : List Int) : Prop := okL p ∧ okO p o ∧ o.length ≤ 10
def nwL6 (p o : List Int) (k : Nat) : List Int := (List.range k).map fun k => ((nwN p o k 6 : Nat) : Int)
theorem nwL6_step (p o : List Int) (k : Nat) : nwL6 p o (k + 1) = nwL6 p o k ++ [((nwN p o k 6 : Nat) : Int)] := by
 unfold nwL6
 rw [List.range_succ, List.map_append]; try rfl
theorem nwL6_len (p o : List Int) (k : Nat) : (nwL6 p o k).length = k := by unfold nwL6; simp
/-- The new part, behind e of the pieces before. -/
def nwC (p o : List Int) (k v e : Nat) : Bool := decide ((p.getD (o.getD k 0).toNat 0).toNat / 2 ^ v % 2 = 1) && nwA ((mns (p.getD (o.getD k 0).toNat 0).toNat (2 ^ v) : Nat) : Int) p (o.take e)
def nwM (p o : List Int) (k v e : Nat) : Nat := if nwC p o k v e = true then nwN p o k v ||| 2 ^ v else nwN p o k v
theorem nwM_end (p o : List Int) (k v : Nat) : nwM p o k v k = nwN p o k (v + 1) := rfl
theorem nwM_zero (p o : List Int) (k v : Nat) : nwM p o k v 0 = nwN p o k v := by
 unfold nwM nwC nwA
 rw [List.take_zero, List.any_nil, Bool.and_false]; try rfl
theorem nwM_lt (p o : List Int) (k v e : Nat) : nwM p o k v e < 2 ^ (v + 1) := by
 have := nwN_lt p o k v
 unfold nwM
 split
 · exact Nat.or_lt_two_pow (Nat.lt_of_lt_of_le this (Nat.pow_le_pow_right (by decide) (by omega))) (Nat.pow_lt_pow_right (by decide) (by omega))
 · exact Nat.lt_of_lt_of_le this (Nat.pow_le_pow_right (by decide) (by omega))
theorem nwM_step (p o : List Int) (k v e : Nat) (he : e < o.length) : nwM p o k v (e + 1) = if (p.getD (o.getD k 0).toNat 0).toNat / 2 ^ v % 2 = 1 ∧ inB74 ((mns (p.getD (o.getD k 0).toNat 0).toNat (2 ^ v) : Nat) : Int) p (o.getD e 0) = true then nwM p o k v e ||| 2 ^ v else nwM p o k v e := by
 unfold nwM nwC nwA
 rw [any_take he]
 generalize (o.take e).any _ = a
 generalize inB74 _ p (o.getD e 0) = b
 generalize (p.getD (o.getD k 0).toNat 0).toNat / 2 ^ v % 2 = c
 generalize nwN p o k v = N
 by_cases hc : c = 1
 · cases a <;> cases b <;> simp [hc, Nat.or_assoc, Nat.or_self]
 · simp [hc]
noncomputable abbrev X45 : Cy := X [e63]
noncomputable def L45_0 : Code := lp (bodyOf Try.f45) 0
noncomputable def L45_2 : Code := lp (bodyOf Try.f45) 2
noncomputable def L45_4 : Code := lp (bodyOf Try.f45) 4
def iz45 (p o : List Int) (k v e : Nat) : St := ⟨.sl I64 p :: .sl I64 o :: dd 3 ++ nl :: .int .i64 k :: .int .i64 (p.getD (o.getD k 0).toNat 0) :: .int .i64 (nwM p o k v e : Nat) :: .int .i64 v :: .int .i64 e :: dd 50, []⟩
def eiz45 (p o : List Int) (k v : Nat) : List (List Nat × Ex) := [([0, 1, 5, 6, 7, 8, 9], ⟨4, Unit, fun _ => True, fun _ => ⟨.sl I64 p :: .sl I64 o :: dd 3 ++ nl :: .int .i64 k :: .int .i64 (p.getD (o.getD k 0).toNat 0) :: .int .i64 (nwN p o k (v + 1) : Nat) :: .int .i64 v :: dd 51, []⟩⟩)]
def hiz45 (p o : List Int) (k v : Nat) : Hint := ⟨chk 0 [0, 1, 5, 6, 7, 8, 9, 10] (fun e => e ≤ k) (iz45 p o k v), (eiz45 p o k v).map (·.2)⟩
theorem loop45iz (p o : List Int) (k v : Nat) (h : ok45 p o) (hk : k < o.length) (hv6 : v < 6) (R : Exit → St → Prop) : LoopOK X45 L45_4 (hiz45 p o k v) R := by
 refine loop_ok (X_ok _) (H := fun _ _ => none) [0, 1, 5, 6, 7, 8, 9, 10] (fun e => e ≤ k) (iz45 p o k v) (fun e => k - e) (eiz45 p o k v) 150 fun (e : Nat) he => ?_
 refine of_eq (q := True ∧ True ∧ True ∧ ((e : Int) < (k : Int) → True ∧ True ∧ ((0 : Int) ≤ (v : Int) ∧ (v : Int) < bitsOf .i64) ∧ ¬(2 : Int) = 0 ∧ True ∧ True ∧ ((p.getD (o.getD k (0 : Int)).toNat (0 : Int) / (2 : Int) ^ v).tmod (2 : Int) = 1 → True ∧ True ∧ (((0 : Int) ≤ (v : Int) ∧ (v : Int) < bitsOf .i64) ∧ (-9223372036854775808 : Int) ≤ 1 * 2 ^ v ∧ (1 : Int) * 2 ^ v ≤ 9223372036854775807) ∧ True ∧ True ∧ True ∧ True ∧ idxPre (e : Int) o.length ∧ True ∧ idxPre (o.getD e (0 : Int)) p.length ∧ True ∧ (((0 : Int) ≤ bNot .i64 (p.getD (o.getD k (0 : Int)).toNat (0 : Int)) ((1 : Int) * 2 ^ v) ∧ bNot .i64 (p.getD (o.getD k (0 : Int)).toNat (0 : Int)) ((1 : Int) * 2 ^ v) < 64) ∧ (0 : Int) ≤ p.getD (Int.toNat (o.getD e (0 : Int))) (0 : Int) ∧ p.getD (Int.toNat (o.getD e (0 : Int))) (0 : Int) < 64) ∧ True ∧ (sub (bNot .i64 (p.getD (o.getD k (0 : Int)).toNat (0 : Int)) ((1 : Int) * 2 ^ v)).toNat (Int.toNat (p.getD (Int.toNat (o.getD e (0 : Int))) (0 : Int))) = true → True ∧ True ∧ (((0 : Int) ≤ (v : Int) ∧ (v : Int) < bitsOf .i64) ∧ (-9223372036854775808 : Int) ≤ 1 * 2 ^ v ∧ (1 : Int) * 2 ^ v ≤ 9223372036854775807) ∧ True ∧ True ∧ True ∧ inR .i64 ((e : Int) + 1) ∧ True ∧ ∃ (y : Nat), (y ≤ k ∧ k - y < k - e) ∧ (p = p ∧ o = o ∧ True ∧ (k : Int) = (k : Int) ∧ p.getD (o.getD k (0 : Int)).toNat (0 : Int) = p.getD (o.getD k (0 : Int)).toNat (0 : Int) ∧ bOr .i64 (↑(nwM p o k v e) : Int) ((1 : Int) * 2 ^ v) = (↑(nwM p o k v y) : Int) ∧ (v : Int) = (v : Int) ∧ (e : Int) + 1 = (y : Int) ∧ True) ∧ True) ∧ (sub (bNot .i64 (p.getD (o.getD k (0 : Int)).toNat (0 : Int)) ((1 : Int) * 2 ^ v)).toNat (Int.toNat (p.getD (Int.toNat (o.getD e (0 : Int))) (0 : Int))) = false → True ∧ inR .i64 ((e : Int) + 1) ∧ True ∧ ∃ (y : Nat), (y ≤ k ∧ k - y < k - e) ∧ (p = p ∧ o = o ∧ True ∧ (k : Int) = (k : Int) ∧ p.getD (o.getD k (0 : Int)).toNat (0 : Int) = p.getD (o.getD k (0 : Int)).toNat (0 : Int) ∧ (↑(nwM p o k v e) : Int) = (↑(nwM p o k v y) : Int) ∧ (v : Int) = (v : Int) ∧ (e : Int) + 1 = (y : Int) ∧ True) ∧ True)) ∧ (¬(p.getD (o.getD k (0 : Int)).toNat (0 : Int) / (2 : Int) ^ v).tmod (2 : Int) = 1 → True ∧ True ∧ inR .i64 ((e : Int) + 1) ∧ True ∧ ∃ (y : Nat), (y ≤ k ∧ k - y < k - e) ∧ (p = p ∧ o = o ∧ True ∧ (k : Int) = (k : Int) ∧ p.getD (o.getD k (0 : Int)).toNat (0 : Int) = p.getD (o.getD k (0 : Int)).toNat (0 : Int) ∧ (↑(nwM p o k v e) : Int) = (↑(nwM p o k v y) : Int) ∧ (v : Int) = (v : Int) ∧ (e : Int) + 1 = (y : Int) ∧ True) ∧ True)) ∧ (¬(e : Int) < (k : Int) → ∃ (y : Unit), True ∧ (p = p ∧ o = o ∧ True ∧ (k : Int) = (k : Int) ∧ p.getD (o.getD k (0 : Int)).toNat (0 : Int) = p.getD (o.getD k (0 : Int)).toNat (0 : Int) ∧ (↑(nwM p o k v e) : Int) = (↑(nwN p o k (v + 1)) : Int) ∧ (v : Int) = (v : Int) ∧ True) ∧ True)) (by kernel_rfl) ?_
 simp only [zz]
 have he : e ≤ k := he
 have hj := h.2.1 _ (mem_getD (d := 0) hk)
 have hlt := nwN_lt p o k v
 have hf := okL_get h.1 (o.getD k 0).toNat
 have hle := h.2.2
 have hend : nwM p o k v k = nwN p o k (v + 1) := nwM_end p o k v
 have hM := nwM_lt p o k v e
 refine ⟨fun h3 => ?_, fun h3 => by rw [← hend, show e = k by omega]⟩
 have hek : e < o.length := by omega
 have hje := h.2.1 _ (mem_getD (d := 0) hek)
 have hfe := okL_get h.1 (o.getD e 0).toNat
 have hst := nwM_step p o k v e hek
 unfold inB74 at hst
 obtain ⟨s, hs⟩ : ∃ s : Nat, p.getD (o.getD k 0).toNat 0 = s := ⟨(p.getD (o.getD k 0).toNat 0).toNat, by omega⟩
 rw [hs] at hf hst ⊢
 have hs64 : s < 64 := by omega
 have hm := mns_lt ⟨s, hs64⟩ ⟨2 ^ v, Nat.pow_lt_pow_right (a := 2) (m := v) (n := 6) (by decide) hv6⟩
 simp only [Int.toNat_natCast] at hm hst ⊢
 have h2 : 2 ^ v < 64 := Nat.pow_lt_pow_right (a := 2) (by decide) hv6
 have ep : (2 ^ v : Int) = ((2 ^ v : Nat) : Int) := by rw [Int.natCast_pow]; try rfl
 have e1 : ((s : Int) / 2 ^ v).tmod 2 = ((s / 2 ^ v % 2 : Nat) : Int) := bit_tmod
 rw [e1, ep]
 generalize hP : 2 ^ v = P at *
 have e3 : bNot .i64 (s : Int) (1 * (P : Int)) = ((mns s P : Nat) : Int) := by
   rw [Int.one_mul, bNot_nat (by omega) (by omega)]
 have e4 : bOr .i64 (nwM p o k v e : Nat) (1 * (P : Int)) = ((nwM p o k v e ||| P : Nat) : Int) := by
   rw [Int.one_mul, bOr_nat (by omega) (by omega)]
 have hsh : (0 ≤ (v : Int) ∧ (v : Int) < bitsOf .i64) ∧ -9223372036854775808 ≤ 1 * (P : Int) ∧ 1 * (P : Int) ≤ 9223372036854775807 := ⟨⟨by omega, by simp only [bitsOf]; omega⟩, by omega, by omega⟩
 have hx : idxPre (o.getD e 0) p.length := by unfold idxPre; omega
 have hnx : ∀ z : Int, z = (nwM p o k v (e + 1) : Nat) → inR .i64 ((e : Int) + 1) ∧ ∃ y, (y ≤ k ∧ k - y < k - e) ∧ z = ((nwM p o k v y : Nat) : Int) ∧ (e : Int) + 1 = (y : Int) := fun z hz => ⟨by simp only [inR]; omega, e + 1, ⟨by omega, by omega⟩, hz, by omega⟩
 rw [e3, e4]
 refine ⟨hsh.1, by decide, fun hb => ⟨hsh, idx_nat hek, hx, ⟨⟨by omega, by omega⟩, hfe⟩, fun h6 => ⟨hsh, hnx _ ?_⟩, fun h6 => hnx _ ?_⟩, fun hb => hnx _ ?_⟩
 · rw [hst, if_pos ⟨by omega, h6⟩]
 · rw [hst, if_neg (fun h => Bool.noConfusion (h6.symm.trans h.2))]
 · rw [hst, if_neg (fun h => by omega)]
def jz45 (p o : List Int) (k v : Nat) : St := ⟨.sl I64 p :: .sl I64 o :: dd 3 ++ nl :: .int .i64 k :: .int .i64 (p.getD (o.getD k 0).toNat 0) :: .int .i64 (nwN p o k v : Nat) :: .int .i64 v :: dd 51, []⟩
def ejz45 (p o : List Int) (k : Nat) : List (List Nat × Ex) := [([0, 1, 5, 6, 8], ⟨2, Unit, fun _ => True, fun _ => ⟨.sl I64 p :: .sl I64 o :: dd 3 ++ nl :: .int .i64 k :: .dead :: .int .i64 (nwN p o k 6 : Nat) :: dd 52, []⟩⟩)]
def hjz45 (p o : List Int) (k : Nat) : Hint := ⟨chk 0 [0, 1, 5, 6, 7, 8, 9] (fun v => v ≤ 6) (jz45 p o k), (ejz45 p o k).map (·.2)⟩
theorem loop45jz (p o : List Int) (k : Nat) (h : ok45 p o) (hk : k < o.length) (R : Exit → St → Prop) : LoopOK X45 L45_2 (hjz45 p o k) R := by
 refine loop_ok (X_ok _) (H := fun v _ => some (hiz45 p o k v)) [0, 1, 5, 6, 7, 8, 9] (fun v => v ≤ 6) (jz45 p o k) (fun v => 6 - v) (ejz45 p o k) 150 fun (v : Nat) hv => ?_
 have hL := fun h6 => loop45iz p o k v h hk h6 (bodyR 0 (ejz45 p o k) R)
 refine of_eq (q := True ∧ True ∧ ((v : Int) < 6 → True ∧ LoopOK X45 L45_4 (hiz45 p o k v) (bodyR (0 : Nat) (ejz45 p o k) R) ∧ (∃ (y : Nat), y ≤ k ∧ (p = p ∧ o = o ∧ True ∧ (k : Int) = (k : Int) ∧ p.getD (o.getD k (0 : Int)).toNat (0 : Int) = p.getD (o.getD k (0 : Int)).toNat (0 : Int) ∧ (↑(nwN p o k v) : Int) = (↑(nwM p o k v y) : Int) ∧ (v : Int) = (v : Int) ∧ (0 : Int) = (y : Int) ∧ True) ∧ True) ∧ (∀ (y : Unit), True → True ∧ inR .i64 ((v : Int) + 1) ∧ True ∧ ∃ (y : Nat), (y ≤ 6 ∧ (6 : Nat) - y < 6 - v) ∧ (p = p ∧ o = o ∧ True ∧ (k : Int) = (k : Int) ∧ p.getD (o.getD k (0 : Int)).toNat (0 : Int) = p.getD (o.getD k (0 : Int)).toNat (0 : Int) ∧ (↑(nwN p o k (v + 1)) : Int) = (↑(nwN p o k y) : Int) ∧ (v : Int) + 1 = (y : Int) ∧ True) ∧ True) ∧ True) ∧ (¬(v : Int) < 6 → ∃ (y : Unit), True ∧ (p = p ∧ o = o ∧ True ∧ (k : Int) = (k : Int) ∧ (↑(nwN p o k v) : Int) = (↑(nwN p o k (6 : Nat)) : Int) ∧ True) ∧ True)) (by kernel_rfl) ?_
 simp only [zz]
 have hv : v ≤ 6 := hv
 exact ⟨fun h3 => ⟨hL (by omega), ⟨0, Nat.zero_le _, by rw [nwM_zero], rfl⟩, fun _ _ => ⟨by simp only [inR]; omega, v + 1, ⟨by omega, by omega⟩, rfl, by omega⟩⟩, fun h3 => by rw [show v = 6 by omega]⟩
def it45 (p o : List Int) (k v e : Nat) : St := ⟨.sl I64 p :: .sl I64 o :: dd 3 ++ .own 0 0 :: .int .i64 k :: .int .i64 (p.getD (o.getD k 0).toNat 0) :: .int .i64 (nwM p o k v e : Nat) :: .int .i64 v :: .int .i64 e :: dd 50, [.sc 0 3 I64 (nwL6 p o k)]⟩
def eit45 (p o : List Int) (k v : Nat) : List (List Nat × Ex) := [([0, 1, 5, 6, 7, 8, 9], ⟨4, Unit, fun _ => True, fun _ => ⟨.sl I64 p :: .sl I64 o :: dd 3 ++ .own 0 0 :: .int .i64 k :: .int .i64 (p.getD (o.getD k 0).toNat 0) :: .int .i64 (nwN p o k (v + 1) : Nat) :: .int .i64 v :: dd 51, [.sc 0 3 I64 (nwL6 p o k)]⟩⟩)]
def hit45 (p o : List Int) (k v : Nat) : Hint := ⟨chk 0 [0, 1, 5, 6, 7, 8, 9, 10] (fun e => e ≤ k) (it45 p o k v), (eit45 p o k v).map (·.2)⟩
theorem loop45it (p o : List Int) (k v : Nat) (h : ok45 p o) (hk : k < o.length) (hv6 : v < 6) (R : Exit → St → Prop) : LoopOK X45 L45_4 (hit45 p o k v) R := by
 refine loop_ok (X_ok _) (H := fun _ _ => none) [0, 1, 5, 6, 7, 8, 9, 10] (fun e => e ≤ k) (it45 p o k v) (fun e => k - e) (eit45 p o k v) 150 fun (e : Nat) he => ?_
 refine of_eq (q := True ∧ True ∧ True ∧ ((e : Int) < (k : Int) → True ∧ True ∧ ((0 : Int) ≤ (v : Int) ∧ (v : Int) < bitsOf .i64) ∧ ¬(2 : Int) = 0 ∧ True ∧ True ∧ ((p.getD (o.getD k (0 : Int)).toNat (0 : Int) / (2 : Int) ^ v).tmod (2 : Int) = 1 → True ∧ True ∧ (((0 : Int) ≤ (v : Int) ∧ (v : Int) < bitsOf .i64) ∧ (-9223372036854775808 : Int) ≤ 1 * 2 ^ v ∧ (1 : Int) * 2 ^ v ≤ 9223372036854775807) ∧ True ∧ True ∧ True ∧ True ∧ idxPre (e : Int) o.length ∧ True ∧ idxPre (o.getD e (0 : Int)) p.length ∧ True ∧ (((0 : Int) ≤ bNot .i64 (p.getD (o.getD k (0 : Int)).toNat (0 : Int)) ((1 : Int) * 2 ^ v) ∧ bNot .i64 (p.getD (o.getD k (0 : Int)).toNat (0 : Int)) ((1 : Int) * 2 ^ v) < 64) ∧ (0 : Int) ≤ p.getD (Int.toNat (o.getD e (0 : Int))) (0 : Int) ∧ p.getD (Int.toNat (o.getD e (0 : Int))) (0 : Int) < 64) ∧ True ∧ (sub (bNot .i64 (p.getD (o.getD k (0 : Int)).toNat (0 : Int)) ((1 : Int) * 2 ^ v)).toNat (Int.toNat (p.getD (Int.toNat (o.getD e (0 : Int))) (0 : Int))) = true → True ∧ True ∧ (((0 : Int) ≤ (v : Int) ∧ (v : Int) < bitsOf .i64) ∧ (-9223372036854775808 : Int) ≤ 1 * 2 ^ v ∧ (1 : Int) * 2 ^ v ≤ 9223372036854775807) ∧ True ∧ True ∧ True ∧ inR .i64 ((e : Int) + 1) ∧ True ∧ ∃ (y : Nat), (y ≤ k ∧ k - y < k - e) ∧ (p = p ∧ o = o ∧ True ∧ (k : Int) = (k : Int) ∧ p.getD (o.getD k (0 : Int)).toNat (0 : Int) = p.getD (o.getD k (0 : Int)).toNat (0 : Int) ∧ bOr .i64 (↑(nwM p o k v e) : Int) ((1 : Int) * 2 ^ v) = (↑(nwM p o k v y) : Int) ∧ (v : Int) = (v : Int) ∧ (e : Int) + 1 = (y : Int) ∧ True) ∧ nwL6 p o k = nwL6 p o k ∧ True) ∧ (sub (bNot .i64 (p.getD (o.getD k (0 : Int)).toNat (0 : Int)) ((1 : Int) * 2 ^ v)).toNat (Int.toNat (p.getD (Int.toNat (o.getD e (0 : Int))) (0 : Int))) = false → True ∧ inR .i64 ((e : Int) + 1) ∧ True ∧ ∃ (y : Nat), (y ≤ k ∧ k - y < k - e) ∧ (p = p ∧ o = o ∧ True ∧ (k : Int) = (k : Int) ∧ p.getD (o.getD k (0 : Int)).toNat (0 : Int) = p.getD (o.getD k (0 : Int)).toNat (0 : Int) ∧ (↑(nwM p o k v e) : Int) = (↑(nwM p o k v y) : Int) ∧ (v : Int) = (v : Int) ∧ (e : Int) + 1 = (y : Int) ∧ True) ∧ nwL6 p o k = nwL6 p o k ∧ True)) ∧ (¬(p.getD (o.getD k (0 : Int)).toNat (0 : Int) / (2 : Int) ^ v).tmod (2 : Int) = 1 → True ∧ True ∧ inR .i64 ((e : Int) + 1) ∧ True ∧ ∃ (y : Nat), (y ≤ k ∧ k - y < k - e) ∧ (p = p ∧ o = o ∧ True ∧ (k : Int) = (k : Int) ∧ p.getD (o.getD k (0 : Int)).toNat (0 : Int) = p.getD (o.getD k (0 : Int)).toNat (0 : Int) ∧ (↑(nwM p o k v e) : Int) = (↑(nwM p o k v y) : Int) ∧ (v : Int) = (v : Int) ∧ (e : Int) + 1 = (y : Int) ∧ True) ∧ nwL6 p o k = nwL6 p o k ∧ True)) ∧ (¬(e : Int) < (k : Int) → ∃ (y : Unit), True ∧ (p = p ∧ o = o ∧ True ∧ (k : Int) = (k : Int) ∧ p.getD (o.getD k (0 : Int)).toNat (0 : Int) = p.getD (o.getD k (0 : Int)).toNat (0 : Int) ∧ (↑(nwM p o k v e) : Int) = (↑(nwN p o k (v + 1)) : Int) ∧ (v : Int) = (v : Int) ∧ True) ∧ nwL6 p o k = nwL6 p o k ∧ True)) (by kernel_rfl) ?_
 simp only [zz]
 have he : e ≤ k := he
 have hj := h.2.1 _ (mem_getD (d := 0) hk)
 have hlt := nwN_lt p o k v
 have hf := okL_get h.1 (o.getD k 0).toNat
 have hle := h.2.2
 have hend : nwM p o k v k = nwN p o k (v + 1) := nwM_end p o k v
 have hM := nwM_lt p o k v e
 refine ⟨fun h3 => ?_, fun h3 => by rw [← hend, show e = k by omega]⟩
 have hek : e < o.length := by omega
 have hje := h.2.1 _ (mem_getD (d := 0) hek)
 have hfe := okL_get h.1 (o.getD e 0).toNat
 have hst := nwM_step p o k v e hek
 unfold inB74 at hst
 obtain ⟨s, hs⟩ : ∃ s : Nat, p.getD (o.getD k 0).toNat 0 = s := ⟨(p.getD (o.getD k 0).toNat 0).toNat, by omega⟩
 rw [hs] at hf hst ⊢
 have hs64 : s < 64 := by omega
 have hm := mns_lt ⟨s, hs64⟩ ⟨2 ^ v, Nat.pow_lt_pow_right (a := 2) (m := v) (n := 6) (by decide) hv6⟩
 simp only [Int.toNat_natCast] at hm hst ⊢
 have h2 : 2 ^ v < 64 := Nat.pow_lt_pow_right (a := 2) (by decide) hv6
 have ep : (2 ^ v : Int) = ((2 ^ v : Nat) : Int) := by rw [Int.natCast_pow]; try rfl
 have e1 : ((s : Int) / 2 ^ v).tmod 2 = ((s / 2 ^ v % 2 : Nat) : Int) := bit_tmod
 rw [e1, ep]
 generalize hP : 2 ^ v = P at *
 have e3 : bNot .i64 (s : Int) (1 * (P : Int)) = ((mns s P : Nat) : Int) := by
   rw [Int.one_mul, bNot_nat (by omega) (by omega)]
 have e4 : bOr .i64 (nwM p o k v e : Nat) (1 * (P : Int)) = ((nwM p o k v e ||| P : Nat) : Int) := by
   rw [Int.one_mul, bOr_nat (by omega) (by omega)]
 have hsh : (0 ≤ (v : Int) ∧ (v : Int) < bitsOf .i64) ∧ -9223372036854775808 ≤ 1 * (P : Int) ∧ 1 * (P : Int) ≤ 9223372036854775807 := ⟨⟨by omega, by simp only [bitsOf]; omega⟩, by omega, by omega⟩
 have hx : idxPre (o.getD e 0) p.length := by unfold idxPre; omega
 have hnx : ∀ z : Int, z = (nwM p o k v (e + 1) : Nat) → inR .i64 ((e : Int) + 1) ∧ ∃ y, (y ≤ k ∧ k - y < k - e) ∧ z = ((nwM p o k v y : Nat) : Int) ∧ (e : Int) + 1 = (y : Int) := fun z hz => ⟨by simp only [inR]; omega, e + 1, ⟨by omega, by omega⟩, hz, by omega⟩
 rw [e3, e4]
 refine ⟨hsh.1, by decide, fun hb => ⟨hsh, idx_nat hek, hx, ⟨⟨by omega, by omega⟩, hfe⟩, fun h6 => ⟨hsh, hnx _ ?_⟩, fun h6 => hnx _ ?_⟩, fun hb => hnx _ ?_⟩
 · rw [hst, if_pos ⟨by omega, h6⟩]
 · rw [hst, if_neg (fun h => Bool.noConfusion (h6.symm.trans h.2))]
 · rw [hst, if_neg (fun h => by omega)]
def jt45 (p o : List Int) (k v : Nat) : St := ⟨.sl I64 p :: .sl I64 o :: dd 3 ++ .own 0 0 :: .int .i64 k :: .int .i64 (p.getD (o.getD k 0).toNat 0) :: .int .i64 (nwN p o k v : Nat) :: .int .i64 v :: dd 51, [.sc 0 3 I64 (nwL6 p o k)]⟩
def ejt45 (p o : List Int) (k : Nat) : List (List Nat × Ex) := [([0, 1, 5, 6, 8], ⟨2, Unit, fun _ => True, fun _ => ⟨.sl I64 p :: .sl I64 o :: dd 3 ++ .own 0 0 :: .int .i64 k :: .dead :: .int .i64 (nwN p o k 6 : Nat) :: dd 52, [.sc 0 3 I64 (nwL6 p o k)]⟩⟩)]
def hjt45 (p o : List Int) (k : Nat) : Hint := ⟨chk 0 [0, 1, 5, 6, 7, 8, 9] (fun v => v ≤ 6) (jt45 p o k), (ejt45 p o k).map (·.2)⟩
theorem loop45jt (p o : List Int) (k : Nat) (h : ok45 p o) (hk : k < o.length) (R : Exit → St → Prop) : LoopOK X45 L45_2 (hjt45 p o k) R := by
 refine loop_ok (X_ok _) (H := fun v _ => some (hit45 p o k v)) [0, 1, 5, 6, 7, 8, 9] (fun v => v ≤ 6) (jt45 p o k) (fun v => 6 - v) (ejt45 p o k) 150 fun (v : Nat) hv => ?_
 have hL := fun h6 => loop45it p o k v h hk h6 (bodyR 0 (ejt45 p o k) R)
 refine of_eq (q := True ∧ True ∧ ((v : Int) < 6 → True ∧ LoopOK X45 L45_4 (hit45 p o k v) (bodyR (0 : Nat) (ejt45 p o k) R) ∧ (∃ (y : Nat), y ≤ k ∧ (p = p ∧ o = o ∧ True ∧ (k : Int) = (k : Int) ∧ p.getD (o.getD k (0 : Int)).toNat (0 : Int) = p.getD (o.getD k (0 : Int)).toNat (0 : Int) ∧ (↑(nwN p o k v) : Int) = (↑(nwM p o k v y) : Int) ∧ (v : Int) = (v : Int) ∧ (0 : Int) = (y : Int) ∧ True) ∧ nwL6 p o k = nwL6 p o k ∧ True) ∧ (∀ (y : Unit), True → True ∧ inR .i64 ((v : Int) + 1) ∧ True ∧ ∃ (y : Nat), (y ≤ 6 ∧ (6 : Nat) - y < 6 - v) ∧ (p = p ∧ o = o ∧ True ∧ (k : Int) = (k : Int) ∧ p.getD (o.getD k (0 : Int)).toNat (0 : Int) = p.getD (o.getD k (0 : Int)).toNat (0 : Int) ∧ (↑(nwN p o k (v + 1)) : Int) = (↑(nwN p o k y) : Int) ∧ (v : Int) + 1 = (y : Int) ∧ True) ∧ nwL6 p o k = nwL6 p o k ∧ True) ∧ True) ∧ (¬(v : Int) < 6 → ∃ (y : Unit), True ∧ (p = p ∧ o = o ∧ True ∧ (k : Int) = (k : Int) ∧ (↑(nwN p o k v) : Int) = (↑(nwN p o k (6 : Nat)) : Int) ∧ True) ∧ nwL6 p o k = nwL6 p o k ∧ True)) (by kernel_rfl) ?_
 simp only [zz]
 have hv : v ≤ 6 := hv
 exact ⟨fun h3 => ⟨hL (by omega), ⟨0, Nat.zero_le _, by rw [nwM_zero], rfl⟩, fun _ _ => ⟨by simp only [inR]; omega, v + 1, ⟨by omega, by omega⟩, rfl, by omega⟩⟩, fun h3 => by rw [show v = 6 by omega]⟩
def sz45 (p o : List Int) (_ : Unit) : St := ⟨.sl I64 p :: .sl I64 o :: dd 3 ++ nl :: .int .i64 0 :: dd 54, []⟩
def st45 (p o : List Int) (k : Nat) : St := ⟨.sl I64 p :: .sl I64 o :: dd 3 ++ .own 0 0 :: .int .i64 k :: dd 54, [.sc 0 3 I64 (nwL6 p o k)]⟩
def fm45 (p o : List Int) : List Fam := [⟨Unit, fun _ => True, sz45 p o, fun _ => 20, fun _ _ => some (hjz45 p o 0)⟩, ⟨Nat, fun k => k ≤ o.length, st45 p o, fun k => o.length - k, fun k _ => some (hjt45 p o k)⟩]
def ex45 (p o : List Int) : List (List Nat × Ex) := [([5], ⟨0, Unit, fun _ => o.length = 0, fun _ => ⟨dd 5 ++ nl :: dd 55, []⟩⟩), ([5], ⟨0, Unit, fun _ => True, fun _ => ⟨dd 5 ++ .own 0 0 :: dd 55, [.sc 0 3 I64 (nwL6 p o o.length)]⟩⟩)]
def h45 (p o : List Int) : Hint := ⟨chks 0 [0, 1, 5, 6] (fm45 p o), (ex45 p o).map (·.2)⟩
theorem loop45 (p o : List Int) (h : ok45 p o) (R : Exit → St → Prop) : LoopOK X45 L45_0 (h45 p o) R := by
 have hle := h.2.2
 refine loop_fams (X_ok _) [0, 1, 5, 6] (fm45 p o) (ex45 p o) 150 ⟨fun _ _ => ?_, fun (k : Nat) hk => ?_, trivial⟩
 · have hL := fun hh => loop45jz p o 0 h hh (bodyR 0 (ex45 p o) R)
   refine of_eq (q := True ∧ True ∧ True ∧ True ∧ ((0 : Int) < (o.length : Int) → True ∧ True ∧ True ∧ idxPre (0 : Int) o.length ∧ True ∧ idxPre (o.getD (0 : Nat) (0 : Int)) p.length ∧ True ∧ True ∧ True ∧ True ∧ LoopOK X45 L45_2 (hjz45 p o (0 : Nat)) (bodyR (0 : Nat) (ex45 p o) R) ∧ (∃ (y : Nat), y ≤ 6 ∧ (p = p ∧ o = o ∧ True ∧ (0 : Int) = 0 ∧ p.getD (Int.toNat (o.getD (0 : Nat) (0 : Int))) (0 : Int) = p.getD (o.getD (0 : Nat) (0 : Int)).toNat (0 : Int) ∧ (0 : Int) = (↑(nwN p o (0 : Nat) y) : Int) ∧ (0 : Int) = (y : Int) ∧ True) ∧ True) ∧ (∀ (y : Unit), True → True ∧ True ∧ True ∧ sumPre (0 : Nat) [(↑(nwN p o (0 : Nat) (6 : Nat)) : Int)].length (nat_lit 8) ∧ True ∧ True ∧ inR .i64 (1 : Int) ∧ True ∧ ((∃ (y : Unit), (True ∧ (20 : Nat) < 20) ∧ (p = p ∧ o = o ∧ False ∧ (1 : Int) = 0 ∧ True) ∧ True) ∨ ∃ (y : Nat), (y ≤ o.length ∧ o.length - y < 20) ∧ (p = p ∧ o = o ∧ True ∧ (1 : Int) = (y : Int) ∧ True) ∧ [(↑(nwN p o (0 : Nat) (6 : Nat)) : Int)] = nwL6 p o y ∧ True)) ∧ True) ∧ (¬(0 : Int) < (o.length : Int) → (∃ (y : Unit), o.length = 0 ∧ (True ∧ True) ∧ True) ∨ ∃ (y : Unit), True ∧ (False ∧ True) ∧ False)) (by kernel_rfl) ?_
   simp only [zz]
   have hz : 0 < o.length → 0 ≤ o.getD 0 0 ∧ o.getD 0 0 < p.length := fun hh => h.2.1 _ (mem_getD (d := 0) hh)
   refine ⟨fun h3 => ?_, fun h3 => by omega⟩
   have hz := hz (by omega)
   exact ⟨by unfold idxPre; omega, by unfold idxPre; omega, hL (by omega), ⟨0, by omega, rfl, rfl⟩, fun _ _ => ⟨by unfold sumPre; simp, by simp only [inR]; omega, 1, ⟨by omega, by omega⟩, rfl, rfl⟩⟩
 · have hL := fun hh => loop45jt p o k h hh (bodyR 0 (ex45 p o) R)
   refine of_eq (q := True ∧ True ∧ True ∧ True ∧ ((k : Int) < (o.length : Int) → True ∧ True ∧ True ∧ idxPre (k : Int) o.length ∧ True ∧ idxPre (o.getD k (0 : Int)) p.length ∧ True ∧ True ∧ True ∧ True ∧ LoopOK X45 L45_2 (hjt45 p o k) (bodyR (0 : Nat) (ex45 p o) R) ∧ (∃ (y : Nat), y ≤ 6 ∧ (p = p ∧ o = o ∧ True ∧ (k : Int) = (k : Int) ∧ p.getD (Int.toNat (o.getD k (0 : Int))) (0 : Int) = p.getD (o.getD k (0 : Int)).toNat (0 : Int) ∧ (0 : Int) = (↑(nwN p o k y) : Int) ∧ (0 : Int) = (y : Int) ∧ True) ∧ nwL6 p o k = nwL6 p o k ∧ True) ∧ (∀ (y : Unit), True → True ∧ True ∧ True ∧ sumPre (nwL6 p o k).length [(↑(nwN p o k (6 : Nat)) : Int)].length (nat_lit 8) ∧ True ∧ True ∧ inR .i64 ((k : Int) + 1) ∧ True ∧ ((∃ (y : Unit), (True ∧ (20 : Nat) < o.length - k) ∧ (p = p ∧ o = o ∧ False ∧ (k : Int) + 1 = 0 ∧ True) ∧ True) ∨ ∃ (y : Nat), (y ≤ o.length ∧ o.length - y < o.length - k) ∧ (p = p ∧ o = o ∧ True ∧ (k : Int) + 1 = (y : Int) ∧ True) ∧ nwL6 p o k ++ [(↑(nwN p o k (6 : Nat)) : Int)] = nwL6 p o y ∧ True)) ∧ True) ∧ (¬(k : Int) < (o.length : Int) → (∃ (y : Unit), o.length = 0 ∧ (False ∧ True) ∧ True) ∨ ∃ (y : Unit), True ∧ (True ∧ True) ∧ nwL6 p o k = nwL6 p o o.length ∧ True)) (by kernel_rfl) ?_
   simp only [zz]
   have hk : k ≤ o.length := hk
   have hl := nwL6_len p o k
   have hz : k < o.length → 0 ≤ o.getD k 0 ∧ o.getD k 0 < p.length := fun hh => h.2.1 _ (mem_getD (d := 0) hh)
   refine ⟨fun h3 => ?_, fun h3 => by rw [show k = o.length by omega]⟩
   have hz := hz (by omega)
   exact ⟨idx_nat (by omega), by unfold idxPre; omega, hL (by omega), ⟨0, by omega, rfl, rfl⟩, fun _ _ => ⟨by unfold sumPre; simp; omega, by simp only [inR]; omega, k + 1, ⟨by omega, by omega⟩, by omega, (nwL6_step _ _ _).symm⟩⟩
theorem call45 (p o : List Int) (h : ok45 p o) : GCall Try.prog gl 45 true [.sl I64 p, .sl I64 o] [] [.sl I64 (nwL6 p o o.length)] [] := by
 have hL := loop45 p o h
 refine gcall_of (X := X45) ((X_ok _)) (f := 45) (fn := Try.f45) (c := bodyOf Try.f45) (by kernel_rfl) (by kernel_rfl) (view := true) (rvs := [.tmp 4]) (by kernel_rfl) (H := (fun _ => some (h45 p o))) 150 (by kernel_rfl) ?_
 refine of_eq (q := True ∧ True ∧ True ∧ LoopOK X45 L45_0 (h45 p o) (RetR X45 true true [ResultVar.tmp (4 : Tmp)] [AV.sl I64 (nwL6 p o o.length)] []) ∧ ((∃ (y : Unit), True ∧ (p = p ∧ o = o ∧ True ∧ (0 : Int) = 0 ∧ True) ∧ True) ∨ ∃ (y : Nat), y ≤ o.length ∧ (p = p ∧ o = o ∧ False ∧ (0 : Int) = (y : Int) ∧ True) ∧ False) ∧ (∀ (y : Unit), o.length = 0 → True ∧ True ∧ True ∧ (([] : List Int) = nwL6 p o o.length ∧ True) ∧ True) ∧ (∀ (y : Unit), True → True ∧ True ∧ True ∧ (nwL6 p o o.length = nwL6 p o o.length ∧ True) ∧ True) ∧ True) (by kernel_rfl) ?_
 simp only [zz]
 exact ⟨hL _, fun _ h0 => by rw [h0]; rfl, fun _ _ => trivial⟩
def e45 : Entry Try.prog gl := entry2 45 ⟨Try.f45, by kernel_rfl, by kernel_rfl, by kernel_rfl⟩ SI SI (fun p o => ok45 p o) true (fun p o => [.sl I64 (nwL6 p o (o : List Int).length)]) (fun _ _ => []) (call45)
theorem nwN_top {p o : List Int} {n k : Nat} (hn : n ≤ 6) (hf : (p.getD (o.getD k 0).toNat 0).toNat < 2 ^ n) (h64 : (p.getD (o.getD k 0).toNat 0).toNat < 64) : ∀ d, n + d ≤ 6 → nwN p o k (n + d) = nwN p o k n
 | 0, _ => rfl
 | d + 1, h => by
   have ih := nwN_top hn hf h64 d (by omega)
   have hb := row_hi ⟨_, h64⟩ ⟨n, by omega⟩ hf ⟨n + d, by omega⟩ (by simp)
   simp only at hb
   rw [← Nat.add_assoc, nwN, if_neg, ih]
   unfold nwF
   rw [hb]; simp
theorem nwL_eq {n : Int} {p o : List Int} (h : cxOk n p) (ho : okO p o) : nwL n p o o.length = nwL6 p o o.length := by
 unfold nwL nwL6
 refine List.map_congr_left fun k hk => ?_
 rw [List.mem_range] at hk
 have hj := ho _ (mem_getD (d := 0) hk)
 obtain ⟨n1, n2⟩ := h.1
 obtain ⟨e1, e2, e3⟩ := numOk_pow h.1
 have hf := (h.2.2 (o.getD k 0).toNat (by omega)).2.1
 have h64 := okL_get h.ok (o.getD k 0).toNat
 have := nwN_top (p := p) (o := o) (n := n.toNat) (k := k) (by omega) (by omega) (by omega) (6 - n.toNat) (by omega)
 rw [show n.toNat + (6 - n.toNat) = 6 by omega] at this
 rw [this]
end Go.Am.Sh

/- Shells: the law of the orders. -/
namespace Go.Am.Sh
open Go Go.Am Go.Proofs
def h98 (t : Nat) : Bool := Nat.beq t 98
noncomputable abbrev E10 : EL := [e18, e20, e17, e44, e43, e45, e23, e19]
noncomputable abbrev X10 : Cy := Xw E10 h98
noncomputable abbrev X10n : Cy := Xw E10 (fun t => h98 t || Nat.beq t 1000108)
noncomputable abbrev X10o : Cy := Xw E10 (fun t => h98 t || Nat.beq t 108)
def kiI (d : List Int) (i : Nat) : Int := if i < d.length then (modU .u64 (d.getD i 0)).tmod ((i : Int) + 1) else 0
def kiN (d : List Int) (i : Nat) : Nat := (kiI d i).toNat
theorem ki_eq (d : List Int) (i : Nat) : kiI d i = (kiN d i : Int) ∧ kiN d i ≤ i := by
 have h : 0 ≤ kiI d i ∧ kiI d i < i + 1 := by
   unfold kiI
   split
   · have h1 := u64_nn (d.getD i 0)
     exact ⟨Int.tmod_nonneg _ h1, Int.tmod_lt_of_pos _ (by omega)⟩
   · omega
 unfold kiN
 omega
def nxO (d : List Int) : Nat → List Int
 | 0 => []
 | i + 1 => (nxO d i).take (kiN d i) ++ [(i : Int)] ++ (nxO d i).drop (kiN d i)
theorem nxO_len (d : List Int) : ∀ i, (nxO d i).length = i
 | 0 => rfl
 | i + 1 => by
   have := nxO_len d i
   have h2 := (ki_eq d i).2
   rw [nxO, List.length_append, List.length_append, List.length_take, List.length_drop, List.length_singleton]
   omega
noncomputable def L10_0 : Code := lp (bodyOf Try.f10) 0
noncomputable def L10_2 : Code := lp (bodyOf Try.f10) 2
/-- The temporaries that stay, and o. -/
def hd10 (d : List Int) (n : Int) (p : List Int) (x : AV) (k : Nat) : List AV := dd 2 ++ .sl I64 d :: dd 4 ++ .int .i64 n :: .sl I64 p :: x :: [.int .i64 k]
def z10 (d : List Int) (n : Int) (p : List Int) (k : Nat) (_ : Unit) : St := ⟨hd10 d n p .dead k ++ dd 5 ++ nl :: .int .i64 0 :: dd 102, []⟩
def t10 (d : List Int) (n : Int) (p : List Int) (k i : Nat) : St := ⟨hd10 d n p .dead k ++ dd 5 ++ .own 0 0 :: .int .i64 i :: dd 102, [.sc 0 3 I64 (nxO d i)]⟩
def fi10 (d : List Int) (n : Int) (p : List Int) (k : Nat) : List Fam := [⟨Unit, fun _ => True, z10 d n p k, fun _ => 20, fun _ => nH⟩, ⟨Nat, fun i => 1 ≤ i ∧ i ≤ p.length, t10 d n p k, fun i => p.length - i, fun _ => nH⟩]
def ei10 (d : List Int) (n : Int) (p : List Int) (k : Nat) : List (List Nat × Ex) := [([2, 7, 8, 10, 16], ⟨2, Unit, fun _ => True, fun _ => ⟨hd10 d n p .dead k ++ dd 5 ++ .own 0 0 :: dd 103, [.sc 0 3 I64 (nxO d p.length)]⟩⟩)]
def hi10 (d : List Int) (n : Int) (p : List Int) (k : Nat) : Hint := ⟨chks 0 [2, 7, 8, 10, 16, 17] (fi10 d n p k), (ei10 d n p k).map (·.2)⟩
noncomputable def q10 (d : List Int) (n : Int) (p : List Int) (k m : Nat) : List It := opn [.code L10_2, .inv (chkm 0 [2, 7, 8, 10, 16, 17] m (fi10 d n p k))]
noncomputable def q10b (d : List Int) (n : Int) (p : List Int) (k m : Nat) : List It := opn ((q10 d n p k m).drop 2)
noncomputable def q10c (d : List Int) (n : Int) (p : List Int) (k m : Nat) : List It := (q10b d n p k m).drop 3
def z10c (d : List Int) (n : Int) (p : List Int) (k : Nat) (_ : Unit) : St := ⟨hd10 d n p .dead k ++ dd 5 ++ nl :: .int .i64 0 :: .int .i64 0 :: dd 101, []⟩
def t10c (d : List Int) (n : Int) (p : List Int) (k i : Nat) (_ : Unit) : St := ⟨hd10 d n p .dead k ++ dd 5 ++ .own 0 0 :: .int .i64 i :: .int .i64 (kiN d i : Nat) :: dd 101, [.sc 0 3 I64 (nxO d i)]⟩
theorem in10z (d : List Int) (n : Int) (p : List Int) (k : Nat) (hp : 1 ≤ p.length ∧ p.length ≤ 10) (R : Exit → St → Prop) : Sat X10 (bodyR 0 (ei10 d n p k) R) (z10c d n p k ()) (q10c d n p k 20) := by
 refine .of_run (Xw_ok _ _) (H := nH) (n := 150) ?_
 refine of_eq (q := True ∧ True ∧ True ∧ True ∧ slPre (0 : Nat) (0 : Nat) none (some (0 : Int)) none ∧ sumPre (0 : Nat) (0 : Nat) (nat_lit 8) ∧ True ∧ True ∧ True ∧ True ∧ sumPre (0 : Nat) [(0 : Int)].length (nat_lit 8) ∧ True ∧ True ∧ True ∧ True ∧ slPre (0 : Nat) (0 : Nat) (some (0 : Int)) none none ∧ sumPre [(0 : Int)].length (0 : Nat) (nat_lit 8) ∧ True ∧ True ∧ inR .i64 (1 : Int) ∧ True ∧ ((∃ (y : Unit), (True ∧ (20 : Nat) < 20) ∧ (d = d ∧ n = n ∧ p = p ∧ (k : Int) = (k : Int) ∧ False ∧ (1 : Int) = 0 ∧ True) ∧ True) ∨ ∃ (y : Nat), (((1 : Nat) ≤ y ∧ y ≤ p.length) ∧ p.length - y < 20) ∧ (d = d ∧ n = n ∧ p = p ∧ (k : Int) = (k : Int) ∧ True ∧ (1 : Int) = (y : Int) ∧ True) ∧ [(0 : Int)] ++ [] = nxO d y ∧ True)) (by kernel_rfl) ?_
 simp only [zz]
 have e1 : nxO d 1 = [0] := by
   have h := (ki_eq d 0).2
   rw [nxO, show kiN d 0 = 0 by omega]; try rfl
 exact ⟨by unfold slPre; decide, by unfold sumPre; decide, by unfold sumPre; decide, by unfold slPre; decide, by unfold sumPre; decide, by simp only [inR]; omega, 1, ⟨⟨by omega, by omega⟩, by omega⟩, rfl, e1.symm⟩
theorem in10n (d : List Int) (n : Int) (p : List Int) (k i : Nat) (hp : 1 ≤ p.length ∧ p.length ≤ 10) (hi : i < p.length) (h0 : kiN d i = 0) (R : Exit → St → Prop) : Sat X10 (bodyR 0 (ei10 d n p k) R) (t10c d n p k i ()) (q10c d n p k (p.length - i)) := by
 refine .of_runX X10n (Xw_ok _ _) rfl rfl rfl rfl (.of_run (Xw_ok _ _) (H := nH) (n := 150) ?_)
 refine of_eq (q := True ∧ True ∧ True ∧ True ∧ slPre (nxO d i).length (nxO d i).length none (some (↑(kiN d i) : Int)) none ∧ (List.take (bHi (nxO d i).length (some (↑(kiN d i) : Int)) - bLo none) (List.drop (bLo none) (nxO d i)) = [] ∧ sumPre (0 : Nat) (List.take (bHi (nxO d i).length (some (↑(kiN d i) : Int)) - bLo none) (List.drop (bLo none) (nxO d i))).length (nat_lit 8)) ∧ True ∧ True ∧ True ∧ True ∧ sumPre (0 : Nat) [(i : Int)].length (nat_lit 8) ∧ True ∧ True ∧ True ∧ True ∧ slPre (nxO d i).length (nxO d i).length (some (↑(kiN d i) : Int)) none none ∧ sumPre [(i : Int)].length (List.take (bHi (nxO d i).length none - bLo (some (↑(kiN d i) : Int))) (List.drop (bLo (some (↑(kiN d i) : Int))) (nxO d i))).length (nat_lit 8) ∧ True ∧ True ∧ inR .i64 ((i : Int) + 1) ∧ True ∧ ((∃ (y : Unit), (True ∧ (20 : Nat) < p.length - i) ∧ (d = d ∧ n = n ∧ p = p ∧ (k : Int) = (k : Int) ∧ False ∧ (i : Int) + 1 = 0 ∧ True) ∧ True) ∨ ∃ (y : Nat), (((1 : Nat) ≤ y ∧ y ≤ p.length) ∧ p.length - y < p.length - i) ∧ (d = d ∧ n = n ∧ p = p ∧ (k : Int) = (k : Int) ∧ True ∧ (i : Int) + 1 = (y : Int) ∧ True) ∧ [(i : Int)] ++ List.take (bHi (nxO d i).length none - bLo (some (↑(kiN d i) : Int))) (List.drop (bLo (some (↑(kiN d i) : Int))) (nxO d i)) = nxO d y ∧ True)) (by kernel_rfl) ?_
 simp only [zz]
 have hl := nxO_len d i
 have e0 : List.take (bHi (nxO d i).length (some (kiN d i : Int)) - bLo none) (List.drop (bLo none) (nxO d i)) = [] := by simp [bHi, bLo, h0]
 have e1 : List.take (bHi (nxO d i).length none - bLo (some (kiN d i : Int))) (List.drop (bLo (some (kiN d i : Int))) (nxO d i)) = nxO d i := by simp [bHi, bLo, h0]
 have e2 : nxO d (i + 1) = [(i : Int)] ++ nxO d i := by rw [nxO, h0]; try rfl
 rw [e0, e1, hl]
 exact ⟨by unfold slPre; simp only; omega, ⟨rfl, by unfold sumPre; decide⟩, by unfold sumPre; simp, by unfold slPre; simp only; omega, by unfold sumPre; simp; omega, by simp only [inR]; omega, i + 1, ⟨⟨by omega, by omega⟩, by omega⟩, by omega, e2.symm⟩
theorem in10o (d : List Int) (n : Int) (p : List Int) (k i : Nat) (hp : 1 ≤ p.length ∧ p.length ≤ 10) (hi : i < p.length) (h0 : kiN d i ≠ 0) (R : Exit → St → Prop) : Sat X10 (bodyR 0 (ei10 d n p k) R) (t10c d n p k i ()) (q10c d n p k (p.length - i)) := by
 refine .of_runX X10o (Xw_ok _ _) rfl rfl rfl rfl (.of_run (Xw_ok _ _) (H := nH) (n := 150) ?_)
 refine of_eq (q := True ∧ True ∧ True ∧ True ∧ slPre (nxO d i).length (nxO d i).length none (some (↑(kiN d i) : Int)) none ∧ (List.take (bHi (nxO d i).length (some (↑(kiN d i) : Int)) - bLo none) (List.drop (bLo none) (nxO d i)) ≠ [] ∧ sumPre (0 : Nat) (List.take (bHi (nxO d i).length (some (↑(kiN d i) : Int)) - bLo none) (List.drop (bLo none) (nxO d i))).length (nat_lit 8)) ∧ True ∧ True ∧ True ∧ True ∧ sumPre (List.take (bHi (nxO d i).length (some (↑(kiN d i) : Int)) - bLo none) (List.drop (bLo none) (nxO d i))).length [(i : Int)].length (nat_lit 8) ∧ True ∧ True ∧ True ∧ True ∧ slPre (nxO d i).length (nxO d i).length (some (↑(kiN d i) : Int)) none none ∧ sumPre (List.take (bHi (nxO d i).length (some (↑(kiN d i) : Int)) - bLo none) (List.drop (bLo none) (nxO d i)) ++ [(i : Int)]).length (List.take (bHi (nxO d i).length none - bLo (some (↑(kiN d i) : Int))) (List.drop (bLo (some (↑(kiN d i) : Int))) (nxO d i))).length (nat_lit 8) ∧ True ∧ True ∧ inR .i64 ((i : Int) + 1) ∧ True ∧ ((∃ (y : Unit), (True ∧ (20 : Nat) < p.length - i) ∧ (d = d ∧ n = n ∧ p = p ∧ (k : Int) = (k : Int) ∧ False ∧ (i : Int) + 1 = 0 ∧ True) ∧ True) ∨ ∃ (y : Nat), (((1 : Nat) ≤ y ∧ y ≤ p.length) ∧ p.length - y < p.length - i) ∧ (d = d ∧ n = n ∧ p = p ∧ (k : Int) = (k : Int) ∧ True ∧ (i : Int) + 1 = (y : Int) ∧ True) ∧ List.take (bHi (nxO d i).length (some (↑(kiN d i) : Int)) - bLo none) (List.drop (bLo none) (nxO d i)) ++ [(i : Int)] ++ List.take (bHi (nxO d i).length none - bLo (some (↑(kiN d i) : Int))) (List.drop (bLo (some (↑(kiN d i) : Int))) (nxO d i)) = nxO d y ∧ True)) (by kernel_rfl) ?_
 simp only [zz]
 have hl := nxO_len d i
 have hk := (ki_eq d i).2
 have e0 : List.take (bHi (nxO d i).length (some (kiN d i : Int)) - bLo none) (List.drop (bLo none) (nxO d i)) = (nxO d i).take (kiN d i) := by simp [bHi, bLo]
 have e1 : List.take (bHi (nxO d i).length none - bLo (some (kiN d i : Int))) (List.drop (bLo (some (kiN d i : Int))) (nxO d i)) = (nxO d i).drop (kiN d i) := List.take_of_length_le (by simp [bHi, bLo])
 have e2 : nxO d (i + 1) = (nxO d i).take (kiN d i) ++ [(i : Int)] ++ (nxO d i).drop (kiN d i) := rfl
 have l1 : ((nxO d i).take (kiN d i)).length = kiN d i := by rw [List.length_take]; omega
 have l2 : ((nxO d i).drop (kiN d i)).length = i - kiN d i := by rw [List.length_drop]; omega
 have l3 : ((nxO d i).take (kiN d i) ++ [(i : Int)]).length = kiN d i + 1 := by rw [List.length_append, l1]; try rfl
 have hne : (nxO d i).take (kiN d i) ≠ [] := fun h => by rw [h] at l1; simp at l1; omega
 have hs : sumPre ((nxO d i).take (kiN d i) ++ [(i : Int)]).length ((nxO d i).drop (kiN d i)).length 8 := by
   rw [l3, l2]; unfold sumPre; omega
 rw [e0, e1, l1, hl]
 exact ⟨by unfold slPre; simp only; omega, ⟨hne, by unfold sumPre; omega⟩, by unfold sumPre; simp; omega, by unfold slPre; simp only; omega, hs, by simp only [inR]; omega, i + 1, ⟨⟨by omega, by omega⟩, by omega⟩, by omega, e2.symm⟩
theorem in10 (d : List Int) (n : Int) (p : List Int) (k : Nat) (hp : 1 ≤ p.length ∧ p.length ≤ 10) (R : Exit → St → Prop) : LoopOK X10 L10_2 (hi10 d n p k) R := by
 refine loop_famsS [2, 7, 8, 10, 16, 17] (fi10 d n p k) (ei10 d n p k) ⟨fun _ _ => ?_, fun (i : Nat) hi => ?_, trivial⟩
 · refine .opn (.cut (Xw_ok _ _) 2 (H := nH) [2, 7, 8, 10, 16, 17] [⟨Unit, fun _ => True, z10 d n p k, fun _ => 0, fun _ => nH⟩] 150 (by kernel_rfl) ?_ ⟨fun _ _ => .opn (.cut (Xw_ok _ _) 3 (H := nH) [2, 7, 8, 10, 16, 17, 18] [⟨Unit, fun _ => True, z10c d n p k, fun _ => 0, fun _ => nH⟩] 150 (by kernel_rfl) ?_ ⟨fun _ _ => in10z d n p k hp R, trivial⟩), trivial⟩)
   · refine of_eq (q := True ∧ True ∧ True ∧ True ∧ ((0 : Int) < (p.length : Int) → ∃ (y : Unit), True ∧ (d = d ∧ n = n ∧ p = p ∧ (k : Int) = (k : Int) ∧ True ∧ (0 : Int) = 0 ∧ True) ∧ True) ∧ (¬(0 : Int) < (p.length : Int) → ∃ (y : Unit), True ∧ (d = d ∧ n = n ∧ p = p ∧ (k : Int) = (k : Int) ∧ False ∧ True) ∧ False)) (by kernel_rfl) ?_
     simp only [zz]
     exact ⟨fun _ => trivial, fun h => by omega⟩
   · refine of_eq (q := True ∧ True ∧ True ∧ True ∧ True ∧ ((0 : Int) < (d.length : Int) → True ∧ True ∧ idxPre (0 : Int) d.length ∧ True ∧ True ∧ True ∧ inR .i64 (1 : Int) ∧ inR .u64 (1 : Int) ∧ ¬(1 : Int) = 0 ∧ inR .i64 ((modU .u64 (d.getD (0 : Nat) (0 : Int))).tmod (1 : Int)) ∧ True ∧ ∃ (y : Unit), True ∧ (d = d ∧ n = n ∧ p = p ∧ (k : Int) = (k : Int) ∧ True ∧ (0 : Int) = 0 ∧ (modU .u64 (d.getD (0 : Nat) (0 : Int))).tmod (1 : Int) = 0 ∧ True) ∧ True) ∧ (¬(0 : Int) < (d.length : Int) → ∃ (y : Unit), True ∧ (d = d ∧ n = n ∧ p = p ∧ (k : Int) = (k : Int) ∧ True ∧ (0 : Int) = 0 ∧ (0 : Int) = 0 ∧ True) ∧ True)) (by kernel_rfl) ?_
     simp only [zz]
     have h0 : kiI d 0 = 0 := by have := ki_eq d 0; omega
     unfold kiI at h0
     refine ⟨fun hd => ?_, fun _ => trivial⟩
     rw [if_pos (by omega)] at h0
     have h0' : (modU .u64 (d.getD 0 0)).tmod 1 = 0 := h0
     rw [h0']
     exact ⟨by unfold idxPre; omega, by simp only [inR]; omega, by simp only [inR]; omega, by decide, by simp only [inR]; omega, rfl⟩
 · refine .opn (.cut (Xw_ok _ _) 2 (H := nH) [2, 7, 8, 10, 16, 17] [⟨Unit, fun _ => i < p.length, fun _ => t10 d n p k i, fun _ => 0, fun _ => nH⟩] 150 (by kernel_rfl) ?_ ⟨fun _ hlt => .opn (.cut (Xw_ok _ _) 3 (H := nH) [2, 7, 8, 10, 16, 17, 18] [⟨Unit, fun _ => True, t10c d n p k i, fun _ => 0, fun _ => nH⟩] 150 (by kernel_rfl) ?_ ⟨fun _ _ => ?_, trivial⟩), trivial⟩)
   · refine of_eq (q := True ∧ True ∧ True ∧ True ∧ ((i : Int) < (p.length : Int) → ∃ (y : Unit), i < p.length ∧ (d = d ∧ n = n ∧ p = p ∧ (k : Int) = (k : Int) ∧ True ∧ (i : Int) = (i : Int) ∧ True) ∧ nxO d i = nxO d i ∧ True) ∧ (¬(i : Int) < (p.length : Int) → ∃ (y : Unit), True ∧ (d = d ∧ n = n ∧ p = p ∧ (k : Int) = (k : Int) ∧ True ∧ True) ∧ nxO d i = nxO d p.length ∧ True)) (by kernel_rfl) ?_
     simp only [zz]
     have hi2 := hi.2
     exact ⟨fun h => by omega, fun h => by rw [show i = p.length by omega]⟩
   · refine of_eq (q := True ∧ True ∧ True ∧ True ∧ True ∧ ((i : Int) < (d.length : Int) → True ∧ True ∧ idxPre (i : Int) d.length ∧ True ∧ True ∧ True ∧ inR .i64 ((i : Int) + 1) ∧ inR .u64 ((i : Int) + 1) ∧ ¬(i : Int) + 1 = 0 ∧ inR .i64 ((modU .u64 (d.getD i (0 : Int))).tmod ((i : Int) + 1)) ∧ True ∧ ∃ (y : Unit), True ∧ (d = d ∧ n = n ∧ p = p ∧ (k : Int) = (k : Int) ∧ True ∧ (i : Int) = (i : Int) ∧ (modU .u64 (d.getD i (0 : Int))).tmod ((i : Int) + 1) = (↑(kiN d i) : Int) ∧ True) ∧ nxO d i = nxO d i ∧ True) ∧ (¬(i : Int) < (d.length : Int) → ∃ (y : Unit), True ∧ (d = d ∧ n = n ∧ p = p ∧ (k : Int) = (k : Int) ∧ True ∧ (i : Int) = (i : Int) ∧ (0 : Int) = (↑(kiN d i) : Int) ∧ True) ∧ nxO d i = nxO d i ∧ True)) (by kernel_rfl) ?_
     simp only [zz]
     have h0 := ki_eq d i
     obtain ⟨h1, h2⟩ := h0
     unfold kiI at h1
     have hlt : i < p.length := hlt
     refine ⟨fun hd => ?_, fun hd => by rw [if_neg (by omega)] at h1; exact h1⟩
     rw [if_pos (by omega)] at h1
     exact ⟨idx_nat (by omega), by simp only [inR]; omega, by simp only [inR]; omega, by omega, by rw [h1]; simp only [inR]; omega, h1⟩
   · by_cases h0 : kiN d i = 0
     · exact in10n d n p k i hp hlt h0 R
     · exact in10o d n p k i hp hlt h0 R
abbrev T10 := List Int × Nat
def a10 (d : List Int) (n : Int) (p : List Int) (x : T10) : St := ⟨hd10 d n p (.sl I64 x.1) x.2 ++ dd 109, []⟩
def b10 (d : List Int) (n : Int) (p : List Int) (x : T10) : St := ⟨hd10 d n p (.own 0 0) x.2 ++ dd 109, [.sc 0 3 I64 x.1]⟩
def c10 (d : List Int) (n : Int) (p : List Int) (k : Nat) (_ : Unit) : St := ⟨hd10 d n p .dead k ++ dd 109, []⟩
def i10 (x : T10) : Prop := x.1.length ≤ 12 ∧ x.2 ≤ 2
def fo10 (d : List Int) (n : Int) (p : List Int) : List Fam := [⟨T10, i10, a10 d n p, fun x => 2 - x.2, fun _ => nH⟩, ⟨T10, i10, b10 d n p, fun x => 2 - x.2, fun _ => nH⟩]
def eo10 : List (List Nat × Ex) := [([], ⟨0, Unit, fun _ => True, fun _ => ⟨dd 120, []⟩⟩)]
noncomputable def R10 : Exit → St → Prop := RetR X10 true false [.tmp 6] [.tt] []
noncomputable abbrev R10b : Exit → St → Prop := bodyR 0 eo10 R10
noncomputable def k10a (d : List Int) (n : Int) (p : List Int) (k : Nat) : List It := opn [.code L10_0, .inv (chkm 0 [2, 7, 8, 9, 10] (2 - k) (fo10 d n p))]
noncomputable def k10b (d : List Int) (n : Int) (p : List Int) (k : Nat) : List It := opn ((k10a d n p k).drop 2)
noncomputable def k10c (d : List Int) (n : Int) (p : List Int) (k : Nat) : List It := (k10b d n p k).drop 5
theorem part10c (d : List Int) (n : Int) (p : List Int) (k : Nat) (h : cxOk n p) (hk : k < 2) : Sat X10 R10b (c10 d n p k ()) (k10c d n p k) := by
 have hL := in10 d n p k h.2.1 R10b
 refine .of_run (Xw_ok _ _) (H := fun _ => some (hi10 d n p k)) (n := 150) ?_
 refine of_eq (q := True ∧ True ∧ LoopOK X10 L10_2 (hi10 d n p k) R10b ∧ ((∃ (y : Unit), True ∧ (d = d ∧ n = n ∧ p = p ∧ (k : Int) = (k : Int) ∧ True ∧ (0 : Int) = 0 ∧ True) ∧ True) ∨ ∃ (y : Nat), ((1 : Nat) ≤ y ∧ y ≤ p.length) ∧ (d = d ∧ n = n ∧ p = p ∧ (k : Int) = (k : Int) ∧ False ∧ (0 : Int) = (y : Int) ∧ True) ∧ False) ∧ (∀ (y : Unit), True → True ∧ True ∧ True ∧ inR .i64 ((k : Int) + 1) ∧ True ∧ ((∃ (y : List Int × Nat), (i10 y ∧ (2 : Nat) - y.snd < 2 - k) ∧ (d = d ∧ n = n ∧ p = p ∧ False ∧ (k : Int) + 1 = (y.snd : Int) ∧ True) ∧ True) ∨ ∃ (y : List Int × Nat), (i10 y ∧ (2 : Nat) - y.snd < 2 - k) ∧ (d = d ∧ n = n ∧ p = p ∧ True ∧ (k : Int) + 1 = (y.snd : Int) ∧ True) ∧ nxO d p.length = y.fst ∧ True)) ∧ True) (by kernel_rfl) ?_
 simp only [zz]
 refine ⟨hL, fun _ _ => ⟨by simp only [inR]; omega, (nxO d p.length, k + 1), ⟨⟨by have := nxO_len d p.length; have := h.2.1.2; simp only; omega, by simp only; omega⟩, by simp only; omega⟩, by simp only; omega, rfl⟩⟩
theorem part10a (d : List Int) (n : Int) (p : List Int) (o : List Int) (k : Nat) (h : cxOk n p) (ho : o.length ≤ 12) (hk : k < 2) : Sat X10 R10b (a10 d n p (o, k)) ((k10a d n p k).drop 2) := by
 refine .opn (.cut (Xw_ok _ _) 5 (H := nH) [2, 7, 8, 10] [⟨Unit, fun _ => True, c10 d n p k, fun _ => 0, fun _ => nH⟩] 150 (by kernel_rfl) ?_ ⟨fun _ _ => part10c d n p k h hk, trivial⟩)
 refine of_eq (q := True ∧ True ∧ ((ok10 p ∧ o.length < 1000000000000000) ∧ True) ∧ True ∧ True ∧ True ∧ True ∧ ((cxOk n p ∧ o.length < 1000000000000000) ∧ True) ∧ True ∧ True ∧ True ∧ True ∧ True ∧ True ∧ True ∧ True ∧ ((cxOk n p ∧ o.length < 1000000000000000) ∧ True) ∧ True ∧ True ∧ True ∧ True ∧ True ∧ True ∧ True ∧ True ∧ (¬(0 : Int) = 0 → True ∧ True ∧ True ∧ True ∧ True ∧ True ∧ True ∧ (false = true ∧ True) ∧ True) ∧ (¬¬(0 : Int) = 0 → True ∧ True ∧ True ∧ True ∧ True ∧ ((sgR p o != sgR p o) = true → True ∧ True ∧ True ∧ True ∧ True ∧ (false = true ∧ True) ∧ True) ∧ ((sgR p o != sgR p o) = false → True ∧ True ∧ (sgR p o = true → True ∧ True ∧ True ∧ (¬nsE p o = 0 → True ∧ True ∧ True ∧ True ∧ True ∧ True ∧ True ∧ (false = true ∧ True) ∧ True) ∧ (¬¬nsE p o = 0 → True ∧ True ∧ True ∧ ((okL p ∧ okO p o ∧ o.length ≤ 10) ∧ True) ∧ ((nsR n p o).length + 1 ≤ 1000000000000000 ∧ True) ∧ True ∧ True ∧ True ∧ True ∧ True ∧ ((!decide (nsR n p o = nwL6 p o o.length)) = true → True ∧ True ∧ True ∧ (false = true ∧ True) ∧ True) ∧ ((!decide (nsR n p o = nwL6 p o o.length)) = false → True ∧ True ∧ True ∧ ((!sgR p o) = true → True ∧ True ∧ True ∧ (¬nsE p o = 1 → True ∧ True ∧ True ∧ True ∧ True ∧ (false = true ∧ True) ∧ True) ∧ (¬¬nsE p o = 1 → True ∧ True ∧ True ∧ True ∧ True ∧ True ∧ (¬(↑(nsR n p o).length : Int) = 0 → True ∧ True ∧ (false = true ∧ True) ∧ True) ∧ (¬¬(↑(nsR n p o).length : Int) = 0 → ∃ (y : Unit), True ∧ (d = d ∧ n = n ∧ p = p ∧ (k : Int) = (k : Int) ∧ True) ∧ True))) ∧ ((!sgR p o) = false → True ∧ True ∧ ∃ (y : Unit), True ∧ (d = d ∧ n = n ∧ p = p ∧ (k : Int) = (k : Int) ∧ True) ∧ True)))) ∧ (sgR p o = false → True ∧ True ∧ True ∧ True ∧ True ∧ True ∧ ((!sgR p o) = true → True ∧ True ∧ True ∧ (¬nsE p o = 1 → True ∧ True ∧ True ∧ True ∧ True ∧ (false = true ∧ True) ∧ True) ∧ (¬¬nsE p o = 1 → True ∧ True ∧ True ∧ True ∧ True ∧ True ∧ (¬(↑(nsR n p o).length : Int) = 0 → True ∧ True ∧ (false = true ∧ True) ∧ True) ∧ (¬¬(↑(nsR n p o).length : Int) = 0 → ∃ (y : Unit), True ∧ (d = d ∧ n = n ∧ p = p ∧ (k : Int) = (k : Int) ∧ True) ∧ True))) ∧ ((!sgR p o) = false → True ∧ True ∧ ∃ (y : Unit), True ∧ (d = d ∧ n = n ∧ p = p ∧ (k : Int) = (k : Int) ∧ True) ∧ True))))) (by kernel_rfl) ?_
 simp only [zz]
 have ho10 : ok10 p := ⟨h.ok, h.2.1.2⟩
 have hl6 := nwL6_len p o o.length
 have hE : nsE p o = if sgR p o = true then 0 else 1 := rfl
 have hR : nsR n p o = if sgR p o = true then nwL n p o o.length else [] := rfl
 refine ⟨⟨ho10, by omega⟩, ⟨h, by omega⟩, ⟨h, by omega⟩, fun h => absurd trivial h, fun _ => ⟨fun hx => by simp at hx, fun _ => ?_⟩⟩
 cases hs : sgR p o with
 | true =>
   obtain ⟨g1, g2⟩ := sg_okO hs
   have he := nwL_eq h g1
   rw [hs, if_pos rfl] at hE hR
   rw [hE, hR, he]
   exact ⟨fun _ => ⟨fun h => absurd rfl h, fun _ => ⟨⟨h.ok, g1, by have := h.2.1.2; omega⟩, by omega, fun h => by simp at h, fun _ => ⟨fun h => by simp at h, fun _ => trivial⟩⟩⟩, fun h => by simp at h⟩
 | false =>
   rw [hs, if_neg (by simp)] at hE hR
   rw [hE, hR]
   simp
theorem part10b (d : List Int) (n : Int) (p : List Int) (o : List Int) (k : Nat) (h : cxOk n p) (ho : o.length ≤ 12) (hk : k < 2) : Sat X10 R10b (b10 d n p (o, k)) ((k10a d n p k).drop 2) := by
 refine .opn (.cut (Xw_ok _ _) 5 (H := nH) [2, 7, 8, 10] [⟨Unit, fun _ => True, c10 d n p k, fun _ => 0, fun _ => nH⟩] 150 (by kernel_rfl) ?_ ⟨fun _ _ => part10c d n p k h hk, trivial⟩)
 refine of_eq (q := True ∧ True ∧ ((ok10 p ∧ o.length < 1000000000000000) ∧ True) ∧ True ∧ True ∧ True ∧ True ∧ ((cxOk n p ∧ o.length < 1000000000000000) ∧ True) ∧ True ∧ True ∧ True ∧ True ∧ True ∧ True ∧ True ∧ True ∧ ((cxOk n p ∧ o.length < 1000000000000000) ∧ True) ∧ True ∧ True ∧ True ∧ True ∧ True ∧ True ∧ True ∧ True ∧ (¬(0 : Int) = 0 → True ∧ True ∧ True ∧ True ∧ True ∧ True ∧ True ∧ (false = true ∧ True) ∧ True) ∧ (¬¬(0 : Int) = 0 → True ∧ True ∧ True ∧ True ∧ True ∧ ((sgR p o != sgR p o) = true → True ∧ True ∧ True ∧ True ∧ True ∧ (false = true ∧ True) ∧ True) ∧ ((sgR p o != sgR p o) = false → True ∧ True ∧ (sgR p o = true → True ∧ True ∧ True ∧ (¬nsE p o = 0 → True ∧ True ∧ True ∧ True ∧ True ∧ True ∧ True ∧ (false = true ∧ True) ∧ True) ∧ (¬¬nsE p o = 0 → True ∧ True ∧ True ∧ ((okL p ∧ okO p o ∧ o.length ≤ 10) ∧ True) ∧ ((nsR n p o).length + 1 ≤ 1000000000000000 ∧ True) ∧ True ∧ True ∧ True ∧ True ∧ True ∧ ((!decide (nsR n p o = nwL6 p o o.length)) = true → True ∧ True ∧ True ∧ (false = true ∧ True) ∧ True) ∧ ((!decide (nsR n p o = nwL6 p o o.length)) = false → True ∧ True ∧ True ∧ ((!sgR p o) = true → True ∧ True ∧ True ∧ (¬nsE p o = 1 → True ∧ True ∧ True ∧ True ∧ True ∧ (false = true ∧ True) ∧ True) ∧ (¬¬nsE p o = 1 → True ∧ True ∧ True ∧ True ∧ True ∧ True ∧ (¬(↑(nsR n p o).length : Int) = 0 → True ∧ True ∧ (false = true ∧ True) ∧ True) ∧ (¬¬(↑(nsR n p o).length : Int) = 0 → ∃ (y : Unit), True ∧ (d = d ∧ n = n ∧ p = p ∧ (k : Int) = (k : Int) ∧ True) ∧ True))) ∧ ((!sgR p o) = false → True ∧ True ∧ ∃ (y : Unit), True ∧ (d = d ∧ n = n ∧ p = p ∧ (k : Int) = (k : Int) ∧ True) ∧ True)))) ∧ (sgR p o = false → True ∧ True ∧ True ∧ True ∧ True ∧ True ∧ ((!sgR p o) = true → True ∧ True ∧ True ∧ (¬nsE p o = 1 → True ∧ True ∧ True ∧ True ∧ True ∧ (false = true ∧ True) ∧ True) ∧ (¬¬nsE p o = 1 → True ∧ True ∧ True ∧ True ∧ True ∧ True ∧ (¬(↑(nsR n p o).length : Int) = 0 → True ∧ True ∧ (false = true ∧ True) ∧ True) ∧ (¬¬(↑(nsR n p o).length : Int) = 0 → ∃ (y : Unit), True ∧ (d = d ∧ n = n ∧ p = p ∧ (k : Int) = (k : Int) ∧ True) ∧ True))) ∧ ((!sgR p o) = false → True ∧ True ∧ ∃ (y : Unit), True ∧ (d = d ∧ n = n ∧ p = p ∧ (k : Int) = (k : Int) ∧ True) ∧ True))))) (by kernel_rfl) ?_
 simp only [zz]
 have ho10 : ok10 p := ⟨h.ok, h.2.1.2⟩
 have hl6 := nwL6_len p o o.length
 have hE : nsE p o = if sgR p o = true then 0 else 1 := rfl
 have hR : nsR n p o = if sgR p o = true then nwL n p o o.length else [] := rfl
 refine ⟨⟨ho10, by omega⟩, ⟨h, by omega⟩, ⟨h, by omega⟩, fun h => absurd trivial h, fun _ => ⟨fun hx => by simp at hx, fun _ => ?_⟩⟩
 cases hs : sgR p o with
 | true =>
   obtain ⟨g1, g2⟩ := sg_okO hs
   have he := nwL_eq h g1
   rw [hs, if_pos rfl] at hE hR
   rw [hE, hR, he]
   exact ⟨fun _ => ⟨fun h => absurd rfl h, fun _ => ⟨⟨h.ok, g1, by have := h.2.1.2; omega⟩, by omega, fun h => by simp at h, fun _ => ⟨fun h => by simp at h, fun _ => trivial⟩⟩⟩, fun h => by simp at h⟩
 | false =>
   rw [hs, if_neg (by simp)] at hE hR
   rw [hE, hR]
   simp
theorem loop10 (d : List Int) (n : Int) (p : List Int) (h : cxOk n p) (R : Exit → St → Prop) (hR : R = R10) : LoopOK X10 L10_0 ⟨chks 0 [2, 7, 8, 9, 10] (fo10 d n p), eo10.map (·.2)⟩ R := by
 subst hR
 refine loop_famsS [2, 7, 8, 9, 10] (fo10 d n p) eo10 ⟨fun x hx => ?_, fun x hx => ?_, trivial⟩
 · obtain ⟨o, k⟩ := x
   refine .opn (.cut (Xw_ok _ _) 2 (H := nH) [2, 7, 8, 9, 10] [⟨Unit, fun _ => k < 2, fun _ => a10 d n p (o, k), fun _ => 0, fun _ => nH⟩] 150 (by kernel_rfl) ?_ ⟨fun _ hk => part10a d n p o k h hx.1 hk, trivial⟩)
   refine of_eq (q := True ∧ True ∧ ((k : Int) < 2 → ∃ (y : Unit), k < 2 ∧ (d = d ∧ n = n ∧ p = p ∧ o = o ∧ (k : Int) = (k : Int) ∧ True) ∧ True) ∧ (¬(k : Int) < 2 → ∃ (y : Unit), True ∧ True ∧ True)) (by kernel_rfl) ?_
   simp only [zz]
   exact ⟨fun h => by omega, fun _ => trivial⟩
 · obtain ⟨o, k⟩ := x
   refine .opn (.cut (Xw_ok _ _) 2 (H := nH) [2, 7, 8, 9, 10] [⟨Unit, fun _ => k < 2, fun _ => b10 d n p (o, k), fun _ => 0, fun _ => nH⟩] 150 (by kernel_rfl) ?_ ⟨fun _ hk => part10b d n p o k h hx.1 hk, trivial⟩)
   refine of_eq (q := True ∧ True ∧ ((k : Int) < 2 → ∃ (y : Unit), k < 2 ∧ (d = d ∧ n = n ∧ p = p ∧ True ∧ (k : Int) = (k : Int) ∧ True) ∧ o = o ∧ True) ∧ (¬(k : Int) < 2 → ∃ (y : Unit), True ∧ True ∧ True)) (by kernel_rfl) ?_
   simp only [zz]
   exact ⟨fun h => by omega, fun _ => trivial⟩
theorem call10 (n : Int) (l d : List Int) (hl : l.length < 1000000000000000 ∧ d.length < 1000000000000000) : GCall Try.prog gl 10 true [.int .i64 n, .sl I64 l, .sl I64 d] [] [.tt] [] := by
 have hc := pu_cx n l
 have hL := loop10 d (tmN n) (puP (tmP n l)) hc R10 rfl
 refine gcall_of (X := X10) ((Xw_ok _ _)) (f := 10) (fn := Try.f10) (c := bodyOf Try.f10) (by kernel_rfl) (by kernel_rfl) (view := false) (rvs := [.tmp 6]) (by kernel_rfl) (H := (fun _ => some ⟨chks 0 [2, 7, 8, 9, 10] (fo10 d (tmN n) (puP (tmP n l))), eo10.map (·.2)⟩)) 200 (by kernel_rfl) ?_
 refine of_eq (q := True ∧ True ∧ True ∧ (l.length + 1 ≤ 1000000000000000 ∧ True) ∧ True ∧ True ∧ True ∧ True ∧ True ∧ True ∧ ((d.length < 1000000000000000 ∧ (0 : Int) ≤ 12 ∧ (12 : Int) < 1000000) ∧ True) ∧ True ∧ True ∧ LoopOK X10 L10_0 { J := chks (0 : Nat) [(2 : Nat), (7 : Nat), (8 : Nat), (9 : Nat), (10 : Nat)] (fo10 d (tmN n) (puP (tmP n l))), exits := List.map (fun (x : List Nat × Ex) => x.snd) eo10 } R10 ∧ ((∃ (y : List Int × Nat), i10 y ∧ (d = d ∧ tmN n = tmN n ∧ puP (tmP n l) = puP (tmP n l) ∧ List.take (12 : Nat) d = y.fst ∧ (0 : Int) = (y.snd : Int) ∧ True) ∧ True) ∨ ∃ (y : List Int × Nat), i10 y ∧ (d = d ∧ tmN n = tmN n ∧ puP (tmP n l) = puP (tmP n l) ∧ False ∧ (0 : Int) = (y.snd : Int) ∧ True) ∧ False) ∧ (∀ (y : Unit), True → (True ∧ True) ∧ True ∧ True ∧ (true = true ∧ True) ∧ True) ∧ True) (by kernel_rfl) ?_
 simp only [zz]
 have hl12 : (d.take 12).length ≤ 12 := by rw [List.length_take]; omega
 exact ⟨hl.1, ⟨hl.2, by decide, by decide⟩, hL, ⟨(d.take 12, 0), ⟨hl12, Nat.zero_le _⟩, rfl, rfl⟩, fun _ _ => trivial⟩
end Go.Am.Sh

/- Shells: from the laws' contracts to the given statements: what all laws share. -/
namespace Go.Proofs.Ytfpoonbcnabihaa
open Go Go.ChangeShapes Go.WideShapes Go.ChangeAt Go.RowKit Go.Am Go.Am.Sh
theorem own : ownKnob Try.prog.godebug = none := by kernel_rfl
theorem laidOut : laidOutB Try.prog = true := by kernel_rfl
theorem u3 : Try.prog.underlying 3 = some (.int .i64) := by kernel_rfl
theorem u4 : Try.prog.underlying 4 = some .bool := by kernel_rfl
theorem u22 : Try.prog.underlying 22 = some (.slice 3) := by kernel_rfl
theorem tyOk3 : TyOk Try.prog 3 I64 := u3
theorem tyOk22 : TyOk Try.prog 22 (.sl I64) := ⟨3, u22, u3, by kernel_rfl, by decide, of_decide_eq_true (by kernel_rfl)⟩
theorem reach_le {l : List Nat} (h : l.all (fun x => decide (x ≤ reachBytes)) = true) : ∀ n ∈ l, n ≤ 140737488355328 := fun n hn => by
 have := of_decide_eq_true (List.all_eq_true.mp h n hn)
 have e : reachBytes = 140737488351232 := rfl
 omega
theorem glob_of {W : World} : GlobOk gl (fun b => b < W.heap.size) W := fun g p hp => by cases hp
end Go.Proofs.Ytfpoonbcnabihaa
