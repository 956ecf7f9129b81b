/- Part B4 of the proof that the law named in the last file returns true at every input and leaves its arguments as they were; no condition of its own. -/
import Derived.Test.YtfpoonbcnabihaaB3
import Derived.Test.YtfpoonbcnabihaaA2
import Derived.Test.YtfpoonbcnabihaaRows
import Derived.WalkKit
import Derived.ProofKit
import Derived.OpenShut
import Derived.SizedLaws
import Derived.ChangeOld
import Derived.Below
import Derived.Stop.Joined
set_option linter.unusedSimpArgs false
set_option linter.unusedVariables false
/- Shells: a shelling is searched. -/
namespace Go.Am.Sh
open Go Go.Am Go.Proofs
noncomputable def Xb (l : EL) (m0 : Nat) (bs : List Nat) (dr : Nat → Option Nat) : Cy := { mkX Try.prog tt gl l m0 dr with bs := bs }
theorem Xb_ok (l : EL) (m0 : Nat) (bs : List Nat) (dr : Nat → Option Nat) : (Xb l m0 bs dr).Ok := (mkX_ok tt_ok l m0 dr).bump bs
abbrev Mm := List (Int × Bool)
abbrev Res := Bool × List Int × Mm
def mg (m : Mm) (d : Int) : Bool := (mGet I64 m d).getD false
def mp (m : Mm) (d : Int) : Mm := mPut I64 m d true
/-- The first rounds, until one comes to an end. -/
def lpK (p : List Int) (f : Nat → List Int → Mm → Res) (D : Nat) (l : List Int) (m : Mm) : Nat → Res
 | 0 => (false, l, m)
 | k + 1 => if (lpK p f D l m k).1 = true then lpK p f D l m k else if D / 2 ^ k % 2 = 1 ∨ flw p D k = false then lpK p f D l m k else
     if (f (D ||| 2 ^ k) (l ++ [(k : Int)]) (lpK p f D l m k).2.2).1 = true then f (D ||| 2 ^ k) (l ++ [(k : Int)]) (lpK p f D l m k).2.2
     else (false, l, (f (D ||| 2 ^ k) (l ++ [(k : Int)]) (lpK p f D l m k).2.2).2.2)
/-- The search; as many levels as pieces are left. -/
def gr (p : List Int) : Nat → Nat → List Int → Mm → Res
 | 0, _, l, m => (true, l, m)
 | n + 1, D, l, m => if mg m D = true then (false, l, m) else if (lpK p (gr p n) D l m p.length).1 = true then lpK p (gr p n) D l m p.length else (false, l, mp (lpK p (gr p n) D l m p.length).2.2 D)
theorem gr_list {p : List Int} {n D : Nat} {l : List Int} {m : Mm} (h : (gr p n D l m).1 = false) : (gr p n D l m).2.1 = l := by
 cases n with
 | zero => cases h
 | succ n =>
   rw [gr] at h ⊢
   split
   · rfl
   · rename_i h1; rw [if_neg h1] at h
     split
     · rename_i h2; rw [if_pos h2, h2] at h; cases h
     · rfl
theorem lpK_stop {p : List Int} {f : Nat → List Int → Mm → Res} {D : Nat} {l : List Int} {m : Mm} {k : Nat} (h : (lpK p f D l m k).1 = true) : ∀ j, lpK p f D l m (k + j) = lpK p f D l m k
 | 0 => rfl
 | j + 1 => by rw [show k + (j + 1) = k + j + 1 by omega, lpK, lpK_stop h j, if_pos h]
def clo55 (a b c d : Nat) : AV := .clo 55 [] [.ptr a 0 [], .ptr b 0 [], .ptr c 0 [], .ptr d 0 []]
def mmO (m : Mm) : Ob := .mo I64 .bool m
def gS (v : Nat) (n : Int) (p l : List Int) (m : Mm) : List Ob := [.bx (.own 1 v), .sc v 3 I64 l, .bx (.ptr 3 0 []), cxO n p, .bx (.mp 5), mmO m, .bx (clo55 0 2 4 6)]
def aS (D : Int) : List AV := [.int .i64 D, .ptr 0 0 [], .ptr 2 0 [], .ptr 4 0 [], .ptr 6 0 []]
structure pre55 (n : Int) (p : List Int) (lv D : Nat) (l : List Int) : Prop where
 h : cxOk n p
 D : D < 2 ^ p.length
 l : l.length + lv = p.length
def GS (lv : Nat) : Prop := ∀ (n : Int) (p : List Int) (D : Nat) (l : List Int) (m : Mm), pre55 n p lv D l → GCall Try.prog gl 55 false (aS D) (gS 0 n p l m) [.bool (gr p lv D l m).1] (gS 1 n p (gr p lv D l m).2.1 (gr p lv D l m).2.2)
def unMm : Ob → Option Mm
 | .mo k v m => (if h : k = I64 ∧ v = .bool then some (by obtain ⟨rfl, rfl⟩ := h; exact m) else none)
 | _ => none
def unSc : Ob → Option (List Int)
 | .sc _ _ e xs => castL e I64 xs
 | _ => none
abbrev G5 := Int × Cx3 × List Int × Mm
def get55 (xs : List AV) (obs : List Ob) : Option G5 :=
 match xs with
 | .int .i64 d :: _ => (match unSc (obs.getD 1 .gone), unCx (obs.getD 3 .gone), unMm (obs.getD 5 .gone) with
   | some l, some x, some m => some (d, x, l, m)
   | _, _, _ => none)
 | _ => none
def gSq (v : Nat) (x : Cx3) (l : List Int) (m : Mm) : List Ob := [.bx (.own 1 v), .sc v 3 I64 l, .bx (.ptr 3 0 []), cxQ x, .bx (.mp 5), mmO m, .bx (clo55 0 2 4 6)]
structure ok55 (lv : Nat) (x : G5) : Prop where
 h : okC x.2.1
 d : 0 ≤ x.1
 p : pre55 x.2.1.1 x.2.1.2.1 lv x.1.toNat x.2.2.1
def e55S (lv : Nat) (h : GS lv) : Entry Try.prog gl := entryW 55 ⟨Try.f55, by kernel_rfl, by kernel_rfl, by kernel_rfl⟩ true get55 (ok55 lv) false (fun x => aS x.1) (fun x => gSq 0 x.2.1 x.2.2.1 x.2.2.2) (fun x => [.bool (gr x.2.1.2.1 lv x.1.toNat x.2.2.1 x.2.2.2).1])
 (fun x => gSq 1 x.2.1 (gr x.2.1.2.1 lv x.1.toNat x.2.2.1 x.2.2.2).2.1 (gr x.2.1.2.1 lv x.1.toNat x.2.2.1 x.2.2.2).2.2) (fun x hx => by
   have := h _ _ _ _ x.2.2.2 hx.p
   rw [Int.toNat_of_nonneg hx.d] at this
   have e : ∀ v l m, gSq v x.2.1 l m = gS v x.2.1.1 x.2.1.2.1 l m := fun v l m => by unfold gSq gS; rw [cxQ_ok hx.h]
   rw [e, e]; exact this)
noncomputable abbrev X55 (es : EL) : Cy := Xb es 7 [1] (fun _ => none)
theorem gS0 : GS 0 := by
 intro n p D l m hp
 refine gcall_of (X := (X55 [e56])) ((Xb_ok _ _ _ _)) (f := 55) (fn := Try.f55) (c := bodyOf Try.f55) (by kernel_rfl) (by kernel_rfl) (view := false) (rvs := [.tmp 6]) (by kernel_rfl) (H := fun _ => none) 80 (by kernel_rfl) ?_
 refine of_eq (q := True ∧ True ∧ True ∧ True ∧ True ∧ True ∧ True ∧ True ∧ True ∧ ((l.length : Int) = (p.length : Int) → True ∧ True ∧ (true = true ∧ True) ∧ True ∧ l = (gr p (0 : Nat) D l m).snd.fst ∧ True ∧ (n = n ∧ p = p ∧ mk (isF p) = mk (isF p) ∧ True) ∧ True ∧ m = (gr p (0 : Nat) D l m).snd.snd ∧ (True ∧ True ∧ True ∧ True ∧ True ∧ True) ∧ True) ∧ (¬(l.length : Int) = (p.length : Int) → True ∧ True ∧ True ∧ ((mGet I64 m (D : Int)).getD false = true → True ∧ True ∧ (false = true ∧ True) ∧ True ∧ l = (gr p (0 : Nat) D l m).snd.fst ∧ True ∧ (n = n ∧ p = p ∧ mk (isF p) = mk (isF p) ∧ True) ∧ True ∧ m = (gr p (0 : Nat) D l m).snd.snd ∧ (True ∧ True ∧ True ∧ True ∧ True ∧ True) ∧ True) ∧ ((mGet I64 m (D : Int)).getD false = false → True ∧ True ∧ True ∧ True ∧ True ∧ True ∧ False))) (by kernel_rfl) ?_
 simp only [zz]
 have h1 := hp.l
 exact ⟨fun _ => ⟨rfl, rfl⟩, fun h => absurd (by omega) h⟩
noncomputable def L55_0 : Code := lp (bodyOf Try.f55) 0
theorem or_pow10 {D k : Nat} (hD : D < 1024) (hk : k < 10) : bOr .i64 (D : Int) (1 * 2 ^ k) = ((D ||| 2 ^ k : Nat) : Int) ∧ D ||| 2 ^ k < 1024 ∧ (1 : Int) * 2 ^ k ≤ 512 ∧ (0 : Int) ≤ 1 * 2 ^ k := by
 have h2 : 2 ^ k ≤ 2 ^ 9 := Nat.pow_le_pow_right (by decide) (by omega)
 have e : (2 ^ k : Int) = ((2 ^ k : Nat) : Int) := by rw [Int.natCast_pow]; try rfl
 have h3 : D ||| 2 ^ k < 2 ^ 10 := Nat.or_lt_two_pow hD (by omega)
 have hb : bOr .i64 (D : Int) ((2 ^ k : Nat) : Int) = ((D ||| 2 ^ k : Nat) : Int) := bOr_nat (by omega) (by omega)
 rw [Int.one_mul, e]
 refine ⟨hb, by omega, ?_, Int.natCast_nonneg _⟩
 generalize 2 ^ k = P at *
 omega
theorem lpK_go {p : List Int} {f : Nat → List Int → Mm → Res} {D : Nat} {l : List Int} {m : Mm} {k : Nat} (h : (lpK p f D l m k).1 = false) : lpK p f D l m (k + 1) = if D / 2 ^ k % 2 = 1 ∨ flw p D k = false then lpK p f D l m k else
     if (f (D ||| 2 ^ k) (l ++ [(k : Int)]) (lpK p f D l m k).2.2).1 = true then f (D ||| 2 ^ k) (l ++ [(k : Int)]) (lpK p f D l m k).2.2
     else (false, l, (f (D ||| 2 ^ k) (l ++ [(k : Int)]) (lpK p f D l m k).2.2).2.2) := by rw [lpK, if_neg (by simp [h])]
theorem pre_D {n : Int} {p : List Int} {lv D : Nat} {l : List Int} (h : pre55 n p lv D l) : D < 1024 := by
 have := Nat.pow_le_pow_right (show 0 < 2 by decide) h.h.2.1.2
 have := h.D
 omega
def stS (v : Nat) (n : Int) (p : List Int) (f : Nat → List Int → Mm → Res) (D : Nat) (l : List Int) (m : Mm) (k : Nat) : St := ⟨aS D ++ dd 18 ++ .int .i64 p.length :: .int .i64 k :: dd 34, gS v n p l (lpK p f D l m k).2.2⟩
def inS (p : List Int) (f : Nat → List Int → Mm → Res) (D : Nat) (l : List Int) (m : Mm) (k : Nat) : Prop := k ≤ p.length ∧ (lpK p f D l m k).1 = false
def fmS (n : Int) (p : List Int) (f : Nat → List Int → Mm → Res) (D : Nat) (l : List Int) (m : Mm) : List Fam := [⟨Nat, inS p f D l m, stS 0 n p f D l m, fun k => p.length - k, fun _ _ => none⟩, ⟨Nat, inS p f D l m, stS 1 n p f D l m, fun k => p.length - k, fun _ _ => none⟩]
def exS (n : Int) (p : List Int) (f : Nat → List Int → Mm → Res) (D : Nat) (l : List Int) (m : Mm) : List (List Nat × Ex) := [([0, 1, 2, 3, 4], ⟨0, Unit, fun _ => (lpK p f D l m p.length).1 = false, fun _ => ⟨aS D ++ dd 54, gS 0 n p l (lpK p f D l m p.length).2.2⟩⟩), ([0, 1, 2, 3, 4], ⟨0, Unit, fun _ => (lpK p f D l m p.length).1 = false, fun _ => ⟨aS D ++ dd 54, gS 1 n p l (lpK p f D l m p.length).2.2⟩⟩)]
def hS (n : Int) (p : List Int) (f : Nat → List Int → Mm → Res) (D : Nat) (l : List Int) (m : Mm) : Hint := ⟨chks 7 [0, 1, 2, 3, 4, 23, 24] (fmS n p f D l m), (exS n p f D l m).map (·.2)⟩
noncomputable def HS (n : Int) (p : List Int) (f : Nat → List Int → Mm → Res) (D : Nat) (l : List Int) (m : Mm) : Nat → Option Hint := fun _ => some (hS n p f D l m)
theorem loopS (lv : Nat) (h' : GS lv) (n : Int) (p : List Int) (D : Nat) (l : List Int) (m : Mm) (hp : pre55 n p (lv + 1) D l) (hm : ¬ mg m D = true) : LoopOK (X55 [e56, e55S lv h']) L55_0 (hS n p (gr p lv) D l m)
   (RetR (X55 [e56, e55S lv h']) false false [.tmp 6] [.bool (gr p (lv + 1) D l m).1] (gS 1 n p (gr p (lv + 1) D l m).2.1 (gr p (lv + 1) D l m).2.2)) := by
 refine loop_fams (Xb_ok _ _ _ _) [0, 1, 2, 3, 4, 23, 24] (fmS n p (gr p lv) D l m) (exS n p (gr p lv) D l m) 150 ⟨fun (k : Nat) hk => ?_, fun (k : Nat) hk => ?_, trivial⟩
 · refine of_eq (q := True ∧ ((k : Int) < (p.length : Int) → True ∧ True ∧ True ∧ True ∧ inR .u64 (k : Int) ∧ ((0 : Int) ≤ (k : Int) ∧ (k : Int) < bitsOf .i64) ∧ True ∧ True ∧ True ∧ (bAnd .i64 ((D : Int) / (2 : Int) ^ k) (1 : Int) = 1 → True ∧ inR .i64 ((k : Int) + 1) ∧ True ∧ ((∃ (y : Nat), (inS p (gr p lv) D l m y ∧ p.length - y < p.length - k) ∧ ((D : Int) = (D : Int) ∧ True ∧ True ∧ True ∧ True ∧ (p.length : Int) = (p.length : Int) ∧ (k : Int) + 1 = (y : Int) ∧ True) ∧ True ∧ l = l ∧ True ∧ (n = n ∧ p = p ∧ mk (isF p) = mk (isF p) ∧ True) ∧ True ∧ (lpK p (gr p lv) D l m k).snd.snd = (lpK p (gr p lv) D l m y).snd.snd ∧ (True ∧ True ∧ True ∧ True ∧ True ∧ True) ∧ True) ∨ ∃ (y : Nat), (inS p (gr p lv) D l m y ∧ p.length - y < p.length - k) ∧ ((D : Int) = (D : Int) ∧ True ∧ True ∧ True ∧ True ∧ (p.length : Int) = (p.length : Int) ∧ (k : Int) + 1 = (y : Int) ∧ True) ∧ False ∧ False ∧ True ∧ (n = n ∧ p = p ∧ mk (isF p) = mk (isF p) ∧ True) ∧ True ∧ (lpK p (gr p lv) D l m k).snd.snd = (lpK p (gr p lv) D l m y).snd.snd ∧ (True ∧ True ∧ True ∧ True ∧ True ∧ True) ∧ True)) ∧ (¬bAnd .i64 ((D : Int) / (2 : Int) ^ k) (1 : Int) = 1 → True ∧ True ∧ True ∧ ((ok56 ((D : Int), (k : Int), n, p, mk (isF p)) ∧ (True ∧ (D : Int) = (D : Int) ∧ (k : Int) = (k : Int) ∧ True) ∧ (n = n ∧ p = p ∧ mk (isF p) = mk (isF p) ∧ True) ∧ True) ∧ True ∧ True) ∧ True ∧ True ∧ ((!flw p D k) = true → inR .i64 ((k : Int) + 1) ∧ True ∧ ((∃ (y : Nat), (inS p (gr p lv) D l m y ∧ p.length - y < p.length - k) ∧ ((D : Int) = (D : Int) ∧ True ∧ True ∧ True ∧ True ∧ (p.length : Int) = (p.length : Int) ∧ (k : Int) + 1 = (y : Int) ∧ True) ∧ True ∧ l = l ∧ True ∧ (n = n ∧ p = p ∧ mk (isF p) = mk (isF p) ∧ True) ∧ True ∧ (lpK p (gr p lv) D l m k).snd.snd = (lpK p (gr p lv) D l m y).snd.snd ∧ (True ∧ True ∧ True ∧ True ∧ True ∧ True) ∧ True) ∨ ∃ (y : Nat), (inS p (gr p lv) D l m y ∧ p.length - y < p.length - k) ∧ ((D : Int) = (D : Int) ∧ True ∧ True ∧ True ∧ True ∧ (p.length : Int) = (p.length : Int) ∧ (k : Int) + 1 = (y : Int) ∧ True) ∧ False ∧ False ∧ True ∧ (n = n ∧ p = p ∧ mk (isF p) = mk (isF p) ∧ True) ∧ True ∧ (lpK p (gr p lv) D l m k).snd.snd = (lpK p (gr p lv) D l m y).snd.snd ∧ (True ∧ True ∧ True ∧ True ∧ True ∧ True) ∧ True)) ∧ ((!flw p D k) = false → True ∧ True ∧ True ∧ sumPre l.length [(k : Int)].length (nat_lit 8) ∧ True ∧ True ∧ True ∧ True ∧ inR .u64 (k : Int) ∧ (((0 : Int) ≤ (k : Int) ∧ (k : Int) < bitsOf .i64) ∧ (-9223372036854775808 : Int) ≤ 1 * 2 ^ k ∧ (1 : Int) * 2 ^ k ≤ 9223372036854775807) ∧ True ∧ ((ok55 lv (bOr .i64 (D : Int) ((1 : Int) * 2 ^ k), (n, p, mk (isF p)), l ++ [(k : Int)], (lpK p (gr p lv) D l m k).snd.snd) ∧ (bOr .i64 (D : Int) ((1 : Int) * 2 ^ k) = bOr .i64 (D : Int) ((1 : Int) * 2 ^ k) ∧ True ∧ True ∧ True ∧ True ∧ True) ∧ True ∧ l ++ [(k : Int)] = l ++ [(k : Int)] ∧ True ∧ (n = n ∧ p = p ∧ mk (isF p) = mk (isF p) ∧ True) ∧ True ∧ (lpK p (gr p lv) D l m k).snd.snd = (lpK p (gr p lv) D l m k).snd.snd ∧ (True ∧ True ∧ True ∧ True ∧ True ∧ True) ∧ True) ∧ True ∧ True ∧ True ∧ True ∧ True ∧ True ∧ True ∧ True) ∧ ((gr p lv (bOr .i64 (D : Int) ((1 : Int) * 2 ^ k)).toNat (l ++ [(k : Int)]) (lpK p (gr p lv) D l m k).snd.snd).fst = true → True ∧ True ∧ (true = (gr p (lv + 1) D l m).fst ∧ True) ∧ True ∧ (gr p lv (bOr .i64 (D : Int) ((1 : Int) * 2 ^ k)).toNat (l ++ [(k : Int)]) (lpK p (gr p lv) D l m k).snd.snd).snd.fst = (gr p (lv + 1) D l m).snd.fst ∧ True ∧ (n = n ∧ p = p ∧ mk (isF p) = mk (isF p) ∧ True) ∧ True ∧ (gr p lv (bOr .i64 (D : Int) ((1 : Int) * 2 ^ k)).toNat (l ++ [(k : Int)]) (lpK p (gr p lv) D l m k).snd.snd).snd.snd = (gr p (lv + 1) D l m).snd.snd ∧ (True ∧ True ∧ True ∧ True ∧ True ∧ True) ∧ True) ∧ ((gr p lv (bOr .i64 (D : Int) ((1 : Int) * 2 ^ k)).toNat (l ++ [(k : Int)]) (lpK p (gr p lv) D l m k).snd.snd).fst = false → True ∧ True ∧ True ∧ inR .i64 ((↑(gr p lv (bOr .i64 (D : Int) ((1 : Int) * 2 ^ k)).toNat (l ++ [(k : Int)]) (lpK p (gr p lv) D l m k).snd.snd).snd.fst.length : Int) - 1) ∧ ((0 : Int) ≤ (↑(gr p lv (bOr .i64 (D : Int) ((1 : Int) * 2 ^ k)).toNat (l ++ [(k : Int)]) (lpK p (gr p lv) D l m k).snd.snd).snd.fst.length : Int) - 1 ∧ (↑(gr p lv (bOr .i64 (D : Int) ((1 : Int) * 2 ^ k)).toNat (l ++ [(k : Int)]) (lpK p (gr p lv) D l m k).snd.snd).snd.fst.length : Int) - 1 ≤ (↑(gr p lv (bOr .i64 (D : Int) ((1 : Int) * 2 ^ k)).toNat (l ++ [(k : Int)]) (lpK p (gr p lv) D l m k).snd.snd).snd.fst.length : Int)) ∧ True ∧ inR .i64 ((k : Int) + 1) ∧ True ∧ ((∃ (y : Nat), (inS p (gr p lv) D l m y ∧ p.length - y < p.length - k) ∧ ((D : Int) = (D : Int) ∧ True ∧ True ∧ True ∧ True ∧ (p.length : Int) = (p.length : Int) ∧ (k : Int) + 1 = (y : Int) ∧ True) ∧ False ∧ False ∧ True ∧ (n = n ∧ p = p ∧ mk (isF p) = mk (isF p) ∧ True) ∧ True ∧ (gr p lv (bOr .i64 (D : Int) ((1 : Int) * 2 ^ k)).toNat (l ++ [(k : Int)]) (lpK p (gr p lv) D l m k).snd.snd).snd.snd = (lpK p (gr p lv) D l m y).snd.snd ∧ (True ∧ True ∧ True ∧ True ∧ True ∧ True) ∧ True) ∨ ∃ (y : Nat), (inS p (gr p lv) D l m y ∧ p.length - y < p.length - k) ∧ ((D : Int) = (D : Int) ∧ True ∧ True ∧ True ∧ True ∧ (p.length : Int) = (p.length : Int) ∧ (k : Int) + 1 = (y : Int) ∧ True) ∧ True ∧ List.take ((↑(gr p lv (bOr .i64 (D : Int) ((1 : Int) * 2 ^ k)).toNat (l ++ [(k : Int)]) (lpK p (gr p lv) D l m k).snd.snd).snd.fst.length : Int) - 1).toNat (gr p lv (bOr .i64 (D : Int) ((1 : Int) * 2 ^ k)).toNat (l ++ [(k : Int)]) (lpK p (gr p lv) D l m k).snd.snd).snd.fst = l ∧ True ∧ (n = n ∧ p = p ∧ mk (isF p) = mk (isF p) ∧ True) ∧ True ∧ (gr p lv (bOr .i64 (D : Int) ((1 : Int) * 2 ^ k)).toNat (l ++ [(k : Int)]) (lpK p (gr p lv) D l m k).snd.snd).snd.snd = (lpK p (gr p lv) D l m y).snd.snd ∧ (True ∧ True ∧ True ∧ True ∧ True ∧ True) ∧ True))))) ∧ (¬(k : Int) < (p.length : Int) → (∃ (y : Unit), (lpK p (gr p lv) D l m p.length).fst = false ∧ ((D : Int) = (D : Int) ∧ True ∧ True ∧ True ∧ True ∧ True) ∧ True ∧ l = l ∧ True ∧ (n = n ∧ p = p ∧ mk (isF p) = mk (isF p) ∧ True) ∧ True ∧ (lpK p (gr p lv) D l m k).snd.snd = (lpK p (gr p lv) D l m p.length).snd.snd ∧ (True ∧ True ∧ True ∧ True ∧ True ∧ True) ∧ True) ∨ ∃ (y : Unit), (lpK p (gr p lv) D l m p.length).fst = false ∧ ((D : Int) = (D : Int) ∧ True ∧ True ∧ True ∧ True ∧ True) ∧ False ∧ False ∧ True ∧ (n = n ∧ p = p ∧ mk (isF p) = mk (isF p) ∧ True) ∧ True ∧ (lpK p (gr p lv) D l m k).snd.snd = (lpK p (gr p lv) D l m p.length).snd.snd ∧ (True ∧ True ∧ True ∧ True ∧ True ∧ True) ∧ True)) (by kernel_rfl) ?_
   simp only [zz]
   obtain ⟨k1, k2⟩ := hk
   have hl := hp.l
   have hc := hp.h.2.1
   have hD := pre_D hp
   refine ⟨fun h => ?_, fun h => by rw [show p.length = k by omega]; exact ⟨k2, rfl⟩⟩
   have hkp : k < p.length := by omega
   have hb := or_pow10 hD (k := k) (by omega)
   have hst := lpK_go k2
   rw [bit_shr hD, hb.1, Int.toNat_natCast]
   have hskip : (D / 2 ^ k % 2 = 1 ∨ flw p D k = false) → inR .i64 ((k : Int) + 1) ∧ ∃ y : Nat, (inS p (gr p lv) D l m y ∧ p.length - y < p.length - k) ∧ (k : Int) + 1 = (y : Int) ∧ (lpK p (gr p lv) D l m k).2.2 = (lpK p (gr p lv) D l m y).2.2 := fun hh => by
     rw [if_pos hh] at hst
     exact ⟨by simp only [inR]; omega, k + 1, ⟨⟨by omega, by rw [hst]; exact k2⟩, by omega⟩, by omega, by rw [hst]⟩
   refine ⟨by simp only [inR]; omega, ⟨by omega, by simp only [bitsOf]; omega⟩, fun hx => hskip (.inl (by omega)), fun hx => ⟨⟨⟨hp.h, rfl⟩, ⟨by simp only; omega, by simp only; omega⟩, ⟨by simp only; omega, by simp only; omega⟩⟩, fun hx2 => hskip (.inr (by simpa using hx2)), fun hx2 => ?_⟩⟩
   have hx2 : flw p D k = true := by simpa using hx2
   rw [if_neg (by simp [hx2]; omega)] at hst
   have hlt : D ||| 2 ^ k < 2 ^ p.length := Nat.or_lt_two_pow hp.D (Nat.pow_lt_pow_right (by decide) hkp)
   have hpre : pre55 n p lv (D ||| 2 ^ k) (l ++ [(k : Int)]) := ⟨hp.h, hlt, by simp; omega⟩
   refine ⟨by unfold sumPre; simp; omega, by simp only [inR]; omega, ⟨⟨by omega, by simp only [bitsOf]; omega⟩, by omega, by omega⟩, ⟨⟨hp.h, rfl⟩, by simp only; omega, hpre⟩, fun hr => ?_, fun hr => ?_⟩
   · have hr : (gr p lv (D ||| 2 ^ k) (l ++ [(k : Int)]) (lpK p (gr p lv) D l m k).2.2).1 = true := hr
     rw [if_pos hr] at hst
     have hs := lpK_stop (k := k + 1) (by rw [hst]; exact hr) (p.length - (k + 1))
     rw [show k + 1 + (p.length - (k + 1)) = p.length by omega, hst] at hs
     have e : gr p (lv + 1) D l m = gr p lv (D ||| 2 ^ k) (l ++ [(k : Int)]) (lpK p (gr p lv) D l m k).2.2 := by rw [gr, if_neg hm, hs, if_pos hr]
     rw [e]
     exact ⟨hr.symm, rfl, rfl⟩
   · have hr : (gr p lv (D ||| 2 ^ k) (l ++ [(k : Int)]) (lpK p (gr p lv) D l m k).2.2).1 = false := hr
     rw [if_neg (by simp [hr])] at hst
     have h2 := gr_list hr
     have q1 : inR .i64 (((gr p lv (D ||| 2 ^ k) (l ++ [(k : Int)]) (lpK p (gr p lv) D l m k).2.2).2.1.length : Int) - 1) := by rw [h2]; simp only [inR]; simp; omega
     have q2 : 0 ≤ ((gr p lv (D ||| 2 ^ k) (l ++ [(k : Int)]) (lpK p (gr p lv) D l m k).2.2).2.1.length : Int) - 1 ∧ ((gr p lv (D ||| 2 ^ k) (l ++ [(k : Int)]) (lpK p (gr p lv) D l m k).2.2).2.1.length : Int) - 1 ≤ ((gr p lv (D ||| 2 ^ k) (l ++ [(k : Int)]) (lpK p (gr p lv) D l m k).2.2).2.1.length : Int) := by rw [h2]; simp; omega
     have q3 : (gr p lv (D ||| 2 ^ k) (l ++ [(k : Int)]) (lpK p (gr p lv) D l m k).2.2).2.1.take (((gr p lv (D ||| 2 ^ k) (l ++ [(k : Int)]) (lpK p (gr p lv) D l m k).2.2).2.1.length : Int) - 1).toNat = l := by rw [h2]; simp
     have q4 : (gr p lv (D ||| 2 ^ k) (l ++ [(k : Int)]) (lpK p (gr p lv) D l m k).2.2).2.2 = (lpK p (gr p lv) D l m (k + 1)).2.2 := by rw [hst]
     exact ⟨q1, q2, by simp only [inR]; omega, k + 1, ⟨⟨by omega, by rw [hst]⟩, by omega⟩, by omega, q3, q4⟩
 · refine of_eq (q := True ∧ ((k : Int) < (p.length : Int) → True ∧ True ∧ True ∧ True ∧ inR .u64 (k : Int) ∧ ((0 : Int) ≤ (k : Int) ∧ (k : Int) < bitsOf .i64) ∧ True ∧ True ∧ True ∧ (bAnd .i64 ((D : Int) / (2 : Int) ^ k) (1 : Int) = 1 → True ∧ inR .i64 ((k : Int) + 1) ∧ True ∧ ((∃ (y : Nat), (inS p (gr p lv) D l m y ∧ p.length - y < p.length - k) ∧ ((D : Int) = (D : Int) ∧ True ∧ True ∧ True ∧ True ∧ (p.length : Int) = (p.length : Int) ∧ (k : Int) + 1 = (y : Int) ∧ True) ∧ False ∧ False ∧ True ∧ (n = n ∧ p = p ∧ mk (isF p) = mk (isF p) ∧ True) ∧ True ∧ (lpK p (gr p lv) D l m k).snd.snd = (lpK p (gr p lv) D l m y).snd.snd ∧ (True ∧ True ∧ True ∧ True ∧ True ∧ True) ∧ True) ∨ ∃ (y : Nat), (inS p (gr p lv) D l m y ∧ p.length - y < p.length - k) ∧ ((D : Int) = (D : Int) ∧ True ∧ True ∧ True ∧ True ∧ (p.length : Int) = (p.length : Int) ∧ (k : Int) + 1 = (y : Int) ∧ True) ∧ True ∧ l = l ∧ True ∧ (n = n ∧ p = p ∧ mk (isF p) = mk (isF p) ∧ True) ∧ True ∧ (lpK p (gr p lv) D l m k).snd.snd = (lpK p (gr p lv) D l m y).snd.snd ∧ (True ∧ True ∧ True ∧ True ∧ True ∧ True) ∧ True)) ∧ (¬bAnd .i64 ((D : Int) / (2 : Int) ^ k) (1 : Int) = 1 → True ∧ True ∧ True ∧ ((ok56 ((D : Int), (k : Int), n, p, mk (isF p)) ∧ (True ∧ (D : Int) = (D : Int) ∧ (k : Int) = (k : Int) ∧ True) ∧ (n = n ∧ p = p ∧ mk (isF p) = mk (isF p) ∧ True) ∧ True) ∧ True ∧ True) ∧ True ∧ True ∧ ((!flw p D k) = true → inR .i64 ((k : Int) + 1) ∧ True ∧ ((∃ (y : Nat), (inS p (gr p lv) D l m y ∧ p.length - y < p.length - k) ∧ ((D : Int) = (D : Int) ∧ True ∧ True ∧ True ∧ True ∧ (p.length : Int) = (p.length : Int) ∧ (k : Int) + 1 = (y : Int) ∧ True) ∧ False ∧ False ∧ True ∧ (n = n ∧ p = p ∧ mk (isF p) = mk (isF p) ∧ True) ∧ True ∧ (lpK p (gr p lv) D l m k).snd.snd = (lpK p (gr p lv) D l m y).snd.snd ∧ (True ∧ True ∧ True ∧ True ∧ True ∧ True) ∧ True) ∨ ∃ (y : Nat), (inS p (gr p lv) D l m y ∧ p.length - y < p.length - k) ∧ ((D : Int) = (D : Int) ∧ True ∧ True ∧ True ∧ True ∧ (p.length : Int) = (p.length : Int) ∧ (k : Int) + 1 = (y : Int) ∧ True) ∧ True ∧ l = l ∧ True ∧ (n = n ∧ p = p ∧ mk (isF p) = mk (isF p) ∧ True) ∧ True ∧ (lpK p (gr p lv) D l m k).snd.snd = (lpK p (gr p lv) D l m y).snd.snd ∧ (True ∧ True ∧ True ∧ True ∧ True ∧ True) ∧ True)) ∧ ((!flw p D k) = false → True ∧ True ∧ True ∧ sumPre l.length [(k : Int)].length (nat_lit 8) ∧ True ∧ True ∧ True ∧ True ∧ inR .u64 (k : Int) ∧ (((0 : Int) ≤ (k : Int) ∧ (k : Int) < bitsOf .i64) ∧ (-9223372036854775808 : Int) ≤ 1 * 2 ^ k ∧ (1 : Int) * 2 ^ k ≤ 9223372036854775807) ∧ True ∧ ((ok55 lv (bOr .i64 (D : Int) ((1 : Int) * 2 ^ k), (n, p, mk (isF p)), l ++ [(k : Int)], (lpK p (gr p lv) D l m k).snd.snd) ∧ (bOr .i64 (D : Int) ((1 : Int) * 2 ^ k) = bOr .i64 (D : Int) ((1 : Int) * 2 ^ k) ∧ True ∧ True ∧ True ∧ True ∧ True) ∧ True ∧ l ++ [(k : Int)] = l ++ [(k : Int)] ∧ True ∧ (n = n ∧ p = p ∧ mk (isF p) = mk (isF p) ∧ True) ∧ True ∧ (lpK p (gr p lv) D l m k).snd.snd = (lpK p (gr p lv) D l m k).snd.snd ∧ (True ∧ True ∧ True ∧ True ∧ True ∧ True) ∧ True) ∧ True ∧ True ∧ True ∧ True ∧ True ∧ True ∧ True ∧ True) ∧ ((gr p lv (bOr .i64 (D : Int) ((1 : Int) * 2 ^ k)).toNat (l ++ [(k : Int)]) (lpK p (gr p lv) D l m k).snd.snd).fst = true → True ∧ True ∧ (true = (gr p (lv + 1) D l m).fst ∧ True) ∧ True ∧ (gr p lv (bOr .i64 (D : Int) ((1 : Int) * 2 ^ k)).toNat (l ++ [(k : Int)]) (lpK p (gr p lv) D l m k).snd.snd).snd.fst = (gr p (lv + 1) D l m).snd.fst ∧ True ∧ (n = n ∧ p = p ∧ mk (isF p) = mk (isF p) ∧ True) ∧ True ∧ (gr p lv (bOr .i64 (D : Int) ((1 : Int) * 2 ^ k)).toNat (l ++ [(k : Int)]) (lpK p (gr p lv) D l m k).snd.snd).snd.snd = (gr p (lv + 1) D l m).snd.snd ∧ (True ∧ True ∧ True ∧ True ∧ True ∧ True) ∧ True) ∧ ((gr p lv (bOr .i64 (D : Int) ((1 : Int) * 2 ^ k)).toNat (l ++ [(k : Int)]) (lpK p (gr p lv) D l m k).snd.snd).fst = false → True ∧ True ∧ True ∧ inR .i64 ((↑(gr p lv (bOr .i64 (D : Int) ((1 : Int) * 2 ^ k)).toNat (l ++ [(k : Int)]) (lpK p (gr p lv) D l m k).snd.snd).snd.fst.length : Int) - 1) ∧ ((0 : Int) ≤ (↑(gr p lv (bOr .i64 (D : Int) ((1 : Int) * 2 ^ k)).toNat (l ++ [(k : Int)]) (lpK p (gr p lv) D l m k).snd.snd).snd.fst.length : Int) - 1 ∧ (↑(gr p lv (bOr .i64 (D : Int) ((1 : Int) * 2 ^ k)).toNat (l ++ [(k : Int)]) (lpK p (gr p lv) D l m k).snd.snd).snd.fst.length : Int) - 1 ≤ (↑(gr p lv (bOr .i64 (D : Int) ((1 : Int) * 2 ^ k)).toNat (l ++ [(k : Int)]) (lpK p (gr p lv) D l m k).snd.snd).snd.fst.length : Int)) ∧ True ∧ inR .i64 ((k : Int) + 1) ∧ True ∧ ((∃ (y : Nat), (inS p (gr p lv) D l m y ∧ p.length - y < p.length - k) ∧ ((D : Int) = (D : Int) ∧ True ∧ True ∧ True ∧ True ∧ (p.length : Int) = (p.length : Int) ∧ (k : Int) + 1 = (y : Int) ∧ True) ∧ False ∧ False ∧ True ∧ (n = n ∧ p = p ∧ mk (isF p) = mk (isF p) ∧ True) ∧ True ∧ (gr p lv (bOr .i64 (D : Int) ((1 : Int) * 2 ^ k)).toNat (l ++ [(k : Int)]) (lpK p (gr p lv) D l m k).snd.snd).snd.snd = (lpK p (gr p lv) D l m y).snd.snd ∧ (True ∧ True ∧ True ∧ True ∧ True ∧ True) ∧ True) ∨ ∃ (y : Nat), (inS p (gr p lv) D l m y ∧ p.length - y < p.length - k) ∧ ((D : Int) = (D : Int) ∧ True ∧ True ∧ True ∧ True ∧ (p.length : Int) = (p.length : Int) ∧ (k : Int) + 1 = (y : Int) ∧ True) ∧ True ∧ List.take ((↑(gr p lv (bOr .i64 (D : Int) ((1 : Int) * 2 ^ k)).toNat (l ++ [(k : Int)]) (lpK p (gr p lv) D l m k).snd.snd).snd.fst.length : Int) - 1).toNat (gr p lv (bOr .i64 (D : Int) ((1 : Int) * 2 ^ k)).toNat (l ++ [(k : Int)]) (lpK p (gr p lv) D l m k).snd.snd).snd.fst = l ∧ True ∧ (n = n ∧ p = p ∧ mk (isF p) = mk (isF p) ∧ True) ∧ True ∧ (gr p lv (bOr .i64 (D : Int) ((1 : Int) * 2 ^ k)).toNat (l ++ [(k : Int)]) (lpK p (gr p lv) D l m k).snd.snd).snd.snd = (lpK p (gr p lv) D l m y).snd.snd ∧ (True ∧ True ∧ True ∧ True ∧ True ∧ True) ∧ True))))) ∧ (¬(k : Int) < (p.length : Int) → (∃ (y : Unit), (lpK p (gr p lv) D l m p.length).fst = false ∧ ((D : Int) = (D : Int) ∧ True ∧ True ∧ True ∧ True ∧ True) ∧ False ∧ False ∧ True ∧ (n = n ∧ p = p ∧ mk (isF p) = mk (isF p) ∧ True) ∧ True ∧ (lpK p (gr p lv) D l m k).snd.snd = (lpK p (gr p lv) D l m p.length).snd.snd ∧ (True ∧ True ∧ True ∧ True ∧ True ∧ True) ∧ True) ∨ ∃ (y : Unit), (lpK p (gr p lv) D l m p.length).fst = false ∧ ((D : Int) = (D : Int) ∧ True ∧ True ∧ True ∧ True ∧ True) ∧ True ∧ l = l ∧ True ∧ (n = n ∧ p = p ∧ mk (isF p) = mk (isF p) ∧ True) ∧ True ∧ (lpK p (gr p lv) D l m k).snd.snd = (lpK p (gr p lv) D l m p.length).snd.snd ∧ (True ∧ True ∧ True ∧ True ∧ True ∧ True) ∧ True)) (by kernel_rfl) ?_
   simp only [zz]
   obtain ⟨k1, k2⟩ := hk
   have hl := hp.l
   have hc := hp.h.2.1
   have hD := pre_D hp
   refine ⟨fun h => ?_, fun h => by rw [show p.length = k by omega]; exact ⟨k2, rfl⟩⟩
   have hkp : k < p.length := by omega
   have hb := or_pow10 hD (k := k) (by omega)
   have hst := lpK_go k2
   rw [bit_shr hD, hb.1, Int.toNat_natCast]
   have hskip : (D / 2 ^ k % 2 = 1 ∨ flw p D k = false) → inR .i64 ((k : Int) + 1) ∧ ∃ y : Nat, (inS p (gr p lv) D l m y ∧ p.length - y < p.length - k) ∧ (k : Int) + 1 = (y : Int) ∧ (lpK p (gr p lv) D l m k).2.2 = (lpK p (gr p lv) D l m y).2.2 := fun hh => by
     rw [if_pos hh] at hst
     exact ⟨by simp only [inR]; omega, k + 1, ⟨⟨by omega, by rw [hst]; exact k2⟩, by omega⟩, by omega, by rw [hst]⟩
   refine ⟨by simp only [inR]; omega, ⟨by omega, by simp only [bitsOf]; omega⟩, fun hx => hskip (.inl (by omega)), fun hx => ⟨⟨⟨hp.h, rfl⟩, ⟨by simp only; omega, by simp only; omega⟩, ⟨by simp only; omega, by simp only; omega⟩⟩, fun hx2 => hskip (.inr (by simpa using hx2)), fun hx2 => ?_⟩⟩
   have hx2 : flw p D k = true := by simpa using hx2
   rw [if_neg (by simp [hx2]; omega)] at hst
   have hlt : D ||| 2 ^ k < 2 ^ p.length := Nat.or_lt_two_pow hp.D (Nat.pow_lt_pow_right (by decide) hkp)
   have hpre : pre55 n p lv (D ||| 2 ^ k) (l ++ [(k : Int)]) := ⟨hp.h, hlt, by simp; omega⟩
   refine ⟨by unfold sumPre; simp; omega, by simp only [inR]; omega, ⟨⟨by omega, by simp only [bitsOf]; omega⟩, by omega, by omega⟩, ⟨⟨hp.h, rfl⟩, by simp only; omega, hpre⟩, fun hr => ?_, fun hr => ?_⟩
   · have hr : (gr p lv (D ||| 2 ^ k) (l ++ [(k : Int)]) (lpK p (gr p lv) D l m k).2.2).1 = true := hr
     rw [if_pos hr] at hst
     have hs := lpK_stop (k := k + 1) (by rw [hst]; exact hr) (p.length - (k + 1))
     rw [show k + 1 + (p.length - (k + 1)) = p.length by omega, hst] at hs
     have e : gr p (lv + 1) D l m = gr p lv (D ||| 2 ^ k) (l ++ [(k : Int)]) (lpK p (gr p lv) D l m k).2.2 := by rw [gr, if_neg hm, hs, if_pos hr]
     rw [e]
     exact ⟨hr.symm, rfl, rfl⟩
   · have hr : (gr p lv (D ||| 2 ^ k) (l ++ [(k : Int)]) (lpK p (gr p lv) D l m k).2.2).1 = false := hr
     rw [if_neg (by simp [hr])] at hst
     have h2 := gr_list hr
     have q1 : inR .i64 (((gr p lv (D ||| 2 ^ k) (l ++ [(k : Int)]) (lpK p (gr p lv) D l m k).2.2).2.1.length : Int) - 1) := by rw [h2]; simp only [inR]; simp; omega
     have q2 : 0 ≤ ((gr p lv (D ||| 2 ^ k) (l ++ [(k : Int)]) (lpK p (gr p lv) D l m k).2.2).2.1.length : Int) - 1 ∧ ((gr p lv (D ||| 2 ^ k) (l ++ [(k : Int)]) (lpK p (gr p lv) D l m k).2.2).2.1.length : Int) - 1 ≤ ((gr p lv (D ||| 2 ^ k) (l ++ [(k : Int)]) (lpK p (gr p lv) D l m k).2.2).2.1.length : Int) := by rw [h2]; simp; omega
     have q3 : (gr p lv (D ||| 2 ^ k) (l ++ [(k : Int)]) (lpK p (gr p lv) D l m k).2.2).2.1.take (((gr p lv (D ||| 2 ^ k) (l ++ [(k : Int)]) (lpK p (gr p lv) D l m k).2.2).2.1.length : Int) - 1).toNat = l := by rw [h2]; simp
     have q4 : (gr p lv (D ||| 2 ^ k) (l ++ [(k : Int)]) (lpK p (gr p lv) D l m k).2.2).2.2 = (lpK p (gr p lv) D l m (k + 1)).2.2 := by rw [hst]
     exact ⟨q1, q2, by simp only [inR]; omega, k + 1, ⟨⟨by omega, by rw [hst]⟩, by omega⟩, by omega, q3, q4⟩
theorem gS1 (lv : Nat) (h' : GS lv) : GS (lv + 1) := by
 intro n p D l m hp
 have hL := fun hm => loopS lv h' n p D l m hp hm
 refine gcall_of (X := (X55 [e56, e55S lv h'])) ((Xb_ok _ _ _ _)) (f := 55) (fn := Try.f55) (c := bodyOf Try.f55) (by kernel_rfl) (by kernel_rfl) (view := false) (rvs := [.tmp 6]) (by kernel_rfl) (H := (HS n p (gr p lv) D l m)) 80 (by kernel_rfl) ?_
 refine of_eq (q := True ∧ True ∧ True ∧ True ∧ True ∧ True ∧ True ∧ True ∧ True ∧ ((l.length : Int) = (p.length : Int) → True ∧ True ∧ (true = (gr p (lv + 1) D l m).fst ∧ True) ∧ True ∧ l = (gr p (lv + 1) D l m).snd.fst ∧ True ∧ (n = n ∧ p = p ∧ mk (isF p) = mk (isF p) ∧ True) ∧ True ∧ m = (gr p (lv + 1) D l m).snd.snd ∧ (True ∧ True ∧ True ∧ True ∧ True ∧ True) ∧ True) ∧ (¬(l.length : Int) = (p.length : Int) → True ∧ True ∧ True ∧ ((mGet I64 m (D : Int)).getD false = true → True ∧ True ∧ (false = (gr p (lv + 1) D l m).fst ∧ True) ∧ True ∧ l = (gr p (lv + 1) D l m).snd.fst ∧ True ∧ (n = n ∧ p = p ∧ mk (isF p) = mk (isF p) ∧ True) ∧ True ∧ m = (gr p (lv + 1) D l m).snd.snd ∧ (True ∧ True ∧ True ∧ True ∧ True ∧ True) ∧ True) ∧ ((mGet I64 m (D : Int)).getD false = false → True ∧ True ∧ True ∧ True ∧ True ∧ True ∧ LoopOK (X55 [e56, e55S lv h']) L55_0 (hS n p (gr p lv) D l m) (RetR (X55 [e56, e55S lv h']) false false [ResultVar.tmp (6 : Tmp)] [AV.bool (gr p (lv + 1) D l m).fst] (gS (1 : Nat) n p (gr p (lv + 1) D l m).snd.fst (gr p (lv + 1) D l m).snd.snd)) ∧ ((∃ (y : Nat), inS p (gr p lv) D l m y ∧ ((D : Int) = (D : Int) ∧ True ∧ True ∧ True ∧ True ∧ (p.length : Int) = (p.length : Int) ∧ (0 : Int) = (y : Int) ∧ True) ∧ True ∧ l = l ∧ True ∧ (n = n ∧ p = p ∧ mk (isF p) = mk (isF p) ∧ True) ∧ True ∧ m = (lpK p (gr p lv) D l m y).snd.snd ∧ (True ∧ True ∧ True ∧ True ∧ True ∧ True) ∧ True) ∨ ∃ (y : Nat), inS p (gr p lv) D l m y ∧ ((D : Int) = (D : Int) ∧ True ∧ True ∧ True ∧ True ∧ (p.length : Int) = (p.length : Int) ∧ (0 : Int) = (y : Int) ∧ True) ∧ False ∧ False ∧ True ∧ (n = n ∧ p = p ∧ mk (isF p) = mk (isF p) ∧ True) ∧ True ∧ m = (lpK p (gr p lv) D l m y).snd.snd ∧ (True ∧ True ∧ True ∧ True ∧ True ∧ True) ∧ True) ∧ (∀ (y : Unit), (lpK p (gr p lv) D l m p.length).fst = false → True ∧ True ∧ True ∧ True ∧ True ∧ (false = (gr p (lv + 1) D l m).fst ∧ True) ∧ True ∧ l = (gr p (lv + 1) D l m).snd.fst ∧ True ∧ (n = n ∧ p = p ∧ mk (isF p) = mk (isF p) ∧ True) ∧ True ∧ mPut I64 (lpK p (gr p lv) D l m p.length).snd.snd (D : Int) true = (gr p (lv + 1) D l m).snd.snd ∧ (True ∧ True ∧ True ∧ True ∧ True ∧ True) ∧ True) ∧ (∀ (y : Unit), (lpK p (gr p lv) D l m p.length).fst = false → True ∧ True ∧ True ∧ True ∧ True ∧ (false = (gr p (lv + 1) D l m).fst ∧ True) ∧ True ∧ l = (gr p (lv + 1) D l m).snd.fst ∧ True ∧ (n = n ∧ p = p ∧ mk (isF p) = mk (isF p) ∧ True) ∧ True ∧ mPut I64 (lpK p (gr p lv) D l m p.length).snd.snd (D : Int) true = (gr p (lv + 1) D l m).snd.snd ∧ (True ∧ True ∧ True ∧ True ∧ True ∧ True) ∧ True) ∧ True))) (by kernel_rfl) ?_
 simp only [zz]
 have hl := hp.l
 have hg : mg m D = (mGet I64 m D).getD false := rfl
 refine ⟨fun h => by omega, fun _ => ⟨fun h => ?_, fun h => ⟨hL (by rw [hg, h]; simp) , ⟨0, ⟨Nat.zero_le _, rfl⟩, rfl, rfl⟩, fun _ hf => ?_, fun _ hf => ?_⟩⟩⟩
 · rw [gr, hg, if_pos h]; exact ⟨rfl, rfl, rfl⟩
 · rw [gr, hg, if_neg (by simp [h]), if_neg (by simp [hf])]; exact ⟨rfl, rfl, rfl⟩
 · rw [gr, hg, if_neg (by simp [h]), if_neg (by simp [hf])]; exact ⟨rfl, rfl, rfl⟩
theorem gS_all : ∀ lv, GS lv
 | 0 => gS0
 | lv + 1 => gS1 lv (gS_all lv)
def gN (n : Int) (p : List Int) (m : Mm) : List Ob := [.bx nl, .bx (.ptr 2 0 []), cxO n p, .bx (.mp 4), mmO m, .bx (clo55 0 1 3 5)]
def gO (n : Int) (p l : List Int) (m : Mm) : List Ob := [.bx (.own 6 0), .bx (.ptr 2 0 []), cxO n p, .bx (.mp 4), mmO m, .bx (clo55 0 1 3 5), .sc 0 3 I64 l]
def aN (D : Int) : List AV := [.int .i64 D, .ptr 0 0 [], .ptr 1 0 [], .ptr 3 0 [], .ptr 5 0 []]
def sN (n : Int) (p : List Int) (D : Nat) (m : Mm) (k : Nat) : St := ⟨aN D ++ dd 18 ++ .int .i64 p.length :: .int .i64 k :: dd 34, gN n p m⟩
def sO (n : Int) (p : List Int) (f : Nat → List Int → Mm → Res) (D : Nat) (m : Mm) (k : Nat) : St := ⟨aN D ++ dd 18 ++ .int .i64 p.length :: .int .i64 k :: dd 34, gO n p [] (lpK p f D [] m k).2.2⟩
def fmN (n : Int) (p : List Int) (f : Nat → List Int → Mm → Res) (D : Nat) (m : Mm) : List Fam := [⟨Nat, fun k => k = 0, sN n p D m, fun k => p.length - k, fun _ _ => none⟩, ⟨Nat, inS p f D [] m, sO n p f D m, fun k => p.length - k, fun _ _ => none⟩]
def exN (n : Int) (p : List Int) (f : Nat → List Int → Mm → Res) (D : Nat) (m : Mm) : List (List Nat × Ex) := [([0, 1, 2, 3, 4], ⟨0, Unit, fun _ => (lpK p f D [] m p.length).1 = false, fun _ => ⟨aN D ++ dd 54, gO n p [] (lpK p f D [] m p.length).2.2⟩⟩)]
def hN (n : Int) (p : List Int) (f : Nat → List Int → Mm → Res) (D : Nat) (m : Mm) : Hint := ⟨chks 6 [0, 1, 2, 3, 4, 23, 24] (fmN n p f D m), (exN n p f D m).map (·.2)⟩
noncomputable def HN (n : Int) (p : List Int) (f : Nat → List Int → Mm → Res) (D : Nat) (m : Mm) : Nat → Option Hint := fun _ => some (hN n p f D m)
noncomputable abbrev XN (lv : Nat) : Cy := Xb [e56, e55S lv (gS_all lv)] 6 [] (fun _ => none)
theorem flw_zero (p : List Int) (k : Nat) : flw p 0 k = true := by
 refine decide_eq_true fun j _ h => ?_
 rw [Nat.zero_div] at h; cases h
theorem loopN (lv : Nat) (n : Int) (p : List Int) (D : Nat) (m : Mm) (hp : pre55 n p (lv + 1) D []) (hD0 : D = 0) (hm : ¬ mg m D = true) : LoopOK (XN lv) L55_0 (hN n p (gr p lv) D m)
   (RetR (XN lv) false false [.tmp 6] [.bool (gr p (lv + 1) D [] m).1] (gO n p (gr p (lv + 1) D [] m).2.1 (gr p (lv + 1) D [] m).2.2)) := by
 refine loop_fams (Xb_ok _ _ _ _) [0, 1, 2, 3, 4, 23, 24] (fmN n p (gr p lv) D m) (exN n p (gr p lv) D m) 150 ⟨fun (k : Nat) hk => ?_, fun (k : Nat) hk => ?_, trivial⟩
 · refine of_eq (q := True ∧ ((k : Int) < (p.length : Int) → True ∧ True ∧ True ∧ True ∧ inR .u64 (k : Int) ∧ ((0 : Int) ≤ (k : Int) ∧ (k : Int) < bitsOf .i64) ∧ True ∧ True ∧ True ∧ (bAnd .i64 ((D : Int) / (2 : Int) ^ k) (1 : Int) = 1 → True ∧ inR .i64 ((k : Int) + 1) ∧ True ∧ ((∃ (y : Nat), (y = 0 ∧ p.length - y < p.length - k) ∧ ((D : Int) = (D : Int) ∧ True ∧ True ∧ True ∧ True ∧ (p.length : Int) = (p.length : Int) ∧ (k : Int) + 1 = (y : Int) ∧ True) ∧ True ∧ True ∧ (n = n ∧ p = p ∧ mk (isF p) = mk (isF p) ∧ True) ∧ True ∧ m = m ∧ (True ∧ True ∧ True ∧ True ∧ True ∧ True) ∧ True) ∨ ∃ (y : Nat), (inS p (gr p lv) D [] m y ∧ p.length - y < p.length - k) ∧ ((D : Int) = (D : Int) ∧ True ∧ True ∧ True ∧ True ∧ (p.length : Int) = (p.length : Int) ∧ (k : Int) + 1 = (y : Int) ∧ True) ∧ False ∧ True ∧ (n = n ∧ p = p ∧ mk (isF p) = mk (isF p) ∧ True) ∧ True ∧ m = (lpK p (gr p lv) D [] m y).snd.snd ∧ (True ∧ True ∧ True ∧ True ∧ True ∧ True) ∧ False)) ∧ (¬bAnd .i64 ((D : Int) / (2 : Int) ^ k) (1 : Int) = 1 → True ∧ True ∧ True ∧ ((ok56 ((D : Int), (k : Int), n, p, mk (isF p)) ∧ (True ∧ (D : Int) = (D : Int) ∧ (k : Int) = (k : Int) ∧ True) ∧ (n = n ∧ p = p ∧ mk (isF p) = mk (isF p) ∧ True) ∧ True) ∧ True ∧ True) ∧ True ∧ True ∧ ((!flw p D k) = true → inR .i64 ((k : Int) + 1) ∧ True ∧ ((∃ (y : Nat), (y = 0 ∧ p.length - y < p.length - k) ∧ ((D : Int) = (D : Int) ∧ True ∧ True ∧ True ∧ True ∧ (p.length : Int) = (p.length : Int) ∧ (k : Int) + 1 = (y : Int) ∧ True) ∧ True ∧ True ∧ (n = n ∧ p = p ∧ mk (isF p) = mk (isF p) ∧ True) ∧ True ∧ m = m ∧ (True ∧ True ∧ True ∧ True ∧ True ∧ True) ∧ True) ∨ ∃ (y : Nat), (inS p (gr p lv) D [] m y ∧ p.length - y < p.length - k) ∧ ((D : Int) = (D : Int) ∧ True ∧ True ∧ True ∧ True ∧ (p.length : Int) = (p.length : Int) ∧ (k : Int) + 1 = (y : Int) ∧ True) ∧ False ∧ True ∧ (n = n ∧ p = p ∧ mk (isF p) = mk (isF p) ∧ True) ∧ True ∧ m = (lpK p (gr p lv) D [] m y).snd.snd ∧ (True ∧ True ∧ True ∧ True ∧ True ∧ True) ∧ False)) ∧ ((!flw p D k) = false → True ∧ True ∧ True ∧ sumPre (0 : Nat) [(k : Int)].length (nat_lit 8) ∧ True ∧ True ∧ True ∧ True ∧ inR .u64 (k : Int) ∧ (((0 : Int) ≤ (k : Int) ∧ (k : Int) < bitsOf .i64) ∧ (-9223372036854775808 : Int) ≤ 1 * 2 ^ k ∧ (1 : Int) * 2 ^ k ≤ 9223372036854775807) ∧ True ∧ ((ok55 lv (bOr .i64 (D : Int) ((1 : Int) * 2 ^ k), (n, p, mk (isF p)), [(k : Int)], m) ∧ (bOr .i64 (D : Int) ((1 : Int) * 2 ^ k) = bOr .i64 (D : Int) ((1 : Int) * 2 ^ k) ∧ True ∧ True ∧ True ∧ True ∧ True) ∧ True ∧ [(k : Int)] = [(k : Int)] ∧ True ∧ (n = n ∧ p = p ∧ mk (isF p) = mk (isF p) ∧ True) ∧ True ∧ m = m ∧ (True ∧ True ∧ True ∧ True ∧ True ∧ True) ∧ True) ∧ True ∧ True ∧ True ∧ True ∧ True ∧ True ∧ True ∧ True) ∧ ((gr p lv (bOr .i64 (D : Int) ((1 : Int) * 2 ^ k)).toNat [(k : Int)] m).fst = true → True ∧ True ∧ (true = (gr p (lv + 1) D [] m).fst ∧ True) ∧ True ∧ True ∧ (n = n ∧ p = p ∧ mk (isF p) = mk (isF p) ∧ True) ∧ True ∧ (gr p lv (bOr .i64 (D : Int) ((1 : Int) * 2 ^ k)).toNat [(k : Int)] m).snd.snd = (gr p (lv + 1) D [] m).snd.snd ∧ (True ∧ True ∧ True ∧ True ∧ True ∧ True) ∧ (gr p lv (bOr .i64 (D : Int) ((1 : Int) * 2 ^ k)).toNat [(k : Int)] m).snd.fst = (gr p (lv + 1) D [] m).snd.fst ∧ True) ∧ ((gr p lv (bOr .i64 (D : Int) ((1 : Int) * 2 ^ k)).toNat [(k : Int)] m).fst = false → True ∧ True ∧ True ∧ inR .i64 ((↑(gr p lv (bOr .i64 (D : Int) ((1 : Int) * 2 ^ k)).toNat [(k : Int)] m).snd.fst.length : Int) - 1) ∧ ((0 : Int) ≤ (↑(gr p lv (bOr .i64 (D : Int) ((1 : Int) * 2 ^ k)).toNat [(k : Int)] m).snd.fst.length : Int) - 1 ∧ (↑(gr p lv (bOr .i64 (D : Int) ((1 : Int) * 2 ^ k)).toNat [(k : Int)] m).snd.fst.length : Int) - 1 ≤ (↑(gr p lv (bOr .i64 (D : Int) ((1 : Int) * 2 ^ k)).toNat [(k : Int)] m).snd.fst.length : Int)) ∧ True ∧ inR .i64 ((k : Int) + 1) ∧ True ∧ ((∃ (y : Nat), (y = 0 ∧ p.length - y < p.length - k) ∧ ((D : Int) = (D : Int) ∧ True ∧ True ∧ True ∧ True ∧ (p.length : Int) = (p.length : Int) ∧ (k : Int) + 1 = (y : Int) ∧ True) ∧ False ∧ True ∧ (n = n ∧ p = p ∧ mk (isF p) = mk (isF p) ∧ True) ∧ True ∧ (gr p lv (bOr .i64 (D : Int) ((1 : Int) * 2 ^ k)).toNat [(k : Int)] m).snd.snd = m ∧ (True ∧ True ∧ True ∧ True ∧ True ∧ True) ∧ True) ∨ ∃ (y : Nat), (inS p (gr p lv) D [] m y ∧ p.length - y < p.length - k) ∧ ((D : Int) = (D : Int) ∧ True ∧ True ∧ True ∧ True ∧ (p.length : Int) = (p.length : Int) ∧ (k : Int) + 1 = (y : Int) ∧ True) ∧ True ∧ True ∧ (n = n ∧ p = p ∧ mk (isF p) = mk (isF p) ∧ True) ∧ True ∧ (gr p lv (bOr .i64 (D : Int) ((1 : Int) * 2 ^ k)).toNat [(k : Int)] m).snd.snd = (lpK p (gr p lv) D [] m y).snd.snd ∧ (True ∧ True ∧ True ∧ True ∧ True ∧ True) ∧ List.take ((↑(gr p lv (bOr .i64 (D : Int) ((1 : Int) * 2 ^ k)).toNat [(k : Int)] m).snd.fst.length : Int) - 1).toNat (gr p lv (bOr .i64 (D : Int) ((1 : Int) * 2 ^ k)).toNat [(k : Int)] m).snd.fst = [] ∧ True))))) ∧ (¬(k : Int) < (p.length : Int) → ∃ (y : Unit), (lpK p (gr p lv) D [] m p.length).fst = false ∧ ((D : Int) = (D : Int) ∧ True ∧ True ∧ True ∧ True ∧ True) ∧ False ∧ True ∧ (n = n ∧ p = p ∧ mk (isF p) = mk (isF p) ∧ True) ∧ True ∧ m = (lpK p (gr p lv) D [] m p.length).snd.snd ∧ (True ∧ True ∧ True ∧ True ∧ True ∧ True) ∧ False)) (by kernel_rfl) ?_
   simp only [zz]
   have hk : k = 0 := hk
   have hl : lv + 1 = p.length := by have := hp.l; simpa using this
   have hc := hp.h.2.1
   have hD := pre_D hp
   refine ⟨fun h => ?_, fun h => by omega⟩
   have hkp : k < p.length := by omega
   have hb := or_pow10 hD (k := k) (by omega)
   have e0 : lpK p (gr p lv) D [] m k = (false, [], m) := by rw [hk]; try rfl
   have hst := lpK_go (p := p) (f := gr p lv) (D := D) (l := []) (m := m) (k := k) (by rw [e0])
   have hf : flw p D k = true := by rw [hD0]; exact flw_zero p k
   have hz : D / 2 ^ k % 2 = 0 := by rw [hD0, Nat.zero_div]
   rw [if_neg (by rw [hz, hf]; simp), e0] at hst
   simp only [List.nil_append] at hst
   rw [bit_shr hD, hb.1, Int.toNat_natCast, hz, hf]
   have hlt : D ||| 2 ^ k < 2 ^ p.length := Nat.or_lt_two_pow hp.D (Nat.pow_lt_pow_right (by decide) hkp)
   have hpre : pre55 n p lv (D ||| 2 ^ k) [(k : Int)] := ⟨hp.h, hlt, by simp; omega⟩
   refine ⟨by simp only [inR]; omega, ⟨by omega, by simp only [bitsOf]; omega⟩, fun hx => absurd hx (by decide), fun hx => ⟨⟨⟨hp.h, rfl⟩, ⟨by simp only; omega, by simp only; omega⟩, ⟨by simp only; omega, by simp only; omega⟩⟩, fun hx2 => absurd hx2 (by decide), fun hx2 => ?_⟩⟩
   refine ⟨by unfold sumPre; simp, by simp only [inR]; omega, ⟨⟨by omega, by simp only [bitsOf]; omega⟩, by omega, by omega⟩, ⟨⟨hp.h, rfl⟩, by simp only; omega, hpre⟩, fun hr => ?_, fun hr => ?_⟩
   · have hr : (gr p lv (D ||| 2 ^ k) [(k : Int)] m).1 = true := hr
     rw [if_pos hr] at hst
     have hs := lpK_stop (k := k + 1) (by rw [hst]; exact hr) (p.length - (k + 1))
     rw [show k + 1 + (p.length - (k + 1)) = p.length by omega, hst] at hs
     have e : gr p (lv + 1) D [] m = gr p lv (D ||| 2 ^ k) [(k : Int)] m := by rw [gr, if_neg hm, hs, if_pos hr]
     rw [e]
     exact ⟨hr.symm, rfl, rfl⟩
   · have hr : (gr p lv (D ||| 2 ^ k) [(k : Int)] m).1 = false := hr
     rw [if_neg (by simp [hr])] at hst
     have h2 := gr_list hr
     have q1 : inR .i64 (((gr p lv (D ||| 2 ^ k) [(k : Int)] m).2.1.length : Int) - 1) := by rw [h2]; simp only [inR]; simp
     have q2 : 0 ≤ ((gr p lv (D ||| 2 ^ k) [(k : Int)] m).2.1.length : Int) - 1 ∧ ((gr p lv (D ||| 2 ^ k) [(k : Int)] m).2.1.length : Int) - 1 ≤ ((gr p lv (D ||| 2 ^ k) [(k : Int)] m).2.1.length : Int) := by rw [h2]; simp
     have q3 : (gr p lv (D ||| 2 ^ k) [(k : Int)] m).2.1.take (((gr p lv (D ||| 2 ^ k) [(k : Int)] m).2.1.length : Int) - 1).toNat = [] := by rw [h2]; simp
     have q4 : (gr p lv (D ||| 2 ^ k) [(k : Int)] m).2.2 = (lpK p (gr p lv) D [] m (k + 1)).2.2 := by rw [hst]
     exact ⟨q1, q2, by simp only [inR]; omega, k + 1, ⟨⟨by omega, by rw [hst]⟩, by omega⟩, by omega, q4, q3⟩
 · refine of_eq (q := True ∧ ((k : Int) < (p.length : Int) → True ∧ True ∧ True ∧ True ∧ inR .u64 (k : Int) ∧ ((0 : Int) ≤ (k : Int) ∧ (k : Int) < bitsOf .i64) ∧ True ∧ True ∧ True ∧ (bAnd .i64 ((D : Int) / (2 : Int) ^ k) (1 : Int) = 1 → True ∧ inR .i64 ((k : Int) + 1) ∧ True ∧ ((∃ (y : Nat), (y = 0 ∧ p.length - y < p.length - k) ∧ ((D : Int) = (D : Int) ∧ True ∧ True ∧ True ∧ True ∧ (p.length : Int) = (p.length : Int) ∧ (k : Int) + 1 = (y : Int) ∧ True) ∧ False ∧ True ∧ (n = n ∧ p = p ∧ mk (isF p) = mk (isF p) ∧ True) ∧ True ∧ (lpK p (gr p lv) D [] m k).snd.snd = m ∧ (True ∧ True ∧ True ∧ True ∧ True ∧ True) ∧ True) ∨ ∃ (y : Nat), (inS p (gr p lv) D [] m y ∧ p.length - y < p.length - k) ∧ ((D : Int) = (D : Int) ∧ True ∧ True ∧ True ∧ True ∧ (p.length : Int) = (p.length : Int) ∧ (k : Int) + 1 = (y : Int) ∧ True) ∧ True ∧ True ∧ (n = n ∧ p = p ∧ mk (isF p) = mk (isF p) ∧ True) ∧ True ∧ (lpK p (gr p lv) D [] m k).snd.snd = (lpK p (gr p lv) D [] m y).snd.snd ∧ (True ∧ True ∧ True ∧ True ∧ True ∧ True) ∧ ([] : List Int) = [] ∧ True)) ∧ (¬bAnd .i64 ((D : Int) / (2 : Int) ^ k) (1 : Int) = 1 → True ∧ True ∧ True ∧ ((ok56 ((D : Int), (k : Int), n, p, mk (isF p)) ∧ (True ∧ (D : Int) = (D : Int) ∧ (k : Int) = (k : Int) ∧ True) ∧ (n = n ∧ p = p ∧ mk (isF p) = mk (isF p) ∧ True) ∧ True) ∧ True ∧ True) ∧ True ∧ True ∧ ((!flw p D k) = true → inR .i64 ((k : Int) + 1) ∧ True ∧ ((∃ (y : Nat), (y = 0 ∧ p.length - y < p.length - k) ∧ ((D : Int) = (D : Int) ∧ True ∧ True ∧ True ∧ True ∧ (p.length : Int) = (p.length : Int) ∧ (k : Int) + 1 = (y : Int) ∧ True) ∧ False ∧ True ∧ (n = n ∧ p = p ∧ mk (isF p) = mk (isF p) ∧ True) ∧ True ∧ (lpK p (gr p lv) D [] m k).snd.snd = m ∧ (True ∧ True ∧ True ∧ True ∧ True ∧ True) ∧ True) ∨ ∃ (y : Nat), (inS p (gr p lv) D [] m y ∧ p.length - y < p.length - k) ∧ ((D : Int) = (D : Int) ∧ True ∧ True ∧ True ∧ True ∧ (p.length : Int) = (p.length : Int) ∧ (k : Int) + 1 = (y : Int) ∧ True) ∧ True ∧ True ∧ (n = n ∧ p = p ∧ mk (isF p) = mk (isF p) ∧ True) ∧ True ∧ (lpK p (gr p lv) D [] m k).snd.snd = (lpK p (gr p lv) D [] m y).snd.snd ∧ (True ∧ True ∧ True ∧ True ∧ True ∧ True) ∧ ([] : List Int) = [] ∧ True)) ∧ ((!flw p D k) = false → True ∧ True ∧ True ∧ sumPre ([] : List Int).length [(k : Int)].length (nat_lit 8) ∧ True ∧ True ∧ True ∧ True ∧ inR .u64 (k : Int) ∧ (((0 : Int) ≤ (k : Int) ∧ (k : Int) < bitsOf .i64) ∧ (-9223372036854775808 : Int) ≤ 1 * 2 ^ k ∧ (1 : Int) * 2 ^ k ≤ 9223372036854775807) ∧ True ∧ ((ok55 lv (bOr .i64 (D : Int) ((1 : Int) * 2 ^ k), (n, p, mk (isF p)), [] ++ [(k : Int)], (lpK p (gr p lv) D [] m k).snd.snd) ∧ (bOr .i64 (D : Int) ((1 : Int) * 2 ^ k) = bOr .i64 (D : Int) ((1 : Int) * 2 ^ k) ∧ True ∧ True ∧ True ∧ True ∧ True) ∧ True ∧ [] ++ [(k : Int)] = [] ++ [(k : Int)] ∧ True ∧ (n = n ∧ p = p ∧ mk (isF p) = mk (isF p) ∧ True) ∧ True ∧ (lpK p (gr p lv) D [] m k).snd.snd = (lpK p (gr p lv) D [] m k).snd.snd ∧ (True ∧ True ∧ True ∧ True ∧ True ∧ True) ∧ True) ∧ True ∧ True ∧ True ∧ True ∧ True ∧ True ∧ True ∧ True) ∧ ((gr p lv (bOr .i64 (D : Int) ((1 : Int) * 2 ^ k)).toNat ([] ++ [(k : Int)]) (lpK p (gr p lv) D [] m k).snd.snd).fst = true → True ∧ True ∧ (true = (gr p (lv + 1) D [] m).fst ∧ True) ∧ True ∧ True ∧ (n = n ∧ p = p ∧ mk (isF p) = mk (isF p) ∧ True) ∧ True ∧ (gr p lv (bOr .i64 (D : Int) ((1 : Int) * 2 ^ k)).toNat ([] ++ [(k : Int)]) (lpK p (gr p lv) D [] m k).snd.snd).snd.snd = (gr p (lv + 1) D [] m).snd.snd ∧ (True ∧ True ∧ True ∧ True ∧ True ∧ True) ∧ (gr p lv (bOr .i64 (D : Int) ((1 : Int) * 2 ^ k)).toNat ([] ++ [(k : Int)]) (lpK p (gr p lv) D [] m k).snd.snd).snd.fst = (gr p (lv + 1) D [] m).snd.fst ∧ True) ∧ ((gr p lv (bOr .i64 (D : Int) ((1 : Int) * 2 ^ k)).toNat ([] ++ [(k : Int)]) (lpK p (gr p lv) D [] m k).snd.snd).fst = false → True ∧ True ∧ True ∧ inR .i64 ((↑(gr p lv (bOr .i64 (D : Int) ((1 : Int) * 2 ^ k)).toNat ([] ++ [(k : Int)]) (lpK p (gr p lv) D [] m k).snd.snd).snd.fst.length : Int) - 1) ∧ ((0 : Int) ≤ (↑(gr p lv (bOr .i64 (D : Int) ((1 : Int) * 2 ^ k)).toNat ([] ++ [(k : Int)]) (lpK p (gr p lv) D [] m k).snd.snd).snd.fst.length : Int) - 1 ∧ (↑(gr p lv (bOr .i64 (D : Int) ((1 : Int) * 2 ^ k)).toNat ([] ++ [(k : Int)]) (lpK p (gr p lv) D [] m k).snd.snd).snd.fst.length : Int) - 1 ≤ (↑(gr p lv (bOr .i64 (D : Int) ((1 : Int) * 2 ^ k)).toNat ([] ++ [(k : Int)]) (lpK p (gr p lv) D [] m k).snd.snd).snd.fst.length : Int)) ∧ True ∧ inR .i64 ((k : Int) + 1) ∧ True ∧ ((∃ (y : Nat), (y = 0 ∧ p.length - y < p.length - k) ∧ ((D : Int) = (D : Int) ∧ True ∧ True ∧ True ∧ True ∧ (p.length : Int) = (p.length : Int) ∧ (k : Int) + 1 = (y : Int) ∧ True) ∧ False ∧ True ∧ (n = n ∧ p = p ∧ mk (isF p) = mk (isF p) ∧ True) ∧ True ∧ (gr p lv (bOr .i64 (D : Int) ((1 : Int) * 2 ^ k)).toNat ([] ++ [(k : Int)]) (lpK p (gr p lv) D [] m k).snd.snd).snd.snd = m ∧ (True ∧ True ∧ True ∧ True ∧ True ∧ True) ∧ True) ∨ ∃ (y : Nat), (inS p (gr p lv) D [] m y ∧ p.length - y < p.length - k) ∧ ((D : Int) = (D : Int) ∧ True ∧ True ∧ True ∧ True ∧ (p.length : Int) = (p.length : Int) ∧ (k : Int) + 1 = (y : Int) ∧ True) ∧ True ∧ True ∧ (n = n ∧ p = p ∧ mk (isF p) = mk (isF p) ∧ True) ∧ True ∧ (gr p lv (bOr .i64 (D : Int) ((1 : Int) * 2 ^ k)).toNat ([] ++ [(k : Int)]) (lpK p (gr p lv) D [] m k).snd.snd).snd.snd = (lpK p (gr p lv) D [] m y).snd.snd ∧ (True ∧ True ∧ True ∧ True ∧ True ∧ True) ∧ List.take ((↑(gr p lv (bOr .i64 (D : Int) ((1 : Int) * 2 ^ k)).toNat ([] ++ [(k : Int)]) (lpK p (gr p lv) D [] m k).snd.snd).snd.fst.length : Int) - 1).toNat (gr p lv (bOr .i64 (D : Int) ((1 : Int) * 2 ^ k)).toNat ([] ++ [(k : Int)]) (lpK p (gr p lv) D [] m k).snd.snd).snd.fst = [] ∧ True))))) ∧ (¬(k : Int) < (p.length : Int) → ∃ (y : Unit), (lpK p (gr p lv) D [] m p.length).fst = false ∧ ((D : Int) = (D : Int) ∧ True ∧ True ∧ True ∧ True ∧ True) ∧ True ∧ True ∧ (n = n ∧ p = p ∧ mk (isF p) = mk (isF p) ∧ True) ∧ True ∧ (lpK p (gr p lv) D [] m k).snd.snd = (lpK p (gr p lv) D [] m p.length).snd.snd ∧ (True ∧ True ∧ True ∧ True ∧ True ∧ True) ∧ ([] : List Int) = [] ∧ True)) (by kernel_rfl) ?_
   simp only [zz]
   obtain ⟨k1, k2⟩ := hk
   have hl : lv + 1 = p.length := by have := hp.l; simpa using this
   have hc := hp.h.2.1
   have hD := pre_D hp
   refine ⟨fun h => ?_, fun h => by rw [show p.length = k by omega]; exact ⟨k2, rfl⟩⟩
   have hkp : k < p.length := by omega
   have hb := or_pow10 hD (k := k) (by omega)
   have hst := lpK_go k2
   rw [bit_shr hD, hb.1, Int.toNat_natCast]
   have hskip : (D / 2 ^ k % 2 = 1 ∨ flw p D k = false) → inR .i64 ((k : Int) + 1) ∧ ∃ y : Nat, (inS p (gr p lv) D [] m y ∧ p.length - y < p.length - k) ∧ (k : Int) + 1 = (y : Int) ∧ (lpK p (gr p lv) D [] m k).2.2 = (lpK p (gr p lv) D [] m y).2.2 := fun hh => by
     rw [if_pos hh] at hst
     exact ⟨by simp only [inR]; omega, k + 1, ⟨⟨by omega, by rw [hst]; exact k2⟩, by omega⟩, by omega, by rw [hst]⟩
   refine ⟨by simp only [inR]; omega, ⟨by omega, by simp only [bitsOf]; omega⟩, fun hx => hskip (.inl (by omega)), fun hx => ⟨⟨⟨hp.h, rfl⟩, ⟨by simp only; omega, by simp only; omega⟩, ⟨by simp only; omega, by simp only; omega⟩⟩, fun hx2 => hskip (.inr (by simpa using hx2)), fun hx2 => ?_⟩⟩
   have hx2 : flw p D k = true := by simpa using hx2
   rw [if_neg (by simp [hx2]; omega)] at hst
   have hlt : D ||| 2 ^ k < 2 ^ p.length := Nat.or_lt_two_pow hp.D (Nat.pow_lt_pow_right (by decide) hkp)
   have hpre : pre55 n p lv (D ||| 2 ^ k) ([] ++ [(k : Int)]) := ⟨hp.h, hlt, by simp; omega⟩
   refine ⟨by unfold sumPre; simp, by simp only [inR]; omega, ⟨⟨by omega, by simp only [bitsOf]; omega⟩, by omega, by omega⟩, ⟨⟨hp.h, rfl⟩, by simp only; omega, hpre⟩, fun hr => ?_, fun hr => ?_⟩
   · have hr : (gr p lv (D ||| 2 ^ k) ([] ++ [(k : Int)]) (lpK p (gr p lv) D [] m k).2.2).1 = true := hr
     rw [if_pos hr] at hst
     have hs := lpK_stop (k := k + 1) (by rw [hst]; exact hr) (p.length - (k + 1))
     rw [show k + 1 + (p.length - (k + 1)) = p.length by omega, hst] at hs
     have e : gr p (lv + 1) D [] m = gr p lv (D ||| 2 ^ k) ([] ++ [(k : Int)]) (lpK p (gr p lv) D [] m k).2.2 := by rw [gr, if_neg hm, hs, if_pos hr]
     rw [e]
     exact ⟨hr.symm, rfl, rfl⟩
   · have hr : (gr p lv (D ||| 2 ^ k) ([] ++ [(k : Int)]) (lpK p (gr p lv) D [] m k).2.2).1 = false := hr
     rw [if_neg (by rw [hr]; simp)] at hst
     have h2 := gr_list hr
     have q1 : inR .i64 (((gr p lv (D ||| 2 ^ k) ([] ++ [(k : Int)]) (lpK p (gr p lv) D [] m k).2.2).2.1.length : Int) - 1) := by rw [h2]; simp only [inR]; simp
     have q2 : 0 ≤ ((gr p lv (D ||| 2 ^ k) ([] ++ [(k : Int)]) (lpK p (gr p lv) D [] m k).2.2).2.1.length : Int) - 1 ∧ ((gr p lv (D ||| 2 ^ k) ([] ++ [(k : Int)]) (lpK p (gr p lv) D [] m k).2.2).2.1.length : Int) - 1 ≤ ((gr p lv (D ||| 2 ^ k) ([] ++ [(k : Int)]) (lpK p (gr p lv) D [] m k).2.2).2.1.length : Int) := by rw [h2]; simp
     have q3 : (gr p lv (D ||| 2 ^ k) ([] ++ [(k : Int)]) (lpK p (gr p lv) D [] m k).2.2).2.1.take (((gr p lv (D ||| 2 ^ k) ([] ++ [(k : Int)]) (lpK p (gr p lv) D [] m k).2.2).2.1.length : Int) - 1).toNat = [] := by rw [h2]; simp
     have q4 : (gr p lv (D ||| 2 ^ k) ([] ++ [(k : Int)]) (lpK p (gr p lv) D [] m k).2.2).2.2 = (lpK p (gr p lv) D [] m (k + 1)).2.2 := by rw [hst]
     exact ⟨q1, q2, by simp only [inR]; omega, k + 1, ⟨⟨by omega, by rw [hst]⟩, by omega⟩, by omega, q4, q3⟩
theorem call55 (lv : Nat) (n : Int) (p : List Int) (D : Nat) (m : Mm) (hp : pre55 n p (lv + 1) D []) (hD0 : D = 0) (hm : ¬ mg m D = true) : GCall Try.prog gl 55 false (aN D) (gN n p m) [.bool (gr p (lv + 1) D [] m).1] (gO n p (gr p (lv + 1) D [] m).2.1 (gr p (lv + 1) D [] m).2.2) := by
 refine gcall_of (X := (XN lv)) ((Xb_ok _ _ _ _)) (f := 55) (fn := Try.f55) (c := bodyOf Try.f55) (by kernel_rfl) (by kernel_rfl) (view := false) (rvs := [.tmp 6]) (by kernel_rfl) (H := (HN n p (gr p lv) D m)) 80 (by kernel_rfl) ?_
 have hL := loopN lv n p D m hp hD0 hm
 refine of_eq (q := True ∧ True ∧ True ∧ True ∧ True ∧ True ∧ True ∧ True ∧ True ∧ ((0 : Int) = (p.length : Int) → True ∧ True ∧ (true = (gr p (lv + 1) D [] m).fst ∧ True) ∧ False ∧ True ∧ (n = n ∧ p = p ∧ mk (isF p) = mk (isF p) ∧ True) ∧ True ∧ m = (gr p (lv + 1) D [] m).snd.snd ∧ (True ∧ True ∧ True ∧ True ∧ True ∧ True) ∧ False) ∧ (¬(0 : Int) = (p.length : Int) → True ∧ True ∧ True ∧ ((mGet I64 m (D : Int)).getD false = true → True ∧ True ∧ (false = (gr p (lv + 1) D [] m).fst ∧ True) ∧ False ∧ True ∧ (n = n ∧ p = p ∧ mk (isF p) = mk (isF p) ∧ True) ∧ True ∧ m = (gr p (lv + 1) D [] m).snd.snd ∧ (True ∧ True ∧ True ∧ True ∧ True ∧ True) ∧ False) ∧ ((mGet I64 m (D : Int)).getD false = false → True ∧ True ∧ True ∧ True ∧ True ∧ True ∧ LoopOK (XN lv) L55_0 (hN n p (gr p lv) D m) (RetR (XN lv) false false [ResultVar.tmp (6 : Tmp)] [AV.bool (gr p (lv + 1) D [] m).fst] (gO n p (gr p (lv + 1) D [] m).snd.fst (gr p (lv + 1) D [] m).snd.snd)) ∧ ((∃ (y : Nat), y = 0 ∧ ((D : Int) = (D : Int) ∧ True ∧ True ∧ True ∧ True ∧ (p.length : Int) = (p.length : Int) ∧ (0 : Int) = (y : Int) ∧ True) ∧ True ∧ True ∧ (n = n ∧ p = p ∧ mk (isF p) = mk (isF p) ∧ True) ∧ True ∧ m = m ∧ (True ∧ True ∧ True ∧ True ∧ True ∧ True) ∧ True) ∨ ∃ (y : Nat), inS p (gr p lv) D [] m y ∧ ((D : Int) = (D : Int) ∧ True ∧ True ∧ True ∧ True ∧ (p.length : Int) = (p.length : Int) ∧ (0 : Int) = (y : Int) ∧ True) ∧ False ∧ True ∧ (n = n ∧ p = p ∧ mk (isF p) = mk (isF p) ∧ True) ∧ True ∧ m = (lpK p (gr p lv) D [] m y).snd.snd ∧ (True ∧ True ∧ True ∧ True ∧ True ∧ True) ∧ False) ∧ (∀ (y : Unit), (lpK p (gr p lv) D [] m p.length).fst = false → True ∧ True ∧ True ∧ True ∧ True ∧ (false = (gr p (lv + 1) D [] m).fst ∧ True) ∧ True ∧ True ∧ (n = n ∧ p = p ∧ mk (isF p) = mk (isF p) ∧ True) ∧ True ∧ mPut I64 (lpK p (gr p lv) D [] m p.length).snd.snd (D : Int) true = (gr p (lv + 1) D [] m).snd.snd ∧ (True ∧ True ∧ True ∧ True ∧ True ∧ True) ∧ ([] : List Int) = (gr p (lv + 1) D [] m).snd.fst ∧ True) ∧ True))) (by kernel_rfl) ?_
 simp only [zz]
 have hl : lv + 1 = p.length := by have := hp.l; simpa using this
 have hg : mg m D = (mGet I64 m D).getD false := rfl
 refine ⟨fun h => by omega, fun _ => ⟨fun h => hm (by rw [hg]; exact h), fun h => ⟨hL, ⟨0, rfl, rfl⟩, fun _ hf => ?_⟩⟩⟩
 rw [gr, if_neg hm, if_neg (by simp [hf])]; exact ⟨rfl, rfl, rfl⟩
end Go.Am.Sh

/- Shells: Shell. -/
namespace Go.Am.Sh
open Go Go.Am Go.Proofs
def isNl : Ob → Bool
 | .bx (.vv _) => true
 | _ => false
abbrev G5n := Int × Cx3 × Mm
def get55n (xs : List AV) (obs : List Ob) : Option G5n :=
 match xs with
 | .int .i64 d :: _ => (match isNl (obs.getD 0 .gone), unCx (obs.getD 2 .gone), unMm (obs.getD 4 .gone) with
   | true, some x, some m => some (d, x, m)
   | _, _, _ => none)
 | _ => none
structure ok55n (x : G5n) : Prop where
 h : okC x.2.1
 d : x.1 = 0
 m : x.2.2 = []
def gNq (x : Cx3) (m : Mm) : List Ob := [.bx nl, .bx (.ptr 2 0 []), cxQ x, .bx (.mp 4), mmO m, .bx (clo55 0 1 3 5)]
def gOq (x : Cx3) (l : List Int) (m : Mm) : List Ob := [.bx (.own 6 0), .bx (.ptr 2 0 []), cxQ x, .bx (.mp 4), mmO m, .bx (clo55 0 1 3 5), .sc 0 3 I64 l]
def grow (p : List Int) : Res := gr p p.length 0 [] []
theorem call55N (n : Int) (p : List Int) (h : cxOk n p) : GCall Try.prog gl 55 false (aN 0) (gN n p []) [.bool (grow p).1] (gO n p (grow p).2.1 (grow p).2.2) := by
 have hl := h.2.1.1
 obtain ⟨lv, hlv⟩ : ∃ lv, p.length = lv + 1 := ⟨p.length - 1, by omega⟩
 have := call55 lv n p 0 [] ⟨h, by have := Nat.pow_le_pow_right (show 0 < 2 by decide) hl; omega, by simp; omega⟩ rfl (by simp [mg, mGet])
 rw [← hlv] at this
 exact this
def e55N : Entry Try.prog gl := entryW 55 ⟨Try.f55, by kernel_rfl, by kernel_rfl, by kernel_rfl⟩ true get55n ok55n false (fun x => aN x.1) (fun x => gNq x.2.1 x.2.2) (fun x => [.bool (grow x.2.1.2.1).1])
 (fun x => gOq x.2.1 (grow x.2.1.2.1).2.1 (grow x.2.1.2.1).2.2) (fun x hx => by
   have := call55N _ _ hx.h.h
   have e : gNq x.2.1 [] = gN x.2.1.1 x.2.1.2.1 [] := by unfold gNq gN; rw [cxQ_ok hx.h]
   have e2 : ∀ l m, gOq x.2.1 l m = gO x.2.1.1 x.2.1.2.1 l m := fun l m => by unfold gOq gO; rw [cxQ_ok hx.h]
   rw [hx.d, hx.m, e, e2]; exact this)
def shB (p : List Int) : Bool := pure p && (grow p).1
def shL (p : List Int) : List Int := if pure p = true then (grow p).2.1 else []
theorem call15 (n : Int) (p : List Int) (h : cxOk n p) : GCall Try.prog gl 15 true [.int .i64 n, .sl I64 p] [] [.sl I64 (shL p), .bool (shB p), .int .i64 0] [] := by
 refine gcall_of (X := X [e53, e54, e55N]) (X_ok [e53, e54, e55N]) (f := 15) (fn := Try.f15) (c := bodyOf Try.f15) (by kernel_rfl) (by kernel_rfl) (view := true) (rvs := [.tmp 4, .tmp 5, .tmp 6]) (by kernel_rfl) (H := fun _ => none) 80 (by kernel_rfl) ?_
 refine of_eq (q := True ∧ True ∧ True ∧ True ∧ True ∧ (CxP n p ∧ True) ∧ True ∧ True ∧ True ∧ True ∧ True ∧ True ∧ True ∧ True ∧ (¬(0 : Int) = 0 → True ∧ True ∧ True ∧ True ∧ True ∧ (([] : List Int) = shL p ∧ false = shB p ∧ (0 : Int) = 0 ∧ True) ∧ True) ∧ (¬¬(0 : Int) = 0 → True ∧ ((okC (n, p, mk (isF p)) ∧ (True ∧ True) ∧ (n = n ∧ p = p ∧ mk (isF p) = mk (isF p) ∧ True) ∧ True) ∧ True ∧ True) ∧ True ∧ ((!pure p) = true → True ∧ True ∧ True ∧ True ∧ (([] : List Int) = shL p ∧ false = shB p ∧ (0 : Int) = 0 ∧ True) ∧ True) ∧ ((!pure p) = false → True ∧ True ∧ True ∧ True ∧ True ∧ True ∧ True ∧ True ∧ ((ok55n ((0 : Int), (n, p, mk (isF p)), []) ∧ ((0 : Int) = 0 ∧ True ∧ True ∧ True ∧ True ∧ True) ∧ True ∧ True ∧ (n = n ∧ p = p ∧ mk (isF p) = mk (isF p) ∧ True) ∧ True ∧ ([] : List (Int × Bool)) = [] ∧ (True ∧ True ∧ True ∧ True ∧ True ∧ True) ∧ True) ∧ True ∧ True ∧ True ∧ True ∧ True ∧ True ∧ True) ∧ True ∧ True ∧ True ∧ True ∧ True ∧ True ∧ True ∧ ((grow p).snd.fst = shL p ∧ (grow p).fst = shB p ∧ (0 : Int) = 0 ∧ True) ∧ True))) (by kernel_rfl) ?_
 simp only [zz]
 refine ⟨⟨h⟩, fun h => absurd trivial h, fun _ => ⟨⟨h, rfl⟩, fun hp => ?_, fun hp => ⟨⟨⟨h, rfl⟩, rfl, rfl⟩, ?_⟩⟩⟩
 · have hp : pure p = false := by simpa using hp
   simp [shL, shB, hp]
 · have hp : pure p = true := by simpa using hp
   simp [shL, shB, hp]
end Go.Am.Sh

/- Shells: awake. -/
namespace Go.Am.Sh
open Go Go.Am Go.Proofs
def e15 : Entry Try.prog gl := entry2 15 ⟨Try.f15, by kernel_rfl, by kernel_rfl, by kernel_rfl⟩ I64 SI (fun (n : Int) p => cxOk n p) true (fun _ p => [.sl I64 (shL p), .bool (shB p), .int .i64 0]) (fun _ _ => []) (fun (n : Int) p h => call15 n p h)
def e38 : Entry Try.prog gl := entry2 38 ⟨Try.f38, by kernel_rfl, by kernel_rfl, by kernel_rfl⟩ I64 SI (fun (n : Int) p => cxOk n p) false (fun _ p => [.sl I64 (cnts p), .int .i64 0]) (fun _ _ => []) (fun (n : Int) p h => call38 n p h)
def e27 : Entry Try.prog gl := entry2 27 ⟨Try.f27, by kernel_rfl, by kernel_rfl, by kernel_rfl⟩ I64 SI (fun (n : Int) p => cxOk n p) false (fun _ p => [.sl I64 (hsL p), .int .i64 0]) (fun _ _ => []) (fun (n : Int) p h => call27 n p h)
def e30 : Entry Try.prog gl := entry2 30 ⟨Try.f30, by kernel_rfl, by kernel_rfl, by kernel_rfl⟩ I64 SI (fun (n : Int) p => cxOk n p) false (fun _ p => [.sl I64 (hoL p), .int .i64 0]) (fun _ _ => []) (fun (n : Int) p h => call30 n p h)
def e36 : Entry Try.prog gl := entry2 36 ⟨Try.f36, by kernel_rfl, by kernel_rfl, by kernel_rfl⟩ I64 SI (fun (n : Int) p => cxOk n p) false (fun (n : Int) p => [.sl I64 (fewR (grL (duaG n p))), .int .i64 (fewE (grL (duaG n p)))]) (fun _ _ => []) (fun (n : Int) p h => call36 n p h)
def e24 : Entry Try.prog gl := entry2 24 ⟨Try.f24, by kernel_rfl, by kernel_rfl, by kernel_rfl⟩ I64 I64 (fun (n d : Int) => momOk n d) true (fun (n d : Int) => [.sl I64 (momL n d), .int .i64 0]) (fun _ _ => []) (fun (n d : Int) h => call24 n d h)
instance (n : Int) (p : List Int) (k : Nat) : Decidable (goodAt n p k) := by unfold goodAt; infer_instance
instance (n : Int) (p : List Int) : Decidable (cxOk n p) := by unfold cxOk numOk; infer_instance
theorem call19 : GCall Try.prog gl 19 true [] [] [.tt] [] := by
 have f1 : cxOk 3 [3, 5, 6] := by decide +kernel
 have f2 : cxOk 3 [7] := by decide +kernel
 have f3 : cxOk 4 [3, 12] := by decide +kernel
 have f4 : cnts [3, 5, 6] = [1, 3, 3] := by kernel_rfl
 have f5 : hsL [3, 5, 6] = [1, 1, 1] := by kernel_rfl
 have f6 : hoL [3, 5, 6] = [0, 1] := by kernel_rfl
 have f7 : shL [7] = [0] := by kernel_rfl
 have f8 : fewR (grL (duaG 4 [3, 12])) = [5, 6, 9, 10] := by kernel_rfl
 have f9 : fewE (grL (duaG 4 [3, 12])) = 0 := by kernel_rfl
 refine gcall_of (X := X [e38, e27, e30, e15, e36, e24, e23]) (X_ok [e38, e27, e30, e15, e36, e24, e23]) (f := 19) (fn := Try.f19) (c := bodyOf Try.f19) (by kernel_rfl) (by kernel_rfl) (view := false) (rvs := [.tmp 0]) (by kernel_rfl) (H := fun _ => none) 200 (by kernel_rfl) ?_
 refine of_eq (q := True ∧ True ∧ ((numOk (3 : Int) ∧ ((1 : Nat) ≤ [(3 : Int), (5 : Int), (6 : Int)].length ∧ [(3 : Int), (5 : Int), (6 : Int)].length ≤ 10) ∧ ∀ (k : Nat), k < [(3 : Int), (5 : Int), (6 : Int)].length → goodAt (3 : Int) [(3 : Int), (5 : Int), (6 : Int)] k) ∧ True) ∧ True ∧ True ∧ True ∧ True ∧ True ∧ True ∧ ((numOk (3 : Int) ∧ ((1 : Nat) ≤ [(3 : Int), (5 : Int), (6 : Int)].length ∧ [(3 : Int), (5 : Int), (6 : Int)].length ≤ 10) ∧ ∀ (k : Nat), k < [(3 : Int), (5 : Int), (6 : Int)].length → goodAt (3 : Int) [(3 : Int), (5 : Int), (6 : Int)] k) ∧ True) ∧ True ∧ True ∧ True ∧ True ∧ True ∧ True ∧ ((numOk (3 : Int) ∧ ((1 : Nat) ≤ [(3 : Int), (5 : Int), (6 : Int)].length ∧ [(3 : Int), (5 : Int), (6 : Int)].length ≤ 10) ∧ ∀ (k : Nat), k < [(3 : Int), (5 : Int), (6 : Int)].length → goodAt (3 : Int) [(3 : Int), (5 : Int), (6 : Int)] k) ∧ True) ∧ True ∧ True ∧ True ∧ True ∧ True ∧ True ∧ ((numOk (3 : Int) ∧ ((1 : Nat) ≤ [(7 : Int)].length ∧ [(7 : Int)].length ≤ 10) ∧ ∀ (k : Nat), k < [(7 : Int)].length → goodAt (3 : Int) [(7 : Int)] k) ∧ True) ∧ True ∧ True ∧ True ∧ True ∧ True ∧ True ∧ True ∧ True ∧ ((numOk (4 : Int) ∧ ((1 : Nat) ≤ [(3 : Int), (12 : Int)].length ∧ [(3 : Int), (12 : Int)].length ≤ 10) ∧ ∀ (k : Nat), k < [(3 : Int), (12 : Int)].length → goodAt (4 : Int) [(3 : Int), (12 : Int)] k) ∧ True) ∧ True ∧ True ∧ True ∧ True ∧ True ∧ (((2 : Int) ≤ 3 ∧ (3 : Int) < 5 ∧ (5 : Int) ≤ 6) ∧ True) ∧ True ∧ True ∧ True ∧ True ∧ True ∧ True ∧ True ∧ True ∧ ((0 : Int) = 0 → True ∧ True ∧ ((cnts [(3 : Int), (5 : Int), (6 : Int)]).length + 1 ≤ 1000000000000000 ∧ True) ∧ True ∧ True ∧ (true = true → True ∧ True ∧ True ∧ True ∧ ((0 : Int) = 0 → True ∧ True ∧ ((hsL [(3 : Int), (5 : Int), (6 : Int)]).length + 1 ≤ 1000000000000000 ∧ True) ∧ True ∧ True ∧ (true = true → True ∧ True ∧ True ∧ True ∧ ((0 : Int) = 0 → True ∧ True ∧ ((hoL [(3 : Int), (5 : Int), (6 : Int)]).length + 1 ≤ 1000000000000000 ∧ True) ∧ True ∧ True ∧ (true = true → True ∧ True ∧ True ∧ True ∧ ((0 : Int) = 0 → True ∧ True ∧ True ∧ (true = true → True ∧ True ∧ ((shL [(7 : Int)]).length + 1 ≤ 1000000000000000 ∧ True) ∧ True ∧ True ∧ (true = true → True ∧ True ∧ True ∧ True ∧ (fewE (grL (duaG (4 : Int) [(3 : Int), (12 : Int)])) = 0 → True ∧ True ∧ ((fewR (grL (duaG (4 : Int) [(3 : Int), (12 : Int)]))).length + 1 ≤ 1000000000000000 ∧ True) ∧ True ∧ True ∧ (true = true → True ∧ True ∧ True ∧ True ∧ ((0 : Int) = 0 → True ∧ True ∧ True ∧ True ∧ True ∧ True ∧ (true = true ∧ True) ∧ True) ∧ (¬(0 : Int) = 0 → True ∧ True ∧ True ∧ (false = true ∧ True) ∧ True)) ∧ (true = false → True ∧ True ∧ True ∧ True ∧ True ∧ (false = true ∧ True) ∧ True)) ∧ (¬fewE (grL (duaG (4 : Int) [(3 : Int), (12 : Int)])) = 0 → True ∧ True ∧ True ∧ True ∧ True ∧ True ∧ True ∧ (false = true ∧ True) ∧ True)) ∧ (true = false → True ∧ True ∧ True ∧ True ∧ True ∧ True ∧ True ∧ True ∧ True ∧ (false = true ∧ True) ∧ True)) ∧ (true = false → True ∧ True ∧ True ∧ True ∧ True ∧ True ∧ True ∧ True ∧ True ∧ True ∧ True ∧ (false = true ∧ True) ∧ True)) ∧ (¬(0 : Int) = 0 → True ∧ True ∧ True ∧ True ∧ True ∧ True ∧ True ∧ True ∧ True ∧ True ∧ True ∧ True ∧ True ∧ (false = true ∧ True) ∧ True)) ∧ (true = false → True ∧ True ∧ True ∧ True ∧ True ∧ True ∧ True ∧ True ∧ True ∧ True ∧ True ∧ True ∧ True ∧ True ∧ True ∧ (false = true ∧ True) ∧ True)) ∧ (¬(0 : Int) = 0 → True ∧ True ∧ True ∧ True ∧ True ∧ True ∧ True ∧ True ∧ True ∧ True ∧ True ∧ True ∧ True ∧ True ∧ True ∧ True ∧ True ∧ (false = true ∧ True) ∧ True)) ∧ (true = false → True ∧ True ∧ True ∧ True ∧ True ∧ True ∧ True ∧ True ∧ True ∧ True ∧ True ∧ True ∧ True ∧ True ∧ True ∧ True ∧ True ∧ True ∧ True ∧ (false = true ∧ True) ∧ True)) ∧ (¬(0 : Int) = 0 → True ∧ True ∧ True ∧ True ∧ True ∧ True ∧ True ∧ True ∧ True ∧ True ∧ True ∧ True ∧ True ∧ True ∧ True ∧ True ∧ True ∧ True ∧ True ∧ True ∧ True ∧ (false = true ∧ True) ∧ True)) ∧ (true = false → True ∧ True ∧ True ∧ True ∧ True ∧ True ∧ True ∧ True ∧ True ∧ True ∧ True ∧ True ∧ True ∧ True ∧ True ∧ True ∧ True ∧ True ∧ True ∧ True ∧ True ∧ True ∧ True ∧ (false = true ∧ True) ∧ True)) ∧ (¬(0 : Int) = 0 → True ∧ True ∧ True ∧ True ∧ True ∧ True ∧ True ∧ True ∧ True ∧ True ∧ True ∧ True ∧ True ∧ True ∧ True ∧ True ∧ True ∧ True ∧ True ∧ True ∧ True ∧ True ∧ True ∧ True ∧ True ∧ (false = true ∧ True) ∧ True)) (by kernel_rfl) ?_
 rw [f4, f5, f6, f7, f8, f9]
 simp
 exact ⟨⟨f1.1, f1.2.2⟩, ⟨f2.1, f2.2.2 0 (by decide)⟩, f3.1, f3.2.2⟩
def e19 : Entry Try.prog gl where
 f := 19
 lend := false
 en := ⟨Try.f19, by kernel_rfl, by kernel_rfl, by kernel_rfl⟩
 go := fun args ob0 => match args, ob0 with
   | [], [] => some (True, true, [.tt], [])
   | _, _ => none
 ok := by
   intro args ob0 p s r o h hp
   split at h <;> try (cases h; done)
   injection h with h; injection h with h1 h2; injection h2 with h2 h3; injection h3 with h3 h4
   subst h1 h2 h3 h4
   exact call19
end Go.Am.Sh

/- Shells: the reference's shellings. -/
namespace Go.Am.Sh
open Go Go.Am Go.Proofs
def puN (p : List Int) (k : Nat) : Prop := ∀ i, i < k → pc (p.getD i 0).toNat = pc (p.getD 0 0).toNat
instance (p k) : Decidable (puN p k) := by unfold puN; infer_instance
def puB (p : List Int) : Bool := decide (puN p p.length)
structure ok10 (p : List Int) : Prop where
 h : okL p
 l : p.length ≤ 10
def fnd (p : List Int) (D s e : Nat) : Nat → Bool
 | 0 => false
 | g + 1 => fnd p D s e g || (decide (D / 2 ^ g % 2 = 1) && decide (pc (mns s (p.getD g 0).toNat) = 1) && decide (mns s (p.getD g 0).toNat &&& e = 0))
def nxN (p : List Int) (D i k : Nat) : Prop := ∀ e, e < k → D / 2 ^ e % 2 = 1 → fnd p D (p.getD i 0).toNat (p.getD e 0).toNat p.length = true
instance (p D i k) : Decidable (nxN p D i k) := by unfold nxN; infer_instance
def nxB (p : List Int) (D i : Nat) : Bool := decide (nxN p D i p.length)
structure ok57 (p : List Int) (D i : Int) : Prop where
 h : ok10 p
 D : 0 ≤ D ∧ D < 1024
 i : 0 ≤ i ∧ i < p.length
def sgB (p : List Int) (i : Int) : Bool := decide (0 ≤ i ∧ i < p.length)
/-- The set of the first k pieces of an order, if they are a shelling so far. -/
def sgK (p o : List Int) : Nat → Option Nat
 | 0 => some 0
 | k + 1 => (sgK p o k).bind fun D => if sgB p (o.getD k 0) = true ∧ D / 2 ^ (o.getD k 0).toNat % 2 = 0 ∧ nxB p D (o.getD k 0).toNat = true then some (D ||| 2 ^ (o.getD k 0).toNat) else none
def sgR (p o : List Int) : Bool := (sgK p o o.length).isSome && decide (o.length = p.length) && puB p
end Go.Am.Sh

/- Shells: the reference's Check. -/
namespace Go.Am.Sh
open Go Go.Am Go.Proofs
theorem pow_le6 {n : Int} (h : numOk n) : (2 ^ n.toNat : Int) ≤ 64 := by
 obtain ⟨e1, e2, e3⟩ := numOk_pow h
 omega
theorem sub_and {a b : Int} (ha : 0 ≤ a ∧ a < 64) (hb : 0 ≤ b ∧ b < 64) : (bAnd .i64 a b = a) ↔ sub a.toNat b.toNat = true := by
 have : bAnd .i64 a b = ((a.toNat &&& b.toNat : Nat) : Int) := by rw [← bAnd_nat (by omega) (by omega), Int.toNat_of_nonneg ha.1, Int.toNat_of_nonneg hb.1]
 rw [this]
 unfold sub
 constructor
 · intro h
   have : a.toNat &&& b.toNat = a.toNat := by omega
   rw [this]; exact Nat.beq_refl _
 · intro h
   have := Nat.eq_of_beq_eq_true h
   omega
end Go.Am.Sh

/- Shells: the law of the moment complexes. -/
namespace Go.Am.Sh
open Go Go.Am Go.Proofs
/-- How many of a list have all of a set. -/
def cntM (x : Nat) (p : List Int) (j : Nat) : Nat := ((p.take j).filter fun s => decide (mns x s.toNat = 0)).length
structure mf (n d : Int) : Prop where
 m : momOk n d
 len : 1 ≤ (momL n d).length ∧ (momL n d).length ≤ 10
 hl : ((hsL (momL n d)).length : Int) = d + 1
 hs : ∀ k, k < d.toNat + 1 → (hsL (momL n d)).getD k 0 = (hsL (momL n d)).getD (d.toNat - k) 0
 sh : shB (momL n d) = true
 sg : sgR (momL n d) (shL (momL n d)) = true
 sl : (shL (momL n d)).length ≤ 10
 two : ∀ k, k < (fcs (momL n d)).length → (pc ((fcs (momL n d)).getD k 0).toNat : Int) = d - 1 → cntM ((fcs (momL n d)).getD k 0).toNat (momL n d) (momL n d).length = 2
instance (n d : Int) : Decidable (momOk n d) := by unfold momOk; infer_instance
theorem u64_nn (n : Int) : 0 ≤ modU .u64 n := by
 show 0 ≤ n % 18446744073709551616
 omega
end Go.Am.Sh

/- Shells: the reference's Pieces. -/
namespace Go.Am.Sh
open Go Go.Am Go.Proofs
/-- Set x is one of the first k of a list. -/
def inK (s : List Int) (x : Nat) : Nat → Bool
 | 0 => false
 | k + 1 => inK s x k || decide (s.getD k 0 = x)
/-- Set x is no part of another of the first k. -/
def mxS (s : List Int) (x : Nat) : Nat → Bool
 | 0 => true
 | k + 1 => mxS s x k && (decide (s.getD k 0 = x) || !sub x (s.getD k 0).toNat)
def pieB (s : List Int) (x : Nat) : Bool := inK s x s.length && mxS s x s.length
def pieL (s : List Int) : List Int := trueN (pieB s) 64
structure ok22 (s : List Int) : Prop where
 h : okL s
 l : s.length < 1000000
noncomputable def L22_0 : Code := lp (bodyOf Try.f22) 0
noncomputable def L22_2 : Code := lp (bodyOf Try.f22) 2
def sz22 (s : List Int) (k : Nat) : St := ⟨.sl I64 s :: dd 2 ++ nl :: .int .i64 k :: dd 49, []⟩
def jz22 (s : List Int) (k i : Nat) : St := ⟨.sl I64 s :: dd 2 ++ nl :: .int .i64 k :: .bool (inK s k i) :: .bool (mxS s k i) :: .int .i64 i :: dd 46, []⟩
def ejz22 (s : List Int) (k : Nat) : List (List Nat × Ex) := [([0, 3, 4, 5, 6], ⟨2, Unit, fun _ => True, fun _ => ⟨.sl I64 s :: dd 2 ++ nl :: .int .i64 k :: .bool (inK s k s.length) :: .bool (mxS s k s.length) :: dd 47, []⟩⟩)]
def hz22 (s : List Int) (k : Nat) : Hint := ⟨chk 0 [0, 3, 4, 5, 6, 7] (fun i => i ≤ s.length) (jz22 s k), (ejz22 s k).map (·.2)⟩
theorem loop22z (s : List Int) (k : Nat) (h : ok22 s) (hk : k < 64) (R : Exit → St → Prop) : LoopOK (X [e63]) L22_2 (hz22 s k) R := by
 refine loop_ok (X_ok _) (H := fun _ _ => none) [0, 3, 4, 5, 6, 7] (fun i => i ≤ s.length) (jz22 s k) (fun i => s.length - i) (ejz22 s k) 150 fun (i : Nat) hi => ?_
 refine of_eq (q := True ∧ True ∧ True ∧ True ∧ ((i : Int) < (s.length : Int) → True ∧ True ∧ (inK s k i = true → True ∧ True ∧ True ∧ True ∧ (mxS s k i = true → True ∧ True ∧ idxPre (i : Int) s.length ∧ True ∧ True ∧ True ∧ True ∧ (s.getD i (0 : Int) = (k : Int) → True ∧ True ∧ True ∧ True ∧ inR .i64 ((i : Int) + 1) ∧ True ∧ ∃ (y : Nat), (y ≤ s.length ∧ s.length - y < s.length - i) ∧ (s = s ∧ True ∧ (k : Int) = (k : Int) ∧ true = inK s k y ∧ true = mxS s k y ∧ (i : Int) + 1 = (y : Int) ∧ True) ∧ True) ∧ (¬s.getD i (0 : Int) = (k : Int) → True ∧ True ∧ True ∧ idxPre (i : Int) s.length ∧ True ∧ ((((0 : Int) ≤ (k : Int) ∧ (k : Int) < 64) ∧ (0 : Int) ≤ s.getD i (0 : Int) ∧ s.getD i (0 : Int) < 64) ∧ True) ∧ True ∧ True ∧ True ∧ True ∧ True ∧ inR .i64 ((i : Int) + 1) ∧ True ∧ ∃ (y : Nat), (y ≤ s.length ∧ s.length - y < s.length - i) ∧ (s = s ∧ True ∧ (k : Int) = (k : Int) ∧ true = inK s k y ∧ (!sub k (Int.toNat (s.getD i (0 : Int)))) = mxS s k y ∧ (i : Int) + 1 = (y : Int) ∧ True) ∧ True)) ∧ (mxS s k i = false → True ∧ True ∧ True ∧ inR .i64 ((i : Int) + 1) ∧ True ∧ ∃ (y : Nat), (y ≤ s.length ∧ s.length - y < s.length - i) ∧ (s = s ∧ True ∧ (k : Int) = (k : Int) ∧ true = inK s k y ∧ false = mxS s k y ∧ (i : Int) + 1 = (y : Int) ∧ True) ∧ True)) ∧ (inK s k i = false → True ∧ True ∧ idxPre (i : Int) s.length ∧ True ∧ True ∧ True ∧ True ∧ True ∧ True ∧ True ∧ (mxS s k i = true → True ∧ True ∧ idxPre (i : Int) s.length ∧ True ∧ True ∧ True ∧ True ∧ (s.getD i (0 : Int) = (k : Int) → True ∧ True ∧ True ∧ True ∧ inR .i64 ((i : Int) + 1) ∧ True ∧ ∃ (y : Nat), (y ≤ s.length ∧ s.length - y < s.length - i) ∧ (s = s ∧ True ∧ (k : Int) = (k : Int) ∧ decide (s.getD i (0 : Int) = (k : Int)) = inK s k y ∧ true = mxS s k y ∧ (i : Int) + 1 = (y : Int) ∧ True) ∧ True) ∧ (¬s.getD i (0 : Int) = (k : Int) → True ∧ True ∧ True ∧ idxPre (i : Int) s.length ∧ True ∧ ((((0 : Int) ≤ (k : Int) ∧ (k : Int) < 64) ∧ (0 : Int) ≤ s.getD i (0 : Int) ∧ s.getD i (0 : Int) < 64) ∧ True) ∧ True ∧ True ∧ True ∧ True ∧ True ∧ inR .i64 ((i : Int) + 1) ∧ True ∧ ∃ (y : Nat), (y ≤ s.length ∧ s.length - y < s.length - i) ∧ (s = s ∧ True ∧ (k : Int) = (k : Int) ∧ decide (s.getD i (0 : Int) = (k : Int)) = inK s k y ∧ (!sub k (Int.toNat (s.getD i (0 : Int)))) = mxS s k y ∧ (i : Int) + 1 = (y : Int) ∧ True) ∧ True)) ∧ (mxS s k i = false → True ∧ True ∧ True ∧ inR .i64 ((i : Int) + 1) ∧ True ∧ ∃ (y : Nat), (y ≤ s.length ∧ s.length - y < s.length - i) ∧ (s = s ∧ True ∧ (k : Int) = (k : Int) ∧ decide (s.getD i (0 : Int) = (k : Int)) = inK s k y ∧ false = mxS s k y ∧ (i : Int) + 1 = (y : Int) ∧ True) ∧ True))) ∧ (¬(i : Int) < (s.length : Int) → ∃ (y : Unit), True ∧ (s = s ∧ True ∧ (k : Int) = (k : Int) ∧ inK s k i = inK s k s.length ∧ mxS s k i = mxS s k s.length ∧ True) ∧ True)) (by kernel_rfl) ?_
 simp only [zz]
 have hi : i ≤ s.length := hi
 obtain ⟨q1, q2⟩ := okL_get h.h i
 have hl := h.l
 refine ⟨fun hlt => ?_, fun hlt => by rw [show s.length = i by omega]; exact ⟨rfl, rfl⟩⟩
 have hx : idxPre (i : Int) s.length := idx_nat (by omega)
 have hn : ∀ b c, b = inK s k (i + 1) → c = mxS s k (i + 1) → inR .i64 ((i : Int) + 1) ∧ ∃ y : Nat, (y ≤ s.length ∧ s.length - y < s.length - i) ∧ b = inK s k y ∧ c = mxS s k y ∧ (i : Int) + 1 = (y : Int) := fun b c hb hc => ⟨by simp only [inR]; omega, i + 1, by omega, hb, hc, by omega⟩
 have hr : (0 ≤ (k : Int) ∧ (k : Int) < 64) ∧ 0 ≤ s.getD i 0 ∧ s.getD i 0 < 64 := ⟨⟨by omega, by omega⟩, q1, q2⟩
 refine ⟨fun hI => ⟨fun hM => ⟨hx, fun he => hn _ _ ?_ ?_, fun he => ⟨hx, hr, hn _ _ ?_ ?_⟩⟩, fun hM => hn _ _ ?_ ?_⟩, fun hI => ⟨hx, fun hM => ⟨hx, fun he => hn _ _ ?_ ?_, fun he => ⟨hx, hr, hn _ _ ?_ ?_⟩⟩, fun hM => hn _ _ ?_ ?_⟩⟩
 · rw [inK, hI]; try rfl
 · rw [mxS, hM, decide_eq_true he]; try rfl
 · rw [inK, hI]; try rfl
 · rw [mxS, hM, decide_eq_false he]; try rfl
 · rw [inK, hI]; try rfl
 · rw [mxS, hM]; try rfl
 · rw [inK, hI]; try rfl
 · rw [mxS, hM, decide_eq_true he]; try rfl
 · rw [inK, hI]; try rfl
 · rw [mxS, hM, decide_eq_false he]; try rfl
 · rw [inK, hI]; try rfl
 · rw [mxS, hM]; try rfl
def st22 (s : List Int) (k : Nat) : St := ⟨.sl I64 s :: dd 2 ++ .own 0 0 :: .int .i64 k :: dd 49, [.sc 0 3 I64 (trueN (pieB s) k)]⟩
def jt22 (s : List Int) (k i : Nat) : St := ⟨.sl I64 s :: dd 2 ++ .own 0 0 :: .int .i64 k :: .bool (inK s k i) :: .bool (mxS s k i) :: .int .i64 i :: dd 46, [.sc 0 3 I64 (trueN (pieB s) k)]⟩
def ejt22 (s : List Int) (k : Nat) : List (List Nat × Ex) := [([0, 3, 4, 5, 6], ⟨2, Unit, fun _ => True, fun _ => ⟨.sl I64 s :: dd 2 ++ .own 0 0 :: .int .i64 k :: .bool (inK s k s.length) :: .bool (mxS s k s.length) :: dd 47, [.sc 0 3 I64 (trueN (pieB s) k)]⟩⟩)]
def ht22 (s : List Int) (k : Nat) : Hint := ⟨chk 0 [0, 3, 4, 5, 6, 7] (fun i => i ≤ s.length) (jt22 s k), (ejt22 s k).map (·.2)⟩
theorem loop22t (s : List Int) (k : Nat) (h : ok22 s) (hk : k < 64) (R : Exit → St → Prop) : LoopOK (X [e63]) L22_2 (ht22 s k) R := by
 refine loop_ok (X_ok _) (H := fun _ _ => none) [0, 3, 4, 5, 6, 7] (fun i => i ≤ s.length) (jt22 s k) (fun i => s.length - i) (ejt22 s k) 150 fun (i : Nat) hi => ?_
 refine of_eq (q := True ∧ True ∧ True ∧ True ∧ ((i : Int) < (s.length : Int) → True ∧ True ∧ (inK s k i = true → True ∧ True ∧ True ∧ True ∧ (mxS s k i = true → True ∧ True ∧ idxPre (i : Int) s.length ∧ True ∧ True ∧ True ∧ True ∧ (s.getD i (0 : Int) = (k : Int) → True ∧ True ∧ True ∧ True ∧ inR .i64 ((i : Int) + 1) ∧ True ∧ ∃ (y : Nat), (y ≤ s.length ∧ s.length - y < s.length - i) ∧ (s = s ∧ True ∧ (k : Int) = (k : Int) ∧ true = inK s k y ∧ true = mxS s k y ∧ (i : Int) + 1 = (y : Int) ∧ True) ∧ trueN (pieB s) k = trueN (pieB s) k ∧ True) ∧ (¬s.getD i (0 : Int) = (k : Int) → True ∧ True ∧ True ∧ idxPre (i : Int) s.length ∧ True ∧ ((((0 : Int) ≤ (k : Int) ∧ (k : Int) < 64) ∧ (0 : Int) ≤ s.getD i (0 : Int) ∧ s.getD i (0 : Int) < 64) ∧ True) ∧ True ∧ True ∧ True ∧ True ∧ True ∧ inR .i64 ((i : Int) + 1) ∧ True ∧ ∃ (y : Nat), (y ≤ s.length ∧ s.length - y < s.length - i) ∧ (s = s ∧ True ∧ (k : Int) = (k : Int) ∧ true = inK s k y ∧ (!sub k (Int.toNat (s.getD i (0 : Int)))) = mxS s k y ∧ (i : Int) + 1 = (y : Int) ∧ True) ∧ trueN (pieB s) k = trueN (pieB s) k ∧ True)) ∧ (mxS s k i = false → True ∧ True ∧ True ∧ inR .i64 ((i : Int) + 1) ∧ True ∧ ∃ (y : Nat), (y ≤ s.length ∧ s.length - y < s.length - i) ∧ (s = s ∧ True ∧ (k : Int) = (k : Int) ∧ true = inK s k y ∧ false = mxS s k y ∧ (i : Int) + 1 = (y : Int) ∧ True) ∧ trueN (pieB s) k = trueN (pieB s) k ∧ True)) ∧ (inK s k i = false → True ∧ True ∧ idxPre (i : Int) s.length ∧ True ∧ True ∧ True ∧ True ∧ True ∧ True ∧ True ∧ (mxS s k i = true → True ∧ True ∧ idxPre (i : Int) s.length ∧ True ∧ True ∧ True ∧ True ∧ (s.getD i (0 : Int) = (k : Int) → True ∧ True ∧ True ∧ True ∧ inR .i64 ((i : Int) + 1) ∧ True ∧ ∃ (y : Nat), (y ≤ s.length ∧ s.length - y < s.length - i) ∧ (s = s ∧ True ∧ (k : Int) = (k : Int) ∧ decide (s.getD i (0 : Int) = (k : Int)) = inK s k y ∧ true = mxS s k y ∧ (i : Int) + 1 = (y : Int) ∧ True) ∧ trueN (pieB s) k = trueN (pieB s) k ∧ True) ∧ (¬s.getD i (0 : Int) = (k : Int) → True ∧ True ∧ True ∧ idxPre (i : Int) s.length ∧ True ∧ ((((0 : Int) ≤ (k : Int) ∧ (k : Int) < 64) ∧ (0 : Int) ≤ s.getD i (0 : Int) ∧ s.getD i (0 : Int) < 64) ∧ True) ∧ True ∧ True ∧ True ∧ True ∧ True ∧ inR .i64 ((i : Int) + 1) ∧ True ∧ ∃ (y : Nat), (y ≤ s.length ∧ s.length - y < s.length - i) ∧ (s = s ∧ True ∧ (k : Int) = (k : Int) ∧ decide (s.getD i (0 : Int) = (k : Int)) = inK s k y ∧ (!sub k (Int.toNat (s.getD i (0 : Int)))) = mxS s k y ∧ (i : Int) + 1 = (y : Int) ∧ True) ∧ trueN (pieB s) k = trueN (pieB s) k ∧ True)) ∧ (mxS s k i = false → True ∧ True ∧ True ∧ inR .i64 ((i : Int) + 1) ∧ True ∧ ∃ (y : Nat), (y ≤ s.length ∧ s.length - y < s.length - i) ∧ (s = s ∧ True ∧ (k : Int) = (k : Int) ∧ decide (s.getD i (0 : Int) = (k : Int)) = inK s k y ∧ false = mxS s k y ∧ (i : Int) + 1 = (y : Int) ∧ True) ∧ trueN (pieB s) k = trueN (pieB s) k ∧ True))) ∧ (¬(i : Int) < (s.length : Int) → ∃ (y : Unit), True ∧ (s = s ∧ True ∧ (k : Int) = (k : Int) ∧ inK s k i = inK s k s.length ∧ mxS s k i = mxS s k s.length ∧ True) ∧ trueN (pieB s) k = trueN (pieB s) k ∧ True)) (by kernel_rfl) ?_
 simp only [zz]
 have hi : i ≤ s.length := hi
 obtain ⟨q1, q2⟩ := okL_get h.h i
 have hl := h.l
 refine ⟨fun hlt => ?_, fun hlt => by rw [show s.length = i by omega]; exact ⟨rfl, rfl⟩⟩
 have hx : idxPre (i : Int) s.length := idx_nat (by omega)
 have hn : ∀ b c, b = inK s k (i + 1) → c = mxS s k (i + 1) → inR .i64 ((i : Int) + 1) ∧ ∃ y : Nat, (y ≤ s.length ∧ s.length - y < s.length - i) ∧ b = inK s k y ∧ c = mxS s k y ∧ (i : Int) + 1 = (y : Int) := fun b c hb hc => ⟨by simp only [inR]; omega, i + 1, by omega, hb, hc, by omega⟩
 have hr : (0 ≤ (k : Int) ∧ (k : Int) < 64) ∧ 0 ≤ s.getD i 0 ∧ s.getD i 0 < 64 := ⟨⟨by omega, by omega⟩, q1, q2⟩
 refine ⟨fun hI => ⟨fun hM => ⟨hx, fun he => hn _ _ ?_ ?_, fun he => ⟨hx, hr, hn _ _ ?_ ?_⟩⟩, fun hM => hn _ _ ?_ ?_⟩, fun hI => ⟨hx, fun hM => ⟨hx, fun he => hn _ _ ?_ ?_, fun he => ⟨hx, hr, hn _ _ ?_ ?_⟩⟩, fun hM => hn _ _ ?_ ?_⟩⟩
 · rw [inK, hI]; try rfl
 · rw [mxS, hM, decide_eq_true he]; try rfl
 · rw [inK, hI]; try rfl
 · rw [mxS, hM, decide_eq_false he]; try rfl
 · rw [inK, hI]; try rfl
 · rw [mxS, hM]; try rfl
 · rw [inK, hI]; try rfl
 · rw [mxS, hM, decide_eq_true he]; try rfl
 · rw [inK, hI]; try rfl
 · rw [mxS, hM, decide_eq_false he]; try rfl
 · rw [inK, hI]; try rfl
 · rw [mxS, hM]; try rfl
noncomputable def fm22 (s : List Int) : List Fam := [⟨Nat, fun k => k ≤ 64 ∧ trueN (pieB s) k = [], sz22 s, fun k => 64 - k, fun k _ => some (hz22 s k)⟩, ⟨Nat, fun k => k ≤ 64, st22 s, fun k => 64 - k, fun k _ => some (ht22 s k)⟩]
def ex22 (s : List Int) : List (List Nat × Ex) := [([3], ⟨0, Unit, fun _ => pieL s = [], fun _ => ⟨dd 3 ++ nl :: dd 50, []⟩⟩), ([3], ⟨0, Unit, fun _ => True, fun _ => ⟨dd 3 ++ .own 0 0 :: dd 50, [.sc 0 3 I64 (pieL s)]⟩⟩)]
noncomputable def H22 (s : List Int) : Nat → Option Hint := fun _ => some ⟨chks 0 [0, 3, 4] (fm22 s), (ex22 s).map (·.2)⟩
theorem loop22 (s : List Int) (h : ok22 s) (R : Exit → St → Prop) : LoopOK (X [e63]) L22_0 ⟨chks 0 [0, 3, 4] (fm22 s), (ex22 s).map (·.2)⟩ R := by
 refine loop_fams (X_ok _) [0, 3, 4] (fm22 s) (ex22 s) 150 ⟨fun (k : Nat) hk => ?_, fun (k : Nat) hk => ?_, trivial⟩
 · have hL := fun hk => loop22z s k h hk
   refine of_eq (q := True ∧ True ∧ ((k : Int) < 64 → True ∧ True ∧ True ∧ LoopOK (X [e63]) L22_2 (hz22 s k) (bodyR (X [e63]).m0 (ex22 s) R) ∧ (∃ (y : Nat), y ≤ s.length ∧ (s = s ∧ True ∧ (k : Int) = (k : Int) ∧ false = inK s k y ∧ true = mxS s k y ∧ (0 : Int) = (y : Int) ∧ True) ∧ True) ∧ (∀ (y : Unit), True → True ∧ True ∧ (inK s k s.length = true → True ∧ True ∧ (mxS s k s.length = true → True ∧ True ∧ True ∧ sumPre (0 : Nat) [(k : Int)].length (nat_lit 8) ∧ True ∧ True ∧ inR .i64 ((k : Int) + 1) ∧ True ∧ ((∃ (y : Nat), ((y ≤ 64 ∧ trueN (pieB s) y = []) ∧ (64 : Nat) - y < 64 - k) ∧ (s = s ∧ False ∧ (k : Int) + 1 = (y : Int) ∧ True) ∧ True) ∨ ∃ (y : Nat), (y ≤ 64 ∧ (64 : Nat) - y < 64 - k) ∧ (s = s ∧ True ∧ (k : Int) + 1 = (y : Int) ∧ True) ∧ [(k : Int)] = trueN (pieB s) y ∧ True)) ∧ (mxS s k s.length = false → True ∧ inR .i64 ((k : Int) + 1) ∧ True ∧ ((∃ (y : Nat), ((y ≤ 64 ∧ trueN (pieB s) y = []) ∧ (64 : Nat) - y < 64 - k) ∧ (s = s ∧ True ∧ (k : Int) + 1 = (y : Int) ∧ True) ∧ True) ∨ ∃ (y : Nat), (y ≤ 64 ∧ (64 : Nat) - y < 64 - k) ∧ (s = s ∧ False ∧ (k : Int) + 1 = (y : Int) ∧ True) ∧ False))) ∧ (inK s k s.length = false → True ∧ True ∧ inR .i64 ((k : Int) + 1) ∧ True ∧ ((∃ (y : Nat), ((y ≤ 64 ∧ trueN (pieB s) y = []) ∧ (64 : Nat) - y < 64 - k) ∧ (s = s ∧ True ∧ (k : Int) + 1 = (y : Int) ∧ True) ∧ True) ∨ ∃ (y : Nat), (y ≤ 64 ∧ (64 : Nat) - y < 64 - k) ∧ (s = s ∧ False ∧ (k : Int) + 1 = (y : Int) ∧ True) ∧ False))) ∧ True) ∧ (¬(k : Int) < 64 → (∃ (y : Unit), pieL s = [] ∧ (True ∧ True) ∧ True) ∨ ∃ (y : Unit), True ∧ (False ∧ True) ∧ False)) (by kernel_rfl) ?_
   simp only [zz]
   obtain ⟨k1, k2⟩ := hk
   have hf : k < 64 → pieB s k = false → inR .i64 ((k : Int) + 1) ∧ ∃ y : Nat, ((y ≤ 64 ∧ trueN (pieB s) y = []) ∧ 64 - y < 64 - k) ∧ (k : Int) + 1 = (y : Int) := fun h3 hb => ⟨by simp only [inR]; omega, k + 1, ⟨⟨by omega, by rw [trueN, hb, k2]; rfl⟩, by omega⟩, by omega⟩
   have hz : ∃ y : Nat, y ≤ s.length ∧ false = inK s k y ∧ true = mxS s k y ∧ (0 : Int) = (y : Int) := ⟨0, Nat.zero_le _, rfl, rfl, rfl⟩
   refine ⟨fun h3 => ⟨hL (by omega) _, hz, fun _ _ => ⟨fun hI => ⟨fun hM => ⟨by unfold sumPre; simp, by simp only [inR]; omega, k + 1, by omega, by omega, ?_⟩, fun hM => hf (by omega) ?_⟩, fun hI => hf (by omega) ?_⟩⟩, fun h3 => ?_⟩
   · have hb : pieB s k = true := by unfold pieB; rw [hI, hM]; try rfl
     rw [trueN, if_pos hb, k2]; try rfl
   · unfold pieB; rw [hI, hM]; try rfl
   · unfold pieB; rw [hI]; try rfl
   · unfold pieL; rw [show 64 = k by omega, k2]
 · have hL := fun hk => loop22t s k h hk
   refine of_eq (q := True ∧ True ∧ ((k : Int) < 64 → True ∧ True ∧ True ∧ LoopOK (X [e63]) L22_2 (ht22 s k) (bodyR (X [e63]).m0 (ex22 s) R) ∧ (∃ (y : Nat), y ≤ s.length ∧ (s = s ∧ True ∧ (k : Int) = (k : Int) ∧ false = inK s k y ∧ true = mxS s k y ∧ (0 : Int) = (y : Int) ∧ True) ∧ trueN (pieB s) k = trueN (pieB s) k ∧ True) ∧ (∀ (y : Unit), True → True ∧ True ∧ (inK s k s.length = true → True ∧ True ∧ (mxS s k s.length = true → True ∧ True ∧ True ∧ sumPre (trueN (pieB s) k).length [(k : Int)].length (nat_lit 8) ∧ True ∧ True ∧ inR .i64 ((k : Int) + 1) ∧ True ∧ ((∃ (y : Nat), ((y ≤ 64 ∧ trueN (pieB s) y = []) ∧ (64 : Nat) - y < 64 - k) ∧ (s = s ∧ False ∧ (k : Int) + 1 = (y : Int) ∧ True) ∧ True) ∨ ∃ (y : Nat), (y ≤ 64 ∧ (64 : Nat) - y < 64 - k) ∧ (s = s ∧ True ∧ (k : Int) + 1 = (y : Int) ∧ True) ∧ trueN (pieB s) k ++ [(k : Int)] = trueN (pieB s) y ∧ True)) ∧ (mxS s k s.length = false → True ∧ inR .i64 ((k : Int) + 1) ∧ True ∧ ((∃ (y : Nat), ((y ≤ 64 ∧ trueN (pieB s) y = []) ∧ (64 : Nat) - y < 64 - k) ∧ (s = s ∧ False ∧ (k : Int) + 1 = (y : Int) ∧ True) ∧ True) ∨ ∃ (y : Nat), (y ≤ 64 ∧ (64 : Nat) - y < 64 - k) ∧ (s = s ∧ True ∧ (k : Int) + 1 = (y : Int) ∧ True) ∧ trueN (pieB s) k = trueN (pieB s) y ∧ True))) ∧ (inK s k s.length = false → True ∧ True ∧ inR .i64 ((k : Int) + 1) ∧ True ∧ ((∃ (y : Nat), ((y ≤ 64 ∧ trueN (pieB s) y = []) ∧ (64 : Nat) - y < 64 - k) ∧ (s = s ∧ False ∧ (k : Int) + 1 = (y : Int) ∧ True) ∧ True) ∨ ∃ (y : Nat), (y ≤ 64 ∧ (64 : Nat) - y < 64 - k) ∧ (s = s ∧ True ∧ (k : Int) + 1 = (y : Int) ∧ True) ∧ trueN (pieB s) k = trueN (pieB s) y ∧ True))) ∧ True) ∧ (¬(k : Int) < 64 → (∃ (y : Unit), pieL s = [] ∧ (False ∧ True) ∧ True) ∨ ∃ (y : Unit), True ∧ (True ∧ True) ∧ trueN (pieB s) k = pieL s ∧ True)) (by kernel_rfl) ?_
   simp only [zz]
   have hk : k ≤ 64 := hk
   have hl := trueN_len (pieB s) k
   have hf : k < 64 → pieB s k = false → inR .i64 ((k : Int) + 1) ∧ ∃ y : Nat, (y ≤ 64 ∧ 64 - y < 64 - k) ∧ (k : Int) + 1 = (y : Int) ∧ trueN (pieB s) k = trueN (pieB s) y := fun h3 hb => ⟨by simp only [inR]; omega, k + 1, by omega, by omega, by rw [trueN, hb]; rfl⟩
   have hz : ∃ y : Nat, y ≤ s.length ∧ false = inK s k y ∧ true = mxS s k y ∧ (0 : Int) = (y : Int) := ⟨0, Nat.zero_le _, rfl, rfl, rfl⟩
   refine ⟨fun h3 => ⟨hL (by omega) _, hz, fun _ _ => ⟨fun hI => ⟨fun hM => ⟨by unfold sumPre; simp; omega, by simp only [inR]; omega, k + 1, by omega, by omega, ?_⟩, fun hM => hf (by omega) ?_⟩, fun hI => hf (by omega) ?_⟩⟩, fun h3 => ?_⟩
   · have hb : pieB s k = true := by unfold pieB; rw [hI, hM]; try rfl
     rw [trueN, if_pos hb]; try rfl
   · unfold pieB; rw [hI, hM]; try rfl
   · unfold pieB; rw [hI]; try rfl
   · unfold pieL; rw [show 64 = k by omega]
theorem call22 (s : List Int) (h : ok22 s) : GCall Try.prog gl 22 true [.sl I64 s] [] [.sl I64 (pieL s)] [] := by
 refine gcall_of (X := (X [e63])) ((X_ok _)) (f := 22) (fn := Try.f22) (c := bodyOf Try.f22) (by kernel_rfl) (by kernel_rfl) (view := true) (rvs := [.tmp 2]) (by kernel_rfl) (H := (H22 s)) 80 (by kernel_rfl) ?_
 have hL := loop22 s h
 refine of_eq (q := True ∧ True ∧ True ∧ LoopOK (X [e63]) L22_0 { J := chks (0 : Nat) [(0 : Nat), (3 : Nat), (4 : Nat)] (fm22 s), exits := List.map (fun (x : List Nat × Ex) => x.snd) (ex22 s) } (RetR (X [e63]) true true [ResultVar.tmp (2 : Tmp)] [AV.sl I64 (pieL s)] []) ∧ ((∃ (y : Nat), (y ≤ 64 ∧ trueN (pieB s) y = []) ∧ (s = s ∧ True ∧ (0 : Int) = (y : Int) ∧ True) ∧ True) ∨ ∃ (y : Nat), y ≤ 64 ∧ (s = s ∧ False ∧ (0 : Int) = (y : Int) ∧ True) ∧ False) ∧ (∀ (y : Unit), pieL s = [] → True ∧ True ∧ True ∧ (([] : List Int) = pieL s ∧ True) ∧ True) ∧ (∀ (y : Unit), True → True ∧ True ∧ True ∧ (pieL s = pieL s ∧ True) ∧ True) ∧ True) (by kernel_rfl) ?_
 simp only [zz]
 exact ⟨hL _, ⟨0, ⟨Nat.zero_le _, rfl⟩, rfl⟩, fun _ h => h.symm, fun _ h => h⟩
def e22 : Entry Try.prog gl := entry1 22 ⟨Try.f22, by kernel_rfl, by kernel_rfl, by kernel_rfl⟩ SI (fun s => ok22 s) true (fun s => [.sl I64 (pieL s)]) (fun _ => []) (call22)
end Go.Am.Sh

/- Shells: tame. -/
namespace Go.Am.Sh
open Go Go.Am Go.Proofs
def hs14 : Nat → Bool := fun t => Nat.beq t 10 || Nat.beq t 30
noncomputable def Xh (l : EL) (hs : Nat → Bool) (dr : Nat → Option Nat) : Cy := { Xd l dr with hs := hs }
theorem Xh_ok (l : EL) (hs : Nat → Bool) (dr : Nat → Option Nat) : (Xh l hs dr).Ok := { tt := (Xd_ok l dr).tt, Γ := (Xd_ok l dr).Γ, Γd := (Xd_ok l dr).Γd, Yl := (Xd_ok l dr).Yl }
noncomputable abbrev X14 : Cy := Xh [e22] hs14 (drOf [(6, 11)])
def tmN (n : Int) : Int := 1 + (modU .u64 n).tmod 6
def tmS (n : Int) (l : List Int) (k : Nat) : List Int := 1 :: (l.take k).map fun x => (modU .u64 x).tmod (2 ^ (tmN n).toNat)
theorem tmN_bd (n : Int) : numOk (tmN n) := by
 have h1 : 0 ≤ modU .u64 n := u64_nn n
 have e := Int.tmod_eq_emod_of_nonneg (b := 6) h1
 unfold tmN numOk
 omega
theorem tm_pow (n : Int) : modU .u64 (1 * 2 ^ (tmN n).toNat) = 2 ^ (tmN n).toNat := by
 obtain ⟨e1, e2, e3⟩ := numOk_pow (tmN_bd n)
 rw [Int.one_mul, ← e1]
 show _ % 18446744073709551616 = _
 omega
theorem tm_pos (n : Int) : (2 : Int) ≤ 2 ^ (tmN n).toNat ∧ (2 : Int) ^ (tmN n).toNat ≤ 64 := by
 obtain ⟨e1, e2, e3⟩ := numOk_pow (tmN_bd n)
 omega
theorem tm_x {n : Int} (x : Int) : 0 ≤ (modU .u64 x).tmod (2 ^ (tmN n).toNat) ∧ (modU .u64 x).tmod (2 ^ (tmN n).toNat) < 2 ^ (tmN n).toNat ∧ (modU .u64 x).tmod (2 ^ (tmN n).toNat) < 64 := by
 have h := tm_pos n
 have h3 := Int.tmod_nonneg (a := modU .u64 x) (2 ^ (tmN n).toNat) (u64_nn x)
 have h4 := Int.tmod_lt_of_pos (modU .u64 x) (show (0 : Int) < 2 ^ (tmN n).toNat by omega)
 omega
theorem tm_mem {n : Int} {l : List Int} {k : Nat} {x : Int} (h : x ∈ tmS n l k) : 0 ≤ x ∧ x < 2 ^ (tmN n).toNat := by
 have hp := tm_pos n
 unfold tmS at h
 simp only [List.mem_cons, List.mem_map] at h
 rcases h with h | ⟨y, _, h⟩
 · omega
 · have := tm_x (n := n) y
   omega
theorem tm_ok (n : Int) (l : List Int) : ok22 (tmS n l 10) := ⟨fun x hx => by have := tm_mem hx; have := tm_pos n; omega, by unfold tmS; simp; omega⟩
theorem tm_lt (n : Int) (l : List Int) : ∀ x ∈ tmS n l 10, x < 2 ^ (tmN n).toNat := fun x hx => (tm_mem hx).2
theorem trueN_asc {g : Nat → Bool} : ∀ {k i j : Nat}, i < j → j < (trueN g k).length → (trueN g k).getD i 0 < (trueN g k).getD j 0
 | 0, i, j, _, h => by simp [trueN] at h
 | k + 1, i, j, hij, h => by
   rw [trueN] at h ⊢
   by_cases hg : g k = true
   · rw [if_pos hg] at h ⊢
     rw [List.length_append, List.length_singleton] at h
     rcases Nat.lt_or_ge j (trueN g k).length with hj | hj
     · rw [getD_append_left (by omega), getD_append_left hj]; exact trueN_asc hij hj
     · have e : (trueN g k ++ [(k : Int)]).getD j 0 = k := by
         rw [List.getD_eq_getElem?_getD, List.getElem?_append_right hj, show j - (trueN g k).length = 0 by omega]; try rfl
       rw [e, getD_append_left (by omega)]
       obtain ⟨m, h1, h2, _⟩ := trueN_mem (mem_getD (d := 0) (show i < (trueN g k).length by omega))
       omega
   · rw [if_neg hg] at h ⊢; exact trueN_asc hij h
theorem inK_iff {s : List Int} {x : Nat} : ∀ {k : Nat}, inK s x k = true ↔ ∃ i, i < k ∧ s.getD i 0 = x
 | 0 => by simp [inK]
 | k + 1 => by
   rw [inK, Bool.or_eq_true, inK_iff, decide_eq_true_eq]
   constructor
   · rintro (⟨i, h1, h2⟩ | h)
     · exact ⟨i, by omega, h2⟩
     · exact ⟨k, by omega, h⟩
   · rintro ⟨i, h1, h2⟩
     rcases Nat.lt_or_ge i k with h3 | h3
     · exact .inl ⟨i, h3, h2⟩
     · exact .inr (by rw [show k = i by omega]; exact h2)
theorem mxS_iff {s : List Int} {x : Nat} : ∀ {k : Nat}, mxS s x k = true ↔ ∀ i, i < k → s.getD i 0 = x ∨ sub x (s.getD i 0).toNat = false
 | 0 => by simp [mxS]
 | k + 1 => by
   rw [mxS, Bool.and_eq_true, mxS_iff, Bool.or_eq_true, decide_eq_true_eq, Bool.not_eq_true']
   constructor
   · rintro ⟨h1, h2⟩ i hi
     rcases Nat.lt_or_ge i k with h3 | h3
     · exact h1 i h3
     · rw [show i = k by omega]; exact h2
   · intro h
     exact ⟨fun i hi => h i (by omega), h k (by omega)⟩
theorem pie_mem {s : List Int} {y : Int} (h : y ∈ pieL s) : ∃ x : Nat, y = x ∧ x < 64 ∧ (∃ i, i < s.length ∧ s.getD i 0 = x) ∧ ∀ i, i < s.length → s.getD i 0 = x ∨ sub x (s.getD i 0).toNat = false := by
 obtain ⟨x, h1, h2, h3⟩ := trueN_mem h
 unfold pieB at h3
 rw [Bool.and_eq_true, inK_iff, mxS_iff] at h3
 exact ⟨x, h1, h2, h3.1, h3.2⟩
theorem pie_pos {s : List Int} (h1 : ∃ i, i < s.length ∧ 1 ≤ s.getD i 0) : ∀ y ∈ pieL s, 1 ≤ y := fun y hy => by
 obtain ⟨x, rfl, h2, h3, h4⟩ := pie_mem hy
 obtain ⟨i, hi, h5⟩ := h1
 rcases Nat.eq_zero_or_pos x with h0 | h0
 · subst h0
   rcases h4 i hi with h6 | h6
   · omega
   · rw [sub_zero] at h6; cases h6
 · omega
theorem max_ex (s : List Int) : ∀ k, ∃ i, i < k + 1 ∧ ∀ j, j < k + 1 → s.getD j 0 ≤ s.getD i 0
 | 0 => ⟨0, by omega, fun j hj => by rw [show j = 0 by omega]; exact Int.le_refl _⟩
 | k + 1 => by
   obtain ⟨i, h1, h2⟩ := max_ex s k
   by_cases h : s.getD i 0 ≤ s.getD (k + 1) 0
   · refine ⟨k + 1, by omega, fun j hj => ?_⟩
     rcases Nat.lt_or_ge j (k + 1) with h3 | h3
     · exact Int.le_trans (h2 j h3) h
     · rw [show j = k + 1 by omega]; exact Int.le_refl _
   · refine ⟨i, by omega, fun j hj => ?_⟩
     rcases Nat.lt_or_ge j (k + 1) with h3 | h3
     · exact h2 j h3
     · rw [show j = k + 1 by omega]; omega
theorem pie_ne {s : List Int} (h : okL s) (hl : 1 ≤ s.length) : 1 ≤ (pieL s).length := by
 obtain ⟨k, hk⟩ : ∃ k, s.length = k + 1 := ⟨s.length - 1, by omega⟩
 obtain ⟨i, h1, h2⟩ := max_ex s k
 have hr := okL_get h i
 have hb : pieB s (s.getD i 0).toNat = true := by
   unfold pieB
   rw [Bool.and_eq_true, inK_iff, mxS_iff]
   refine ⟨⟨i, by omega, by omega⟩, fun j hj => ?_⟩
   have h3 := h2 j (by omega)
   have h4 := okL_get h j
   cases hs : sub (s.getD i 0).toNat (s.getD j 0).toNat with
   | false => exact .inr rfl
   | true => have := sub_le hs; exact .inl (by omega)
 have := trueN_has (g := pieB s) (k := 64) (by omega) hb
 exact List.length_pos_of_mem this
theorem take_get {l : List Int} {k m : Nat} (h : k < m) : (l.take m).getD k 0 = l.getD k 0 := by
 rw [List.getD_eq_getElem?_getD, List.getD_eq_getElem?_getD, List.getElem?_take_of_lt h]
theorem pie_cx {n : Int} {s : List Int} (hn : numOk n) (h : ok22 s) (hlt : ∀ x ∈ s, x < 2 ^ n.toNat) (h1 : ∃ i, i < s.length ∧ 1 ≤ s.getD i 0) : cxOk n ((pieL s).take 10) := by
 have hne := pie_ne h.h (by obtain ⟨i, hi, _⟩ := h1; omega)
 have hlen : ((pieL s).take 10).length ≤ 10 ∧ 1 ≤ ((pieL s).take 10).length ∧ ((pieL s).take 10).length ≤ (pieL s).length := by rw [List.length_take]; omega
 refine ⟨hn, ⟨hlen.2.1, hlen.1⟩, fun k hk => ?_⟩
 have hk1 : k < (pieL s).length := by omega
 have hmem := mem_getD (d := (0 : Int)) hk1
 have hpos := pie_pos h1 _ hmem
 obtain ⟨x, e, hx, ⟨i, hi, hi2⟩, hmx⟩ := pie_mem hmem
 have hrk := trueN_ok (pieB s) _ hmem
 refine ⟨by rw [take_get (by omega)]; exact hpos, by rw [take_get (by omega), e, ← hi2]; exact hlt _ (mem_getD hi), fun h0 => by rw [take_get (by omega), take_get (by omega)]; exact trueN_asc (by omega) hk1, fun j hj hne2 => ?_⟩
 have hj1 : j < (pieL s).length := by omega
 have hmem2 := mem_getD (d := (0 : Int)) hj1
 obtain ⟨y, e2, hy, ⟨i2, hi3, hi4⟩, hmy⟩ := pie_mem hmem2
 have hrj := trueN_ok (pieB s) _ hmem2
 rw [take_get (by omega), take_get (by omega), Ne, sub_and hrk hrj, e, e2, Int.toNat_natCast, Int.toNat_natCast]
 rcases hmx i2 hi3 with h5 | h5
 · exfalso
   have hxy : (pieL s).getD k 0 = (pieL s).getD j 0 := by omega
   rcases Nat.lt_or_ge j k with h6 | h6
   · have := trueN_asc (g := pieB s) (k := 64) h6 hk1
     unfold pieL at hxy; omega
   · have := trueN_asc (g := pieB s) (k := 64) (show k < j by omega) hj1
     unfold pieL at hxy; omega
 · rw [hi4, Int.toNat_natCast] at h5
   rw [h5]; simp
noncomputable def L14_0 : Code := lp (bodyOf Try.f14) 0
def st14 (n : Int) (l : List Int) (k : Nat) : St := ⟨.int .i64 (tmN n) :: .sl I64 l :: dd 4 ++ .own 0 0 :: .int .i64 k :: dd 51, [.sc 0 3 I64 (tmS n l k)]⟩
def in14 (l : List Int) (k : Nat) : Prop := k ≤ l.length ∧ k ≤ 10
def ex14 (n : Int) (l : List Int) : List (List Nat × Ex) := [([0, 6], ⟨0, Unit, fun _ => True, fun _ => ⟨.int .i64 (tmN n) :: dd 5 ++ .own 0 0 :: dd 52, [.sc 0 3 I64 (tmS n l 10)]⟩⟩)]
noncomputable def H14 (n : Int) (l : List Int) : Nat → Option Hint := fun _ => some ⟨chk 0 [0, 1, 6, 7] (in14 l) (st14 n l), (ex14 n l).map (·.2)⟩
theorem loop14 (n : Int) (l : List Int) (hl : l.length < 1000000000000000) (R : Exit → St → Prop) : LoopOK X14 L14_0 ⟨chk 0 [0, 1, 6, 7] (in14 l) (st14 n l), (ex14 n l).map (·.2)⟩ R := by
 refine loop_ok (Xh_ok _ _ _) (H := fun _ _ => none) [0, 1, 6, 7] (in14 l) (st14 n l) (fun k => l.length - k) (ex14 n l) 150 fun (k : Nat) hk => ?_
 refine of_eq (q := True ∧ True ∧ True ∧ True ∧ True ∧ ((k : Int) < (l.length : Int) → True ∧ True ∧ True ∧ ((k : Int) < 10 → True ∧ True ∧ True ∧ idxPre (k : Int) l.length ∧ True ∧ True ∧ True ∧ (((0 : Int) ≤ tmN n ∧ tmN n < bitsOf .u64) ∧ True) ∧ ¬modU .u64 ((1 : Int) * 2 ^ (tmN n).toNat) = 0 ∧ inR .i64 ((modU .u64 (l.getD k (0 : Int))).tmod (modU .u64 ((1 : Int) * 2 ^ (tmN n).toNat))) ∧ True ∧ sumPre (tmS n l k).length [(modU .u64 (l.getD k (0 : Int))).tmod (modU .u64 ((1 : Int) * 2 ^ (tmN n).toNat))].length (nat_lit 8) ∧ True ∧ True ∧ inR .i64 ((k : Int) + 1) ∧ True ∧ ∃ (y : Nat), (in14 l y ∧ l.length - y < l.length - k) ∧ (tmN n = tmN n ∧ l = l ∧ True ∧ (k : Int) + 1 = (y : Int) ∧ True) ∧ tmS n l k ++ [(modU .u64 (l.getD k (0 : Int))).tmod (modU .u64 ((1 : Int) * 2 ^ (tmN n).toNat))] = tmS n l y ∧ True) ∧ (¬(k : Int) < 10 → ∃ (y : Unit), True ∧ (tmN n = tmN n ∧ True ∧ True) ∧ tmS n l k = tmS n l (10 : Nat) ∧ True)) ∧ (¬(k : Int) < (l.length : Int) → True ∧ ∃ (y : Unit), True ∧ (tmN n = tmN n ∧ True ∧ True) ∧ tmS n l k = tmS n l (10 : Nat) ∧ True)) (by kernel_rfl) ?_
 simp only [zz]
 obtain ⟨k1, k2⟩ := hk
 obtain ⟨b1, b2⟩ := tmN_bd n
 have hp := tm_pow n
 refine ⟨fun h => ⟨fun h2 => ?_, fun h2 => by rw [show k = 10 by omega]⟩, fun h => ?_⟩
 · rw [hp]
   have hx := tm_x (n := n) (l.getD k 0)
   have hlen : (tmS n l k).length ≤ 11 := by unfold tmS; simp; omega
   refine ⟨idx_nat (by omega), ⟨by omega, by simp only [bitsOf]; omega⟩, by have := tm_pos n; omega, by simp only [inR]; omega, by unfold sumPre; simp; omega, by simp only [inR]; omega, k + 1, ⟨⟨by omega, by omega⟩, by omega⟩, by omega, ?_⟩
   unfold tmS
   rw [take_getD (d := 0) (show k < l.length by omega), List.map_append]
   rfl
 · unfold tmS
   rw [List.take_of_length_le (by omega), List.take_of_length_le (by omega)]
def tmP (n : Int) (l : List Int) : List Int := (pieL (tmS n l 10)).take 10
theorem call14 (n : Int) (l : List Int) (hl : l.length < 1000000000000000) : GCall Try.prog gl 14 false [.int .i64 n, .sl I64 l] [] [.int .i64 (tmN n), .sl I64 (tmP n l)] [] := by
 refine gcall_of (X := X14) ((Xh_ok _ _ _)) (f := 14) (fn := Try.f14) (c := bodyOf Try.f14) (by kernel_rfl) (by kernel_rfl) (view := true) (rvs := [.tmp 4, .tmp 5]) (by kernel_rfl) (H := (H14 n l)) 200 (by kernel_rfl) ?_
 have hL := loop14 n l hl
 refine of_eq (q := True ∧ True ∧ True ∧ True ∧ ¬(6 : Int) = 0 ∧ inR .i64 ((modU .u64 n).tmod (6 : Int)) ∧ inR .i64 ((1 : Int) + (modU .u64 n).tmod (6 : Int)) ∧ True ∧ True ∧ True ∧ True ∧ LoopOK X14 L14_0 { J := chk (0 : Nat) [(0 : Nat), (1 : Nat), (6 : Nat), (7 : Nat)] (in14 l) (st14 n l), exits := List.map (fun (x : List Nat × Ex) => x.snd) (ex14 n l) } (RetR X14 false true [ResultVar.tmp (4 : Tmp), ResultVar.tmp (5 : Tmp)] [AV.int .i64 (tmN n), AV.sl I64 (tmP n l)] []) ∧ (∃ (y : Nat), in14 l y ∧ ((1 : Int) + (modU .u64 n).tmod (6 : Int) = tmN n ∧ l = l ∧ True ∧ (0 : Int) = (y : Int) ∧ True) ∧ [(1 : Int)] = tmS n l y ∧ True) ∧ (∀ (y : Unit), True → True ∧ (ok22 (tmS n l (10 : Nat)) ∧ True) ∧ True ∧ True ∧ True ∧ True ∧ True ∧ ((1 : Int) < (↑(pieL (tmS n l (10 : Nat))).length : Int) → True ∧ idxPre (0 : Int) (pieL (tmS n l (10 : Nat))).length ∧ True ∧ True ∧ True ∧ ((pieL (tmS n l (10 : Nat))).getD (0 : Nat) (0 : Int) = 0 → True ∧ slPre (pieL (tmS n l (10 : Nat))).length (pieL (tmS n l (10 : Nat))).length (some (1 : Int)) none none ∧ True ∧ True ∧ True ∧ True ∧ True ∧ True ∧ True ∧ True ∧ True ∧ slPre (cutL (pieL (tmS n l (10 : Nat))) (some (1 : Int)) none).length (cutL (pieL (tmS n l (10 : Nat))) (some (1 : Int)) none).length none (some (minI (↑(cutL (pieL (tmS n l (10 : Nat))) (some (1 : Int)) none).length : Int) (10 : Int))) (some (minI (↑(cutL (pieL (tmS n l (10 : Nat))) (some (1 : Int)) none).length : Int) (10 : Int))) ∧ True ∧ True ∧ True ∧ (tmN n = tmN n ∧ cutL (cutL (pieL (tmS n l (10 : Nat))) (some (1 : Int)) none) none (some (minI (↑(cutL (pieL (tmS n l (10 : Nat))) (some (1 : Int)) none).length : Int) (10 : Int))) = tmP n l ∧ True) ∧ True) ∧ (¬(pieL (tmS n l (10 : Nat))).getD (0 : Nat) (0 : Int) = 0 → True ∧ True ∧ True ∧ True ∧ True ∧ True ∧ True ∧ True ∧ slPre (pieL (tmS n l (10 : Nat))).length (pieL (tmS n l (10 : Nat))).length none (some (minI (↑(pieL (tmS n l (10 : Nat))).length : Int) (10 : Int))) (some (minI (↑(pieL (tmS n l (10 : Nat))).length : Int) (10 : Int))) ∧ True ∧ True ∧ True ∧ (tmN n = tmN n ∧ cutL (pieL (tmS n l (10 : Nat))) none (some (minI (↑(pieL (tmS n l (10 : Nat))).length : Int) (10 : Int))) = tmP n l ∧ True) ∧ True)) ∧ (¬(1 : Int) < (↑(pieL (tmS n l (10 : Nat))).length : Int) → True ∧ True ∧ True ∧ True ∧ True ∧ True ∧ True ∧ True ∧ True ∧ slPre (pieL (tmS n l (10 : Nat))).length (pieL (tmS n l (10 : Nat))).length none (some (minI (↑(pieL (tmS n l (10 : Nat))).length : Int) (10 : Int))) (some (minI (↑(pieL (tmS n l (10 : Nat))).length : Int) (10 : Int))) ∧ True ∧ True ∧ True ∧ (tmN n = tmN n ∧ cutL (pieL (tmS n l (10 : Nat))) none (some (minI (↑(pieL (tmS n l (10 : Nat))).length : Int) (10 : Int))) = tmP n l ∧ True) ∧ True)) ∧ True) (by kernel_rfl) ?_
 simp only [zz]
 obtain ⟨b1, b2⟩ := tmN_bd n
 have hb : 1 + (modU .u64 n).tmod 6 = tmN n := rfl
 have hz : ∀ L : List Int, cutL L none (some (minI (L.length : Int) 10)) = L.take 10 ∧ slPre L.length L.length none (some (minI (L.length : Int) 10)) (some (minI (L.length : Int) 10)) := fun L => by
   unfold minI cutL slPre
   simp only
   by_cases h : (10 : Int) < L.length
   · rw [if_pos h]; exact ⟨rfl, by omega⟩
   · rw [if_neg h, Int.toNat_natCast]
     exact ⟨by rw [List.take_of_length_le (Nat.le_refl _), List.take_of_length_le (by omega)], by omega⟩
 rw [hb]
 obtain ⟨z1, z2⟩ := hz (pieL (tmS n l 10))
 refine ⟨by decide, by simp only [inR]; omega, by simp only [inR]; omega, hL _, ⟨0, ⟨Nat.zero_le _, Nat.zero_le _⟩, ⟨rfl, rfl⟩, by simp [tmS]⟩, fun _ _ => ⟨tm_ok n l, fun h => ⟨by unfold idxPre; omega, fun h0 => ?_, fun _ => ⟨z2, z1⟩⟩, fun _ => ⟨z2, z1⟩⟩⟩
 exfalso
 have := pie_pos (s := tmS n l 10) ⟨0, by simp [tmS], by simp [tmS]⟩ _ (mem_getD (d := 0) (show 0 < (pieL (tmS n l 10)).length by omega))
 omega
theorem tm_cx (n : Int) (l : List Int) : cxOk (tmN n) (tmP n l) := pie_cx (tmN_bd n) (tm_ok n l) (tm_lt n l) ⟨0, by simp [tmS], by simp [tmS]⟩
end Go.Am.Sh

/- Shells: the reference's Counts, choose, Hs, Euler. -/
namespace Go.Am.Sh
open Go Go.Am Go.Proofs
def e14 : Entry Try.prog gl := entry2 14 ⟨Try.f14, by kernel_rfl, by kernel_rfl, by kernel_rfl⟩ I64 SI (fun (_ : Int) l => (l : List Int).length < 1000000000000000) false (fun n l => [.int .i64 (tmN n), .sl I64 (tmP n l)]) (fun _ _ => []) (call14)
theorem trueN_cut {g : Nat → Bool} {m : Nat} : ∀ {k : Nat}, (∀ x, m ≤ x → x < m + k → g x = false) → trueN g (m + k) = trueN g m
 | 0, _ => rfl
 | k + 1, h => by
   rw [show m + (k + 1) = m + k + 1 by omega, trueN, h (m + k) (by omega) (by omega)]
   exact trueN_cut fun x h1 h2 => h x h1 (by omega)
theorem isF_lt {n : Int} {p : List Int} (h : cxOk n p) {x : Nat} (hx : isF p x = true) : x < 2 ^ n.toNat := by
 unfold isF at hx
 rw [List.any_eq_true] at hx
 obtain ⟨s, hs, h2⟩ := hx
 have h3 := sub_le h2
 obtain ⟨k, hk, rfl⟩ := List.getElem_of_mem hs
 have h4 := (h.2.2 k hk).2.1
 rw [getD_lt hk] at h4
 obtain ⟨e1, e2, e3⟩ := numOk_pow h.1
 have h5 := h.ok _ hs
 omega
theorem facesN_trueN (p : List Int) : ∀ k, facesN p k = trueN (isF p) k
 | 0 => rfl
 | k + 1 => by rw [facesN, trueN, facesN_trueN p k]
theorem faces_fcs {n : Int} {p : List Int} (h : cxOk n p) : facesL n p = fcs p := by
 obtain ⟨e1, e2, e3⟩ := numOk_pow h.1
 have := trueN_cut (g := isF p) (m := 2 ^ n.toNat) (k := 64 - 2 ^ n.toNat) fun x h1 _ => by
   cases hx : isF p x with
   | false => rfl
   | true => have := isF_lt h hx; omega
 rw [show 2 ^ n.toNat + (64 - 2 ^ n.toNat) = 64 by omega] at this
 unfold fcs facesL
 rw [this, facesN_trueN]
def chK (n : Int) : Nat → Int
 | 0 => 1
 | k + 1 => (chK n k * (n - (k + 1) + 1)).tdiv (k + 1)
end Go.Am.Sh

/- Shells: the reference's Hs and Euler. -/
namespace Go.Am.Sh
open Go Go.Am Go.Proofs
def sg (j : Nat) : Int := 1 - 2 * ((j % 2 : Nat) : Int)
def htm (f : List Int) (k i : Nat) : Int := f.getD i 0 * chK ((f.length - 1 - i : Nat) : Int) (k - i) * sg (k - i)
def hsum (f : List Int) (k : Nat) : Nat → Int
 | 0 => 0
 | i + 1 => hsum f k i + htm f k i
def rhL (f : List Int) : List Int := (List.range f.length).map fun j => hsum f j (j + 1)
structure okF (f : List Int) : Prop where
 b : bdd 64 f
 l : 1 ≤ f.length ∧ f.length ≤ 7
end Go.Am.Sh

/- Shells: the law of the counts. -/
namespace Go.Am.Sh
open Go Go.Am Go.Proofs
theorem hq1 (a : Int) : hsK [a] 1 = rhL [a] := by
 simp [hsK, rhL, hsum, htm, sg, chK]
theorem hq2 (a b : Int) : hsK [a, b] 2 = rhL [a, b] := by
 simp [hsK, rhL, hsum, htm, sg, chK, triJ, List.range_succ]
 try omega
theorem hq3 (a b c : Int) : hsK [a, b, c] 3 = rhL [a, b, c] := by
 simp [hsK, rhL, hsum, htm, sg, chK, triJ, List.range_succ]
 try omega
theorem hq4 (a b c d : Int) : hsK [a, b, c, d] 4 = rhL [a, b, c, d] := by
 simp [hsK, rhL, hsum, htm, sg, chK, triJ, List.range_succ]
 try omega
theorem hq5 (a b c d e : Int) : hsK [a, b, c, d, e] 5 = rhL [a, b, c, d, e] := by
 simp [hsK, rhL, hsum, htm, sg, chK, triJ, List.range_succ]
 try omega
theorem hq6 (a b c d e f : Int) : hsK [a, b, c, d, e, f] 6 = rhL [a, b, c, d, e, f] := by
 simp [hsK, rhL, hsum, htm, sg, chK, triJ, List.range_succ]
 try omega
theorem hq7 (a b c d e f g : Int) : hsK [a, b, c, d, e, f, g] 7 = rhL [a, b, c, d, e, f, g] := by
 simp [hsK, rhL, hsum, htm, sg, chK, triJ, List.range_succ]
 try omega
theorem hs_all (f : List Int) (h : 1 ≤ f.length ∧ f.length ≤ 7) : hsK f f.length = rhL f := by
 match f, h with
 | [], h => simp at h
 | [a], _ => exact hq1 a
 | [a, b], _ => exact hq2 a b
 | [a, b, c], _ => exact hq3 a b c
 | [a, b, c, d], _ => exact hq4 a b c d
 | [a, b, c, d, e], _ => exact hq5 a b c d e
 | [a, b, c, d, e, f], _ => exact hq6 a b c d e f
 | [a, b, c, d, e, f, g], _ => exact hq7 a b c d e f g
 | _ :: _ :: _ :: _ :: _ :: _ :: _ :: _ :: _, h => simp at h
theorem okF_cnts (p : List Int) : okF (cnts p) := ⟨cnts_bdd p, by have := mxL_le p; rw [cnts_length]; omega⟩
theorem hs_eq (p : List Int) : hsL p = rhL (cnts p) := hs_all _ (okF_cnts p).l
end Go.Am.Sh

/- Shells: Made. -/
namespace Go.Am.Sh
open Go Go.Am Go.Proofs
def obN (n : Int) : List Ob := [.bx (.int .i64 n)]
def badB (n s : Int) : Bool := decide (s < 0 ∨ 2 ^ n.toNat ≤ s)
theorem call60 (n s : Int) (h : numOk n) : GCall Try.prog gl 60 false [.int .i64 s, .ptr 0 0 []] (obN n) [.bool (badB n s)] (obN n) := by
 refine gcall_of (X := (Xm [] 1 (fun _ => none))) ((Xm_ok _ _ _)) (f := 60) (fn := Try.f60) (c := bodyOf Try.f60) (by kernel_rfl) (by kernel_rfl) (view := false) (rvs := [.tmp 3]) (by kernel_rfl) (H := fun _ => none) 80 (by kernel_rfl) ?_
 refine of_eq (q := True ∧ True ∧ True ∧ True ∧ (s < 0 → True ∧ True ∧ True ∧ (true = badB n s ∧ True) ∧ n = n ∧ True) ∧ (¬s < 0 → True ∧ True ∧ inR .u64 n ∧ (((0 : Int) ≤ n ∧ n < bitsOf .i64) ∧ (-9223372036854775808 : Int) ≤ 1 * 2 ^ n.toNat ∧ (1 : Int) * 2 ^ n.toNat ≤ 9223372036854775807) ∧ True ∧ True ∧ True ∧ True ∧ (decide ((1 : Int) * 2 ^ n.toNat ≤ s) = badB n s ∧ True) ∧ n = n ∧ True)) (by kernel_rfl) ?_
 simp only [zz]
 obtain ⟨e1, e2, e3⟩ := numOk_pow h
 obtain ⟨n1, n2⟩ := h
 rw [Int.one_mul, ← e1]
 refine ⟨fun hs => (decide_eq_true (.inl hs)).symm, fun hs => ⟨by simp only [inR]; omega, ⟨⟨by omega, by simp only [bitsOf]; omega⟩, by omega, by omega⟩, ?_⟩⟩
 unfold badB
 rw [← e1, decide_eq_decide]; omega
def get60 (xs : List AV) (obs : List Ob) : Option (Int × Int) :=
 match xs, obs with
 | [.int .i64 s, _], [.bx (.int .i64 n)] => some (n, s)
 | _, _ => none
def e60 : Entry Try.prog gl := entryW 60 ⟨Try.f60, by kernel_rfl, by kernel_rfl, by kernel_rfl⟩ true get60 (fun x => numOk x.1) false (fun x => [.int .i64 x.2, .ptr 0 0 []]) (fun x => obN x.1) (fun x => [.bool (badB x.1 x.2)]) (fun x => obN x.1) (fun x h => call60 _ _ h)
def clo60 : AV := .clo 60 [] [.ptr 0 0 []]
def bdX (n : Int) (p : List Int) : Int := if ∃ s ∈ p, badB n s = true then ((p.findIdx (badB n) : Nat) : Int) else -1
def iv83 (n : Int) (p : List Int) (k : Nat) : Prop := k ≤ p.length ∧ ∀ q ∈ p.take k, badB n q = false
def su83 (n : Int) (p : List Int) (k : Nat) : St := ⟨.sl I64 p :: clo60 :: dd 5 ++ .int .i64 p.length :: .int .i64 k :: dd 10, obN n⟩
def ev83 (n : Int) (p : List Int) : List (List Nat × Ex) := [([], ⟨0, Unit, fun _ => ∀ q ∈ p, badB n q = false, fun _ => ⟨dd 19, obN n⟩⟩)]
noncomputable def Hv83 (n : Int) (p : List Int) : Nat → Option Hint := fun _ => some ⟨chk 1 [0, 1, 7, 8] (iv83 n p) (su83 n p), (ev83 n p).map (·.2)⟩
noncomputable abbrev Xv83 : Cy := Xm [e60] 1 (fun _ => none)
theorem loop83m (n : Int) (p : List Int) (hn : numOk n) (hl : p.length ≤ 64) : LoopOK Xv83 L83_0 ⟨chk 1 [0, 1, 7, 8] (iv83 n p) (su83 n p), (ev83 n p).map (·.2)⟩ (RetR Xv83 false false [.tmp 4] [.int .i64 (bdX n p)] (obN n)) := by
 refine loop_ok (Xm_ok _ _ _) (H := fun _ _ => none) [0, 1, 7, 8] (iv83 n p) (su83 n p) (fun k => p.length - k) (ev83 n p) 90 fun (k : Nat) hk => ?_
 refine of_eq (q := True ∧ ((k : Int) < (p.length : Int) → True ∧ True ∧ True ∧ True ∧ True ∧ idxPre (k : Int) p.length ∧ True ∧ ((numOk n ∧ (p.getD k (0 : Int) = p.getD k (0 : Int) ∧ True ∧ True) ∧ n = n ∧ True) ∧ True ∧ True) ∧ (badB n (p.getD k (0 : Int)) = true → True ∧ True ∧ True ∧ ((k : Int) = bdX n p ∧ True) ∧ n = n ∧ True) ∧ (badB n (p.getD k (0 : Int)) = false → inR .i64 ((k : Int) + 1) ∧ True ∧ ∃ (y : Nat), (iv83 n p y ∧ p.length - y < p.length - k) ∧ (p = p ∧ (True ∧ True ∧ True) ∧ (p.length : Int) = (p.length : Int) ∧ (k : Int) + 1 = (y : Int) ∧ True) ∧ n = n ∧ True)) ∧ (¬(k : Int) < (p.length : Int) → ∃ (y : Unit), (∀ (q : Int), q ∈ p → badB n q = false) ∧ True ∧ n = n ∧ True)) (by kernel_rfl) ?_
 simp only [zz]
 obtain ⟨h1, h2⟩ := hk
 refine ⟨fun hk => ?_, fun hk => ?_⟩
 · have hk : k < p.length := by omega
   refine ⟨idx_nat hk, hn, fun hx => ?_, fun hx => ⟨by simp only [inR]; omega, k + 1, ⟨⟨by omega, (all_take (d := 0) hk).mpr ⟨h2, hx⟩⟩, by omega⟩, by omega⟩⟩
   unfold bdX
   rw [if_pos ⟨_, mem_getD hk, hx⟩, find_at hk h2 hx]
 · rwa [List.take_of_length_le (by omega)] at h2
theorem call83m (n : Int) (p : List Int) (hn : numOk n) (hl : p.length ≤ 64) : GCall Try.prog gl 83 false [.sl I64 p, clo60] (obN n) [.int .i64 (bdX n p)] (obN n) := by
 refine gcall_of (X := Xv83) ((Xm_ok _ _ _)) (f := 83) (fn := Try.f83) (c := bodyOf Try.f83) (by kernel_rfl) (by kernel_rfl) (view := false) (rvs := [.tmp 4]) (by kernel_rfl) (H := (Hv83 n p)) 80 (by kernel_rfl) ?_
 have hL := loop83m n p hn hl
 refine of_eq (q := True ∧ True ∧ True ∧ True ∧ LoopOK Xv83 L83_0 { J := chk (1 : Nat) [(0 : Nat), (1 : Nat), (7 : Nat), (8 : Nat)] (iv83 n p) (su83 n p), exits := List.map (fun (x : List Nat × Ex) => x.snd) (ev83 n p) } (RetR Xv83 false false [ResultVar.tmp (4 : Tmp)] [AV.int .i64 (bdX n p)] (obN n)) ∧ (∃ (y : Nat), iv83 n p y ∧ (p = p ∧ (True ∧ True ∧ True) ∧ (p.length : Int) = (p.length : Int) ∧ (0 : Int) = (y : Int) ∧ True) ∧ n = n ∧ True) ∧ (∀ (y : Unit), (∀ (q : Int), q ∈ p → badB n q = false) → True ∧ True ∧ ((-1 : Int) = bdX n p ∧ True) ∧ n = n ∧ True) ∧ True) (by kernel_rfl) ?_
 simp only [zz]
 refine ⟨hL, ⟨0, ⟨by omega, by simp⟩, rfl⟩, fun _ h => ?_⟩
 unfold bdX; rw [if_neg]
 rintro ⟨q, h1, h2⟩
 rw [h q h1] at h2; cases h2
def get83m (xs : List AV) (obs : List Ob) : Option (List Int × Int) :=
 match xs, obs with
 | [.sl e l, _], [.bx (.int .i64 n)] => (castL e I64 l).map fun l => (l, n)
 | _, _ => none
structure ok83m (x : List Int × Int) : Prop where
 n : numOk x.2
 l : x.1.length ≤ 64
def e83m : Entry Try.prog gl := entryW 83 ⟨Try.f83, by kernel_rfl, by kernel_rfl, by kernel_rfl⟩ true get83m ok83m false (fun x => [.sl I64 x.1, clo60]) (fun x => obN x.2) (fun x => [.int .i64 (bdX x.2 x.1)]) (fun x => obN x.2) (fun x h => call83m _ _ h.n h.l)
def badL (n : Int) (p : List Int) : Bool := p.any (badB n)
theorem bdX_iff {n : Int} {p : List Int} : 0 ≤ bdX n p ↔ badL n p = true := by
 unfold bdX badL
 rw [List.any_eq_true]
 constructor
 · intro h
   refine Classical.byContradiction fun h2 => ?_
   rw [if_neg h2] at h
   omega
 · intro h
   rw [if_pos h]; omega
theorem call59m (n : Int) (p : List Int) (hn : numOk n) (hl : p.length ≤ 64) : GCall Try.prog gl 59 false [.sl I64 p, clo60] (obN n) [.bool (badL n p)] (obN n) := by
 refine gcall_of (X := (Xm [e83m] 1 (fun _ => none))) ((Xm_ok _ _ _)) (f := 59) (fn := Try.f59) (c := bodyOf Try.f59) (by kernel_rfl) (by kernel_rfl) (view := false) (rvs := [.tmp 4]) (by kernel_rfl) (H := fun _ => none) 80 (by kernel_rfl) ?_
 refine of_eq (q := True ∧ True ∧ True ∧ ((ok83m (p, n) ∧ (p = p ∧ (True ∧ True ∧ True) ∧ True) ∧ n = n ∧ True) ∧ True ∧ True) ∧ True ∧ True ∧ True ∧ (decide ((0 : Int) ≤ bdX n p) = badL n p ∧ True) ∧ n = n ∧ True) (by kernel_rfl) ?_
 simp only [zz]
 refine ⟨⟨hn, hl⟩, ?_⟩
 have := bdX_iff (n := n) (p := p)
 cases h : badL n p <;> simp [h] at this ⊢ <;> omega
def e59m : Entry Try.prog gl := entryW 59 ⟨Try.f59, by kernel_rfl, by kernel_rfl, by kernel_rfl⟩ true get83m ok83m false (fun x => [.sl I64 x.1, clo60]) (fun x => obN x.2) (fun x => [.bool (badL x.2 x.1)]) (fun x => obN x.2) (fun x h => call59m _ _ h.n h.l)
def madOk (n : Int) (p : List Int) : Prop := numOk n ∧ p.length ≤ 64 ∧ badL n p = false
instance (n p) : Decidable (madOk n p) := by unfold madOk numOk; infer_instance
theorem grow_one : ∀ x s : Fin 64, sub x.val s.val = true → x.val ≠ s.val → ∃ v : Fin 6, x.val ||| 2 ^ v.val ≠ x.val ∧ sub (x.val ||| 2 ^ v.val) s.val = true := by decide +kernel
theorem sub_or : ∀ x s : Fin 64, ∀ v : Fin 6, sub (x.val ||| 2 ^ v.val) s.val = true → sub x.val s.val = true ∧ (x.val ||| 2 ^ v.val ≠ x.val → x.val ≠ s.val) := by decide +kernel
theorem isF_iff {s : List Int} {x : Nat} : isF s x = true ↔ ∃ i, i < s.length ∧ sub x (s.getD i 0).toNat = true := by
 unfold isF
 rw [List.any_eq_true]
 constructor
 · rintro ⟨a, ha, h⟩
   obtain ⟨i, hi, e⟩ := List.getElem_of_mem ha
   exact ⟨i, hi, by rw [getD_lt hi, e]; exact h⟩
 · rintro ⟨i, hi, h⟩
   exact ⟨_, mem_getD hi, h⟩
theorem grt_pie {s : List Int} (h : okL s) {x : Nat} (hx : x < 64) : grtB (isF s) x = pieB s x := by
 have hr := okL_get h
 rw [Bool.eq_iff_iff]
 unfold grtB pieB
 rw [Bool.and_eq_true, Bool.and_eq_true, inK_iff, mxS_iff, isF_iff, List.all_eq_true]
 constructor
 · rintro ⟨⟨i, hi, h1⟩, h2⟩
   have key : ∀ j, j < s.length → sub x (s.getD j 0).toNat = true → x = (s.getD j 0).toNat := fun j hj hs => by
     refine Classical.byContradiction fun hne => ?_
     obtain ⟨v, h3, h4⟩ := grow_one ⟨x, hx⟩ ⟨(s.getD j 0).toNat, by have := hr j; omega⟩ hs hne
     have h5 := h2 v.val (List.mem_range.mpr v.isLt)
     have h6 : isF s (x ||| 2 ^ v.val) = true := isF_iff.mpr ⟨j, hj, h4⟩
     simp only at h3
     rw [h6, decide_eq_false h3] at h5
     cases h5
   refine ⟨⟨i, hi, by have := key i hi h1; have := hr i; omega⟩, fun j hj => ?_⟩
   cases hs : sub x (s.getD j 0).toNat with
   | false => exact .inr rfl
   | true => exact .inl (by have := key j hj hs; have := hr j; omega)
 · rintro ⟨⟨i, hi, h1⟩, h2⟩
   refine ⟨⟨i, hi, by rw [h1, Int.toNat_natCast]; exact sub_self x⟩, fun v hv => ?_⟩
   have hv := List.mem_range.mp hv
   by_cases he : x ||| 2 ^ v = x
   · rw [decide_eq_true he]; try rfl
   · rw [decide_eq_false he]
     cases hf : isF s (x ||| 2 ^ v) with
     | false => rfl
     | true =>
       exfalso
       obtain ⟨j, hj, h3⟩ := isF_iff.mp hf
       obtain ⟨h4, h5⟩ := sub_or ⟨x, hx⟩ ⟨(s.getD j 0).toNat, by have := hr j; omega⟩ ⟨v, hv⟩ h3
       have h5 := h5 he
       simp only at h4 h5
       rcases h2 j hj with h6 | h6
       · omega
       · rw [h6] at h4; cases h4
theorem grL_pie {s : List Int} (h : okL s) : grL (isF s) = pieL s := trueN_ext fun x hx => grt_pie h hx
end Go.Am.Sh

/- Shells: the reference's Moment. -/
namespace Go.Am.Sh
open Go Go.Am Go.Proofs
def gapB (k a b : Nat) : Bool := decide (k / 2 ^ a % 2 = 0) && decide (k / 2 ^ b % 2 = 0) && decide (pc (k / 2 ^ (a + 1) % 2 ^ (b - a - 1)) % 2 = 1)
def inB (k a : Nat) : Nat → Bool
 | 0 => true
 | j + 1 => inB k a j && !gapB k a (a + 1 + j)
theorem pow_cast (j : Nat) : (2 ^ j : Int) = ((2 ^ j : Nat) : Int) := by rw [Int.natCast_pow]; try rfl
theorem kt {k a j : Nat} : ((k : Int) / 2 ^ (a + 1)).tmod (1 * 2 ^ j) = ((k / 2 ^ (a + 1) % 2 ^ j : Nat) : Int) := by
 rw [Int.one_mul, pow_cast, pow_cast]
 generalize 2 ^ (a + 1) = P
 generalize 2 ^ j = Q
 have e1 : (k : Int) / (P : Int) = ((k / P : Nat) : Int) := by rw [Int.natCast_ediv]
 rw [e1, Int.tmod_eq_emod_of_nonneg (Int.natCast_nonneg _), Int.natCast_emod]
theorem pt {x : Nat} : ((pc x : Nat) : Int).tmod 2 = ((pc x % 2 : Nat) : Int) := by
 rw [Int.tmod_eq_emod_of_nonneg (Int.natCast_nonneg _)]; omega
end Go.Am.Sh

/- Shells: the law's pure. -/
namespace Go.Am.Sh
open Go Go.Am Go.Proofs
structure cxS (n : Int) (p : List Int) : Prop where
end Go.Am.Sh

/- Shells: what follows, in the program and in the reference; IsShelling. -/
namespace Go.Am.Sh
open Go Go.Am Go.Proofs
theorem mns_bit (a e v : Nat) : (mns a e).testBit v = (a.testBit v && !e.testBit v) := by
 unfold mns
 rw [Nat.testBit_xor, Nat.testBit_and]
 cases a.testBit v <;> cases e.testBit v <;> rfl
theorem mns_or (a b e : Nat) : mns (a ||| b) e = mns a e ||| mns b e := by
 apply Nat.eq_of_testBit_eq
 intro v
 rw [mns_bit, Nat.testBit_or, Nat.testBit_or, mns_bit, mns_bit]
 cases a.testBit v <;> cases b.testBit v <;> cases e.testBit v <;> rfl
theorem or_ne (x y : Nat) : x ||| y ≠ 0 ↔ x ≠ 0 ∨ y ≠ 0 := by
 rw [Ne, Nat.or_eq_zero_iff]; omega
theorem one_and : ∀ m e : Fin 64, pc m.val = 1 → ((m.val &&& e.val = 0) ↔ mns m.val e.val ≠ 0) := by decide +kernel
theorem low_fnd {n : Int} {p : List Int} (hp : cxOk n p) {D s e : Nat} (hs : s < 64) (he : e < 64) : ∀ k, (mns (lowK p D s k) e ≠ 0) ↔ fnd p D s e k = true
 | 0 => by
   have : mns 0 e = 0 := by unfold mns; rw [Nat.zero_and]; try rfl
   simp [lowK, fnd, this]
 | k + 1 => by
   have ih := low_fnd hp (D := D) hs he k
   have h1 := okL_get hp.ok k
   have hm := mns_lt ⟨s, hs⟩ ⟨(p.getD k 0).toNat, by omega⟩
   simp only at hm
   have ho := one_and ⟨mns s (p.getD k 0).toNat, hm⟩ ⟨e, he⟩
   simp only at ho
   rw [lowK, fnd, Bool.or_eq_true, Bool.and_eq_true, Bool.and_eq_true, decide_eq_true_eq, decide_eq_true_eq, decide_eq_true_eq, ← ih]
   by_cases hc : D / 2 ^ k % 2 = 1 ∧ pc (mns s (p.getD k 0).toNat) = 1
   · rw [if_pos hc, mns_or, or_ne]
     constructor
     · rintro (h | h)
       · exact .inl h
       · exact .inr ⟨hc, (ho hc.2).mpr h⟩
     · rintro (h | h)
       · exact .inl h
       · exact .inr ((ho hc.2).mp h.2)
   · rw [if_neg hc]
     constructor
     · exact .inl
     · rintro (h | h)
       · exact h
       · exact absurd h.1 hc
theorem flw_nx {n : Int} {p : List Int} (hp : cxOk n p) (D i : Nat) : flw p D i = nxB p D i := by
 have hs := okL_get hp.ok i
 unfold flw nxB
 rw [decide_eq_decide]
 unfold flwN nxN low
 constructor
 · intro h e he hb
   have hr := okL_get hp.ok e
   exact (low_fnd hp (by omega) (by omega) _).mp (h e he hb)
 · intro h e he hb
   have hr := okL_get hp.ok e
   exact (low_fnd hp (by omega) (by omega) _).mpr (h e he hb)
theorem pure_pu {n : Int} {p : List Int} (hp : cxOk n p) : pure p = puB p := by
 have h1 := hp.2.1.1
 have hmx : ∃ j, j < p.length ∧ ((pc (p.getD j 0).toNat : Nat) : Int) = mxL p := by
   have key : ∀ k, 1 ≤ k → k ≤ p.length → ∃ j, j < k ∧ ((pc (p.getD j 0).toNat : Nat) : Int) = mxK p k := by
     intro k
     induction k with
     | zero => intro h; omega
     | succ k ih =>
       intro _ hk
       rw [mxK_step (by omega)]
       unfold maxI
       by_cases hlt : mxK p k < ((pc (p.getD k 0).toNat : Nat) : Int)
       · rw [if_pos hlt]; exact ⟨k, by omega, rfl⟩
       · rw [if_neg hlt]
         rcases Nat.eq_zero_or_pos k with h0 | h0
         · subst h0
           refine ⟨0, by omega, ?_⟩
           have : mxK p 0 = 0 := rfl
           omega
         · obtain ⟨j, h2, h3⟩ := ih h0 (by omega)
           exact ⟨j, by omega, h3⟩
   exact key p.length h1 (Nat.le_refl _)
 obtain ⟨j, hj, hj2⟩ := hmx
 rw [Bool.eq_iff_iff]
 unfold pure puB
 rw [List.all_eq_true, decide_eq_true_eq]
 constructor
 · intro h i hi
   have a := of_decide_eq_true (h _ (mem_getD (d := 0) hi))
   have b := of_decide_eq_true (h _ (mem_getD (d := 0) (show 0 < p.length by omega)))
   omega
 · intro h s hs
   obtain ⟨k, hk, e⟩ := List.getElem_of_mem hs
   have a := h k hk
   have b := h j hj
   rw [getD_lt hk, e] at a
   exact decide_eq_true (by omega)
end Go.Am.Sh

/- Shells: the reference's Shellable. -/
namespace Go.Am.Sh
open Go Go.Am Go.Proofs
/-- The sets that are reached: one row, the first k of its pieces. -/
def rowC (p : List Int) (D : Nat) (xs : List Bool) : Nat → List Bool
 | 0 => xs
 | k + 1 => if D / 2 ^ k % 2 = 0 ∧ nxB p D k = true then (rowC p D xs k).set (D ||| 2 ^ k) true else rowC p D xs k
/-- ... the first rows. -/
def canC (p : List Int) : Nat → List Bool
 | 0 => (List.replicate (2 ^ p.length) false).set 0 true
 | D + 1 => if (canC p D).getD D false = true then rowC p D (canC p D) p.length else canC p D
def shR (p : List Int) : Bool := puB p && (canC p (2 ^ p.length)).getD (2 ^ p.length - 1) false
theorem rowC_length (p : List Int) (D : Nat) (xs : List Bool) : ∀ k, (rowC p D xs k).length = xs.length
 | 0 => rfl
 | k + 1 => by
   rw [rowC]; split
   · rw [List.length_set, rowC_length p D xs k]
   · exact rowC_length p D xs k
theorem canC_length (p : List Int) : ∀ D, (canC p D).length = 2 ^ p.length
 | 0 => by simp [canC]
 | D + 1 => by
   rw [canC]; split
   · rw [rowC_length, canC_length p D]
   · exact canC_length p D
theorem or_bit_ne {D k : Nat} (h : D / 2 ^ k % 2 = 0) : D ||| 2 ^ k ≠ D := fun e => by
 have h1 : (D ||| 2 ^ k).testBit k = true := by rw [Nat.testBit_or, Nat.testBit_two_pow_self]; simp
 rw [e, Nat.testBit_eq_decide_div_mod_eq, h] at h1
 cases h1
end Go.Am.Sh

/- Shells: what the search finds is what the reference reaches. -/
namespace Go.Am.Sh
open Go Go.Am Go.Proofs
theorem or_div {D k j : Nat} (h : D / 2 ^ k % 2 = 0) : (D ||| 2 ^ k) / 2 ^ j % 2 = D / 2 ^ j % 2 + if k = j then 1 else 0 := by
 have h1 : (D ||| 2 ^ k).testBit j = (D.testBit j || (2 ^ k).testBit j) := Nat.testBit_or ..
 rw [Nat.testBit_two_pow, Nat.testBit_eq_decide_div_mod_eq, Nat.testBit_eq_decide_div_mod_eq] at h1
 have a := Nat.mod_two_eq_zero_or_one ((D ||| 2 ^ k) / 2 ^ j)
 have b := Nat.mod_two_eq_zero_or_one (D / 2 ^ j)
 by_cases e : k = j
 · subst e
   rw [h] at h1 ⊢
   rw [if_pos rfl]
   rcases a with a | a
   · rw [a] at h1; simp at h1
   · exact a
 · rw [if_neg e]
   rcases a with a | a <;> rcases b with b | b <;> rw [a, b] at h1 ⊢ <;> simp [e] at h1
theorem pcK_or {D k : Nat} (h : D / 2 ^ k % 2 = 0) : ∀ m, pcK (D ||| 2 ^ k) m = pcK D m + if k < m then 1 else 0
 | 0 => by simp [pcK]
 | m + 1 => by
   rw [pcK, pcK, pcK_or h m, or_div h]
   by_cases e : k = m
   · rw [if_neg (by omega), if_pos e, if_pos (by omega)]; omega
   · rw [if_neg e]
     by_cases e2 : k < m
     · rw [if_pos e2, if_pos (by omega)]; omega
     · rw [if_neg e2, if_neg (by omega)]; omega
theorem pcK_full : ∀ L : Fin 11, pcK (2 ^ L.val - 1) L.val = L.val := by decide +kernel
theorem full_of : ∀ L : Fin 11, ∀ D : Fin 1024, D.val < 2 ^ L.val → pcK D.val L.val = L.val → D.val = 2 ^ L.val - 1 := by decide +kernel
theorem pcK_zero : ∀ m, pcK 0 m = 0
 | 0 => rfl
 | m + 1 => by rw [pcK, pcK_zero m, Nat.zero_div]
/-- From a set of pieces all are reached, in n steps. -/
def Go' (p : List Int) : Nat → Nat → Prop
 | 0, _ => True
 | n + 1, D => ∃ k, k < p.length ∧ D / 2 ^ k % 2 = 0 ∧ nxB p D k = true ∧ Go' p n (D ||| 2 ^ k)
theorem mget_put (m : Mm) (q q' : Int) (v : Bool) : mGet I64 (mPut I64 m q v) q' = if q' = q then some v else mGet I64 m q' := by
 induction m with
 | nil =>
   simp only [mPut, mGet]
   split
   · rename_i h _; rw [if_pos h]
   · rename_i h _; rw [if_neg h]
 | cons e m ih =>
   simp only [mPut] at ih ⊢
   split
   · rename_i h _
     simp only [mGet]
     split
     · rename_i h2 _; rw [if_pos h2]
     · rename_i h2 _
       rw [if_neg h2]
       split
       · rename_i h3 _; exact absurd (h3.trans h.symm) h2
       · rfl
   · rename_i h _
     simp only [mGet]
     split
     · rename_i h2 _
       rw [if_neg (fun e' => h (e'.symm.trans h2))]
     · exact ih
theorem mg_mp {m : Mm} {d x : Int} (h : mg (mp m d) x = true) : x = d ∨ mg m x = true := by
 unfold mg mp at h
 rw [mget_put] at h
 by_cases e : x = d
 · exact .inl e
 · rw [if_neg e] at h; exact .inr h
def MI (p : List Int) (m : Mm) : Prop := ∀ D : Nat, mg m D = true → ¬ Go' p (p.length - pcK D p.length) D
structure rOk (p : List Int) (r : Res) : Prop where
 s : (sgK p r.2.1 r.2.1.length).isSome = true
 l : r.2.1.length = p.length
theorem sgK_app {p o : List Int} {m : List Int} : ∀ {k : Nat}, k ≤ o.length → sgK p (o ++ m) k = sgK p o k
 | 0, _ => rfl
 | k + 1, h => by rw [sgK, sgK, sgK_app (by omega), getD_append_left (by omega)]
theorem sgK_snoc {p l : List Int} {D k : Nat} (h : sgK p l l.length = some D) (hk : k < p.length) (h0 : D / 2 ^ k % 2 = 0) (hn : nxB p D k = true) : sgK p (l ++ [(k : Int)]) (l ++ [(k : Int)]).length = some (D ||| 2 ^ k) := by
 have e : (l ++ [(k : Int)]).getD l.length 0 = k := by
   rw [List.getD_eq_getElem?_getD, List.getElem?_append_right (Nat.le_refl _), Nat.sub_self]; try rfl
 rw [List.length_append, List.length_singleton, sgK, sgK_app (Nat.le_refl _), h, e, Option.bind_some, Int.toNat_natCast, if_pos ⟨decide_eq_true ⟨by omega, by omega⟩, h0, hn⟩]
def grP (p : List Int) (n : Nat) : Prop := ∀ (D : Nat) (l : List Int) (m : Mm), l.length + n = p.length → pcK D p.length + n = p.length → sgK p l l.length = some D → MI p m →
 ((gr p n D l m).1 = true → Go' p n D ∧ rOk p (gr p n D l m)) ∧ ((gr p n D l m).1 = false → ¬ Go' p n D) ∧ MI p (gr p n D l m).2.2
theorem lp_spec {c : Int} {p : List Int} (hp : cxOk c p) {n : Nat} (ih : grP p n) {D : Nat} {l : List Int} {m : Mm} (h1 : l.length + (n + 1) = p.length) (h2 : pcK D p.length + (n + 1) = p.length) (h3 : sgK p l l.length = some D) (h4 : MI p m) : ∀ k, k ≤ p.length →
   ((lpK p (gr p n) D l m k).1 = true → Go' p (n + 1) D ∧ rOk p (lpK p (gr p n) D l m k)) ∧ ((lpK p (gr p n) D l m k).1 = false → ∀ j, j < k → D / 2 ^ j % 2 = 0 → nxB p D j = true → ¬ Go' p n (D ||| 2 ^ j)) ∧ MI p (lpK p (gr p n) D l m k).2.2
 | 0, _ => ⟨fun h => (by cases h), fun _ j hj => absurd hj (Nat.not_lt_zero j), h4⟩
 | k + 1, hk => by
   obtain ⟨a1, a2, a3⟩ := lp_spec hp ih h1 h2 h3 h4 k (by omega)
   by_cases hs : (lpK p (gr p n) D l m k).1 = true
   · have e := lpK_stop hs 1
     rw [e]
     exact ⟨a1, fun h => (by rw [hs] at h; cases h), a3⟩
   · have hs : (lpK p (gr p n) D l m k).1 = false := by simpa using hs
     have hst := lpK_go hs
     by_cases hc : D / 2 ^ k % 2 = 1 ∨ flw p D k = false
     · rw [if_pos hc] at hst
       rw [hst]
       refine ⟨a1, fun h j hj hb hn => ?_, a3⟩
       rcases Nat.lt_or_ge j k with h5 | h5
       · exact a2 h j h5 hb hn
       · have : j = k := by omega
         subst this
         rcases hc with hc | hc
         · omega
         · rw [flw_nx hp] at hc; rw [hc] at hn; cases hn
     · rw [if_neg hc] at hst
       have hb : D / 2 ^ k % 2 = 0 := by
         have := Nat.mod_two_eq_zero_or_one (D / 2 ^ k)
         rcases this with h | h
         · exact h
         · exact absurd (.inl h) hc
       have hn : nxB p D k = true := by
         rw [← flw_nx hp]
         cases hf : flw p D k with
         | true => rfl
         | false => exact absurd (.inr hf) hc
       have hpc := pcK_or hb p.length
       rw [if_pos (show k < p.length by omega)] at hpc
       obtain ⟨b1, b2, b3⟩ := ih (D ||| 2 ^ k) (l ++ [(k : Int)]) (lpK p (gr p n) D l m k).2.2 (by simp; omega) (by omega) (sgK_snoc h3 (by omega) hb hn) a3
       by_cases hr : (gr p n (D ||| 2 ^ k) (l ++ [(k : Int)]) (lpK p (gr p n) D l m k).2.2).1 = true
       · rw [if_pos hr] at hst
         rw [hst]
         exact ⟨fun h => ⟨⟨k, by omega, hb, hn, (b1 h).1⟩, (b1 h).2⟩, fun h => (by rw [hr] at h; cases h), b3⟩
       · rw [if_neg hr] at hst
         rw [hst]
         refine ⟨fun h => (by cases h), fun _ j hj hb2 hn2 => ?_, b3⟩
         rcases Nat.lt_or_ge j k with h5 | h5
         · exact a2 hs j h5 hb2 hn2
         · rw [show j = k by omega]
           exact b2 (by simpa using hr)
theorem gr_spec {c : Int} {p : List Int} (hp : cxOk c p) : ∀ n, grP p n
 | 0 => fun D l m h1 h2 h3 h4 => ⟨fun _ => ⟨trivial, ⟨by rw [gr]; simp only; rw [h3]; rfl, by rw [gr]; simp only; omega⟩⟩, fun h => (by cases h), h4⟩
 | n + 1 => fun D l m h1 h2 h3 h4 => by
   obtain ⟨a1, a2, a3⟩ := lp_spec hp (gr_spec hp n) h1 h2 h3 h4 p.length (Nat.le_refl _)
   rw [gr]
   by_cases hm : mg m D = true
   · rw [if_pos hm]
     refine ⟨fun h => (by cases h), fun _ => ?_, h4⟩
     have := h4 D hm
     rwa [show p.length - pcK D p.length = n + 1 by omega] at this
   · rw [if_neg hm]
     by_cases hs : (lpK p (gr p n) D l m p.length).1 = true
     · rw [if_pos hs]
       exact ⟨a1, fun h => (by rw [hs] at h; cases h), a3⟩
     · rw [if_neg hs]
       have hs : (lpK p (gr p n) D l m p.length).1 = false := by simpa using hs
       have hno : ¬ Go' p (n + 1) D := fun ⟨k, h5, h6, h7, h8⟩ => a2 hs k h5 h6 h7 h8
       refine ⟨fun h => (by cases h), fun _ => hno, fun D' hD' => ?_⟩
       rcases mg_mp hD' with h5 | h5
       · have : D' = D := by omega
         subst this
         rwa [show p.length - pcK D' p.length = n + 1 by omega]
       · exact a3 D' h5
end Go.Am.Sh

/- Shells: the law of the shellings. -/
namespace Go.Am.Sh
open Go Go.Am Go.Proofs
theorem set_keep {l : List Bool} {i x : Nat} (h : l.getD x false = true) : (l.set i true).getD x false = true := by
 by_cases e : i = x
 · subst e
   have hl : i < l.length := by
     rcases Nat.lt_or_ge i l.length with h2 | h2
     · exact h2
     · rw [List.getD_eq_getElem?_getD, List.getElem?_eq_none h2] at h; cases h
   rw [List.getD_eq_getElem?_getD, List.getElem?_set_self hl]; try rfl
 · rw [List.getD_eq_getElem?_getD, List.getElem?_set_ne e, ← List.getD_eq_getElem?_getD]; exact h
theorem set_true {l : List Bool} {i x : Nat} (h : (l.set i true).getD x false = true) : x = i ∨ l.getD x false = true := by
 by_cases e : i = x
 · exact .inl e.symm
 · rw [List.getD_eq_getElem?_getD, List.getElem?_set_ne e, ← List.getD_eq_getElem?_getD] at h; exact .inr h
theorem rowC_mono {p : List Int} {D x : Nat} {xs : List Bool} (h : xs.getD x false = true) : ∀ k, (rowC p D xs k).getD x false = true
 | 0 => h
 | k + 1 => by
   rw [rowC]; split
   · exact set_keep (rowC_mono h k)
   · exact rowC_mono h k
theorem rowC_true {p : List Int} {D x : Nat} {xs : List Bool} : ∀ {k : Nat}, (rowC p D xs k).getD x false = true → xs.getD x false = true ∨ ∃ j, j < k ∧ D / 2 ^ j % 2 = 0 ∧ nxB p D j = true ∧ x = D ||| 2 ^ j
 | 0, h => .inl h
 | k + 1, h => by
   rw [rowC] at h
   split at h
   · rename_i hc
     rcases set_true h with h2 | h2
     · exact .inr ⟨k, by omega, hc.1, hc.2, h2⟩
     · rcases rowC_true h2 with h3 | ⟨j, a, b⟩
       · exact .inl h3
       · exact .inr ⟨j, by omega, b⟩
   · rcases rowC_true h with h3 | ⟨j, a, b⟩
     · exact .inl h3
     · exact .inr ⟨j, by omega, b⟩
theorem rowC_has {p : List Int} {D j : Nat} {xs : List Bool} (hb : D / 2 ^ j % 2 = 0) (hn : nxB p D j = true) (hl : D ||| 2 ^ j < xs.length) : ∀ {k : Nat}, j < k → (rowC p D xs k).getD (D ||| 2 ^ j) false = true
 | 0, h => absurd h (Nat.not_lt_zero j)
 | k + 1, h => by
   rcases Nat.lt_or_ge j k with h2 | h2
   · have ih := rowC_has hb hn hl h2
     rw [rowC]; split
     · exact set_keep ih
     · exact ih
   · have : j = k := by omega
     subst this
     rw [rowC, if_pos ⟨hb, hn⟩, List.getD_eq_getElem?_getD, List.getElem?_set_self (by rw [rowC_length]; exact hl)]; try rfl
theorem canC_mono {p : List Int} {D x : Nat} (h : (canC p D).getD x false = true) : ∀ j, (canC p (D + j)).getD x false = true
 | 0 => h
 | j + 1 => by
   have ih := canC_mono h j
   rw [show D + (j + 1) = D + j + 1 by omega, canC]; split
   · exact rowC_mono ih _
   · exact ih
theorem canC_zero (p : List Int) {x : Nat} (h : (canC p 0).getD x false = true) : x = 0 := by
 rw [canC] at h
 rcases set_true h with h2 | h2
 · exact h2
 · rw [List.getD_eq_getElem?_getD, List.getElem?_replicate] at h2
   split at h2 <;> cases h2
theorem canC_sound {p : List Int} : ∀ {D x : Nat}, (canC p D).getD x false = true → Go' p (p.length - pcK x p.length) x → Go' p p.length 0
 | 0, x, h, hg => by
   have := canC_zero p h
   subst this
   rwa [pcK_zero, Nat.sub_zero] at hg
 | D + 1, x, h, hg => by
   rw [canC] at h
   split at h
   · rename_i hD
     rcases rowC_true h with h2 | ⟨j, h2, h3, h4, h5⟩
     · exact canC_sound h2 hg
     · subst h5
       have hpc := pcK_or h3 p.length
       rw [if_pos h2] at hpc
       have hle := pcK_le (D ||| 2 ^ j) p.length
       refine canC_sound hD ?_
       rw [show p.length - pcK D p.length = (p.length - pcK (D ||| 2 ^ j) p.length) + 1 by omega]
       exact ⟨j, h2, h3, h4, hg⟩
   · exact canC_sound h hg
theorem canC_full {p : List Int} (hl : p.length ≤ 10) : ∀ {n D : Nat}, D < 2 ^ p.length → pcK D p.length + n = p.length → Go' p n D → (canC p D).getD D false = true → (canC p (2 ^ p.length)).getD (2 ^ p.length - 1) false = true
 | 0, D, hD, hp, _, hc => by
   have h2 := Nat.pow_le_pow_right (show 0 < 2 by decide) hl
   have hf := full_of ⟨p.length, by omega⟩ ⟨D, by omega⟩ hD (by simp only; omega)
   simp only at hf
   have := canC_mono hc 1
   rw [show D + 1 = 2 ^ p.length by omega] at this
   rwa [hf] at this
 | n + 1, D, hD, hp, ⟨j, h1, h2, h3, h4⟩, hc => by
   have hpc := pcK_or h2 p.length
   rw [if_pos h1] at hpc
   have hlt : D ||| 2 ^ j < 2 ^ p.length := Nat.or_lt_two_pow hD (Nat.pow_lt_pow_right (by decide) h1)
   have hne := or_bit_ne h2
   have hge : D ≤ D ||| 2 ^ j := Nat.left_le_or
   have hc1 : (canC p (D + 1)).getD (D ||| 2 ^ j) false = true := by
     rw [canC, if_pos hc]
     exact rowC_has h2 h3 (by rw [canC_length]; exact hlt) h1
   have hc2 := canC_mono hc1 ((D ||| 2 ^ j) - (D + 1))
   rw [show D + 1 + ((D ||| 2 ^ j) - (D + 1)) = D ||| 2 ^ j by omega] at hc2
   exact canC_full hl hlt (by omega) h4 hc2
theorem shR_iff {n : Int} {p : List Int} (h : cxOk n p) : shR p = true ↔ puB p = true ∧ Go' p p.length 0 := by
 have hl := h.2.1
 have h2 := Nat.pow_pos (n := p.length) (show 0 < 2 by decide)
 unfold shR
 rw [Bool.and_eq_true]
 constructor
 · rintro ⟨h3, h4⟩
   refine ⟨h3, canC_sound h4 ?_⟩
   have := pcK_full ⟨p.length, by omega⟩
   simp only at this
   rw [this, Nat.sub_self]; trivial
 · rintro ⟨h3, h4⟩
   refine ⟨h3, canC_full hl.2 h2 (by rw [pcK_zero]; omega) h4 ?_⟩
   rw [canC, List.getD_eq_getElem?_getD, List.getElem?_set_self (by simpa using h2)]; try rfl
structure shF (p : List Int) : Prop where
 e : shB p = shR p
 s : shB p = true → sgR p (shL p) = true
 z : shB p = false → shL p = []
 l : (shL p).length ≤ 10
theorem sh_facts {n : Int} {p : List Int} (h : cxOk n p) : shF p := by
 have hl := h.2.1
 obtain ⟨a1, a2, _⟩ := gr_spec h p.length 0 [] [] (by simp) (by rw [pcK_zero]; omega) rfl (fun D hD => by simp [mg, mGet] at hD)
 have hp := pure_pu h
 have ha : (grow p).1 = true ↔ Go' p p.length 0 := ⟨fun h => (a1 h).1, fun h => by
   cases hg : (grow p).1 with
   | true => rfl
   | false => exact absurd h (a2 hg)⟩
 refine ⟨?_, fun hs => ?_, fun hs => ?_, ?_⟩
 · rw [Bool.eq_iff_iff, shR_iff h]
   unfold shB
   rw [Bool.and_eq_true, hp, ha]
 · unfold shB at hs
   rw [Bool.and_eq_true] at hs
   obtain ⟨b1, b2⟩ := (a1 hs.2).2
   unfold sgR shL
   rw [if_pos hs.1]
   have b1 : (sgK p (grow p).2.1 (grow p).2.1.length).isSome = true := b1
   have b2 : (grow p).2.1.length = p.length := b2
   rw [b1, ← hp, hs.1, decide_eq_true b2]; try rfl
 · unfold shL
   by_cases hpp : pure p = true
   · rw [if_pos hpp]
     unfold shB at hs
     rw [hpp, Bool.true_and] at hs
     exact gr_list hs
   · rw [if_neg hpp]
 · unfold shL
   by_cases hpp : pure p = true
   · rw [if_pos hpp]
     cases hg : (grow p).1 with
     | true => have : (grow p).2.1.length = p.length := (a1 hg).2.l; omega
     | false => have : (grow p).2.1 = [] := gr_list hg; rw [this]; simp
   · rw [if_neg hpp]; simp
end Go.Am.Sh

/- Shells: the walk of the law of the shellings. -/
namespace Go.Am.Sh
open Go Go.Am Go.Proofs
end Go.Am.Sh

/- Shells: Made, as the law says it; IsShelling. -/
namespace Go.Am.Sh
open Go Go.Am Go.Proofs
theorem mad_ok {n : Int} {s : List Int} (h : madOk n s) : okL s ∧ ∀ x ∈ s, x < 2 ^ n.toNat := by
 have hp := pow_le6 h.1
 have hb : ∀ x ∈ s, badB n x = false := fun x hx => by
   cases hb : badB n x with
   | false => rfl
   | true => have h4 := h.2.2; unfold badL at h4; rw [List.any_eq_false] at h4; exact absurd hb (h4 x hx)
 have hc : ∀ x ∈ s, ¬ (x < 0 ∨ 2 ^ n.toNat ≤ x) := fun x hx => of_decide_eq_false (hb x hx)
 exact ⟨fun x hx => by have := hc x hx; omega, fun x hx => by have := hc x hx; omega⟩
structure ok73 (x : List Int × Cx3) : Prop where
 h : okC x.2
 l : x.1.length < 1000000000000000
end Go.Am.Sh

/- Shells: the law of the makers. -/
namespace Go.Am.Sh
open Go Go.Am Go.Proofs
instance (n d : Int) : Decidable (momOk n d) := by unfold momOk; infer_instance
def n4 (n : Int) : Int := 3 + (modU .u64 n).tmod 4
def d4 (n d : Int) : Int := 2 + (modU .u64 d).tmod (n4 n - 2)
end Go.Am.Sh

/- Shells: the law of the makers, the outer loop. -/
namespace Go.Am.Sh
open Go Go.Am Go.Proofs
end Go.Am.Sh

/- Shells: News. -/
namespace Go.Am.Sh
open Go Go.Am Go.Proofs
def okO (p l : List Int) : Prop := ∀ j ∈ l, 0 ≤ j ∧ j < p.length
structure pre59n (w : Int) (p l : List Int) : Prop where
 hp : okL p
 hw : 0 ≤ w ∧ w < 64
 ho : okO p l
 hl : l.length ≤ 64
structure ok43 (n : Int) (p o : List Int) : Prop where
 hc : cxOk n p
 ho : okO p o
 hl : o.length ≤ 10
end Go.Am.Sh

/- Shells: News, as the reference finds them. -/
namespace Go.Am.Sh
open Go Go.Am Go.Proofs
end Go.Am.Sh

/- Shells: the law of the orders. -/
namespace Go.Am.Sh
open Go Go.Am Go.Proofs
end Go.Am.Sh

/- Shells: the rank of rows, as the reference finds it. -/
namespace Go.Am.Sh
open Go Go.Am Go.Proofs
end Go.Am.Sh

/- Shells: the borders, as the reference finds them. -/
namespace Go.Am.Sh
open Go Go.Am Go.Proofs
end Go.Am.Sh

/- Shells: the hollow numbers, as the reference finds them. -/
namespace Go.Am.Sh
open Go Go.Am Go.Proofs
end Go.Am.Sh

/- Shells: Link. -/
namespace Go.Am.Sh
open Go Go.Am Go.Proofs
def lnkG (p : List Int) (f x : Nat) : Bool := decide (x &&& f = 0) && isF p (x ||| f)
def lnkK (p : List Int) (f k : Nat) : List Bool := mk fun x => decide (x < k) && lnkG p f x
theorem lnkK_step {p : List Int} {f k : Nat} : (lnkK p f k).set k (lnkG p f k) = lnkK p f (k + 1) := by
 unfold lnkK
 rw [mk_set]
 refine mk_ext fun x _ => ?_
 by_cases e : x = k
 · subst e; rw [if_pos rfl]; simp
 · rw [if_neg e]
   have : (x < k) ↔ (x < k + 1) := by omega
   simp only [this]
noncomputable def L32_0 : Code := lp (bodyOf Try.f32) 0
def st32 (n : Int) (p : List Int) (f k : Nat) : St := ⟨dd 2 ++ .int .i64 f :: dd 5 ++ .ptr 0 0 [] :: .dead :: .ptr 1 0 [] :: dd 25 ++ .int .i64 k :: dd 21, [cxO n p, .bx (.ar .bool 64 (lnkK p f k))]⟩
def ex32 (p : List Int) (f : Nat) : List (List Nat × Ex) := [([10], ⟨0, Unit, fun _ => True, fun _ => ⟨dd 10 ++ .ptr 0 0 [] :: dd 47, [.bx (.ar .bool 64 (mk (lnkG p f)))]⟩⟩)]
noncomputable def H32 (n : Int) (p : List Int) (f : Nat) : Nat → Option Hint := fun _ => some ⟨chk 0 [2, 8, 10, 36] (fun k => k ≤ 64) (st32 n p f), (ex32 p f).map (·.2)⟩
theorem loop32 (n : Int) (p : List Int) (f : Nat) (h : cxOk n p) (hf : f < 64) (R : Exit → St → Prop) : LoopOK (X [e53, e70]) L32_0 ⟨chk 0 [2, 8, 10, 36] (fun k => k ≤ 64) (st32 n p f), (ex32 p f).map (·.2)⟩ R := by
 refine loop_ok (X_ok _) (H := fun _ _ => none) [2, 8, 10, 36] (fun k => k ≤ 64) (st32 n p f) (fun k => 64 - k) (ex32 p f) 100 fun (k : Nat) hk => ?_
 refine of_eq (q := True ∧ ((k : Int) < 64 → True ∧ True ∧ True ∧ True ∧ True ∧ True ∧ True ∧ True ∧ (bAnd .i64 (k : Int) (f : Int) = 0 → True ∧ True ∧ True ∧ True ∧ True ∧ True ∧ idxPre (bOr .i64 (k : Int) (f : Int)) (64 : Nat) ∧ True ∧ True ∧ idxPre (k : Int) (64 : Nat) ∧ True ∧ inR .i64 ((k : Int) + 1) ∧ True ∧ ∃ (y : Nat), (y ≤ 64 ∧ (64 : Nat) - y < 64 - k) ∧ ((f : Int) = (f : Int) ∧ True ∧ True ∧ (k : Int) + 1 = (y : Int) ∧ True) ∧ (n = n ∧ p = p ∧ mk (isF p) = mk (isF p) ∧ True) ∧ (lnkK p f k).set k ((mk (isF p)).getD (bOr .i64 (k : Int) (f : Int)).toNat false) = lnkK p f y ∧ True) ∧ (¬bAnd .i64 (k : Int) (f : Int) = 0 → True ∧ idxPre (k : Int) (64 : Nat) ∧ True ∧ inR .i64 ((k : Int) + 1) ∧ True ∧ ∃ (y : Nat), (y ≤ 64 ∧ (64 : Nat) - y < 64 - k) ∧ ((f : Int) = (f : Int) ∧ True ∧ True ∧ (k : Int) + 1 = (y : Int) ∧ True) ∧ (n = n ∧ p = p ∧ mk (isF p) = mk (isF p) ∧ True) ∧ (lnkK p f k).set k false = lnkK p f y ∧ True)) ∧ (¬(k : Int) < 64 → ∃ (y : Unit), True ∧ (True ∧ True) ∧ lnkK p f k = mk (lnkG p f) ∧ True)) (by kernel_rfl) ?_
 simp only [zz]
 have hk : k ≤ 64 := hk
 refine ⟨fun h3 => ?_, fun h3 => by rw [show k = 64 by omega]; exact mk_ext fun x hx => by rw [decide_eq_true hx]; rfl⟩
 have hk2 : k < 64 := by omega
 have ho : k ||| f < 64 := Nat.or_lt_two_pow (n := 6) hk2 hf
 rw [bAnd_nat (by omega) (by omega), bOr_nat (by omega) (by omega), Int.toNat_natCast, mk_getD ho]
 refine ⟨fun hb => ⟨by unfold idxPre; omega, by unfold idxPre; omega, by simp only [inR]; omega, k + 1, by omega, by omega, ?_⟩, fun hb => ⟨by unfold idxPre; omega, by simp only [inR]; omega, k + 1, by omega, by omega, ?_⟩⟩
 · have e : isF p (k ||| f) = lnkG p f k := by unfold lnkG; rw [decide_eq_true (show k &&& f = 0 by omega)]; try rfl
   rw [e]; exact lnkK_step
 · have e : false = lnkG p f k := by unfold lnkG; rw [decide_eq_false (show ¬ k &&& f = 0 by omega)]; try rfl
   rw [e]; exact lnkK_step
end Go.Am.Sh

/- Shells: the reference's Link. -/
namespace Go.Am.Sh
open Go Go.Am Go.Proofs
end Go.Am.Sh

/- Shells: the reference's Dual. -/
namespace Go.Am.Sh
open Go Go.Am Go.Proofs
end Go.Am.Sh

/- Shells: links and duals, plain facts. -/
namespace Go.Am.Sh
open Go Go.Am Go.Proofs
end Go.Am.Sh

/- Shells: the new parts of a shelling and the h-list, plain facts. -/
namespace Go.Am.Sh
open Go Go.Am Go.Proofs
end Go.Am.Sh

/- Shells: the new parts of a shelling count as the h-list does. -/
namespace Go.Am.Sh
open Go Go.Am Go.Proofs
def cN (g : Nat → Bool) : Nat → Nat
 | 0 => 0
 | k + 1 => cN g k + if g k = true then 1 else 0
theorem cN_ext {f g : Nat → Bool} : ∀ {m : Nat}, (∀ x, x < m → f x = g x) → cN f m = cN g m
 | 0, _ => rfl
 | m + 1, h => by rw [cN, cN, cN_ext fun x hx => h x (by omega), h m (by omega)]
end Go.Am.Sh

/- Shells: McMullen's law. -/
namespace Go.Am.Sh
open Go Go.Am Go.Proofs
def s9 (p t : List Int) (i : Nat) : St := ⟨dd 10 ++ .sl I64 (hsL p) :: .dead :: .sl I64 t :: .dead :: .own 0 0 :: .int .i64 i :: dd 92, [.sc 0 3 I64 (cntL t (mxL p).toNat i)]⟩
def ex9 (p t : List Int) : List (List Nat × Ex) := [([10, 14], ⟨0, Unit, fun _ => True, fun _ => ⟨dd 10 ++ .sl I64 (hsL p) :: dd 3 ++ .own 0 0 :: dd 93, [.sc 0 3 I64 (cntL t (mxL p).toNat t.length)]⟩⟩)]
def h9 (p t : List Int) : Hint := ⟨chk 0 [10, 12, 14, 15] (fun i => i ≤ t.length) (s9 p t), (ex9 p t).map (·.2)⟩
structure ok9 (p t : List Int) : Prop where
 hl : t.length ≤ 10
 hh : (hsL p).length = (mxL p).toNat + 1
 ht : ∀ i, i < t.length → (0 ≤ t.getD i 0 ∧ t.getD i 0 < 64) ∧ pc (t.getD i 0).toNat ≤ (mxL p).toNat
end Go.Am.Sh

/- Shells: the law of the hollows. -/
namespace Go.Am.Sh
open Go Go.Am Go.Proofs
def lnOk (p : List Int) (f : Int) : Prop := 0 ≤ f ∧ f < 64 ∧ isF p f.toNat = true
instance (p : List Int) (f : Int) : Decidable (lnOk p f) := by unfold lnOk; infer_instance
def s6 (n : Int) (p : List Int) (x : Int × Nat) : St := ⟨dd 2 ++ .int .i64 x.1 :: dd 4 ++ .int .i64 n :: .sl I64 p :: dd 2 ++ .int .i64 x.2 :: dd 140, []⟩
def in6 (x : Int × Nat) : Prop := x.2 ≤ 2
def ex6 (n : Int) (p : List Int) : List (List Nat × Ex) := [([7, 8], ⟨0, Unit, fun _ => True, fun _ => ⟨dd 7 ++ .int .i64 n :: .sl I64 p :: dd 143, []⟩⟩)]
def fm6 (n : Int) (p : List Int) : List Fam := [⟨Int × Nat, in6, s6 n p, fun x => 2 - x.2, fun _ _ => none⟩]
def h6 (n : Int) (p : List Int) : Hint := ⟨chks 0 [2, 7, 8, 11] (fm6 n p), (ex6 n p).map (·.2)⟩
theorem cxOk_faces {n : Int} {p : List Int} (h : cxOk n p) : 1 ≤ (facesL n p).length ∧ (facesL n p).length ≤ 64 := by
 rw [faces_fcs h]
 have h0 : isF p 0 = true := isF_iff.mpr ⟨0, by have := h.2.1.1; omega, sub_zero _⟩
 have := trueN_has (g := isF p) (k := 64) (x := 0) (by decide) h0
 exact ⟨List.length_pos_of_mem this, fcs_len p⟩
end Go.Am.Sh

/- Shells: functions whose results are new memory. -/
namespace Go.Am.Sh
open Go Go.Am Go.Proofs
def oI (l : List Int) : List Ob := [.sc 0 3 I64 l]
theorem call66o (xs : List Bool) (h : xs.length = 64 ∧ trueN (gB xs) 64 ≠ []) : GCall Try.prog gl 66 true [.ar .bool 64 xs] [] [.own 0 0] (oI (trueN (gB xs) 64)) := by
 refine gcall_of (X := X []) (X_ok []) (f := 66) (fn := Try.f66) (c := bodyOf Try.f66) (by kernel_rfl) (by kernel_rfl) (view := false) (rvs := [.tmp 2]) (by kernel_rfl) (H := (H66 xs)) 80 (by kernel_rfl) ?_
 have hL := loop66 xs
 refine of_eq (q := True ∧ True ∧ True ∧ True ∧ True ∧ LoopOK (X []) L66_0 { J := chks (0 : Nat) [(3 : Nat), (6 : Nat), (7 : Nat)] (fm66 xs), exits := List.map (fun (x : List Nat × Ex) => x.snd) (ex66 xs) } (RetR (X []) true false [ResultVar.tmp (2 : Tmp)] [AV.own (0 : Nat) (0 : Nat)] (oI (trueN (gB xs) (64 : Nat)))) ∧ ((∃ (y : Nat), (y ≤ 64 ∧ trueN (gB xs) y = []) ∧ (True ∧ xs = xs ∧ (0 : Int) = (y : Int) ∧ True) ∧ True) ∨ ∃ (y : Nat), y ≤ 64 ∧ (False ∧ xs = xs ∧ (0 : Int) = (y : Int) ∧ True) ∧ False) ∧ (∀ (y : Unit), trueN (gB xs) (64 : Nat) = [] → True ∧ True ∧ True ∧ (False ∧ True) ∧ False) ∧ (∀ (y : Unit), True → True ∧ True ∧ True ∧ (True ∧ True) ∧ trueN (gB xs) (64 : Nat) = trueN (gB xs) (64 : Nat) ∧ True) ∧ True) (by kernel_rfl) ?_
 simp only [zz]
 exact ⟨hL _, ⟨0, ⟨by omega, rfl⟩, rfl⟩, fun _ h0 => h.2 h0, fun _ _ => trivial⟩
def e66o : Entry Try.prog gl := entry1 66 ⟨Try.f66, by kernel_rfl, by kernel_rfl, by kernel_rfl⟩ FA (fun xs => (xs : List Bool).length = 64 ∧ trueN (gB xs) 64 ≠ []) true (fun _ => [.own 0 0]) (fun xs => oI (trueN (gB xs) 64)) call66o
theorem call70o (xs : List Bool) (h : xs.length = 64 ∧ trueN (grtB (gB xs)) 64 ≠ []) : GCall Try.prog gl 70 true [.ar .bool 64 xs] [] [.own 0 0] (oI (trueN (grtB (gB xs)) 64)) := by
 refine gcall_of (X := X []) (X_ok []) (f := 70) (fn := Try.f70) (c := bodyOf Try.f70) (by kernel_rfl) (by kernel_rfl) (view := false) (rvs := [.tmp 2]) (by kernel_rfl) (H := (H70 xs)) 80 (by kernel_rfl) ?_
 have hL := fun R => loop70 xs R
 refine of_eq (q := True ∧ True ∧ True ∧ True ∧ True ∧ LoopOK (X []) L70_0 { J := chks (0 : Nat) [(1 : Nat), (3 : Nat), (8 : Nat), (9 : Nat)] (fm70 xs), exits := List.map (fun (x : List Nat × Ex) => x.snd) (ex70 xs) } (RetR (X []) true false [ResultVar.tmp (2 : Tmp)] [AV.own (0 : Nat) (0 : Nat)] (oI (trueN (grtB (gB xs)) (64 : Nat)))) ∧ ((∃ (y : Nat), (y ≤ 64 ∧ trueN (grtB (gB xs)) y = []) ∧ (True ∧ True ∧ xs = xs ∧ (0 : Int) = (y : Int) ∧ True) ∧ xs = xs ∧ True) ∨ ∃ (y : Nat), y ≤ 64 ∧ (True ∧ False ∧ xs = xs ∧ (0 : Int) = (y : Int) ∧ True) ∧ xs = xs ∧ False) ∧ (∀ (y : Unit), trueN (grtB (gB xs)) (64 : Nat) = [] → True ∧ True ∧ True ∧ (False ∧ True) ∧ False) ∧ (∀ (y : Unit), True → True ∧ True ∧ True ∧ (True ∧ True) ∧ trueN (grtB (gB xs)) (64 : Nat) = trueN (grtB (gB xs)) (64 : Nat) ∧ True) ∧ True) (by kernel_rfl) ?_
 simp only [zz]
 exact ⟨hL _, ⟨0, ⟨by omega, rfl⟩, rfl⟩, fun _ h0 => h.2 h0, fun _ _ => trivial⟩
def e70o : Entry Try.prog gl := entry1 70 ⟨Try.f70, by kernel_rfl, by kernel_rfl, by kernel_rfl⟩ FA (fun xs => (xs : List Bool).length = 64 ∧ trueN (grtB (gB xs)) 64 ≠ []) true (fun _ => [.own 0 0]) (fun xs => oI (trueN (grtB (gB xs)) 64)) call70o
theorem fcs_ne {n : Int} {p : List Int} (h : cxOk n p) : fcs p ≠ [] := fun e => by
 have := (cxOk_faces h).1
 rw [faces_fcs h, e] at this
 simp at this
theorem call28o (n : Int) (p : List Int) (h : cxOk n p) : GCall Try.prog gl 28 true [.int .i64 n, .sl I64 p] [] [.own 0 0, .int .i64 0] (oI (fcs p)) := by
 refine gcall_of (X := X [e53, e66o]) (X_ok [e53, e66o]) (f := 28) (fn := Try.f28) (c := bodyOf Try.f28) (by kernel_rfl) (by kernel_rfl) (view := false) (rvs := [.tmp 4, .tmp 5]) (by kernel_rfl) (H := fun _ => none) 80 (by kernel_rfl) ?_
 refine of_eq (q := True ∧ True ∧ True ∧ True ∧ (CxP n p ∧ True) ∧ True ∧ True ∧ True ∧ True ∧ True ∧ True ∧ True ∧ (¬(0 : Int) = 0 → True ∧ True ∧ True ∧ True ∧ (False ∧ (0 : Int) = 0 ∧ True) ∧ False) ∧ (¬¬(0 : Int) = 0 → True ∧ True ∧ True ∧ True ∧ (((mk (isF p)).length = 64 ∧ ¬trueN (gB (mk (isF p))) (64 : Nat) = []) ∧ True) ∧ True ∧ True ∧ True ∧ (True ∧ (0 : Int) = 0 ∧ True) ∧ trueN (gB (mk (isF p))) (64 : Nat) = fcs p ∧ True)) (by kernel_rfl) ?_
 simp only [zz]
 have hne := fcs_ne h
 refine ⟨⟨h⟩, fun h => absurd trivial h, fun _ => ⟨⟨mk_length _, fun e => hne ?_⟩, trueN_mk _⟩⟩
 rw [← e, trueN_mk]; try rfl
theorem call61o (xs : List Bool) (h : xs.length = 64 ∧ fewE (grL (gB xs)) = 0) : GCall Try.prog gl 61 true [.ar .bool 64 xs] [] [.own 0 0, .int .i64 0] (oI (grL (gB xs))) := by
 refine gcall_of (X := X [e70o]) (X_ok [e70o]) (f := 61) (fn := Try.f61) (c := bodyOf Try.f61) (by kernel_rfl) (by kernel_rfl) (view := false) (rvs := [.tmp 2, .tmp 3]) (by kernel_rfl) (H := fun _ => none) 80 (by kernel_rfl) ?_
 refine of_eq (q := True ∧ True ∧ True ∧ True ∧ ((xs.length = 64 ∧ ¬trueN (grtB (gB xs)) (64 : Nat) = []) ∧ True) ∧ True ∧ True ∧ True ∧ True ∧ True ∧ ((↑(trueN (grtB (gB xs)) (64 : Nat)).length : Int) = 0 → True ∧ True ∧ True ∧ True ∧ True ∧ (False ∧ (4 : Int) = 0 ∧ True) ∧ False) ∧ (¬(↑(trueN (grtB (gB xs)) (64 : Nat)).length : Int) = 0 → True ∧ idxPre (0 : Int) (trueN (grtB (gB xs)) (64 : Nat)).length ∧ True ∧ True ∧ True ∧ True ∧ ((trueN (grtB (gB xs)) (64 : Nat)).getD (0 : Nat) (0 : Int) = 0 → True ∧ True ∧ True ∧ (False ∧ (4 : Int) = 0 ∧ True) ∧ False) ∧ (¬(trueN (grtB (gB xs)) (64 : Nat)).getD (0 : Nat) (0 : Int) = 0 → True ∧ True ∧ True ∧ True ∧ ((10 : Int) < (↑(trueN (grtB (gB xs)) (64 : Nat)).length : Int) → True ∧ True ∧ True ∧ (False ∧ (8 : Int) = 0 ∧ True) ∧ False) ∧ (¬(10 : Int) < (↑(trueN (grtB (gB xs)) (64 : Nat)).length : Int) → True ∧ True ∧ True ∧ True ∧ (True ∧ (0 : Int) = 0 ∧ True) ∧ trueN (grtB (gB xs)) (64 : Nat) = grL (gB xs) ∧ True)))) (by kernel_rfl) ?_
 simp only [zz]
 have e : trueN (grtB (gB xs)) 64 = grL (gB xs) := rfl
 rw [e]
 generalize grL (gB xs) = l at *
 obtain ⟨h1, h2⟩ := h
 unfold fewE at h2
 have hne : l.length = 0 ↔ l = [] := List.length_eq_zero_iff
 refine ⟨⟨h1, fun h => by rw [if_pos (.inl h)] at h2; omega⟩, fun h => ?_, fun h => ⟨by unfold idxPre; omega, fun h3 => by rw [if_pos (.inr h3)] at h2; omega, fun h3 => ⟨fun h4 => ?_, fun _ => rfl⟩⟩⟩
 · rw [if_pos (.inl (hne.mp (by omega)))] at h2; omega
 · rw [if_neg (fun h5 => h5.elim (fun h6 => h (by rw [h6]; rfl)) h3), if_pos (by omega)] at h2; omega
def e61o : Entry Try.prog gl := entry1 61 ⟨Try.f61, by kernel_rfl, by kernel_rfl, by kernel_rfl⟩ FA (fun xs => (xs : List Bool).length = 64 ∧ fewE (grL (gB xs)) = 0) true (fun _ => [.own 0 0, .int .i64 0]) (fun xs => oI (grL (gB xs))) call61o
theorem call21o (n : Int) (p : List Int) (h : madOk n p ∧ fewE (grL (isF p)) = 0) : GCall Try.prog gl 21 true [.int .i64 n, .sl I64 p] [] [.own 0 0, .int .i64 0] (oI (grL (isF p))) := by
 refine gcall_of (X := X [e59m, e62, e61o]) (X_ok [e59m, e62, e61o]) (f := 21) (fn := Try.f21) (c := bodyOf Try.f21) (by kernel_rfl) (by kernel_rfl) (view := false) (rvs := [.tmp 4, .tmp 5]) (by kernel_rfl) (H := fun _ => none) 80 (by kernel_rfl) ?_
 refine of_eq (q := True ∧ True ∧ True ∧ True ∧ True ∧ True ∧ (n < 1 → True ∧ True ∧ True ∧ True ∧ True ∧ True ∧ True ∧ True ∧ (False ∧ (1 : Int) = 0 ∧ True) ∧ False) ∧ (¬n < 1 → True ∧ True ∧ True ∧ True ∧ ((6 : Int) < n → True ∧ True ∧ True ∧ True ∧ True ∧ True ∧ (False ∧ (1 : Int) = 0 ∧ True) ∧ False) ∧ (¬(6 : Int) < n → True ∧ True ∧ True ∧ True ∧ True ∧ ((64 : Int) < (p.length : Int) → True ∧ True ∧ True ∧ True ∧ (False ∧ (1 : Int) = 0 ∧ True) ∧ False) ∧ (¬(64 : Int) < (p.length : Int) → True ∧ True ∧ ((ok83m (p, n) ∧ (p = p ∧ (True ∧ True ∧ True) ∧ True) ∧ n = n ∧ True) ∧ True ∧ True) ∧ True ∧ (badL n p = true → True ∧ True ∧ True ∧ (False ∧ (1 : Int) = 0 ∧ True) ∧ False) ∧ (badL n p = false → True ∧ ((okL p ∧ p.length < 1000000) ∧ True) ∧ (((mk (isF p)).length = 64 ∧ fewE (grL (gB (mk (isF p)))) = 0) ∧ True) ∧ True ∧ True ∧ True ∧ True ∧ True ∧ (True ∧ (0 : Int) = 0 ∧ True) ∧ grL (gB (mk (isF p))) = grL (isF p) ∧ True))))) (by kernel_rfl) ?_
 simp only [zz]
 obtain ⟨⟨hn, hl, hb⟩, hf⟩ := h
 have hm := mad_ok ⟨hn, hl, hb⟩
 obtain ⟨n1, n2⟩ := hn
 refine ⟨fun h => by omega, fun _ => ⟨fun h => by omega, fun _ => ⟨fun h => by omega, fun _ => ⟨⟨⟨n1, n2⟩, hl⟩, fun h => (by rw [hb] at h; cases h), fun _ => ⟨⟨hm.1, by omega⟩, ⟨mk_length _, by rw [grL_mk]; exact hf⟩, grL_mk _⟩⟩⟩⟩⟩
theorem call27o (n : Int) (p : List Int) (h : cxOk n p) : GCall Try.prog gl 27 true [.int .i64 n, .sl I64 p] [] [.own 0 0, .int .i64 0] (oI (hsL p)) := by
 refine gcall_of (X := (X E27)) ((X_ok _)) (f := 27) (fn := Try.f27) (c := bodyOf Try.f27) (by kernel_rfl) (by kernel_rfl) (view := false) (rvs := [.tmp 4, .tmp 5]) (by kernel_rfl) (H := (fun _ => some (h27 (cnts p)))) 150 (by kernel_rfl) ?_
 have hL := fun h => loop27 (cnts p) h (cnts_bdd p)
 refine of_eq (q := True ∧ True ∧ True ∧ True ∧ (CxP n p ∧ True) ∧ True ∧ True ∧ True ∧ True ∧ True ∧ True ∧ True ∧ (¬(0 : Int) = 0 → True ∧ True ∧ True ∧ True ∧ (False ∧ (0 : Int) = 0 ∧ True) ∧ False) ∧ (¬¬(0 : Int) = 0 → True ∧ ((okC (n, p, mk (isF p)) ∧ (True ∧ True) ∧ (n = n ∧ p = p ∧ mk (isF p) = mk (isF p) ∧ True) ∧ True) ∧ True ∧ True) ∧ True ∧ True ∧ True ∧ inR .i64 ((↑(cnts p).length : Int) - 1) ∧ True ∧ True ∧ inR .i64 ((↑(cnts p).length : Int) - 1 + 1) ∧ ((0 : Int) ≤ 1 ∧ (1 : Int) ≤ (↑(cnts p).length : Int) - 1 + 1 ∧ ((↑(cnts p).length : Int) - 1 + 1) * (↑(nat_lit 8) : Int) ≤ 140737488355328 ∧ (↑(cnts p).length : Int) - 1 + 1 ≤ 140737488355328) ∧ True ∧ True ∧ True ∧ True ∧ LoopOK (X E27) L27_0 (h27 (cnts p)) (RetR (X E27) true false [ResultVar.tmp (4 : Tmp), ResultVar.tmp (5 : Tmp)] [AV.own (0 : Nat) (0 : Nat), AV.int .i64 (0 : Int)] (oI (hsL p))) ∧ (∃ (y : Nat), inv27 (cnts p) y ∧ (True ∧ cnts p = cnts p ∧ (↑(cnts p).length : Int) = (↑(cnts p).length : Int) ∧ (0 : Int) = (y : Int) ∧ True) ∧ [(Ty.int .i64).dflt] = hsK (cnts p) y ∧ True) ∧ (∀ (y : Unit), True → True ∧ True ∧ True ∧ True ∧ (True ∧ (0 : Int) = 0 ∧ True) ∧ hsK (cnts p) (cnts p).length = hsL p ∧ True) ∧ True)) (by kernel_rfl) ?_
 simp only [zz]
 obtain ⟨m1, m2⟩ := mxK_le p p.length (Nat.le_refl _)
 have m1 : 0 ≤ mxL p := m1
 have m2 : mxL p ≤ 6 := m2
 have hc := cnts_length p
 exact ⟨⟨h⟩, fun h => absurd trivial h, fun _ => ⟨⟨h, rfl⟩, by simp only [inR]; omega, by simp only [inR]; omega, by omega, hL (by omega) _, ⟨0, Nat.zero_le _, rfl, rfl⟩, fun _ _ => rfl⟩⟩
theorem call15o (n : Int) (p : List Int) (h : cxOk n p) (hp : pure p = true) : GCall Try.prog gl 15 true [.int .i64 n, .sl I64 p] [] [.own 0 0, .bool (shB p), .int .i64 0] (oI (shL p)) := by
 refine gcall_of (X := X [e53, e54, e55N]) (X_ok [e53, e54, e55N]) (f := 15) (fn := Try.f15) (c := bodyOf Try.f15) (by kernel_rfl) (by kernel_rfl) (view := false) (rvs := [.tmp 4, .tmp 5, .tmp 6]) (by kernel_rfl) (H := fun _ => none) 80 (by kernel_rfl) ?_
 refine of_eq (q := True ∧ True ∧ True ∧ True ∧ True ∧ (CxP n p ∧ True) ∧ True ∧ True ∧ True ∧ True ∧ True ∧ True ∧ True ∧ True ∧ (¬(0 : Int) = 0 → True ∧ True ∧ True ∧ True ∧ True ∧ (False ∧ false = shB p ∧ (0 : Int) = 0 ∧ True) ∧ False) ∧ (¬¬(0 : Int) = 0 → True ∧ ((okC (n, p, mk (isF p)) ∧ (True ∧ True) ∧ (n = n ∧ p = p ∧ mk (isF p) = mk (isF p) ∧ True) ∧ True) ∧ True ∧ True) ∧ True ∧ ((!pure p) = true → True ∧ True ∧ True ∧ True ∧ (False ∧ false = shB p ∧ (0 : Int) = 0 ∧ True) ∧ False) ∧ ((!pure p) = false → True ∧ True ∧ True ∧ True ∧ True ∧ True ∧ True ∧ True ∧ ((ok55n ((0 : Int), (n, p, mk (isF p)), []) ∧ ((0 : Int) = 0 ∧ True ∧ True ∧ True ∧ True ∧ True) ∧ True ∧ True ∧ (n = n ∧ p = p ∧ mk (isF p) = mk (isF p) ∧ True) ∧ True ∧ ([] : List (Int × Bool)) = [] ∧ (True ∧ True ∧ True ∧ True ∧ True ∧ True) ∧ True) ∧ True ∧ True ∧ True ∧ True ∧ True ∧ True ∧ True) ∧ True ∧ True ∧ True ∧ True ∧ True ∧ True ∧ True ∧ (True ∧ (grow p).fst = shB p ∧ (0 : Int) = 0 ∧ True) ∧ (grow p).snd.fst = shL p ∧ True))) (by kernel_rfl) ?_
 simp only [zz]
 refine ⟨⟨h⟩, fun h => absurd trivial h, fun _ => ⟨⟨h, rfl⟩, fun hx => (by rw [hp] at hx; cases hx), fun _ => ⟨⟨⟨h, rfl⟩, rfl, rfl⟩, ?_, ?_⟩⟩⟩
 · simp [shB, hp]
 · simp [shL, hp]
theorem call15n (n : Int) (p : List Int) (h : cxOk n p) (hp : pure p = false) : GCall Try.prog gl 15 true [.int .i64 n, .sl I64 p] [] [nl, .ff, .int .i64 0] [] := by
 refine gcall_of (X := X [e53, e54, e55N]) (X_ok [e53, e54, e55N]) (f := 15) (fn := Try.f15) (c := bodyOf Try.f15) (by kernel_rfl) (by kernel_rfl) (view := false) (rvs := [.tmp 4, .tmp 5, .tmp 6]) (by kernel_rfl) (H := fun _ => none) 80 (by kernel_rfl) ?_
 refine of_eq (q := True ∧ True ∧ True ∧ True ∧ True ∧ (CxP n p ∧ True) ∧ True ∧ True ∧ True ∧ True ∧ True ∧ True ∧ True ∧ True ∧ (¬(0 : Int) = 0 → True ∧ True ∧ True ∧ True ∧ True ∧ (True ∧ false = false ∧ (0 : Int) = 0 ∧ True) ∧ True) ∧ (¬¬(0 : Int) = 0 → True ∧ ((okC (n, p, mk (isF p)) ∧ (True ∧ True) ∧ (n = n ∧ p = p ∧ mk (isF p) = mk (isF p) ∧ True) ∧ True) ∧ True ∧ True) ∧ True ∧ ((!pure p) = true → True ∧ True ∧ True ∧ True ∧ (True ∧ false = false ∧ (0 : Int) = 0 ∧ True) ∧ True) ∧ ((!pure p) = false → True ∧ True ∧ True ∧ True ∧ True ∧ True ∧ True ∧ True ∧ ((ok55n ((0 : Int), (n, p, mk (isF p)), []) ∧ ((0 : Int) = 0 ∧ True ∧ True ∧ True ∧ True ∧ True) ∧ True ∧ True ∧ (n = n ∧ p = p ∧ mk (isF p) = mk (isF p) ∧ True) ∧ True ∧ ([] : List (Int × Bool)) = [] ∧ (True ∧ True ∧ True ∧ True ∧ True ∧ True) ∧ True) ∧ True ∧ True ∧ True ∧ True ∧ True ∧ True ∧ True) ∧ True ∧ True ∧ True ∧ True ∧ True ∧ True ∧ True ∧ (False ∧ (grow p).fst = false ∧ (0 : Int) = 0 ∧ True) ∧ True))) (by kernel_rfl) ?_
 simp only [zz]
 exact ⟨⟨h⟩, fun _ => trivial, fun _ => ⟨⟨h, rfl⟩, fun _ => trivial, fun hx => (by rw [hp] at hx; cases hx)⟩⟩
theorem call32o (n : Int) (p : List Int) (f : Nat) (h : cxOk n p) (hf : f < 64) (hi : isF p f = true) (hne : grL (lnkG p f) ≠ []) : GCall Try.prog gl 32 true [.int .i64 n, .sl I64 p, .int .i64 f] [] [.own 0 0, .int .i64 0] (oI (grL (lnkG p f))) := by
 refine gcall_of (X := X [e53, e70o]) (X_ok [e53, e70o]) (f := 32) (fn := Try.f32) (c := bodyOf Try.f32) (by kernel_rfl) (by kernel_rfl) (view := false) (rvs := [.tmp 6, .tmp 7]) (by kernel_rfl) (H := (H32 n p f)) 80 (by kernel_rfl) ?_
 have hL := loop32 n p f h hf
 refine of_eq (q := True ∧ True ∧ True ∧ True ∧ (CxP n p ∧ True) ∧ True ∧ True ∧ True ∧ True ∧ True ∧ True ∧ True ∧ (¬(0 : Int) = 0 → True ∧ True ∧ True ∧ True ∧ (False ∧ (0 : Int) = 0 ∧ True) ∧ False) ∧ (¬¬(0 : Int) = 0 → True ∧ True ∧ True ∧ ((f : Int) < 0 → True ∧ True ∧ True ∧ True ∧ True ∧ True ∧ (False ∧ (1 : Int) = 0 ∧ True) ∧ False) ∧ (¬(f : Int) < 0 → True ∧ True ∧ True ∧ True ∧ ((64 : Int) ≤ (f : Int) → True ∧ True ∧ True ∧ True ∧ (False ∧ (1 : Int) = 0 ∧ True) ∧ False) ∧ (¬(64 : Int) ≤ (f : Int) → True ∧ True ∧ True ∧ True ∧ idxPre (f : Int) (64 : Nat) ∧ True ∧ True ∧ True ∧ ((!(mk (isF p)).getD f false) = true → True ∧ True ∧ True ∧ (False ∧ (1 : Int) = 0 ∧ True) ∧ False) ∧ ((!(mk (isF p)).getD f false) = false → True ∧ True ∧ LoopOK (X [e53, e70]) L32_0 { J := chk (0 : Nat) [(2 : Nat), (8 : Nat), (10 : Nat), (36 : Nat)] (fun (k : Nat) => k ≤ 64) (st32 n p f), exits := List.map (fun (x : List Nat × Ex) => x.snd) (ex32 p f) } (RetR (X [e53, e70o]) true false [ResultVar.tmp (6 : Tmp), ResultVar.tmp (7 : Tmp)] [AV.own (0 : Nat) (0 : Nat), AV.int .i64 (0 : Int)] (oI (grL (lnkG p f)))) ∧ (∃ (y : Nat), y ≤ 64 ∧ ((f : Int) = (f : Int) ∧ True ∧ True ∧ (0 : Int) = (y : Int) ∧ True) ∧ (n = n ∧ p = p ∧ mk (isF p) = mk (isF p) ∧ True) ∧ [false, false, false, false, false, false, false, false, false, false, false, false, false, false, false, false, false, false, false, false, false, false, false, false, false, false, false, false, false, false, false, false, false, false, false, false, false, false, false, false, false, false, false, false, false, false, false, false, false, false, false, false, false, false, false, false, false, false, false, false, false, false, false, false] = lnkK p f y ∧ True) ∧ (∀ (y : Unit), True → True ∧ (((mk (lnkG p f)).length = 64 ∧ ¬trueN (grtB (gB (mk (lnkG p f)))) (64 : Nat) = []) ∧ True) ∧ True ∧ True ∧ True ∧ (True ∧ (0 : Int) = 0 ∧ True) ∧ trueN (grtB (gB (mk (lnkG p f)))) (64 : Nat) = grL (lnkG p f) ∧ True) ∧ True))))) (by kernel_rfl) ?_
 simp only [zz]
 refine ⟨⟨h⟩, fun h => absurd trivial h, fun _ => ⟨fun hx => by omega, fun _ => ⟨fun hx => by omega, fun _ => ⟨by unfold idxPre; omega, fun hx => ?_, fun _ => ⟨hL _, ⟨0, Nat.zero_le _, rfl, ?_⟩, fun _ _ => ⟨⟨mk_length _, fun e => hne ?_⟩, grL_mk _⟩⟩⟩⟩⟩⟩
 · rw [mk_getD hf, hi] at hx; cases hx
 · rfl
 · rw [← grL_mk]; exact e
end Go.Am.Sh

/- Shells: own results are written over. -/
namespace Go.Am.Sh
open Go Go.Am Go.Proofs
abbrev L5 := List Int × List Int × List Int × List Int × List Int
def okL5 (x : L5) : Prop := x.1.length ≤ 64 ∧ x.2.1.length ≤ 64 ∧ x.2.2.1.length ≤ 64 ∧ x.2.2.2.1.length ≤ 64 ∧ x.2.2.2.2.length ≤ 64
def hd8 (m : Int) (p q : List Int) : List AV := dd 5 ++ .int .i64 m :: .sl I64 p :: .sl I64 q :: .dead :: .int .i64 0 :: .dead :: .int .i64 0 :: .dead :: .int .i64 0 :: .dead :: .dead :: .int .i64 0 :: .dead :: [.int .i64 0]
noncomputable abbrev X8 : Cy := Xw [] (fun t => Nat.beq t 68)
noncomputable def L8_0 : Code := lp (bodyOf Try.f8) 0
noncomputable def L8_2 : Code := lp (bodyOf Try.f8) 2
def ob8o (x : L5) : List Ob := [.bx (.agg [.own 1 0, .own 2 0, .own 3 0, .own 4 0, .own 5 0]), .sc 0 3 I64 x.1, .sc 0 3 I64 x.2.1, .sc 0 3 I64 x.2.2.1, .sc 0 3 I64 x.2.2.2.1, .sc 0 3 I64 x.2.2.2.2]
def s8o (m : Int) (p q : List Int) (i : Int) (x : L5) : St := ⟨hd8 m p q ++ .sub 0 0 [] 0 5 :: .int .i64 i :: dd 112, ob8o x⟩
def j8o (m : Int) (p q : List Int) (i : Int) (y : L5 × Nat) : St := ⟨hd8 m p q ++ .sub 0 0 [] 0 5 :: .int .i64 i :: .int .i64 y.2 :: dd 111, ob8o y.1⟩
def ei8o (m : Int) (p q : List Int) (i : Int) : List (List Nat × Ex) := [([5, 6, 7, 9, 11, 13, 16, 18, 19, 20], ⟨2, L5, okL5, s8o m p q i⟩)]
def iv8o0 (y : L5 × Nat) : Prop := okL5 y.1 ∧ y.2 ≤ y.1.1.length
def hi8o0 (m : Int) (p q : List Int) : Hint := ⟨chk 0 [5, 6, 7, 9, 11, 13, 16, 18, 19, 20, 21] iv8o0 (j8o m p q 0), (ei8o m p q 0).map (·.2)⟩
theorem in8o0 (m : Int) (p q : List Int) (R : Exit → St → Prop) : LoopOK X8 L8_2 (hi8o0 m p q) R := by
 refine loop_ok (Xw_ok _ _) (H := fun _ _ => none) [5, 6, 7, 9, 11, 13, 16, 18, 19, 20, 21] iv8o0 (j8o m p q 0) (fun y => y.1.1.length - y.2) (ei8o m p q 0) 150 fun y hy => ?_
 refine of_eq (q := True ∧ True ∧ True ∧ idxPre (0 : Int) (5 : Nat) ∧ True ∧ True ∧ True ∧ ((y.snd : Int) < (y.fst.fst.length : Int) → True ∧ True ∧ idxPre (0 : Int) (5 : Nat) ∧ True ∧ True ∧ idxPre (y.snd : Int) y.fst.fst.length ∧ True ∧ True ∧ inR .i64 ((y.snd : Int) + 1) ∧ True ∧ ∃ (y_1 : L5 × Nat), (iv8o0 y_1 ∧ y_1.fst.fst.length - y_1.snd < y.fst.fst.length - y.snd) ∧ (m = m ∧ p = p ∧ q = q ∧ (0 : Int) = 0 ∧ (0 : Int) = 0 ∧ (0 : Int) = 0 ∧ (0 : Int) = 0 ∧ (0 : Int) = 0 ∧ ((0 : Nat) = 0 ∧ (5 : Nat) = 5) ∧ (0 : Int) = 0 ∧ (y.snd : Int) + 1 = (y_1.snd : Int) ∧ True) ∧ (True ∧ True ∧ True ∧ True ∧ True ∧ True) ∧ y.fst.fst.set y.snd (-7 : Int) = y_1.fst.fst ∧ y.fst.snd.fst = y_1.fst.snd.fst ∧ y.fst.snd.snd.fst = y_1.fst.snd.snd.fst ∧ y.fst.snd.snd.snd.fst = y_1.fst.snd.snd.snd.fst ∧ y.fst.snd.snd.snd.snd = y_1.fst.snd.snd.snd.snd ∧ True) ∧ (¬(y.snd : Int) < (y.fst.fst.length : Int) → ∃ (y_1 : List Int × List Int × List Int × List Int × List Int), okL5 y_1 ∧ (m = m ∧ p = p ∧ q = q ∧ (0 : Int) = 0 ∧ (0 : Int) = 0 ∧ (0 : Int) = 0 ∧ (0 : Int) = 0 ∧ (0 : Int) = 0 ∧ ((0 : Nat) = 0 ∧ (5 : Nat) = 5) ∧ (0 : Int) = 0 ∧ True) ∧ (True ∧ True ∧ True ∧ True ∧ True ∧ True) ∧ y.fst.fst = y_1.fst ∧ y.fst.snd.fst = y_1.snd.fst ∧ y.fst.snd.snd.fst = y_1.snd.snd.fst ∧ y.fst.snd.snd.snd.fst = y_1.snd.snd.snd.fst ∧ y.fst.snd.snd.snd.snd = y_1.snd.snd.snd.snd ∧ True)) (by kernel_rfl) ?_
 simp only [zz]
 obtain ⟨⟨a, b, c, d, k⟩, j⟩ := y
 obtain ⟨⟨h1, h2, h3, h4, h5⟩, hj⟩ := hy
 simp only at h1 h2 h3 h4 h5 hj ⊢
 exact ⟨by unfold idxPre; omega, fun hlt => ⟨by unfold idxPre; omega, idx_nat (by omega), by simp only [inR]; omega, ((a.set j (-7), b, c, d, k), j + 1), ⟨⟨⟨by simp only [List.length_set]; omega, by simp only [List.length_set]; omega, by simp only [List.length_set]; omega, by simp only [List.length_set]; omega, by simp only [List.length_set]; omega⟩, by simp only [List.length_set]; omega⟩, by simp only [List.length_set]; omega⟩, by simp only; omega, rfl, rfl, rfl, rfl, rfl⟩, fun _ => ⟨(a, b, c, d, k), ⟨h1, h2, h3, h4, h5⟩, rfl, rfl, rfl, rfl, rfl⟩⟩
def iv8o1 (y : L5 × Nat) : Prop := okL5 y.1 ∧ y.2 ≤ y.1.2.1.length
def hi8o1 (m : Int) (p q : List Int) : Hint := ⟨chk 0 [5, 6, 7, 9, 11, 13, 16, 18, 19, 20, 21] iv8o1 (j8o m p q 1), (ei8o m p q 1).map (·.2)⟩
theorem in8o1 (m : Int) (p q : List Int) (R : Exit → St → Prop) : LoopOK X8 L8_2 (hi8o1 m p q) R := by
 refine loop_ok (Xw_ok _ _) (H := fun _ _ => none) [5, 6, 7, 9, 11, 13, 16, 18, 19, 20, 21] iv8o1 (j8o m p q 1) (fun y => y.1.2.1.length - y.2) (ei8o m p q 1) 150 fun y hy => ?_
 refine of_eq (q := True ∧ True ∧ True ∧ idxPre (1 : Int) (5 : Nat) ∧ True ∧ True ∧ True ∧ ((y.snd : Int) < (y.fst.snd.fst.length : Int) → True ∧ True ∧ idxPre (1 : Int) (5 : Nat) ∧ True ∧ True ∧ idxPre (y.snd : Int) y.fst.snd.fst.length ∧ True ∧ True ∧ inR .i64 ((y.snd : Int) + 1) ∧ True ∧ ∃ (y_1 : L5 × Nat), (iv8o1 y_1 ∧ y_1.fst.snd.fst.length - y_1.snd < y.fst.snd.fst.length - y.snd) ∧ (m = m ∧ p = p ∧ q = q ∧ (0 : Int) = 0 ∧ (0 : Int) = 0 ∧ (0 : Int) = 0 ∧ (0 : Int) = 0 ∧ (0 : Int) = 0 ∧ ((0 : Nat) = 0 ∧ (5 : Nat) = 5) ∧ (1 : Int) = 1 ∧ (y.snd : Int) + 1 = (y_1.snd : Int) ∧ True) ∧ (True ∧ True ∧ True ∧ True ∧ True ∧ True) ∧ y.fst.fst = y_1.fst.fst ∧ y.fst.snd.fst.set y.snd (-7 : Int) = y_1.fst.snd.fst ∧ y.fst.snd.snd.fst = y_1.fst.snd.snd.fst ∧ y.fst.snd.snd.snd.fst = y_1.fst.snd.snd.snd.fst ∧ y.fst.snd.snd.snd.snd = y_1.fst.snd.snd.snd.snd ∧ True) ∧ (¬(y.snd : Int) < (y.fst.snd.fst.length : Int) → ∃ (y_1 : List Int × List Int × List Int × List Int × List Int), okL5 y_1 ∧ (m = m ∧ p = p ∧ q = q ∧ (0 : Int) = 0 ∧ (0 : Int) = 0 ∧ (0 : Int) = 0 ∧ (0 : Int) = 0 ∧ (0 : Int) = 0 ∧ ((0 : Nat) = 0 ∧ (5 : Nat) = 5) ∧ (1 : Int) = 1 ∧ True) ∧ (True ∧ True ∧ True ∧ True ∧ True ∧ True) ∧ y.fst.fst = y_1.fst ∧ y.fst.snd.fst = y_1.snd.fst ∧ y.fst.snd.snd.fst = y_1.snd.snd.fst ∧ y.fst.snd.snd.snd.fst = y_1.snd.snd.snd.fst ∧ y.fst.snd.snd.snd.snd = y_1.snd.snd.snd.snd ∧ True)) (by kernel_rfl) ?_
 simp only [zz]
 obtain ⟨⟨a, b, c, d, k⟩, j⟩ := y
 obtain ⟨⟨h1, h2, h3, h4, h5⟩, hj⟩ := hy
 simp only at h1 h2 h3 h4 h5 hj ⊢
 exact ⟨by unfold idxPre; omega, fun hlt => ⟨by unfold idxPre; omega, idx_nat (by omega), by simp only [inR]; omega, ((a, b.set j (-7), c, d, k), j + 1), ⟨⟨⟨by simp only [List.length_set]; omega, by simp only [List.length_set]; omega, by simp only [List.length_set]; omega, by simp only [List.length_set]; omega, by simp only [List.length_set]; omega⟩, by simp only [List.length_set]; omega⟩, by simp only [List.length_set]; omega⟩, by simp only; omega, rfl, rfl, rfl, rfl, rfl⟩, fun _ => ⟨(a, b, c, d, k), ⟨h1, h2, h3, h4, h5⟩, rfl, rfl, rfl, rfl, rfl⟩⟩
def iv8o2 (y : L5 × Nat) : Prop := okL5 y.1 ∧ y.2 ≤ y.1.2.2.1.length
def hi8o2 (m : Int) (p q : List Int) : Hint := ⟨chk 0 [5, 6, 7, 9, 11, 13, 16, 18, 19, 20, 21] iv8o2 (j8o m p q 2), (ei8o m p q 2).map (·.2)⟩
theorem in8o2 (m : Int) (p q : List Int) (R : Exit → St → Prop) : LoopOK X8 L8_2 (hi8o2 m p q) R := by
 refine loop_ok (Xw_ok _ _) (H := fun _ _ => none) [5, 6, 7, 9, 11, 13, 16, 18, 19, 20, 21] iv8o2 (j8o m p q 2) (fun y => y.1.2.2.1.length - y.2) (ei8o m p q 2) 150 fun y hy => ?_
 refine of_eq (q := True ∧ True ∧ True ∧ idxPre (2 : Int) (5 : Nat) ∧ True ∧ True ∧ True ∧ ((y.snd : Int) < (y.fst.snd.snd.fst.length : Int) → True ∧ True ∧ idxPre (2 : Int) (5 : Nat) ∧ True ∧ True ∧ idxPre (y.snd : Int) y.fst.snd.snd.fst.length ∧ True ∧ True ∧ inR .i64 ((y.snd : Int) + 1) ∧ True ∧ ∃ (y_1 : L5 × Nat), (iv8o2 y_1 ∧ y_1.fst.snd.snd.fst.length - y_1.snd < y.fst.snd.snd.fst.length - y.snd) ∧ (m = m ∧ p = p ∧ q = q ∧ (0 : Int) = 0 ∧ (0 : Int) = 0 ∧ (0 : Int) = 0 ∧ (0 : Int) = 0 ∧ (0 : Int) = 0 ∧ ((0 : Nat) = 0 ∧ (5 : Nat) = 5) ∧ (2 : Int) = 2 ∧ (y.snd : Int) + 1 = (y_1.snd : Int) ∧ True) ∧ (True ∧ True ∧ True ∧ True ∧ True ∧ True) ∧ y.fst.fst = y_1.fst.fst ∧ y.fst.snd.fst = y_1.fst.snd.fst ∧ y.fst.snd.snd.fst.set y.snd (-7 : Int) = y_1.fst.snd.snd.fst ∧ y.fst.snd.snd.snd.fst = y_1.fst.snd.snd.snd.fst ∧ y.fst.snd.snd.snd.snd = y_1.fst.snd.snd.snd.snd ∧ True) ∧ (¬(y.snd : Int) < (y.fst.snd.snd.fst.length : Int) → ∃ (y_1 : List Int × List Int × List Int × List Int × List Int), okL5 y_1 ∧ (m = m ∧ p = p ∧ q = q ∧ (0 : Int) = 0 ∧ (0 : Int) = 0 ∧ (0 : Int) = 0 ∧ (0 : Int) = 0 ∧ (0 : Int) = 0 ∧ ((0 : Nat) = 0 ∧ (5 : Nat) = 5) ∧ (2 : Int) = 2 ∧ True) ∧ (True ∧ True ∧ True ∧ True ∧ True ∧ True) ∧ y.fst.fst = y_1.fst ∧ y.fst.snd.fst = y_1.snd.fst ∧ y.fst.snd.snd.fst = y_1.snd.snd.fst ∧ y.fst.snd.snd.snd.fst = y_1.snd.snd.snd.fst ∧ y.fst.snd.snd.snd.snd = y_1.snd.snd.snd.snd ∧ True)) (by kernel_rfl) ?_
 simp only [zz]
 obtain ⟨⟨a, b, c, d, k⟩, j⟩ := y
 obtain ⟨⟨h1, h2, h3, h4, h5⟩, hj⟩ := hy
 simp only at h1 h2 h3 h4 h5 hj ⊢
 exact ⟨by unfold idxPre; omega, fun hlt => ⟨by unfold idxPre; omega, idx_nat (by omega), by simp only [inR]; omega, ((a, b, c.set j (-7), d, k), j + 1), ⟨⟨⟨by simp only [List.length_set]; omega, by simp only [List.length_set]; omega, by simp only [List.length_set]; omega, by simp only [List.length_set]; omega, by simp only [List.length_set]; omega⟩, by simp only [List.length_set]; omega⟩, by simp only [List.length_set]; omega⟩, by simp only; omega, rfl, rfl, rfl, rfl, rfl⟩, fun _ => ⟨(a, b, c, d, k), ⟨h1, h2, h3, h4, h5⟩, rfl, rfl, rfl, rfl, rfl⟩⟩
def iv8o3 (y : L5 × Nat) : Prop := okL5 y.1 ∧ y.2 ≤ y.1.2.2.2.1.length
def hi8o3 (m : Int) (p q : List Int) : Hint := ⟨chk 0 [5, 6, 7, 9, 11, 13, 16, 18, 19, 20, 21] iv8o3 (j8o m p q 3), (ei8o m p q 3).map (·.2)⟩
theorem in8o3 (m : Int) (p q : List Int) (R : Exit → St → Prop) : LoopOK X8 L8_2 (hi8o3 m p q) R := by
 refine loop_ok (Xw_ok _ _) (H := fun _ _ => none) [5, 6, 7, 9, 11, 13, 16, 18, 19, 20, 21] iv8o3 (j8o m p q 3) (fun y => y.1.2.2.2.1.length - y.2) (ei8o m p q 3) 150 fun y hy => ?_
 refine of_eq (q := True ∧ True ∧ True ∧ idxPre (3 : Int) (5 : Nat) ∧ True ∧ True ∧ True ∧ ((y.snd : Int) < (y.fst.snd.snd.snd.fst.length : Int) → True ∧ True ∧ idxPre (3 : Int) (5 : Nat) ∧ True ∧ True ∧ idxPre (y.snd : Int) y.fst.snd.snd.snd.fst.length ∧ True ∧ True ∧ inR .i64 ((y.snd : Int) + 1) ∧ True ∧ ∃ (y_1 : L5 × Nat), (iv8o3 y_1 ∧ y_1.fst.snd.snd.snd.fst.length - y_1.snd < y.fst.snd.snd.snd.fst.length - y.snd) ∧ (m = m ∧ p = p ∧ q = q ∧ (0 : Int) = 0 ∧ (0 : Int) = 0 ∧ (0 : Int) = 0 ∧ (0 : Int) = 0 ∧ (0 : Int) = 0 ∧ ((0 : Nat) = 0 ∧ (5 : Nat) = 5) ∧ (3 : Int) = 3 ∧ (y.snd : Int) + 1 = (y_1.snd : Int) ∧ True) ∧ (True ∧ True ∧ True ∧ True ∧ True ∧ True) ∧ y.fst.fst = y_1.fst.fst ∧ y.fst.snd.fst = y_1.fst.snd.fst ∧ y.fst.snd.snd.fst = y_1.fst.snd.snd.fst ∧ y.fst.snd.snd.snd.fst.set y.snd (-7 : Int) = y_1.fst.snd.snd.snd.fst ∧ y.fst.snd.snd.snd.snd = y_1.fst.snd.snd.snd.snd ∧ True) ∧ (¬(y.snd : Int) < (y.fst.snd.snd.snd.fst.length : Int) → ∃ (y_1 : List Int × List Int × List Int × List Int × List Int), okL5 y_1 ∧ (m = m ∧ p = p ∧ q = q ∧ (0 : Int) = 0 ∧ (0 : Int) = 0 ∧ (0 : Int) = 0 ∧ (0 : Int) = 0 ∧ (0 : Int) = 0 ∧ ((0 : Nat) = 0 ∧ (5 : Nat) = 5) ∧ (3 : Int) = 3 ∧ True) ∧ (True ∧ True ∧ True ∧ True ∧ True ∧ True) ∧ y.fst.fst = y_1.fst ∧ y.fst.snd.fst = y_1.snd.fst ∧ y.fst.snd.snd.fst = y_1.snd.snd.fst ∧ y.fst.snd.snd.snd.fst = y_1.snd.snd.snd.fst ∧ y.fst.snd.snd.snd.snd = y_1.snd.snd.snd.snd ∧ True)) (by kernel_rfl) ?_
 simp only [zz]
 obtain ⟨⟨a, b, c, d, k⟩, j⟩ := y
 obtain ⟨⟨h1, h2, h3, h4, h5⟩, hj⟩ := hy
 simp only at h1 h2 h3 h4 h5 hj ⊢
 exact ⟨by unfold idxPre; omega, fun hlt => ⟨by unfold idxPre; omega, idx_nat (by omega), by simp only [inR]; omega, ((a, b, c, d.set j (-7), k), j + 1), ⟨⟨⟨by simp only [List.length_set]; omega, by simp only [List.length_set]; omega, by simp only [List.length_set]; omega, by simp only [List.length_set]; omega, by simp only [List.length_set]; omega⟩, by simp only [List.length_set]; omega⟩, by simp only [List.length_set]; omega⟩, by simp only; omega, rfl, rfl, rfl, rfl, rfl⟩, fun _ => ⟨(a, b, c, d, k), ⟨h1, h2, h3, h4, h5⟩, rfl, rfl, rfl, rfl, rfl⟩⟩
def iv8o4 (y : L5 × Nat) : Prop := okL5 y.1 ∧ y.2 ≤ y.1.2.2.2.2.length
def hi8o4 (m : Int) (p q : List Int) : Hint := ⟨chk 0 [5, 6, 7, 9, 11, 13, 16, 18, 19, 20, 21] iv8o4 (j8o m p q 4), (ei8o m p q 4).map (·.2)⟩
theorem in8o4 (m : Int) (p q : List Int) (R : Exit → St → Prop) : LoopOK X8 L8_2 (hi8o4 m p q) R := by
 refine loop_ok (Xw_ok _ _) (H := fun _ _ => none) [5, 6, 7, 9, 11, 13, 16, 18, 19, 20, 21] iv8o4 (j8o m p q 4) (fun y => y.1.2.2.2.2.length - y.2) (ei8o m p q 4) 150 fun y hy => ?_
 refine of_eq (q := True ∧ True ∧ True ∧ idxPre (4 : Int) (5 : Nat) ∧ True ∧ True ∧ True ∧ ((y.snd : Int) < (y.fst.snd.snd.snd.snd.length : Int) → True ∧ True ∧ idxPre (4 : Int) (5 : Nat) ∧ True ∧ True ∧ idxPre (y.snd : Int) y.fst.snd.snd.snd.snd.length ∧ True ∧ True ∧ inR .i64 ((y.snd : Int) + 1) ∧ True ∧ ∃ (y_1 : L5 × Nat), (iv8o4 y_1 ∧ y_1.fst.snd.snd.snd.snd.length - y_1.snd < y.fst.snd.snd.snd.snd.length - y.snd) ∧ (m = m ∧ p = p ∧ q = q ∧ (0 : Int) = 0 ∧ (0 : Int) = 0 ∧ (0 : Int) = 0 ∧ (0 : Int) = 0 ∧ (0 : Int) = 0 ∧ ((0 : Nat) = 0 ∧ (5 : Nat) = 5) ∧ (4 : Int) = 4 ∧ (y.snd : Int) + 1 = (y_1.snd : Int) ∧ True) ∧ (True ∧ True ∧ True ∧ True ∧ True ∧ True) ∧ y.fst.fst = y_1.fst.fst ∧ y.fst.snd.fst = y_1.fst.snd.fst ∧ y.fst.snd.snd.fst = y_1.fst.snd.snd.fst ∧ y.fst.snd.snd.snd.fst = y_1.fst.snd.snd.snd.fst ∧ y.fst.snd.snd.snd.snd.set y.snd (-7 : Int) = y_1.fst.snd.snd.snd.snd ∧ True) ∧ (¬(y.snd : Int) < (y.fst.snd.snd.snd.snd.length : Int) → ∃ (y_1 : List Int × List Int × List Int × List Int × List Int), okL5 y_1 ∧ (m = m ∧ p = p ∧ q = q ∧ (0 : Int) = 0 ∧ (0 : Int) = 0 ∧ (0 : Int) = 0 ∧ (0 : Int) = 0 ∧ (0 : Int) = 0 ∧ ((0 : Nat) = 0 ∧ (5 : Nat) = 5) ∧ (4 : Int) = 4 ∧ True) ∧ (True ∧ True ∧ True ∧ True ∧ True ∧ True) ∧ y.fst.fst = y_1.fst ∧ y.fst.snd.fst = y_1.snd.fst ∧ y.fst.snd.snd.fst = y_1.snd.snd.fst ∧ y.fst.snd.snd.snd.fst = y_1.snd.snd.snd.fst ∧ y.fst.snd.snd.snd.snd = y_1.snd.snd.snd.snd ∧ True)) (by kernel_rfl) ?_
 simp only [zz]
 obtain ⟨⟨a, b, c, d, k⟩, j⟩ := y
 obtain ⟨⟨h1, h2, h3, h4, h5⟩, hj⟩ := hy
 simp only at h1 h2 h3 h4 h5 hj ⊢
 exact ⟨by unfold idxPre; omega, fun hlt => ⟨by unfold idxPre; omega, idx_nat (by omega), by simp only [inR]; omega, ((a, b, c, d, k.set j (-7)), j + 1), ⟨⟨⟨by simp only [List.length_set]; omega, by simp only [List.length_set]; omega, by simp only [List.length_set]; omega, by simp only [List.length_set]; omega, by simp only [List.length_set]; omega⟩, by simp only [List.length_set]; omega⟩, by simp only [List.length_set]; omega⟩, by simp only; omega, rfl, rfl, rfl, rfl, rfl⟩, fun _ => ⟨(a, b, c, d, k), ⟨h1, h2, h3, h4, h5⟩, rfl, rfl, rfl, rfl, rfl⟩⟩
def fo8o (m : Int) (p q : List Int) : List Fam := [⟨L5, okL5, s8o m p q 0, fun _ => 5, fun _ _ => some (hi8o0 m p q)⟩, ⟨L5, okL5, s8o m p q 1, fun _ => 4, fun _ _ => some (hi8o1 m p q)⟩, ⟨L5, okL5, s8o m p q 2, fun _ => 3, fun _ _ => some (hi8o2 m p q)⟩, ⟨L5, okL5, s8o m p q 3, fun _ => 2, fun _ _ => some (hi8o3 m p q)⟩, ⟨L5, okL5, s8o m p q 4, fun _ => 1, fun _ _ => some (hi8o4 m p q)⟩, ⟨L5, okL5, s8o m p q 5, fun _ => 0, fun _ _ => none⟩]
def eo8 (m : Int) (p q : List Int) : List (List Nat × Ex) := [([5, 6, 7, 9, 11, 13, 16, 18], ⟨0, Unit, fun _ => True, fun _ => ⟨hd8 m p q ++ dd 114, []⟩⟩)]
def h8o (m : Int) (p q : List Int) : Hint := ⟨chks 0 [5, 6, 7, 9, 11, 13, 16, 18, 19, 20] (fo8o m p q), (eo8 m p q).map (·.2)⟩
theorem loop8o (m : Int) (p q : List Int) (R : Exit → St → Prop) : LoopOK X8 L8_0 (h8o m p q) R := by
 refine loop_fams (Xw_ok _ _) [5, 6, 7, 9, 11, 13, 16, 18, 19, 20] (fo8o m p q) (eo8 m p q) 150 ⟨fun (x : L5) hx => ?_, fun (x : L5) hx => ?_, fun (x : L5) hx => ?_, fun (x : L5) hx => ?_, fun (x : L5) hx => ?_, fun (x : L5) hx => ?_, trivial⟩
 · have hL := in8o0 m p q (bodyR 0 (eo8 m p q) R)
   refine of_eq (q := True ∧ True ∧ True ∧ True ∧ ((0 : Int) < 5 → True ∧ LoopOK X8 L8_2 (hi8o0 m p q) (bodyR (0 : Nat) (eo8 m p q) R) ∧ (∃ (y : L5 × Nat), iv8o0 y ∧ (m = m ∧ p = p ∧ q = q ∧ (0 : Int) = 0 ∧ (0 : Int) = 0 ∧ (0 : Int) = 0 ∧ (0 : Int) = 0 ∧ (0 : Int) = 0 ∧ ((0 : Nat) = 0 ∧ (5 : Nat) = 5) ∧ (0 : Int) = 0 ∧ (0 : Int) = (y.snd : Int) ∧ True) ∧ (True ∧ True ∧ True ∧ True ∧ True ∧ True) ∧ x.fst = y.fst.fst ∧ x.snd.fst = y.fst.snd.fst ∧ x.snd.snd.fst = y.fst.snd.snd.fst ∧ x.snd.snd.snd.fst = y.fst.snd.snd.snd.fst ∧ x.snd.snd.snd.snd = y.fst.snd.snd.snd.snd ∧ True) ∧ (∀ (y : List Int × List Int × List Int × List Int × List Int), okL5 y → True ∧ inR .i64 (1 : Int) ∧ True ∧ ((∃ (y_1 : List Int × List Int × List Int × List Int × List Int), (okL5 y_1 ∧ (5 : Nat) < 5) ∧ (m = m ∧ p = p ∧ q = q ∧ (0 : Int) = 0 ∧ (0 : Int) = 0 ∧ (0 : Int) = 0 ∧ (0 : Int) = 0 ∧ (0 : Int) = 0 ∧ ((0 : Nat) = 0 ∧ (5 : Nat) = 5) ∧ (1 : Int) = 0 ∧ True) ∧ (True ∧ True ∧ True ∧ True ∧ True ∧ True) ∧ y.fst = y_1.fst ∧ y.snd.fst = y_1.snd.fst ∧ y.snd.snd.fst = y_1.snd.snd.fst ∧ y.snd.snd.snd.fst = y_1.snd.snd.snd.fst ∧ y.snd.snd.snd.snd = y_1.snd.snd.snd.snd ∧ True) ∨ (∃ (y_1 : List Int × List Int × List Int × List Int × List Int), (okL5 y_1 ∧ (4 : Nat) < 5) ∧ (m = m ∧ p = p ∧ q = q ∧ (0 : Int) = 0 ∧ (0 : Int) = 0 ∧ (0 : Int) = 0 ∧ (0 : Int) = 0 ∧ (0 : Int) = 0 ∧ ((0 : Nat) = 0 ∧ (5 : Nat) = 5) ∧ (1 : Int) = 1 ∧ True) ∧ (True ∧ True ∧ True ∧ True ∧ True ∧ True) ∧ y.fst = y_1.fst ∧ y.snd.fst = y_1.snd.fst ∧ y.snd.snd.fst = y_1.snd.snd.fst ∧ y.snd.snd.snd.fst = y_1.snd.snd.snd.fst ∧ y.snd.snd.snd.snd = y_1.snd.snd.snd.snd ∧ True) ∨ (∃ (y_1 : List Int × List Int × List Int × List Int × List Int), (okL5 y_1 ∧ (3 : Nat) < 5) ∧ (m = m ∧ p = p ∧ q = q ∧ (0 : Int) = 0 ∧ (0 : Int) = 0 ∧ (0 : Int) = 0 ∧ (0 : Int) = 0 ∧ (0 : Int) = 0 ∧ ((0 : Nat) = 0 ∧ (5 : Nat) = 5) ∧ (1 : Int) = 2 ∧ True) ∧ (True ∧ True ∧ True ∧ True ∧ True ∧ True) ∧ y.fst = y_1.fst ∧ y.snd.fst = y_1.snd.fst ∧ y.snd.snd.fst = y_1.snd.snd.fst ∧ y.snd.snd.snd.fst = y_1.snd.snd.snd.fst ∧ y.snd.snd.snd.snd = y_1.snd.snd.snd.snd ∧ True) ∨ (∃ (y_1 : List Int × List Int × List Int × List Int × List Int), (okL5 y_1 ∧ (2 : Nat) < 5) ∧ (m = m ∧ p = p ∧ q = q ∧ (0 : Int) = 0 ∧ (0 : Int) = 0 ∧ (0 : Int) = 0 ∧ (0 : Int) = 0 ∧ (0 : Int) = 0 ∧ ((0 : Nat) = 0 ∧ (5 : Nat) = 5) ∧ (1 : Int) = 3 ∧ True) ∧ (True ∧ True ∧ True ∧ True ∧ True ∧ True) ∧ y.fst = y_1.fst ∧ y.snd.fst = y_1.snd.fst ∧ y.snd.snd.fst = y_1.snd.snd.fst ∧ y.snd.snd.snd.fst = y_1.snd.snd.snd.fst ∧ y.snd.snd.snd.snd = y_1.snd.snd.snd.snd ∧ True) ∨ (∃ (y_1 : List Int × List Int × List Int × List Int × List Int), (okL5 y_1 ∧ (1 : Nat) < 5) ∧ (m = m ∧ p = p ∧ q = q ∧ (0 : Int) = 0 ∧ (0 : Int) = 0 ∧ (0 : Int) = 0 ∧ (0 : Int) = 0 ∧ (0 : Int) = 0 ∧ ((0 : Nat) = 0 ∧ (5 : Nat) = 5) ∧ (1 : Int) = 4 ∧ True) ∧ (True ∧ True ∧ True ∧ True ∧ True ∧ True) ∧ y.fst = y_1.fst ∧ y.snd.fst = y_1.snd.fst ∧ y.snd.snd.fst = y_1.snd.snd.fst ∧ y.snd.snd.snd.fst = y_1.snd.snd.snd.fst ∧ y.snd.snd.snd.snd = y_1.snd.snd.snd.snd ∧ True) ∨ ∃ (y_1 : List Int × List Int × List Int × List Int × List Int), (okL5 y_1 ∧ (0 : Nat) < 5) ∧ (m = m ∧ p = p ∧ q = q ∧ (0 : Int) = 0 ∧ (0 : Int) = 0 ∧ (0 : Int) = 0 ∧ (0 : Int) = 0 ∧ (0 : Int) = 0 ∧ ((0 : Nat) = 0 ∧ (5 : Nat) = 5) ∧ (1 : Int) = 5 ∧ True) ∧ (True ∧ True ∧ True ∧ True ∧ True ∧ True) ∧ y.fst = y_1.fst ∧ y.snd.fst = y_1.snd.fst ∧ y.snd.snd.fst = y_1.snd.snd.fst ∧ y.snd.snd.snd.fst = y_1.snd.snd.snd.fst ∧ y.snd.snd.snd.snd = y_1.snd.snd.snd.snd ∧ True)) ∧ True) ∧ (¬(0 : Int) < 5 → ∃ (y : Unit), True ∧ (m = m ∧ p = p ∧ q = q ∧ (0 : Int) = 0 ∧ (0 : Int) = 0 ∧ (0 : Int) = 0 ∧ (0 : Int) = 0 ∧ (0 : Int) = 0 ∧ True) ∧ True)) (by kernel_rfl) ?_
   simp only [zz]
   exact ⟨fun _ => ⟨hL, ⟨(x, 0), ⟨hx, Nat.zero_le _⟩, rfl, rfl, rfl, rfl, rfl, rfl⟩, fun y hy => ⟨by simp only [inR]; omega, .inr (.inl ⟨y, ⟨hy, by decide⟩, rfl, rfl, rfl, rfl, rfl⟩)⟩⟩, fun h => absurd (by decide) h⟩
 · have hL := in8o1 m p q (bodyR 0 (eo8 m p q) R)
   refine of_eq (q := True ∧ True ∧ True ∧ True ∧ ((1 : Int) < 5 → True ∧ LoopOK X8 L8_2 (hi8o1 m p q) (bodyR (0 : Nat) (eo8 m p q) R) ∧ (∃ (y : L5 × Nat), iv8o1 y ∧ (m = m ∧ p = p ∧ q = q ∧ (0 : Int) = 0 ∧ (0 : Int) = 0 ∧ (0 : Int) = 0 ∧ (0 : Int) = 0 ∧ (0 : Int) = 0 ∧ ((0 : Nat) = 0 ∧ (5 : Nat) = 5) ∧ (1 : Int) = 1 ∧ (0 : Int) = (y.snd : Int) ∧ True) ∧ (True ∧ True ∧ True ∧ True ∧ True ∧ True) ∧ x.fst = y.fst.fst ∧ x.snd.fst = y.fst.snd.fst ∧ x.snd.snd.fst = y.fst.snd.snd.fst ∧ x.snd.snd.snd.fst = y.fst.snd.snd.snd.fst ∧ x.snd.snd.snd.snd = y.fst.snd.snd.snd.snd ∧ True) ∧ (∀ (y : List Int × List Int × List Int × List Int × List Int), okL5 y → True ∧ inR .i64 (2 : Int) ∧ True ∧ ((∃ (y_1 : List Int × List Int × List Int × List Int × List Int), (okL5 y_1 ∧ (5 : Nat) < 4) ∧ (m = m ∧ p = p ∧ q = q ∧ (0 : Int) = 0 ∧ (0 : Int) = 0 ∧ (0 : Int) = 0 ∧ (0 : Int) = 0 ∧ (0 : Int) = 0 ∧ ((0 : Nat) = 0 ∧ (5 : Nat) = 5) ∧ (2 : Int) = 0 ∧ True) ∧ (True ∧ True ∧ True ∧ True ∧ True ∧ True) ∧ y.fst = y_1.fst ∧ y.snd.fst = y_1.snd.fst ∧ y.snd.snd.fst = y_1.snd.snd.fst ∧ y.snd.snd.snd.fst = y_1.snd.snd.snd.fst ∧ y.snd.snd.snd.snd = y_1.snd.snd.snd.snd ∧ True) ∨ (∃ (y_1 : List Int × List Int × List Int × List Int × List Int), (okL5 y_1 ∧ (4 : Nat) < 4) ∧ (m = m ∧ p = p ∧ q = q ∧ (0 : Int) = 0 ∧ (0 : Int) = 0 ∧ (0 : Int) = 0 ∧ (0 : Int) = 0 ∧ (0 : Int) = 0 ∧ ((0 : Nat) = 0 ∧ (5 : Nat) = 5) ∧ (2 : Int) = 1 ∧ True) ∧ (True ∧ True ∧ True ∧ True ∧ True ∧ True) ∧ y.fst = y_1.fst ∧ y.snd.fst = y_1.snd.fst ∧ y.snd.snd.fst = y_1.snd.snd.fst ∧ y.snd.snd.snd.fst = y_1.snd.snd.snd.fst ∧ y.snd.snd.snd.snd = y_1.snd.snd.snd.snd ∧ True) ∨ (∃ (y_1 : List Int × List Int × List Int × List Int × List Int), (okL5 y_1 ∧ (3 : Nat) < 4) ∧ (m = m ∧ p = p ∧ q = q ∧ (0 : Int) = 0 ∧ (0 : Int) = 0 ∧ (0 : Int) = 0 ∧ (0 : Int) = 0 ∧ (0 : Int) = 0 ∧ ((0 : Nat) = 0 ∧ (5 : Nat) = 5) ∧ (2 : Int) = 2 ∧ True) ∧ (True ∧ True ∧ True ∧ True ∧ True ∧ True) ∧ y.fst = y_1.fst ∧ y.snd.fst = y_1.snd.fst ∧ y.snd.snd.fst = y_1.snd.snd.fst ∧ y.snd.snd.snd.fst = y_1.snd.snd.snd.fst ∧ y.snd.snd.snd.snd = y_1.snd.snd.snd.snd ∧ True) ∨ (∃ (y_1 : List Int × List Int × List Int × List Int × List Int), (okL5 y_1 ∧ (2 : Nat) < 4) ∧ (m = m ∧ p = p ∧ q = q ∧ (0 : Int) = 0 ∧ (0 : Int) = 0 ∧ (0 : Int) = 0 ∧ (0 : Int) = 0 ∧ (0 : Int) = 0 ∧ ((0 : Nat) = 0 ∧ (5 : Nat) = 5) ∧ (2 : Int) = 3 ∧ True) ∧ (True ∧ True ∧ True ∧ True ∧ True ∧ True) ∧ y.fst = y_1.fst ∧ y.snd.fst = y_1.snd.fst ∧ y.snd.snd.fst = y_1.snd.snd.fst ∧ y.snd.snd.snd.fst = y_1.snd.snd.snd.fst ∧ y.snd.snd.snd.snd = y_1.snd.snd.snd.snd ∧ True) ∨ (∃ (y_1 : List Int × List Int × List Int × List Int × List Int), (okL5 y_1 ∧ (1 : Nat) < 4) ∧ (m = m ∧ p = p ∧ q = q ∧ (0 : Int) = 0 ∧ (0 : Int) = 0 ∧ (0 : Int) = 0 ∧ (0 : Int) = 0 ∧ (0 : Int) = 0 ∧ ((0 : Nat) = 0 ∧ (5 : Nat) = 5) ∧ (2 : Int) = 4 ∧ True) ∧ (True ∧ True ∧ True ∧ True ∧ True ∧ True) ∧ y.fst = y_1.fst ∧ y.snd.fst = y_1.snd.fst ∧ y.snd.snd.fst = y_1.snd.snd.fst ∧ y.snd.snd.snd.fst = y_1.snd.snd.snd.fst ∧ y.snd.snd.snd.snd = y_1.snd.snd.snd.snd ∧ True) ∨ ∃ (y_1 : List Int × List Int × List Int × List Int × List Int), (okL5 y_1 ∧ (0 : Nat) < 4) ∧ (m = m ∧ p = p ∧ q = q ∧ (0 : Int) = 0 ∧ (0 : Int) = 0 ∧ (0 : Int) = 0 ∧ (0 : Int) = 0 ∧ (0 : Int) = 0 ∧ ((0 : Nat) = 0 ∧ (5 : Nat) = 5) ∧ (2 : Int) = 5 ∧ True) ∧ (True ∧ True ∧ True ∧ True ∧ True ∧ True) ∧ y.fst = y_1.fst ∧ y.snd.fst = y_1.snd.fst ∧ y.snd.snd.fst = y_1.snd.snd.fst ∧ y.snd.snd.snd.fst = y_1.snd.snd.snd.fst ∧ y.snd.snd.snd.snd = y_1.snd.snd.snd.snd ∧ True)) ∧ True) ∧ (¬(1 : Int) < 5 → ∃ (y : Unit), True ∧ (m = m ∧ p = p ∧ q = q ∧ (0 : Int) = 0 ∧ (0 : Int) = 0 ∧ (0 : Int) = 0 ∧ (0 : Int) = 0 ∧ (0 : Int) = 0 ∧ True) ∧ True)) (by kernel_rfl) ?_
   simp only [zz]
   exact ⟨fun _ => ⟨hL, ⟨(x, 0), ⟨hx, Nat.zero_le _⟩, rfl, rfl, rfl, rfl, rfl, rfl⟩, fun y hy => ⟨by simp only [inR]; omega, .inr (.inr (.inl ⟨y, ⟨hy, by decide⟩, rfl, rfl, rfl, rfl, rfl⟩))⟩⟩, fun h => absurd (by decide) h⟩
 · have hL := in8o2 m p q (bodyR 0 (eo8 m p q) R)
   refine of_eq (q := True ∧ True ∧ True ∧ True ∧ ((2 : Int) < 5 → True ∧ LoopOK X8 L8_2 (hi8o2 m p q) (bodyR (0 : Nat) (eo8 m p q) R) ∧ (∃ (y : L5 × Nat), iv8o2 y ∧ (m = m ∧ p = p ∧ q = q ∧ (0 : Int) = 0 ∧ (0 : Int) = 0 ∧ (0 : Int) = 0 ∧ (0 : Int) = 0 ∧ (0 : Int) = 0 ∧ ((0 : Nat) = 0 ∧ (5 : Nat) = 5) ∧ (2 : Int) = 2 ∧ (0 : Int) = (y.snd : Int) ∧ True) ∧ (True ∧ True ∧ True ∧ True ∧ True ∧ True) ∧ x.fst = y.fst.fst ∧ x.snd.fst = y.fst.snd.fst ∧ x.snd.snd.fst = y.fst.snd.snd.fst ∧ x.snd.snd.snd.fst = y.fst.snd.snd.snd.fst ∧ x.snd.snd.snd.snd = y.fst.snd.snd.snd.snd ∧ True) ∧ (∀ (y : List Int × List Int × List Int × List Int × List Int), okL5 y → True ∧ inR .i64 (3 : Int) ∧ True ∧ ((∃ (y_1 : List Int × List Int × List Int × List Int × List Int), (okL5 y_1 ∧ (5 : Nat) < 3) ∧ (m = m ∧ p = p ∧ q = q ∧ (0 : Int) = 0 ∧ (0 : Int) = 0 ∧ (0 : Int) = 0 ∧ (0 : Int) = 0 ∧ (0 : Int) = 0 ∧ ((0 : Nat) = 0 ∧ (5 : Nat) = 5) ∧ (3 : Int) = 0 ∧ True) ∧ (True ∧ True ∧ True ∧ True ∧ True ∧ True) ∧ y.fst = y_1.fst ∧ y.snd.fst = y_1.snd.fst ∧ y.snd.snd.fst = y_1.snd.snd.fst ∧ y.snd.snd.snd.fst = y_1.snd.snd.snd.fst ∧ y.snd.snd.snd.snd = y_1.snd.snd.snd.snd ∧ True) ∨ (∃ (y_1 : List Int × List Int × List Int × List Int × List Int), (okL5 y_1 ∧ (4 : Nat) < 3) ∧ (m = m ∧ p = p ∧ q = q ∧ (0 : Int) = 0 ∧ (0 : Int) = 0 ∧ (0 : Int) = 0 ∧ (0 : Int) = 0 ∧ (0 : Int) = 0 ∧ ((0 : Nat) = 0 ∧ (5 : Nat) = 5) ∧ (3 : Int) = 1 ∧ True) ∧ (True ∧ True ∧ True ∧ True ∧ True ∧ True) ∧ y.fst = y_1.fst ∧ y.snd.fst = y_1.snd.fst ∧ y.snd.snd.fst = y_1.snd.snd.fst ∧ y.snd.snd.snd.fst = y_1.snd.snd.snd.fst ∧ y.snd.snd.snd.snd = y_1.snd.snd.snd.snd ∧ True) ∨ (∃ (y_1 : List Int × List Int × List Int × List Int × List Int), (okL5 y_1 ∧ (3 : Nat) < 3) ∧ (m = m ∧ p = p ∧ q = q ∧ (0 : Int) = 0 ∧ (0 : Int) = 0 ∧ (0 : Int) = 0 ∧ (0 : Int) = 0 ∧ (0 : Int) = 0 ∧ ((0 : Nat) = 0 ∧ (5 : Nat) = 5) ∧ (3 : Int) = 2 ∧ True) ∧ (True ∧ True ∧ True ∧ True ∧ True ∧ True) ∧ y.fst = y_1.fst ∧ y.snd.fst = y_1.snd.fst ∧ y.snd.snd.fst = y_1.snd.snd.fst ∧ y.snd.snd.snd.fst = y_1.snd.snd.snd.fst ∧ y.snd.snd.snd.snd = y_1.snd.snd.snd.snd ∧ True) ∨ (∃ (y_1 : List Int × List Int × List Int × List Int × List Int), (okL5 y_1 ∧ (2 : Nat) < 3) ∧ (m = m ∧ p = p ∧ q = q ∧ (0 : Int) = 0 ∧ (0 : Int) = 0 ∧ (0 : Int) = 0 ∧ (0 : Int) = 0 ∧ (0 : Int) = 0 ∧ ((0 : Nat) = 0 ∧ (5 : Nat) = 5) ∧ (3 : Int) = 3 ∧ True) ∧ (True ∧ True ∧ True ∧ True ∧ True ∧ True) ∧ y.fst = y_1.fst ∧ y.snd.fst = y_1.snd.fst ∧ y.snd.snd.fst = y_1.snd.snd.fst ∧ y.snd.snd.snd.fst = y_1.snd.snd.snd.fst ∧ y.snd.snd.snd.snd = y_1.snd.snd.snd.snd ∧ True) ∨ (∃ (y_1 : List Int × List Int × List Int × List Int × List Int), (okL5 y_1 ∧ (1 : Nat) < 3) ∧ (m = m ∧ p = p ∧ q = q ∧ (0 : Int) = 0 ∧ (0 : Int) = 0 ∧ (0 : Int) = 0 ∧ (0 : Int) = 0 ∧ (0 : Int) = 0 ∧ ((0 : Nat) = 0 ∧ (5 : Nat) = 5) ∧ (3 : Int) = 4 ∧ True) ∧ (True ∧ True ∧ True ∧ True ∧ True ∧ True) ∧ y.fst = y_1.fst ∧ y.snd.fst = y_1.snd.fst ∧ y.snd.snd.fst = y_1.snd.snd.fst ∧ y.snd.snd.snd.fst = y_1.snd.snd.snd.fst ∧ y.snd.snd.snd.snd = y_1.snd.snd.snd.snd ∧ True) ∨ ∃ (y_1 : List Int × List Int × List Int × List Int × List Int), (okL5 y_1 ∧ (0 : Nat) < 3) ∧ (m = m ∧ p = p ∧ q = q ∧ (0 : Int) = 0 ∧ (0 : Int) = 0 ∧ (0 : Int) = 0 ∧ (0 : Int) = 0 ∧ (0 : Int) = 0 ∧ ((0 : Nat) = 0 ∧ (5 : Nat) = 5) ∧ (3 : Int) = 5 ∧ True) ∧ (True ∧ True ∧ True ∧ True ∧ True ∧ True) ∧ y.fst = y_1.fst ∧ y.snd.fst = y_1.snd.fst ∧ y.snd.snd.fst = y_1.snd.snd.fst ∧ y.snd.snd.snd.fst = y_1.snd.snd.snd.fst ∧ y.snd.snd.snd.snd = y_1.snd.snd.snd.snd ∧ True)) ∧ True) ∧ (¬(2 : Int) < 5 → ∃ (y : Unit), True ∧ (m = m ∧ p = p ∧ q = q ∧ (0 : Int) = 0 ∧ (0 : Int) = 0 ∧ (0 : Int) = 0 ∧ (0 : Int) = 0 ∧ (0 : Int) = 0 ∧ True) ∧ True)) (by kernel_rfl) ?_
   simp only [zz]
   exact ⟨fun _ => ⟨hL, ⟨(x, 0), ⟨hx, Nat.zero_le _⟩, rfl, rfl, rfl, rfl, rfl, rfl⟩, fun y hy => ⟨by simp only [inR]; omega, .inr (.inr (.inr (.inl ⟨y, ⟨hy, by decide⟩, rfl, rfl, rfl, rfl, rfl⟩)))⟩⟩, fun h => absurd (by decide) h⟩
 · have hL := in8o3 m p q (bodyR 0 (eo8 m p q) R)
   refine of_eq (q := True ∧ True ∧ True ∧ True ∧ ((3 : Int) < 5 → True ∧ LoopOK X8 L8_2 (hi8o3 m p q) (bodyR (0 : Nat) (eo8 m p q) R) ∧ (∃ (y : L5 × Nat), iv8o3 y ∧ (m = m ∧ p = p ∧ q = q ∧ (0 : Int) = 0 ∧ (0 : Int) = 0 ∧ (0 : Int) = 0 ∧ (0 : Int) = 0 ∧ (0 : Int) = 0 ∧ ((0 : Nat) = 0 ∧ (5 : Nat) = 5) ∧ (3 : Int) = 3 ∧ (0 : Int) = (y.snd : Int) ∧ True) ∧ (True ∧ True ∧ True ∧ True ∧ True ∧ True) ∧ x.fst = y.fst.fst ∧ x.snd.fst = y.fst.snd.fst ∧ x.snd.snd.fst = y.fst.snd.snd.fst ∧ x.snd.snd.snd.fst = y.fst.snd.snd.snd.fst ∧ x.snd.snd.snd.snd = y.fst.snd.snd.snd.snd ∧ True) ∧ (∀ (y : List Int × List Int × List Int × List Int × List Int), okL5 y → True ∧ inR .i64 (4 : Int) ∧ True ∧ ((∃ (y_1 : List Int × List Int × List Int × List Int × List Int), (okL5 y_1 ∧ (5 : Nat) < 2) ∧ (m = m ∧ p = p ∧ q = q ∧ (0 : Int) = 0 ∧ (0 : Int) = 0 ∧ (0 : Int) = 0 ∧ (0 : Int) = 0 ∧ (0 : Int) = 0 ∧ ((0 : Nat) = 0 ∧ (5 : Nat) = 5) ∧ (4 : Int) = 0 ∧ True) ∧ (True ∧ True ∧ True ∧ True ∧ True ∧ True) ∧ y.fst = y_1.fst ∧ y.snd.fst = y_1.snd.fst ∧ y.snd.snd.fst = y_1.snd.snd.fst ∧ y.snd.snd.snd.fst = y_1.snd.snd.snd.fst ∧ y.snd.snd.snd.snd = y_1.snd.snd.snd.snd ∧ True) ∨ (∃ (y_1 : List Int × List Int × List Int × List Int × List Int), (okL5 y_1 ∧ (4 : Nat) < 2) ∧ (m = m ∧ p = p ∧ q = q ∧ (0 : Int) = 0 ∧ (0 : Int) = 0 ∧ (0 : Int) = 0 ∧ (0 : Int) = 0 ∧ (0 : Int) = 0 ∧ ((0 : Nat) = 0 ∧ (5 : Nat) = 5) ∧ (4 : Int) = 1 ∧ True) ∧ (True ∧ True ∧ True ∧ True ∧ True ∧ True) ∧ y.fst = y_1.fst ∧ y.snd.fst = y_1.snd.fst ∧ y.snd.snd.fst = y_1.snd.snd.fst ∧ y.snd.snd.snd.fst = y_1.snd.snd.snd.fst ∧ y.snd.snd.snd.snd = y_1.snd.snd.snd.snd ∧ True) ∨ (∃ (y_1 : List Int × List Int × List Int × List Int × List Int), (okL5 y_1 ∧ (3 : Nat) < 2) ∧ (m = m ∧ p = p ∧ q = q ∧ (0 : Int) = 0 ∧ (0 : Int) = 0 ∧ (0 : Int) = 0 ∧ (0 : Int) = 0 ∧ (0 : Int) = 0 ∧ ((0 : Nat) = 0 ∧ (5 : Nat) = 5) ∧ (4 : Int) = 2 ∧ True) ∧ (True ∧ True ∧ True ∧ True ∧ True ∧ True) ∧ y.fst = y_1.fst ∧ y.snd.fst = y_1.snd.fst ∧ y.snd.snd.fst = y_1.snd.snd.fst ∧ y.snd.snd.snd.fst = y_1.snd.snd.snd.fst ∧ y.snd.snd.snd.snd = y_1.snd.snd.snd.snd ∧ True) ∨ (∃ (y_1 : List Int × List Int × List Int × List Int × List Int), (okL5 y_1 ∧ (2 : Nat) < 2) ∧ (m = m ∧ p = p ∧ q = q ∧ (0 : Int) = 0 ∧ (0 : Int) = 0 ∧ (0 : Int) = 0 ∧ (0 : Int) = 0 ∧ (0 : Int) = 0 ∧ ((0 : Nat) = 0 ∧ (5 : Nat) = 5) ∧ (4 : Int) = 3 ∧ True) ∧ (True ∧ True ∧ True ∧ True ∧ True ∧ True) ∧ y.fst = y_1.fst ∧ y.snd.fst = y_1.snd.fst ∧ y.snd.snd.fst = y_1.snd.snd.fst ∧ y.snd.snd.snd.fst = y_1.snd.snd.snd.fst ∧ y.snd.snd.snd.snd = y_1.snd.snd.snd.snd ∧ True) ∨ (∃ (y_1 : List Int × List Int × List Int × List Int × List Int), (okL5 y_1 ∧ (1 : Nat) < 2) ∧ (m = m ∧ p = p ∧ q = q ∧ (0 : Int) = 0 ∧ (0 : Int) = 0 ∧ (0 : Int) = 0 ∧ (0 : Int) = 0 ∧ (0 : Int) = 0 ∧ ((0 : Nat) = 0 ∧ (5 : Nat) = 5) ∧ (4 : Int) = 4 ∧ True) ∧ (True ∧ True ∧ True ∧ True ∧ True ∧ True) ∧ y.fst = y_1.fst ∧ y.snd.fst = y_1.snd.fst ∧ y.snd.snd.fst = y_1.snd.snd.fst ∧ y.snd.snd.snd.fst = y_1.snd.snd.snd.fst ∧ y.snd.snd.snd.snd = y_1.snd.snd.snd.snd ∧ True) ∨ ∃ (y_1 : List Int × List Int × List Int × List Int × List Int), (okL5 y_1 ∧ (0 : Nat) < 2) ∧ (m = m ∧ p = p ∧ q = q ∧ (0 : Int) = 0 ∧ (0 : Int) = 0 ∧ (0 : Int) = 0 ∧ (0 : Int) = 0 ∧ (0 : Int) = 0 ∧ ((0 : Nat) = 0 ∧ (5 : Nat) = 5) ∧ (4 : Int) = 5 ∧ True) ∧ (True ∧ True ∧ True ∧ True ∧ True ∧ True) ∧ y.fst = y_1.fst ∧ y.snd.fst = y_1.snd.fst ∧ y.snd.snd.fst = y_1.snd.snd.fst ∧ y.snd.snd.snd.fst = y_1.snd.snd.snd.fst ∧ y.snd.snd.snd.snd = y_1.snd.snd.snd.snd ∧ True)) ∧ True) ∧ (¬(3 : Int) < 5 → ∃ (y : Unit), True ∧ (m = m ∧ p = p ∧ q = q ∧ (0 : Int) = 0 ∧ (0 : Int) = 0 ∧ (0 : Int) = 0 ∧ (0 : Int) = 0 ∧ (0 : Int) = 0 ∧ True) ∧ True)) (by kernel_rfl) ?_
   simp only [zz]
   exact ⟨fun _ => ⟨hL, ⟨(x, 0), ⟨hx, Nat.zero_le _⟩, rfl, rfl, rfl, rfl, rfl, rfl⟩, fun y hy => ⟨by simp only [inR]; omega, .inr (.inr (.inr (.inr (.inl ⟨y, ⟨hy, by decide⟩, rfl, rfl, rfl, rfl, rfl⟩))))⟩⟩, fun h => absurd (by decide) h⟩
 · have hL := in8o4 m p q (bodyR 0 (eo8 m p q) R)
   refine of_eq (q := True ∧ True ∧ True ∧ True ∧ ((4 : Int) < 5 → True ∧ LoopOK X8 L8_2 (hi8o4 m p q) (bodyR (0 : Nat) (eo8 m p q) R) ∧ (∃ (y : L5 × Nat), iv8o4 y ∧ (m = m ∧ p = p ∧ q = q ∧ (0 : Int) = 0 ∧ (0 : Int) = 0 ∧ (0 : Int) = 0 ∧ (0 : Int) = 0 ∧ (0 : Int) = 0 ∧ ((0 : Nat) = 0 ∧ (5 : Nat) = 5) ∧ (4 : Int) = 4 ∧ (0 : Int) = (y.snd : Int) ∧ True) ∧ (True ∧ True ∧ True ∧ True ∧ True ∧ True) ∧ x.fst = y.fst.fst ∧ x.snd.fst = y.fst.snd.fst ∧ x.snd.snd.fst = y.fst.snd.snd.fst ∧ x.snd.snd.snd.fst = y.fst.snd.snd.snd.fst ∧ x.snd.snd.snd.snd = y.fst.snd.snd.snd.snd ∧ True) ∧ (∀ (y : List Int × List Int × List Int × List Int × List Int), okL5 y → True ∧ inR .i64 (5 : Int) ∧ True ∧ ((∃ (y_1 : List Int × List Int × List Int × List Int × List Int), (okL5 y_1 ∧ (5 : Nat) < 1) ∧ (m = m ∧ p = p ∧ q = q ∧ (0 : Int) = 0 ∧ (0 : Int) = 0 ∧ (0 : Int) = 0 ∧ (0 : Int) = 0 ∧ (0 : Int) = 0 ∧ ((0 : Nat) = 0 ∧ (5 : Nat) = 5) ∧ (5 : Int) = 0 ∧ True) ∧ (True ∧ True ∧ True ∧ True ∧ True ∧ True) ∧ y.fst = y_1.fst ∧ y.snd.fst = y_1.snd.fst ∧ y.snd.snd.fst = y_1.snd.snd.fst ∧ y.snd.snd.snd.fst = y_1.snd.snd.snd.fst ∧ y.snd.snd.snd.snd = y_1.snd.snd.snd.snd ∧ True) ∨ (∃ (y_1 : List Int × List Int × List Int × List Int × List Int), (okL5 y_1 ∧ (4 : Nat) < 1) ∧ (m = m ∧ p = p ∧ q = q ∧ (0 : Int) = 0 ∧ (0 : Int) = 0 ∧ (0 : Int) = 0 ∧ (0 : Int) = 0 ∧ (0 : Int) = 0 ∧ ((0 : Nat) = 0 ∧ (5 : Nat) = 5) ∧ (5 : Int) = 1 ∧ True) ∧ (True ∧ True ∧ True ∧ True ∧ True ∧ True) ∧ y.fst = y_1.fst ∧ y.snd.fst = y_1.snd.fst ∧ y.snd.snd.fst = y_1.snd.snd.fst ∧ y.snd.snd.snd.fst = y_1.snd.snd.snd.fst ∧ y.snd.snd.snd.snd = y_1.snd.snd.snd.snd ∧ True) ∨ (∃ (y_1 : List Int × List Int × List Int × List Int × List Int), (okL5 y_1 ∧ (3 : Nat) < 1) ∧ (m = m ∧ p = p ∧ q = q ∧ (0 : Int) = 0 ∧ (0 : Int) = 0 ∧ (0 : Int) = 0 ∧ (0 : Int) = 0 ∧ (0 : Int) = 0 ∧ ((0 : Nat) = 0 ∧ (5 : Nat) = 5) ∧ (5 : Int) = 2 ∧ True) ∧ (True ∧ True ∧ True ∧ True ∧ True ∧ True) ∧ y.fst = y_1.fst ∧ y.snd.fst = y_1.snd.fst ∧ y.snd.snd.fst = y_1.snd.snd.fst ∧ y.snd.snd.snd.fst = y_1.snd.snd.snd.fst ∧ y.snd.snd.snd.snd = y_1.snd.snd.snd.snd ∧ True) ∨ (∃ (y_1 : List Int × List Int × List Int × List Int × List Int), (okL5 y_1 ∧ (2 : Nat) < 1) ∧ (m = m ∧ p = p ∧ q = q ∧ (0 : Int) = 0 ∧ (0 : Int) = 0 ∧ (0 : Int) = 0 ∧ (0 : Int) = 0 ∧ (0 : Int) = 0 ∧ ((0 : Nat) = 0 ∧ (5 : Nat) = 5) ∧ (5 : Int) = 3 ∧ True) ∧ (True ∧ True ∧ True ∧ True ∧ True ∧ True) ∧ y.fst = y_1.fst ∧ y.snd.fst = y_1.snd.fst ∧ y.snd.snd.fst = y_1.snd.snd.fst ∧ y.snd.snd.snd.fst = y_1.snd.snd.snd.fst ∧ y.snd.snd.snd.snd = y_1.snd.snd.snd.snd ∧ True) ∨ (∃ (y_1 : List Int × List Int × List Int × List Int × List Int), (okL5 y_1 ∧ (1 : Nat) < 1) ∧ (m = m ∧ p = p ∧ q = q ∧ (0 : Int) = 0 ∧ (0 : Int) = 0 ∧ (0 : Int) = 0 ∧ (0 : Int) = 0 ∧ (0 : Int) = 0 ∧ ((0 : Nat) = 0 ∧ (5 : Nat) = 5) ∧ (5 : Int) = 4 ∧ True) ∧ (True ∧ True ∧ True ∧ True ∧ True ∧ True) ∧ y.fst = y_1.fst ∧ y.snd.fst = y_1.snd.fst ∧ y.snd.snd.fst = y_1.snd.snd.fst ∧ y.snd.snd.snd.fst = y_1.snd.snd.snd.fst ∧ y.snd.snd.snd.snd = y_1.snd.snd.snd.snd ∧ True) ∨ ∃ (y_1 : List Int × List Int × List Int × List Int × List Int), (okL5 y_1 ∧ (0 : Nat) < 1) ∧ (m = m ∧ p = p ∧ q = q ∧ (0 : Int) = 0 ∧ (0 : Int) = 0 ∧ (0 : Int) = 0 ∧ (0 : Int) = 0 ∧ (0 : Int) = 0 ∧ ((0 : Nat) = 0 ∧ (5 : Nat) = 5) ∧ (5 : Int) = 5 ∧ True) ∧ (True ∧ True ∧ True ∧ True ∧ True ∧ True) ∧ y.fst = y_1.fst ∧ y.snd.fst = y_1.snd.fst ∧ y.snd.snd.fst = y_1.snd.snd.fst ∧ y.snd.snd.snd.fst = y_1.snd.snd.snd.fst ∧ y.snd.snd.snd.snd = y_1.snd.snd.snd.snd ∧ True)) ∧ True) ∧ (¬(4 : Int) < 5 → ∃ (y : Unit), True ∧ (m = m ∧ p = p ∧ q = q ∧ (0 : Int) = 0 ∧ (0 : Int) = 0 ∧ (0 : Int) = 0 ∧ (0 : Int) = 0 ∧ (0 : Int) = 0 ∧ True) ∧ True)) (by kernel_rfl) ?_
   simp only [zz]
   exact ⟨fun _ => ⟨hL, ⟨(x, 0), ⟨hx, Nat.zero_le _⟩, rfl, rfl, rfl, rfl, rfl, rfl⟩, fun y hy => ⟨by simp only [inR]; omega, .inr (.inr (.inr (.inr (.inr (⟨y, ⟨hy, by decide⟩, rfl, rfl, rfl, rfl, rfl⟩)))))⟩⟩, fun h => absurd (by decide) h⟩
 · refine of_eq (q := True ∧ True ∧ True ∧ True ∧ ((5 : Int) < 5 → True ∧ False) ∧ (¬(5 : Int) < 5 → ∃ (y : Unit), True ∧ (m = m ∧ p = p ∧ q = q ∧ (0 : Int) = 0 ∧ (0 : Int) = 0 ∧ (0 : Int) = 0 ∧ (0 : Int) = 0 ∧ (0 : Int) = 0 ∧ True) ∧ True)) (by kernel_rfl) ?_
   simp only [zz]
   exact ⟨fun h => absurd h (by decide), fun _ => trivial⟩
def ob8n (x : L5) : List Ob := [.bx (.agg [.own 1 0, .own 2 0, .own 3 0, nl, .own 4 0]), .sc 0 3 I64 x.1, .sc 0 3 I64 x.2.1, .sc 0 3 I64 x.2.2.1, .sc 0 3 I64 x.2.2.2.2]
def s8n (m : Int) (p q : List Int) (i : Int) (x : L5) : St := ⟨hd8 m p q ++ .sub 0 0 [] 0 5 :: .int .i64 i :: dd 112, ob8n x⟩
def j8n (m : Int) (p q : List Int) (i : Int) (y : L5 × Nat) : St := ⟨hd8 m p q ++ .sub 0 0 [] 0 5 :: .int .i64 i :: .int .i64 y.2 :: dd 111, ob8n y.1⟩
def ei8n (m : Int) (p q : List Int) (i : Int) : List (List Nat × Ex) := [([5, 6, 7, 9, 11, 13, 16, 18, 19, 20], ⟨2, L5, okL5, s8n m p q i⟩)]
def iv8n0 (y : L5 × Nat) : Prop := okL5 y.1 ∧ y.2 ≤ y.1.1.length
def hi8n0 (m : Int) (p q : List Int) : Hint := ⟨chk 0 [5, 6, 7, 9, 11, 13, 16, 18, 19, 20, 21] iv8n0 (j8n m p q 0), (ei8n m p q 0).map (·.2)⟩
theorem in8n0 (m : Int) (p q : List Int) (R : Exit → St → Prop) : LoopOK X8 L8_2 (hi8n0 m p q) R := by
 refine loop_ok (Xw_ok _ _) (H := fun _ _ => none) [5, 6, 7, 9, 11, 13, 16, 18, 19, 20, 21] iv8n0 (j8n m p q 0) (fun y => y.1.1.length - y.2) (ei8n m p q 0) 150 fun y hy => ?_
 refine of_eq (q := True ∧ True ∧ True ∧ idxPre (0 : Int) (5 : Nat) ∧ True ∧ True ∧ True ∧ ((y.snd : Int) < (y.fst.fst.length : Int) → True ∧ True ∧ idxPre (0 : Int) (5 : Nat) ∧ True ∧ True ∧ idxPre (y.snd : Int) y.fst.fst.length ∧ True ∧ True ∧ inR .i64 ((y.snd : Int) + 1) ∧ True ∧ ∃ (y_1 : L5 × Nat), (iv8n0 y_1 ∧ y_1.fst.fst.length - y_1.snd < y.fst.fst.length - y.snd) ∧ (m = m ∧ p = p ∧ q = q ∧ (0 : Int) = 0 ∧ (0 : Int) = 0 ∧ (0 : Int) = 0 ∧ (0 : Int) = 0 ∧ (0 : Int) = 0 ∧ ((0 : Nat) = 0 ∧ (5 : Nat) = 5) ∧ (0 : Int) = 0 ∧ (y.snd : Int) + 1 = (y_1.snd : Int) ∧ True) ∧ (True ∧ True ∧ True ∧ True ∧ True ∧ True) ∧ y.fst.fst.set y.snd (-7 : Int) = y_1.fst.fst ∧ y.fst.snd.fst = y_1.fst.snd.fst ∧ y.fst.snd.snd.fst = y_1.fst.snd.snd.fst ∧ y.fst.snd.snd.snd.snd = y_1.fst.snd.snd.snd.snd ∧ True) ∧ (¬(y.snd : Int) < (y.fst.fst.length : Int) → ∃ (y_1 : List Int × List Int × List Int × List Int × List Int), okL5 y_1 ∧ (m = m ∧ p = p ∧ q = q ∧ (0 : Int) = 0 ∧ (0 : Int) = 0 ∧ (0 : Int) = 0 ∧ (0 : Int) = 0 ∧ (0 : Int) = 0 ∧ ((0 : Nat) = 0 ∧ (5 : Nat) = 5) ∧ (0 : Int) = 0 ∧ True) ∧ (True ∧ True ∧ True ∧ True ∧ True ∧ True) ∧ y.fst.fst = y_1.fst ∧ y.fst.snd.fst = y_1.snd.fst ∧ y.fst.snd.snd.fst = y_1.snd.snd.fst ∧ y.fst.snd.snd.snd.snd = y_1.snd.snd.snd.snd ∧ True)) (by kernel_rfl) ?_
 simp only [zz]
 obtain ⟨⟨a, b, c, d, k⟩, j⟩ := y
 obtain ⟨⟨h1, h2, h3, h4, h5⟩, hj⟩ := hy
 simp only at h1 h2 h3 h4 h5 hj ⊢
 exact ⟨by unfold idxPre; omega, fun hlt => ⟨by unfold idxPre; omega, idx_nat (by omega), by simp only [inR]; omega, ((a.set j (-7), b, c, d, k), j + 1), ⟨⟨⟨by simp only [List.length_set]; omega, by simp only [List.length_set]; omega, by simp only [List.length_set]; omega, by simp only [List.length_set]; omega, by simp only [List.length_set]; omega⟩, by simp only [List.length_set]; omega⟩, by simp only [List.length_set]; omega⟩, by simp only; omega, rfl, rfl, rfl, rfl⟩, fun _ => ⟨(a, b, c, d, k), ⟨h1, h2, h3, h4, h5⟩, rfl, rfl, rfl, rfl⟩⟩
def iv8n1 (y : L5 × Nat) : Prop := okL5 y.1 ∧ y.2 ≤ y.1.2.1.length
def hi8n1 (m : Int) (p q : List Int) : Hint := ⟨chk 0 [5, 6, 7, 9, 11, 13, 16, 18, 19, 20, 21] iv8n1 (j8n m p q 1), (ei8n m p q 1).map (·.2)⟩
theorem in8n1 (m : Int) (p q : List Int) (R : Exit → St → Prop) : LoopOK X8 L8_2 (hi8n1 m p q) R := by
 refine loop_ok (Xw_ok _ _) (H := fun _ _ => none) [5, 6, 7, 9, 11, 13, 16, 18, 19, 20, 21] iv8n1 (j8n m p q 1) (fun y => y.1.2.1.length - y.2) (ei8n m p q 1) 150 fun y hy => ?_
 refine of_eq (q := True ∧ True ∧ True ∧ idxPre (1 : Int) (5 : Nat) ∧ True ∧ True ∧ True ∧ ((y.snd : Int) < (y.fst.snd.fst.length : Int) → True ∧ True ∧ idxPre (1 : Int) (5 : Nat) ∧ True ∧ True ∧ idxPre (y.snd : Int) y.fst.snd.fst.length ∧ True ∧ True ∧ inR .i64 ((y.snd : Int) + 1) ∧ True ∧ ∃ (y_1 : L5 × Nat), (iv8n1 y_1 ∧ y_1.fst.snd.fst.length - y_1.snd < y.fst.snd.fst.length - y.snd) ∧ (m = m ∧ p = p ∧ q = q ∧ (0 : Int) = 0 ∧ (0 : Int) = 0 ∧ (0 : Int) = 0 ∧ (0 : Int) = 0 ∧ (0 : Int) = 0 ∧ ((0 : Nat) = 0 ∧ (5 : Nat) = 5) ∧ (1 : Int) = 1 ∧ (y.snd : Int) + 1 = (y_1.snd : Int) ∧ True) ∧ (True ∧ True ∧ True ∧ True ∧ True ∧ True) ∧ y.fst.fst = y_1.fst.fst ∧ y.fst.snd.fst.set y.snd (-7 : Int) = y_1.fst.snd.fst ∧ y.fst.snd.snd.fst = y_1.fst.snd.snd.fst ∧ y.fst.snd.snd.snd.snd = y_1.fst.snd.snd.snd.snd ∧ True) ∧ (¬(y.snd : Int) < (y.fst.snd.fst.length : Int) → ∃ (y_1 : List Int × List Int × List Int × List Int × List Int), okL5 y_1 ∧ (m = m ∧ p = p ∧ q = q ∧ (0 : Int) = 0 ∧ (0 : Int) = 0 ∧ (0 : Int) = 0 ∧ (0 : Int) = 0 ∧ (0 : Int) = 0 ∧ ((0 : Nat) = 0 ∧ (5 : Nat) = 5) ∧ (1 : Int) = 1 ∧ True) ∧ (True ∧ True ∧ True ∧ True ∧ True ∧ True) ∧ y.fst.fst = y_1.fst ∧ y.fst.snd.fst = y_1.snd.fst ∧ y.fst.snd.snd.fst = y_1.snd.snd.fst ∧ y.fst.snd.snd.snd.snd = y_1.snd.snd.snd.snd ∧ True)) (by kernel_rfl) ?_
 simp only [zz]
 obtain ⟨⟨a, b, c, d, k⟩, j⟩ := y
 obtain ⟨⟨h1, h2, h3, h4, h5⟩, hj⟩ := hy
 simp only at h1 h2 h3 h4 h5 hj ⊢
 exact ⟨by unfold idxPre; omega, fun hlt => ⟨by unfold idxPre; omega, idx_nat (by omega), by simp only [inR]; omega, ((a, b.set j (-7), c, d, k), j + 1), ⟨⟨⟨by simp only [List.length_set]; omega, by simp only [List.length_set]; omega, by simp only [List.length_set]; omega, by simp only [List.length_set]; omega, by simp only [List.length_set]; omega⟩, by simp only [List.length_set]; omega⟩, by simp only [List.length_set]; omega⟩, by simp only; omega, rfl, rfl, rfl, rfl⟩, fun _ => ⟨(a, b, c, d, k), ⟨h1, h2, h3, h4, h5⟩, rfl, rfl, rfl, rfl⟩⟩
def iv8n2 (y : L5 × Nat) : Prop := okL5 y.1 ∧ y.2 ≤ y.1.2.2.1.length
def hi8n2 (m : Int) (p q : List Int) : Hint := ⟨chk 0 [5, 6, 7, 9, 11, 13, 16, 18, 19, 20, 21] iv8n2 (j8n m p q 2), (ei8n m p q 2).map (·.2)⟩
theorem in8n2 (m : Int) (p q : List Int) (R : Exit → St → Prop) : LoopOK X8 L8_2 (hi8n2 m p q) R := by
 refine loop_ok (Xw_ok _ _) (H := fun _ _ => none) [5, 6, 7, 9, 11, 13, 16, 18, 19, 20, 21] iv8n2 (j8n m p q 2) (fun y => y.1.2.2.1.length - y.2) (ei8n m p q 2) 150 fun y hy => ?_
 refine of_eq (q := True ∧ True ∧ True ∧ idxPre (2 : Int) (5 : Nat) ∧ True ∧ True ∧ True ∧ ((y.snd : Int) < (y.fst.snd.snd.fst.length : Int) → True ∧ True ∧ idxPre (2 : Int) (5 : Nat) ∧ True ∧ True ∧ idxPre (y.snd : Int) y.fst.snd.snd.fst.length ∧ True ∧ True ∧ inR .i64 ((y.snd : Int) + 1) ∧ True ∧ ∃ (y_1 : L5 × Nat), (iv8n2 y_1 ∧ y_1.fst.snd.snd.fst.length - y_1.snd < y.fst.snd.snd.fst.length - y.snd) ∧ (m = m ∧ p = p ∧ q = q ∧ (0 : Int) = 0 ∧ (0 : Int) = 0 ∧ (0 : Int) = 0 ∧ (0 : Int) = 0 ∧ (0 : Int) = 0 ∧ ((0 : Nat) = 0 ∧ (5 : Nat) = 5) ∧ (2 : Int) = 2 ∧ (y.snd : Int) + 1 = (y_1.snd : Int) ∧ True) ∧ (True ∧ True ∧ True ∧ True ∧ True ∧ True) ∧ y.fst.fst = y_1.fst.fst ∧ y.fst.snd.fst = y_1.fst.snd.fst ∧ y.fst.snd.snd.fst.set y.snd (-7 : Int) = y_1.fst.snd.snd.fst ∧ y.fst.snd.snd.snd.snd = y_1.fst.snd.snd.snd.snd ∧ True) ∧ (¬(y.snd : Int) < (y.fst.snd.snd.fst.length : Int) → ∃ (y_1 : List Int × List Int × List Int × List Int × List Int), okL5 y_1 ∧ (m = m ∧ p = p ∧ q = q ∧ (0 : Int) = 0 ∧ (0 : Int) = 0 ∧ (0 : Int) = 0 ∧ (0 : Int) = 0 ∧ (0 : Int) = 0 ∧ ((0 : Nat) = 0 ∧ (5 : Nat) = 5) ∧ (2 : Int) = 2 ∧ True) ∧ (True ∧ True ∧ True ∧ True ∧ True ∧ True) ∧ y.fst.fst = y_1.fst ∧ y.fst.snd.fst = y_1.snd.fst ∧ y.fst.snd.snd.fst = y_1.snd.snd.fst ∧ y.fst.snd.snd.snd.snd = y_1.snd.snd.snd.snd ∧ True)) (by kernel_rfl) ?_
 simp only [zz]
 obtain ⟨⟨a, b, c, d, k⟩, j⟩ := y
 obtain ⟨⟨h1, h2, h3, h4, h5⟩, hj⟩ := hy
 simp only at h1 h2 h3 h4 h5 hj ⊢
 exact ⟨by unfold idxPre; omega, fun hlt => ⟨by unfold idxPre; omega, idx_nat (by omega), by simp only [inR]; omega, ((a, b, c.set j (-7), d, k), j + 1), ⟨⟨⟨by simp only [List.length_set]; omega, by simp only [List.length_set]; omega, by simp only [List.length_set]; omega, by simp only [List.length_set]; omega, by simp only [List.length_set]; omega⟩, by simp only [List.length_set]; omega⟩, by simp only [List.length_set]; omega⟩, by simp only; omega, rfl, rfl, rfl, rfl⟩, fun _ => ⟨(a, b, c, d, k), ⟨h1, h2, h3, h4, h5⟩, rfl, rfl, rfl, rfl⟩⟩
def iv8n3 (y : L5 × Nat) : Prop := okL5 y.1 ∧ y.2 = 0
def hi8n3 (m : Int) (p q : List Int) : Hint := ⟨chk 0 [5, 6, 7, 9, 11, 13, 16, 18, 19, 20, 21] iv8n3 (j8n m p q 3), (ei8n m p q 3).map (·.2)⟩
theorem in8n3 (m : Int) (p q : List Int) (R : Exit → St → Prop) : LoopOK X8 L8_2 (hi8n3 m p q) R := by
 refine loop_ok (Xw_ok _ _) (H := fun _ _ => none) [5, 6, 7, 9, 11, 13, 16, 18, 19, 20, 21] iv8n3 (j8n m p q 3) (fun _ => 0) (ei8n m p q 3) 150 fun y hy => ?_
 refine of_eq (q := True ∧ True ∧ True ∧ idxPre (3 : Int) (5 : Nat) ∧ True ∧ True ∧ True ∧ ((y.snd : Int) < 0 → True ∧ True ∧ idxPre (3 : Int) (5 : Nat) ∧ True ∧ True ∧ False) ∧ (¬(y.snd : Int) < 0 → ∃ (y_1 : List Int × List Int × List Int × List Int × List Int), okL5 y_1 ∧ (m = m ∧ p = p ∧ q = q ∧ (0 : Int) = 0 ∧ (0 : Int) = 0 ∧ (0 : Int) = 0 ∧ (0 : Int) = 0 ∧ (0 : Int) = 0 ∧ ((0 : Nat) = 0 ∧ (5 : Nat) = 5) ∧ (3 : Int) = 3 ∧ True) ∧ (True ∧ True ∧ True ∧ True ∧ True ∧ True) ∧ y.fst.fst = y_1.fst ∧ y.fst.snd.fst = y_1.snd.fst ∧ y.fst.snd.snd.fst = y_1.snd.snd.fst ∧ y.fst.snd.snd.snd.snd = y_1.snd.snd.snd.snd ∧ True)) (by kernel_rfl) ?_
 simp only [zz]
 obtain ⟨⟨a, b, c, d, k⟩, j⟩ := y
 obtain ⟨⟨h1, h2, h3, h4, h5⟩, hj⟩ := hy
 simp only at h1 h2 h3 h4 h5 hj ⊢
 exact ⟨by unfold idxPre; omega, fun h => by omega, fun _ => ⟨(a, b, c, d, k), ⟨h1, h2, h3, h4, h5⟩, rfl, rfl, rfl, rfl⟩⟩
def iv8n4 (y : L5 × Nat) : Prop := okL5 y.1 ∧ y.2 ≤ y.1.2.2.2.2.length
def hi8n4 (m : Int) (p q : List Int) : Hint := ⟨chk 0 [5, 6, 7, 9, 11, 13, 16, 18, 19, 20, 21] iv8n4 (j8n m p q 4), (ei8n m p q 4).map (·.2)⟩
theorem in8n4 (m : Int) (p q : List Int) (R : Exit → St → Prop) : LoopOK X8 L8_2 (hi8n4 m p q) R := by
 refine loop_ok (Xw_ok _ _) (H := fun _ _ => none) [5, 6, 7, 9, 11, 13, 16, 18, 19, 20, 21] iv8n4 (j8n m p q 4) (fun y => y.1.2.2.2.2.length - y.2) (ei8n m p q 4) 150 fun y hy => ?_
 refine of_eq (q := True ∧ True ∧ True ∧ idxPre (4 : Int) (5 : Nat) ∧ True ∧ True ∧ True ∧ ((y.snd : Int) < (y.fst.snd.snd.snd.snd.length : Int) → True ∧ True ∧ idxPre (4 : Int) (5 : Nat) ∧ True ∧ True ∧ idxPre (y.snd : Int) y.fst.snd.snd.snd.snd.length ∧ True ∧ True ∧ inR .i64 ((y.snd : Int) + 1) ∧ True ∧ ∃ (y_1 : L5 × Nat), (iv8n4 y_1 ∧ y_1.fst.snd.snd.snd.snd.length - y_1.snd < y.fst.snd.snd.snd.snd.length - y.snd) ∧ (m = m ∧ p = p ∧ q = q ∧ (0 : Int) = 0 ∧ (0 : Int) = 0 ∧ (0 : Int) = 0 ∧ (0 : Int) = 0 ∧ (0 : Int) = 0 ∧ ((0 : Nat) = 0 ∧ (5 : Nat) = 5) ∧ (4 : Int) = 4 ∧ (y.snd : Int) + 1 = (y_1.snd : Int) ∧ True) ∧ (True ∧ True ∧ True ∧ True ∧ True ∧ True) ∧ y.fst.fst = y_1.fst.fst ∧ y.fst.snd.fst = y_1.fst.snd.fst ∧ y.fst.snd.snd.fst = y_1.fst.snd.snd.fst ∧ y.fst.snd.snd.snd.snd.set y.snd (-7 : Int) = y_1.fst.snd.snd.snd.snd ∧ True) ∧ (¬(y.snd : Int) < (y.fst.snd.snd.snd.snd.length : Int) → ∃ (y_1 : List Int × List Int × List Int × List Int × List Int), okL5 y_1 ∧ (m = m ∧ p = p ∧ q = q ∧ (0 : Int) = 0 ∧ (0 : Int) = 0 ∧ (0 : Int) = 0 ∧ (0 : Int) = 0 ∧ (0 : Int) = 0 ∧ ((0 : Nat) = 0 ∧ (5 : Nat) = 5) ∧ (4 : Int) = 4 ∧ True) ∧ (True ∧ True ∧ True ∧ True ∧ True ∧ True) ∧ y.fst.fst = y_1.fst ∧ y.fst.snd.fst = y_1.snd.fst ∧ y.fst.snd.snd.fst = y_1.snd.snd.fst ∧ y.fst.snd.snd.snd.snd = y_1.snd.snd.snd.snd ∧ True)) (by kernel_rfl) ?_
 simp only [zz]
 obtain ⟨⟨a, b, c, d, k⟩, j⟩ := y
 obtain ⟨⟨h1, h2, h3, h4, h5⟩, hj⟩ := hy
 simp only at h1 h2 h3 h4 h5 hj ⊢
 exact ⟨by unfold idxPre; omega, fun hlt => ⟨by unfold idxPre; omega, idx_nat (by omega), by simp only [inR]; omega, ((a, b, c, d, k.set j (-7)), j + 1), ⟨⟨⟨by simp only [List.length_set]; omega, by simp only [List.length_set]; omega, by simp only [List.length_set]; omega, by simp only [List.length_set]; omega, by simp only [List.length_set]; omega⟩, by simp only [List.length_set]; omega⟩, by simp only [List.length_set]; omega⟩, by simp only; omega, rfl, rfl, rfl, rfl⟩, fun _ => ⟨(a, b, c, d, k), ⟨h1, h2, h3, h4, h5⟩, rfl, rfl, rfl, rfl⟩⟩
def fo8n (m : Int) (p q : List Int) : List Fam := [⟨L5, okL5, s8n m p q 0, fun _ => 5, fun _ _ => some (hi8n0 m p q)⟩, ⟨L5, okL5, s8n m p q 1, fun _ => 4, fun _ _ => some (hi8n1 m p q)⟩, ⟨L5, okL5, s8n m p q 2, fun _ => 3, fun _ _ => some (hi8n2 m p q)⟩, ⟨L5, okL5, s8n m p q 3, fun _ => 2, fun _ _ => some (hi8n3 m p q)⟩, ⟨L5, okL5, s8n m p q 4, fun _ => 1, fun _ _ => some (hi8n4 m p q)⟩, ⟨L5, okL5, s8n m p q 5, fun _ => 0, fun _ _ => none⟩]
def h8n (m : Int) (p q : List Int) : Hint := ⟨chks 0 [5, 6, 7, 9, 11, 13, 16, 18, 19, 20] (fo8n m p q), (eo8 m p q).map (·.2)⟩
theorem loop8n (m : Int) (p q : List Int) (R : Exit → St → Prop) : LoopOK X8 L8_0 (h8n m p q) R := by
 refine loop_fams (Xw_ok _ _) [5, 6, 7, 9, 11, 13, 16, 18, 19, 20] (fo8n m p q) (eo8 m p q) 150 ⟨fun (x : L5) hx => ?_, fun (x : L5) hx => ?_, fun (x : L5) hx => ?_, fun (x : L5) hx => ?_, fun (x : L5) hx => ?_, fun (x : L5) hx => ?_, trivial⟩
 · have hL := in8n0 m p q (bodyR 0 (eo8 m p q) R)
   refine of_eq (q := True ∧ True ∧ True ∧ True ∧ ((0 : Int) < 5 → True ∧ LoopOK X8 L8_2 (hi8n0 m p q) (bodyR (0 : Nat) (eo8 m p q) R) ∧ (∃ (y : L5 × Nat), iv8n0 y ∧ (m = m ∧ p = p ∧ q = q ∧ (0 : Int) = 0 ∧ (0 : Int) = 0 ∧ (0 : Int) = 0 ∧ (0 : Int) = 0 ∧ (0 : Int) = 0 ∧ ((0 : Nat) = 0 ∧ (5 : Nat) = 5) ∧ (0 : Int) = 0 ∧ (0 : Int) = (y.snd : Int) ∧ True) ∧ (True ∧ True ∧ True ∧ True ∧ True ∧ True) ∧ x.fst = y.fst.fst ∧ x.snd.fst = y.fst.snd.fst ∧ x.snd.snd.fst = y.fst.snd.snd.fst ∧ x.snd.snd.snd.snd = y.fst.snd.snd.snd.snd ∧ True) ∧ (∀ (y : List Int × List Int × List Int × List Int × List Int), okL5 y → True ∧ inR .i64 (1 : Int) ∧ True ∧ ((∃ (y_1 : List Int × List Int × List Int × List Int × List Int), (okL5 y_1 ∧ (5 : Nat) < 5) ∧ (m = m ∧ p = p ∧ q = q ∧ (0 : Int) = 0 ∧ (0 : Int) = 0 ∧ (0 : Int) = 0 ∧ (0 : Int) = 0 ∧ (0 : Int) = 0 ∧ ((0 : Nat) = 0 ∧ (5 : Nat) = 5) ∧ (1 : Int) = 0 ∧ True) ∧ (True ∧ True ∧ True ∧ True ∧ True ∧ True) ∧ y.fst = y_1.fst ∧ y.snd.fst = y_1.snd.fst ∧ y.snd.snd.fst = y_1.snd.snd.fst ∧ y.snd.snd.snd.snd = y_1.snd.snd.snd.snd ∧ True) ∨ (∃ (y_1 : List Int × List Int × List Int × List Int × List Int), (okL5 y_1 ∧ (4 : Nat) < 5) ∧ (m = m ∧ p = p ∧ q = q ∧ (0 : Int) = 0 ∧ (0 : Int) = 0 ∧ (0 : Int) = 0 ∧ (0 : Int) = 0 ∧ (0 : Int) = 0 ∧ ((0 : Nat) = 0 ∧ (5 : Nat) = 5) ∧ (1 : Int) = 1 ∧ True) ∧ (True ∧ True ∧ True ∧ True ∧ True ∧ True) ∧ y.fst = y_1.fst ∧ y.snd.fst = y_1.snd.fst ∧ y.snd.snd.fst = y_1.snd.snd.fst ∧ y.snd.snd.snd.snd = y_1.snd.snd.snd.snd ∧ True) ∨ (∃ (y_1 : List Int × List Int × List Int × List Int × List Int), (okL5 y_1 ∧ (3 : Nat) < 5) ∧ (m = m ∧ p = p ∧ q = q ∧ (0 : Int) = 0 ∧ (0 : Int) = 0 ∧ (0 : Int) = 0 ∧ (0 : Int) = 0 ∧ (0 : Int) = 0 ∧ ((0 : Nat) = 0 ∧ (5 : Nat) = 5) ∧ (1 : Int) = 2 ∧ True) ∧ (True ∧ True ∧ True ∧ True ∧ True ∧ True) ∧ y.fst = y_1.fst ∧ y.snd.fst = y_1.snd.fst ∧ y.snd.snd.fst = y_1.snd.snd.fst ∧ y.snd.snd.snd.snd = y_1.snd.snd.snd.snd ∧ True) ∨ (∃ (y_1 : List Int × List Int × List Int × List Int × List Int), (okL5 y_1 ∧ (2 : Nat) < 5) ∧ (m = m ∧ p = p ∧ q = q ∧ (0 : Int) = 0 ∧ (0 : Int) = 0 ∧ (0 : Int) = 0 ∧ (0 : Int) = 0 ∧ (0 : Int) = 0 ∧ ((0 : Nat) = 0 ∧ (5 : Nat) = 5) ∧ (1 : Int) = 3 ∧ True) ∧ (True ∧ True ∧ True ∧ True ∧ True ∧ True) ∧ y.fst = y_1.fst ∧ y.snd.fst = y_1.snd.fst ∧ y.snd.snd.fst = y_1.snd.snd.fst ∧ y.snd.snd.snd.snd = y_1.snd.snd.snd.snd ∧ True) ∨ (∃ (y_1 : List Int × List Int × List Int × List Int × List Int), (okL5 y_1 ∧ (1 : Nat) < 5) ∧ (m = m ∧ p = p ∧ q = q ∧ (0 : Int) = 0 ∧ (0 : Int) = 0 ∧ (0 : Int) = 0 ∧ (0 : Int) = 0 ∧ (0 : Int) = 0 ∧ ((0 : Nat) = 0 ∧ (5 : Nat) = 5) ∧ (1 : Int) = 4 ∧ True) ∧ (True ∧ True ∧ True ∧ True ∧ True ∧ True) ∧ y.fst = y_1.fst ∧ y.snd.fst = y_1.snd.fst ∧ y.snd.snd.fst = y_1.snd.snd.fst ∧ y.snd.snd.snd.snd = y_1.snd.snd.snd.snd ∧ True) ∨ ∃ (y_1 : List Int × List Int × List Int × List Int × List Int), (okL5 y_1 ∧ (0 : Nat) < 5) ∧ (m = m ∧ p = p ∧ q = q ∧ (0 : Int) = 0 ∧ (0 : Int) = 0 ∧ (0 : Int) = 0 ∧ (0 : Int) = 0 ∧ (0 : Int) = 0 ∧ ((0 : Nat) = 0 ∧ (5 : Nat) = 5) ∧ (1 : Int) = 5 ∧ True) ∧ (True ∧ True ∧ True ∧ True ∧ True ∧ True) ∧ y.fst = y_1.fst ∧ y.snd.fst = y_1.snd.fst ∧ y.snd.snd.fst = y_1.snd.snd.fst ∧ y.snd.snd.snd.snd = y_1.snd.snd.snd.snd ∧ True)) ∧ True) ∧ (¬(0 : Int) < 5 → ∃ (y : Unit), True ∧ (m = m ∧ p = p ∧ q = q ∧ (0 : Int) = 0 ∧ (0 : Int) = 0 ∧ (0 : Int) = 0 ∧ (0 : Int) = 0 ∧ (0 : Int) = 0 ∧ True) ∧ True)) (by kernel_rfl) ?_
   simp only [zz]
   exact ⟨fun _ => ⟨hL, ⟨(x, 0), ⟨hx, Nat.zero_le _⟩, rfl, rfl, rfl, rfl, rfl⟩, fun y hy => ⟨by simp only [inR]; omega, .inr (.inl ⟨y, ⟨hy, by decide⟩, rfl, rfl, rfl, rfl⟩)⟩⟩, fun h => absurd (by decide) h⟩
 · have hL := in8n1 m p q (bodyR 0 (eo8 m p q) R)
   refine of_eq (q := True ∧ True ∧ True ∧ True ∧ ((1 : Int) < 5 → True ∧ LoopOK X8 L8_2 (hi8n1 m p q) (bodyR (0 : Nat) (eo8 m p q) R) ∧ (∃ (y : L5 × Nat), iv8n1 y ∧ (m = m ∧ p = p ∧ q = q ∧ (0 : Int) = 0 ∧ (0 : Int) = 0 ∧ (0 : Int) = 0 ∧ (0 : Int) = 0 ∧ (0 : Int) = 0 ∧ ((0 : Nat) = 0 ∧ (5 : Nat) = 5) ∧ (1 : Int) = 1 ∧ (0 : Int) = (y.snd : Int) ∧ True) ∧ (True ∧ True ∧ True ∧ True ∧ True ∧ True) ∧ x.fst = y.fst.fst ∧ x.snd.fst = y.fst.snd.fst ∧ x.snd.snd.fst = y.fst.snd.snd.fst ∧ x.snd.snd.snd.snd = y.fst.snd.snd.snd.snd ∧ True) ∧ (∀ (y : List Int × List Int × List Int × List Int × List Int), okL5 y → True ∧ inR .i64 (2 : Int) ∧ True ∧ ((∃ (y_1 : List Int × List Int × List Int × List Int × List Int), (okL5 y_1 ∧ (5 : Nat) < 4) ∧ (m = m ∧ p = p ∧ q = q ∧ (0 : Int) = 0 ∧ (0 : Int) = 0 ∧ (0 : Int) = 0 ∧ (0 : Int) = 0 ∧ (0 : Int) = 0 ∧ ((0 : Nat) = 0 ∧ (5 : Nat) = 5) ∧ (2 : Int) = 0 ∧ True) ∧ (True ∧ True ∧ True ∧ True ∧ True ∧ True) ∧ y.fst = y_1.fst ∧ y.snd.fst = y_1.snd.fst ∧ y.snd.snd.fst = y_1.snd.snd.fst ∧ y.snd.snd.snd.snd = y_1.snd.snd.snd.snd ∧ True) ∨ (∃ (y_1 : List Int × List Int × List Int × List Int × List Int), (okL5 y_1 ∧ (4 : Nat) < 4) ∧ (m = m ∧ p = p ∧ q = q ∧ (0 : Int) = 0 ∧ (0 : Int) = 0 ∧ (0 : Int) = 0 ∧ (0 : Int) = 0 ∧ (0 : Int) = 0 ∧ ((0 : Nat) = 0 ∧ (5 : Nat) = 5) ∧ (2 : Int) = 1 ∧ True) ∧ (True ∧ True ∧ True ∧ True ∧ True ∧ True) ∧ y.fst = y_1.fst ∧ y.snd.fst = y_1.snd.fst ∧ y.snd.snd.fst = y_1.snd.snd.fst ∧ y.snd.snd.snd.snd = y_1.snd.snd.snd.snd ∧ True) ∨ (∃ (y_1 : List Int × List Int × List Int × List Int × List Int), (okL5 y_1 ∧ (3 : Nat) < 4) ∧ (m = m ∧ p = p ∧ q = q ∧ (0 : Int) = 0 ∧ (0 : Int) = 0 ∧ (0 : Int) = 0 ∧ (0 : Int) = 0 ∧ (0 : Int) = 0 ∧ ((0 : Nat) = 0 ∧ (5 : Nat) = 5) ∧ (2 : Int) = 2 ∧ True) ∧ (True ∧ True ∧ True ∧ True ∧ True ∧ True) ∧ y.fst = y_1.fst ∧ y.snd.fst = y_1.snd.fst ∧ y.snd.snd.fst = y_1.snd.snd.fst ∧ y.snd.snd.snd.snd = y_1.snd.snd.snd.snd ∧ True) ∨ (∃ (y_1 : List Int × List Int × List Int × List Int × List Int), (okL5 y_1 ∧ (2 : Nat) < 4) ∧ (m = m ∧ p = p ∧ q = q ∧ (0 : Int) = 0 ∧ (0 : Int) = 0 ∧ (0 : Int) = 0 ∧ (0 : Int) = 0 ∧ (0 : Int) = 0 ∧ ((0 : Nat) = 0 ∧ (5 : Nat) = 5) ∧ (2 : Int) = 3 ∧ True) ∧ (True ∧ True ∧ True ∧ True ∧ True ∧ True) ∧ y.fst = y_1.fst ∧ y.snd.fst = y_1.snd.fst ∧ y.snd.snd.fst = y_1.snd.snd.fst ∧ y.snd.snd.snd.snd = y_1.snd.snd.snd.snd ∧ True) ∨ (∃ (y_1 : List Int × List Int × List Int × List Int × List Int), (okL5 y_1 ∧ (1 : Nat) < 4) ∧ (m = m ∧ p = p ∧ q = q ∧ (0 : Int) = 0 ∧ (0 : Int) = 0 ∧ (0 : Int) = 0 ∧ (0 : Int) = 0 ∧ (0 : Int) = 0 ∧ ((0 : Nat) = 0 ∧ (5 : Nat) = 5) ∧ (2 : Int) = 4 ∧ True) ∧ (True ∧ True ∧ True ∧ True ∧ True ∧ True) ∧ y.fst = y_1.fst ∧ y.snd.fst = y_1.snd.fst ∧ y.snd.snd.fst = y_1.snd.snd.fst ∧ y.snd.snd.snd.snd = y_1.snd.snd.snd.snd ∧ True) ∨ ∃ (y_1 : List Int × List Int × List Int × List Int × List Int), (okL5 y_1 ∧ (0 : Nat) < 4) ∧ (m = m ∧ p = p ∧ q = q ∧ (0 : Int) = 0 ∧ (0 : Int) = 0 ∧ (0 : Int) = 0 ∧ (0 : Int) = 0 ∧ (0 : Int) = 0 ∧ ((0 : Nat) = 0 ∧ (5 : Nat) = 5) ∧ (2 : Int) = 5 ∧ True) ∧ (True ∧ True ∧ True ∧ True ∧ True ∧ True) ∧ y.fst = y_1.fst ∧ y.snd.fst = y_1.snd.fst ∧ y.snd.snd.fst = y_1.snd.snd.fst ∧ y.snd.snd.snd.snd = y_1.snd.snd.snd.snd ∧ True)) ∧ True) ∧ (¬(1 : Int) < 5 → ∃ (y : Unit), True ∧ (m = m ∧ p = p ∧ q = q ∧ (0 : Int) = 0 ∧ (0 : Int) = 0 ∧ (0 : Int) = 0 ∧ (0 : Int) = 0 ∧ (0 : Int) = 0 ∧ True) ∧ True)) (by kernel_rfl) ?_
   simp only [zz]
   exact ⟨fun _ => ⟨hL, ⟨(x, 0), ⟨hx, Nat.zero_le _⟩, rfl, rfl, rfl, rfl, rfl⟩, fun y hy => ⟨by simp only [inR]; omega, .inr (.inr (.inl ⟨y, ⟨hy, by decide⟩, rfl, rfl, rfl, rfl⟩))⟩⟩, fun h => absurd (by decide) h⟩
 · have hL := in8n2 m p q (bodyR 0 (eo8 m p q) R)
   refine of_eq (q := True ∧ True ∧ True ∧ True ∧ ((2 : Int) < 5 → True ∧ LoopOK X8 L8_2 (hi8n2 m p q) (bodyR (0 : Nat) (eo8 m p q) R) ∧ (∃ (y : L5 × Nat), iv8n2 y ∧ (m = m ∧ p = p ∧ q = q ∧ (0 : Int) = 0 ∧ (0 : Int) = 0 ∧ (0 : Int) = 0 ∧ (0 : Int) = 0 ∧ (0 : Int) = 0 ∧ ((0 : Nat) = 0 ∧ (5 : Nat) = 5) ∧ (2 : Int) = 2 ∧ (0 : Int) = (y.snd : Int) ∧ True) ∧ (True ∧ True ∧ True ∧ True ∧ True ∧ True) ∧ x.fst = y.fst.fst ∧ x.snd.fst = y.fst.snd.fst ∧ x.snd.snd.fst = y.fst.snd.snd.fst ∧ x.snd.snd.snd.snd = y.fst.snd.snd.snd.snd ∧ True) ∧ (∀ (y : List Int × List Int × List Int × List Int × List Int), okL5 y → True ∧ inR .i64 (3 : Int) ∧ True ∧ ((∃ (y_1 : List Int × List Int × List Int × List Int × List Int), (okL5 y_1 ∧ (5 : Nat) < 3) ∧ (m = m ∧ p = p ∧ q = q ∧ (0 : Int) = 0 ∧ (0 : Int) = 0 ∧ (0 : Int) = 0 ∧ (0 : Int) = 0 ∧ (0 : Int) = 0 ∧ ((0 : Nat) = 0 ∧ (5 : Nat) = 5) ∧ (3 : Int) = 0 ∧ True) ∧ (True ∧ True ∧ True ∧ True ∧ True ∧ True) ∧ y.fst = y_1.fst ∧ y.snd.fst = y_1.snd.fst ∧ y.snd.snd.fst = y_1.snd.snd.fst ∧ y.snd.snd.snd.snd = y_1.snd.snd.snd.snd ∧ True) ∨ (∃ (y_1 : List Int × List Int × List Int × List Int × List Int), (okL5 y_1 ∧ (4 : Nat) < 3) ∧ (m = m ∧ p = p ∧ q = q ∧ (0 : Int) = 0 ∧ (0 : Int) = 0 ∧ (0 : Int) = 0 ∧ (0 : Int) = 0 ∧ (0 : Int) = 0 ∧ ((0 : Nat) = 0 ∧ (5 : Nat) = 5) ∧ (3 : Int) = 1 ∧ True) ∧ (True ∧ True ∧ True ∧ True ∧ True ∧ True) ∧ y.fst = y_1.fst ∧ y.snd.fst = y_1.snd.fst ∧ y.snd.snd.fst = y_1.snd.snd.fst ∧ y.snd.snd.snd.snd = y_1.snd.snd.snd.snd ∧ True) ∨ (∃ (y_1 : List Int × List Int × List Int × List Int × List Int), (okL5 y_1 ∧ (3 : Nat) < 3) ∧ (m = m ∧ p = p ∧ q = q ∧ (0 : Int) = 0 ∧ (0 : Int) = 0 ∧ (0 : Int) = 0 ∧ (0 : Int) = 0 ∧ (0 : Int) = 0 ∧ ((0 : Nat) = 0 ∧ (5 : Nat) = 5) ∧ (3 : Int) = 2 ∧ True) ∧ (True ∧ True ∧ True ∧ True ∧ True ∧ True) ∧ y.fst = y_1.fst ∧ y.snd.fst = y_1.snd.fst ∧ y.snd.snd.fst = y_1.snd.snd.fst ∧ y.snd.snd.snd.snd = y_1.snd.snd.snd.snd ∧ True) ∨ (∃ (y_1 : List Int × List Int × List Int × List Int × List Int), (okL5 y_1 ∧ (2 : Nat) < 3) ∧ (m = m ∧ p = p ∧ q = q ∧ (0 : Int) = 0 ∧ (0 : Int) = 0 ∧ (0 : Int) = 0 ∧ (0 : Int) = 0 ∧ (0 : Int) = 0 ∧ ((0 : Nat) = 0 ∧ (5 : Nat) = 5) ∧ (3 : Int) = 3 ∧ True) ∧ (True ∧ True ∧ True ∧ True ∧ True ∧ True) ∧ y.fst = y_1.fst ∧ y.snd.fst = y_1.snd.fst ∧ y.snd.snd.fst = y_1.snd.snd.fst ∧ y.snd.snd.snd.snd = y_1.snd.snd.snd.snd ∧ True) ∨ (∃ (y_1 : List Int × List Int × List Int × List Int × List Int), (okL5 y_1 ∧ (1 : Nat) < 3) ∧ (m = m ∧ p = p ∧ q = q ∧ (0 : Int) = 0 ∧ (0 : Int) = 0 ∧ (0 : Int) = 0 ∧ (0 : Int) = 0 ∧ (0 : Int) = 0 ∧ ((0 : Nat) = 0 ∧ (5 : Nat) = 5) ∧ (3 : Int) = 4 ∧ True) ∧ (True ∧ True ∧ True ∧ True ∧ True ∧ True) ∧ y.fst = y_1.fst ∧ y.snd.fst = y_1.snd.fst ∧ y.snd.snd.fst = y_1.snd.snd.fst ∧ y.snd.snd.snd.snd = y_1.snd.snd.snd.snd ∧ True) ∨ ∃ (y_1 : List Int × List Int × List Int × List Int × List Int), (okL5 y_1 ∧ (0 : Nat) < 3) ∧ (m = m ∧ p = p ∧ q = q ∧ (0 : Int) = 0 ∧ (0 : Int) = 0 ∧ (0 : Int) = 0 ∧ (0 : Int) = 0 ∧ (0 : Int) = 0 ∧ ((0 : Nat) = 0 ∧ (5 : Nat) = 5) ∧ (3 : Int) = 5 ∧ True) ∧ (True ∧ True ∧ True ∧ True ∧ True ∧ True) ∧ y.fst = y_1.fst ∧ y.snd.fst = y_1.snd.fst ∧ y.snd.snd.fst = y_1.snd.snd.fst ∧ y.snd.snd.snd.snd = y_1.snd.snd.snd.snd ∧ True)) ∧ True) ∧ (¬(2 : Int) < 5 → ∃ (y : Unit), True ∧ (m = m ∧ p = p ∧ q = q ∧ (0 : Int) = 0 ∧ (0 : Int) = 0 ∧ (0 : Int) = 0 ∧ (0 : Int) = 0 ∧ (0 : Int) = 0 ∧ True) ∧ True)) (by kernel_rfl) ?_
   simp only [zz]
   exact ⟨fun _ => ⟨hL, ⟨(x, 0), ⟨hx, Nat.zero_le _⟩, rfl, rfl, rfl, rfl, rfl⟩, fun y hy => ⟨by simp only [inR]; omega, .inr (.inr (.inr (.inl ⟨y, ⟨hy, by decide⟩, rfl, rfl, rfl, rfl⟩)))⟩⟩, fun h => absurd (by decide) h⟩
 · have hL := in8n3 m p q (bodyR 0 (eo8 m p q) R)
   refine of_eq (q := True ∧ True ∧ True ∧ True ∧ ((3 : Int) < 5 → True ∧ LoopOK X8 L8_2 (hi8n3 m p q) (bodyR (0 : Nat) (eo8 m p q) R) ∧ (∃ (y : L5 × Nat), iv8n3 y ∧ (m = m ∧ p = p ∧ q = q ∧ (0 : Int) = 0 ∧ (0 : Int) = 0 ∧ (0 : Int) = 0 ∧ (0 : Int) = 0 ∧ (0 : Int) = 0 ∧ ((0 : Nat) = 0 ∧ (5 : Nat) = 5) ∧ (3 : Int) = 3 ∧ (0 : Int) = (y.snd : Int) ∧ True) ∧ (True ∧ True ∧ True ∧ True ∧ True ∧ True) ∧ x.fst = y.fst.fst ∧ x.snd.fst = y.fst.snd.fst ∧ x.snd.snd.fst = y.fst.snd.snd.fst ∧ x.snd.snd.snd.snd = y.fst.snd.snd.snd.snd ∧ True) ∧ (∀ (y : List Int × List Int × List Int × List Int × List Int), okL5 y → True ∧ inR .i64 (4 : Int) ∧ True ∧ ((∃ (y_1 : List Int × List Int × List Int × List Int × List Int), (okL5 y_1 ∧ (5 : Nat) < 2) ∧ (m = m ∧ p = p ∧ q = q ∧ (0 : Int) = 0 ∧ (0 : Int) = 0 ∧ (0 : Int) = 0 ∧ (0 : Int) = 0 ∧ (0 : Int) = 0 ∧ ((0 : Nat) = 0 ∧ (5 : Nat) = 5) ∧ (4 : Int) = 0 ∧ True) ∧ (True ∧ True ∧ True ∧ True ∧ True ∧ True) ∧ y.fst = y_1.fst ∧ y.snd.fst = y_1.snd.fst ∧ y.snd.snd.fst = y_1.snd.snd.fst ∧ y.snd.snd.snd.snd = y_1.snd.snd.snd.snd ∧ True) ∨ (∃ (y_1 : List Int × List Int × List Int × List Int × List Int), (okL5 y_1 ∧ (4 : Nat) < 2) ∧ (m = m ∧ p = p ∧ q = q ∧ (0 : Int) = 0 ∧ (0 : Int) = 0 ∧ (0 : Int) = 0 ∧ (0 : Int) = 0 ∧ (0 : Int) = 0 ∧ ((0 : Nat) = 0 ∧ (5 : Nat) = 5) ∧ (4 : Int) = 1 ∧ True) ∧ (True ∧ True ∧ True ∧ True ∧ True ∧ True) ∧ y.fst = y_1.fst ∧ y.snd.fst = y_1.snd.fst ∧ y.snd.snd.fst = y_1.snd.snd.fst ∧ y.snd.snd.snd.snd = y_1.snd.snd.snd.snd ∧ True) ∨ (∃ (y_1 : List Int × List Int × List Int × List Int × List Int), (okL5 y_1 ∧ (3 : Nat) < 2) ∧ (m = m ∧ p = p ∧ q = q ∧ (0 : Int) = 0 ∧ (0 : Int) = 0 ∧ (0 : Int) = 0 ∧ (0 : Int) = 0 ∧ (0 : Int) = 0 ∧ ((0 : Nat) = 0 ∧ (5 : Nat) = 5) ∧ (4 : Int) = 2 ∧ True) ∧ (True ∧ True ∧ True ∧ True ∧ True ∧ True) ∧ y.fst = y_1.fst ∧ y.snd.fst = y_1.snd.fst ∧ y.snd.snd.fst = y_1.snd.snd.fst ∧ y.snd.snd.snd.snd = y_1.snd.snd.snd.snd ∧ True) ∨ (∃ (y_1 : List Int × List Int × List Int × List Int × List Int), (okL5 y_1 ∧ (2 : Nat) < 2) ∧ (m = m ∧ p = p ∧ q = q ∧ (0 : Int) = 0 ∧ (0 : Int) = 0 ∧ (0 : Int) = 0 ∧ (0 : Int) = 0 ∧ (0 : Int) = 0 ∧ ((0 : Nat) = 0 ∧ (5 : Nat) = 5) ∧ (4 : Int) = 3 ∧ True) ∧ (True ∧ True ∧ True ∧ True ∧ True ∧ True) ∧ y.fst = y_1.fst ∧ y.snd.fst = y_1.snd.fst ∧ y.snd.snd.fst = y_1.snd.snd.fst ∧ y.snd.snd.snd.snd = y_1.snd.snd.snd.snd ∧ True) ∨ (∃ (y_1 : List Int × List Int × List Int × List Int × List Int), (okL5 y_1 ∧ (1 : Nat) < 2) ∧ (m = m ∧ p = p ∧ q = q ∧ (0 : Int) = 0 ∧ (0 : Int) = 0 ∧ (0 : Int) = 0 ∧ (0 : Int) = 0 ∧ (0 : Int) = 0 ∧ ((0 : Nat) = 0 ∧ (5 : Nat) = 5) ∧ (4 : Int) = 4 ∧ True) ∧ (True ∧ True ∧ True ∧ True ∧ True ∧ True) ∧ y.fst = y_1.fst ∧ y.snd.fst = y_1.snd.fst ∧ y.snd.snd.fst = y_1.snd.snd.fst ∧ y.snd.snd.snd.snd = y_1.snd.snd.snd.snd ∧ True) ∨ ∃ (y_1 : List Int × List Int × List Int × List Int × List Int), (okL5 y_1 ∧ (0 : Nat) < 2) ∧ (m = m ∧ p = p ∧ q = q ∧ (0 : Int) = 0 ∧ (0 : Int) = 0 ∧ (0 : Int) = 0 ∧ (0 : Int) = 0 ∧ (0 : Int) = 0 ∧ ((0 : Nat) = 0 ∧ (5 : Nat) = 5) ∧ (4 : Int) = 5 ∧ True) ∧ (True ∧ True ∧ True ∧ True ∧ True ∧ True) ∧ y.fst = y_1.fst ∧ y.snd.fst = y_1.snd.fst ∧ y.snd.snd.fst = y_1.snd.snd.fst ∧ y.snd.snd.snd.snd = y_1.snd.snd.snd.snd ∧ True)) ∧ True) ∧ (¬(3 : Int) < 5 → ∃ (y : Unit), True ∧ (m = m ∧ p = p ∧ q = q ∧ (0 : Int) = 0 ∧ (0 : Int) = 0 ∧ (0 : Int) = 0 ∧ (0 : Int) = 0 ∧ (0 : Int) = 0 ∧ True) ∧ True)) (by kernel_rfl) ?_
   simp only [zz]
   exact ⟨fun _ => ⟨hL, ⟨(x, 0), ⟨hx, rfl⟩, rfl, rfl, rfl, rfl, rfl⟩, fun y hy => ⟨by simp only [inR]; omega, .inr (.inr (.inr (.inr (.inl ⟨y, ⟨hy, by decide⟩, rfl, rfl, rfl, rfl⟩))))⟩⟩, fun h => absurd (by decide) h⟩
 · have hL := in8n4 m p q (bodyR 0 (eo8 m p q) R)
   refine of_eq (q := True ∧ True ∧ True ∧ True ∧ ((4 : Int) < 5 → True ∧ LoopOK X8 L8_2 (hi8n4 m p q) (bodyR (0 : Nat) (eo8 m p q) R) ∧ (∃ (y : L5 × Nat), iv8n4 y ∧ (m = m ∧ p = p ∧ q = q ∧ (0 : Int) = 0 ∧ (0 : Int) = 0 ∧ (0 : Int) = 0 ∧ (0 : Int) = 0 ∧ (0 : Int) = 0 ∧ ((0 : Nat) = 0 ∧ (5 : Nat) = 5) ∧ (4 : Int) = 4 ∧ (0 : Int) = (y.snd : Int) ∧ True) ∧ (True ∧ True ∧ True ∧ True ∧ True ∧ True) ∧ x.fst = y.fst.fst ∧ x.snd.fst = y.fst.snd.fst ∧ x.snd.snd.fst = y.fst.snd.snd.fst ∧ x.snd.snd.snd.snd = y.fst.snd.snd.snd.snd ∧ True) ∧ (∀ (y : List Int × List Int × List Int × List Int × List Int), okL5 y → True ∧ inR .i64 (5 : Int) ∧ True ∧ ((∃ (y_1 : List Int × List Int × List Int × List Int × List Int), (okL5 y_1 ∧ (5 : Nat) < 1) ∧ (m = m ∧ p = p ∧ q = q ∧ (0 : Int) = 0 ∧ (0 : Int) = 0 ∧ (0 : Int) = 0 ∧ (0 : Int) = 0 ∧ (0 : Int) = 0 ∧ ((0 : Nat) = 0 ∧ (5 : Nat) = 5) ∧ (5 : Int) = 0 ∧ True) ∧ (True ∧ True ∧ True ∧ True ∧ True ∧ True) ∧ y.fst = y_1.fst ∧ y.snd.fst = y_1.snd.fst ∧ y.snd.snd.fst = y_1.snd.snd.fst ∧ y.snd.snd.snd.snd = y_1.snd.snd.snd.snd ∧ True) ∨ (∃ (y_1 : List Int × List Int × List Int × List Int × List Int), (okL5 y_1 ∧ (4 : Nat) < 1) ∧ (m = m ∧ p = p ∧ q = q ∧ (0 : Int) = 0 ∧ (0 : Int) = 0 ∧ (0 : Int) = 0 ∧ (0 : Int) = 0 ∧ (0 : Int) = 0 ∧ ((0 : Nat) = 0 ∧ (5 : Nat) = 5) ∧ (5 : Int) = 1 ∧ True) ∧ (True ∧ True ∧ True ∧ True ∧ True ∧ True) ∧ y.fst = y_1.fst ∧ y.snd.fst = y_1.snd.fst ∧ y.snd.snd.fst = y_1.snd.snd.fst ∧ y.snd.snd.snd.snd = y_1.snd.snd.snd.snd ∧ True) ∨ (∃ (y_1 : List Int × List Int × List Int × List Int × List Int), (okL5 y_1 ∧ (3 : Nat) < 1) ∧ (m = m ∧ p = p ∧ q = q ∧ (0 : Int) = 0 ∧ (0 : Int) = 0 ∧ (0 : Int) = 0 ∧ (0 : Int) = 0 ∧ (0 : Int) = 0 ∧ ((0 : Nat) = 0 ∧ (5 : Nat) = 5) ∧ (5 : Int) = 2 ∧ True) ∧ (True ∧ True ∧ True ∧ True ∧ True ∧ True) ∧ y.fst = y_1.fst ∧ y.snd.fst = y_1.snd.fst ∧ y.snd.snd.fst = y_1.snd.snd.fst ∧ y.snd.snd.snd.snd = y_1.snd.snd.snd.snd ∧ True) ∨ (∃ (y_1 : List Int × List Int × List Int × List Int × List Int), (okL5 y_1 ∧ (2 : Nat) < 1) ∧ (m = m ∧ p = p ∧ q = q ∧ (0 : Int) = 0 ∧ (0 : Int) = 0 ∧ (0 : Int) = 0 ∧ (0 : Int) = 0 ∧ (0 : Int) = 0 ∧ ((0 : Nat) = 0 ∧ (5 : Nat) = 5) ∧ (5 : Int) = 3 ∧ True) ∧ (True ∧ True ∧ True ∧ True ∧ True ∧ True) ∧ y.fst = y_1.fst ∧ y.snd.fst = y_1.snd.fst ∧ y.snd.snd.fst = y_1.snd.snd.fst ∧ y.snd.snd.snd.snd = y_1.snd.snd.snd.snd ∧ True) ∨ (∃ (y_1 : List Int × List Int × List Int × List Int × List Int), (okL5 y_1 ∧ (1 : Nat) < 1) ∧ (m = m ∧ p = p ∧ q = q ∧ (0 : Int) = 0 ∧ (0 : Int) = 0 ∧ (0 : Int) = 0 ∧ (0 : Int) = 0 ∧ (0 : Int) = 0 ∧ ((0 : Nat) = 0 ∧ (5 : Nat) = 5) ∧ (5 : Int) = 4 ∧ True) ∧ (True ∧ True ∧ True ∧ True ∧ True ∧ True) ∧ y.fst = y_1.fst ∧ y.snd.fst = y_1.snd.fst ∧ y.snd.snd.fst = y_1.snd.snd.fst ∧ y.snd.snd.snd.snd = y_1.snd.snd.snd.snd ∧ True) ∨ ∃ (y_1 : List Int × List Int × List Int × List Int × List Int), (okL5 y_1 ∧ (0 : Nat) < 1) ∧ (m = m ∧ p = p ∧ q = q ∧ (0 : Int) = 0 ∧ (0 : Int) = 0 ∧ (0 : Int) = 0 ∧ (0 : Int) = 0 ∧ (0 : Int) = 0 ∧ ((0 : Nat) = 0 ∧ (5 : Nat) = 5) ∧ (5 : Int) = 5 ∧ True) ∧ (True ∧ True ∧ True ∧ True ∧ True ∧ True) ∧ y.fst = y_1.fst ∧ y.snd.fst = y_1.snd.fst ∧ y.snd.snd.fst = y_1.snd.snd.fst ∧ y.snd.snd.snd.snd = y_1.snd.snd.snd.snd ∧ True)) ∧ True) ∧ (¬(4 : Int) < 5 → ∃ (y : Unit), True ∧ (m = m ∧ p = p ∧ q = q ∧ (0 : Int) = 0 ∧ (0 : Int) = 0 ∧ (0 : Int) = 0 ∧ (0 : Int) = 0 ∧ (0 : Int) = 0 ∧ True) ∧ True)) (by kernel_rfl) ?_
   simp only [zz]
   exact ⟨fun _ => ⟨hL, ⟨(x, 0), ⟨hx, Nat.zero_le _⟩, rfl, rfl, rfl, rfl, rfl⟩, fun y hy => ⟨by simp only [inR]; omega, .inr (.inr (.inr (.inr (.inr (⟨y, ⟨hy, by decide⟩, rfl, rfl, rfl, rfl⟩)))))⟩⟩, fun h => absurd (by decide) h⟩
 · refine of_eq (q := True ∧ True ∧ True ∧ True ∧ ((5 : Int) < 5 → True ∧ False) ∧ (¬(5 : Int) < 5 → ∃ (y : Unit), True ∧ (m = m ∧ p = p ∧ q = q ∧ (0 : Int) = 0 ∧ (0 : Int) = 0 ∧ (0 : Int) = 0 ∧ (0 : Int) = 0 ∧ (0 : Int) = 0 ∧ True) ∧ True)) (by kernel_rfl) ?_
   simp only [zz]
   exact ⟨fun h => absurd h (by decide), fun _ => trivial⟩
end Go.Am.Sh

/- Shells: the law of the own results. -/
namespace Go.Am.Sh
open Go Go.Am Go.Proofs
theorem trueN_cN (g : Nat → Bool) : ∀ k, (trueN g k).length = cN g k
 | 0 => rfl
 | k + 1 => by
   rw [trueN, cN, ← trueN_cN g k]
   cases hg : g k <;> simp
theorem cN_le {f g : Nat → Bool} : ∀ {m : Nat}, (∀ x, x < m → f x = true → g x = true) → cN f m ≤ cN g m
 | 0, _ => Nat.le_refl _
 | m + 1, h => by
   have ih := cN_le (f := f) (g := g) (m := m) fun x hx => h x (by omega)
   have h2 := h m (by omega)
   rw [cN, cN]
   cases hf : f m <;> cases hg : g m <;> simp_all <;> omega
theorem cN_or {f g : Nat → Bool} : ∀ m : Nat, cN (fun x => f x || g x) m ≤ cN f m + cN g m
 | 0 => Nat.le_refl _
 | m + 1 => by
   have ih := cN_or (f := f) (g := g) m
   rw [cN, cN, cN]
   cases hf : f m <;> cases hg : g m <;> simp_all <;> omega
theorem cN_one (a : Int) : ∀ m : Nat, cN (fun x => decide (a = (x : Int))) m ≤ if 0 ≤ a ∧ a < m then 1 else 0
 | 0 => by rw [cN]; omega
 | m + 1 => by
   have ih := cN_one a m
   rw [cN]
   by_cases h : a = (m : Int)
   · rw [if_pos (decide_eq_true h)]
     rw [if_neg (by omega)] at ih
     rw [if_pos (by omega)]; omega
   · rw [if_neg (by simpa using h)]
     split at ih
     · rw [if_pos (by omega)]; omega
     · omega
theorem cN_mem : ∀ p : List Int, cN (fun x => p.any fun s => decide (s = (x : Int))) 64 ≤ p.length
 | [] => by
   rw [cN_ext (g := fun _ => false) fun x _ => by rw [List.any_nil]]
   decide +kernel
 | a :: p => by
   have ih := cN_mem p
   have h1 := cN_or (f := fun x => decide (a = (x : Int))) (g := fun x => p.any fun s => decide (s = (x : Int))) 64
   have h2 := cN_one a 64
   rw [cN_ext (g := fun x => decide (a = (x : Int)) || p.any fun s => decide (s = (x : Int))) fun x _ => by rw [List.any_cons]]
   rw [List.length_cons]
   split at h2 <;> omega
theorem pieL_len (p : List Int) : (pieL p).length ≤ p.length := by
 unfold pieL
 rw [trueN_cN]
 refine Nat.le_trans (cN_le fun x hx h => ?_) (cN_mem p)
 unfold pieB at h
 rw [Bool.and_eq_true, inK_iff] at h
 obtain ⟨i, hi, he⟩ := h.1
 exact List.any_eq_true.mpr ⟨_, mem_getD (d := 0) hi, decide_eq_true he⟩
theorem made_cx {n : Int} {p : List Int} (h : cxOk n p) : madOk n p ∧ fewE (grL (isF p)) = 0 := by
 have h2 := pow_le6 h.1
 have hl := h.2.1
 refine ⟨⟨h.1, by omega, ?_⟩, ?_⟩
 · unfold badL
   rw [List.any_eq_false]
   intro x hx
   obtain ⟨i, hi, rfl⟩ := List.getElem_of_mem hx
   have := h.2.2 i hi
   unfold badB
   have h3 := this.1
   have h4 := this.2.1
   rw [getD_lt hi] at h3 h4
   rw [decide_eq_true_eq]
   omega
 · rw [grL_pie h.ok]
   have h3 := pieL_len p
   have h4 := pie_ne h.ok (by omega)
   have h5 := pie_pos (s := p) ⟨0, by omega, (h.2.2 0 (by omega)).1⟩ _ (mem_getD (d := 0) (show 0 < (pieL p).length by omega))
   unfold fewE
   rw [if_neg (fun h => by rcases h with h | h; rw [h] at h4; simp at h4; omega), if_neg (by omega)]
theorem lnk_zero {p : List Int} (x : Nat) : lnkG p 0 x = isF p x := by unfold lnkG; simp
theorem lnk_ne {n : Int} {p : List Int} (h : cxOk n p) : grL (lnkG p 0) ≠ [] ∧ isF p 0 = true := by
 have h1 := pie_ne h.ok (by have := h.2.1; omega)
 rw [grL_ext (g := isF p) fun x _ => lnk_zero x, grL_pie h.ok]
 refine ⟨fun e => by rw [e] at h1; simp at h1, isF_iff.mpr ⟨0, by have := h.2.1.1; omega, sub_zero _⟩⟩
def e28o : Entry Try.prog gl := entry2 28 ⟨Try.f28, by kernel_rfl, by kernel_rfl, by kernel_rfl⟩ I64 SI (fun (n : Int) p => cxOk n p) true (fun _ _ => [.own 0 0, .int .i64 0]) (fun _ p => oI (fcs p)) (fun (n : Int) p h => call28o n p h)
def e21o : Entry Try.prog gl := entry2 21 ⟨Try.f21, by kernel_rfl, by kernel_rfl, by kernel_rfl⟩ I64 SI (fun (n : Int) p => cxOk n p) true (fun _ _ => [.own 0 0, .int .i64 0]) (fun _ p => oI (grL (isF p))) (fun (n : Int) p h => call21o n p (made_cx h))
def e27o : Entry Try.prog gl := entry2 27 ⟨Try.f27, by kernel_rfl, by kernel_rfl, by kernel_rfl⟩ I64 SI (fun (n : Int) p => cxOk n p) true (fun _ _ => [.own 0 0, .int .i64 0]) (fun _ p => oI (hsL p)) (fun (n : Int) p h => call27o n p h)
def e15o : Entry Try.prog gl := entry2 15 ⟨Try.f15, by kernel_rfl, by kernel_rfl, by kernel_rfl⟩ I64 SI (fun (n : Int) p => cxOk n p ∧ pure p = true) true (fun _ p => [.own 0 0, .bool (shB p), .int .i64 0]) (fun _ p => oI (shL p)) (fun (n : Int) p h => call15o n p h.1 h.2)
def e15n : Entry Try.prog gl := entry2 15 ⟨Try.f15, by kernel_rfl, by kernel_rfl, by kernel_rfl⟩ I64 SI (fun (n : Int) p => cxOk n p ∧ pure p = false) true (fun _ _ => [nl, .ff, .int .i64 0]) (fun _ _ => []) (fun (n : Int) p h => call15n n p h.1 h.2)
def e32o : Entry Try.prog gl := entry3 32 ⟨Try.f32, by kernel_rfl, by kernel_rfl, by kernel_rfl⟩ I64 SI I64 (fun (n : Int) p (f : Int) => cxOk n p ∧ f = 0) true (fun _ _ _ => [.own 0 0, .int .i64 0]) (fun _ p (_ : Int) => oI (grL (lnkG p 0))) (fun (n : Int) p (f : Int) h => by
 obtain ⟨h1, rfl⟩ := h
 exact call32o n p 0 h1 (by decide) (lnk_ne h1).2 (lnk_ne h1).1)
noncomputable abbrev X8a : Cy := Xw [e14, e20, e28o, e21o, e27o, e15o, e32o, e35, e23, e19] (fun t => Nat.beq t 68)
noncomputable abbrev X8b : Cy := Xw [e14, e20, e28o, e21o, e27o, e15n, e32o, e35, e23, e19] (fun t => Nat.beq t 68)
theorem call8 (n : Int) (l : List Int) (hl : l.length < 1000000000000000) : GCall Try.prog gl 8 true [.int .i64 n, .sl I64 l] [] [.tt] [] := by
 have hc := tm_cx n l
 by_cases hp : pure (tmP n l) = true
 · have hL := loop8o (tmN n) (tmP n l) ((tmP n l).take 20)
   refine gcall_of (X := X8a) ((Xw_ok _ _)) (f := 8) (fn := Try.f8) (c := bodyOf Try.f8) (by kernel_rfl) (by kernel_rfl) (view := false) (rvs := [.tmp 4]) (by kernel_rfl) (H := (fun _ => some (h8o (tmN n) (tmP n l) ((tmP n l).take 20)))) 250 (by kernel_rfl) ?_
   refine of_eq (q := True ∧ True ∧ True ∧ (l.length + 1 ≤ 1000000000000000 ∧ True) ∧ True ∧ True ∧ True ∧ True ∧ True ∧ True ∧ (((tmP n l).length < 1000000000000000 ∧ (0 : Int) ≤ 20 ∧ (20 : Int) < 1000000) ∧ True) ∧ True ∧ True ∧ True ∧ ((numOk (tmN n) ∧ ((1 : Nat) ≤ (tmP n l).length ∧ (tmP n l).length ≤ 10) ∧ ∀ (k : Nat), k < (tmP n l).length → goodAt (tmN n) (tmP n l) k) ∧ True) ∧ True ∧ True ∧ True ∧ True ∧ True ∧ True ∧ True ∧ ((numOk (tmN n) ∧ ((1 : Nat) ≤ (tmP n l).length ∧ (tmP n l).length ≤ 10) ∧ ∀ (k : Nat), k < (tmP n l).length → goodAt (tmN n) (tmP n l) k) ∧ True) ∧ True ∧ True ∧ True ∧ True ∧ True ∧ True ∧ True ∧ ((numOk (tmN n) ∧ ((1 : Nat) ≤ (tmP n l).length ∧ (tmP n l).length ≤ 10) ∧ ∀ (k : Nat), k < (tmP n l).length → goodAt (tmN n) (tmP n l) k) ∧ True) ∧ True ∧ True ∧ True ∧ True ∧ True ∧ True ∧ True ∧ ((cxOk (tmN n) (tmP n l) ∧ pure (tmP n l) = true) ∧ True) ∧ True ∧ True ∧ True ∧ True ∧ True ∧ True ∧ True ∧ True ∧ True ∧ ((cxOk (tmN n) (tmP n l) ∧ (0 : Int) = 0) ∧ True) ∧ True ∧ True ∧ True ∧ True ∧ True ∧ True ∧ True ∧ True ∧ True ∧ True ∧ True ∧ True ∧ True ∧ LoopOK X8 L8_0 (h8o (tmN n) (tmP n l) (List.take (20 : Nat) (tmP n l))) (RetR X8a true false [ResultVar.tmp (4 : Tmp)] [AV.tt] []) ∧ ((∃ (y : List Int × List Int × List Int × List Int × List Int), okL5 y ∧ (tmN n = tmN n ∧ tmP n l = tmP n l ∧ List.take (20 : Nat) (tmP n l) = List.take (20 : Nat) (tmP n l) ∧ (0 : Int) = 0 ∧ (0 : Int) = 0 ∧ (0 : Int) = 0 ∧ (0 : Int) = 0 ∧ (0 : Int) = 0 ∧ ((0 : Nat) = 0 ∧ (5 : Nat) = 5) ∧ (0 : Int) = 0 ∧ True) ∧ (True ∧ True ∧ True ∧ True ∧ True ∧ True) ∧ fcs (tmP n l) = y.fst ∧ grL (isF (tmP n l)) = y.snd.fst ∧ hsL (tmP n l) = y.snd.snd.fst ∧ shL (tmP n l) = y.snd.snd.snd.fst ∧ grL (lnkG (tmP n l) (0 : Nat)) = y.snd.snd.snd.snd ∧ True) ∨ (∃ (y : List Int × List Int × List Int × List Int × List Int), okL5 y ∧ (tmN n = tmN n ∧ tmP n l = tmP n l ∧ List.take (20 : Nat) (tmP n l) = List.take (20 : Nat) (tmP n l) ∧ (0 : Int) = 0 ∧ (0 : Int) = 0 ∧ (0 : Int) = 0 ∧ (0 : Int) = 0 ∧ (0 : Int) = 0 ∧ ((0 : Nat) = 0 ∧ (5 : Nat) = 5) ∧ (0 : Int) = 1 ∧ True) ∧ (True ∧ True ∧ True ∧ True ∧ True ∧ True) ∧ fcs (tmP n l) = y.fst ∧ grL (isF (tmP n l)) = y.snd.fst ∧ hsL (tmP n l) = y.snd.snd.fst ∧ shL (tmP n l) = y.snd.snd.snd.fst ∧ grL (lnkG (tmP n l) (0 : Nat)) = y.snd.snd.snd.snd ∧ True) ∨ (∃ (y : List Int × List Int × List Int × List Int × List Int), okL5 y ∧ (tmN n = tmN n ∧ tmP n l = tmP n l ∧ List.take (20 : Nat) (tmP n l) = List.take (20 : Nat) (tmP n l) ∧ (0 : Int) = 0 ∧ (0 : Int) = 0 ∧ (0 : Int) = 0 ∧ (0 : Int) = 0 ∧ (0 : Int) = 0 ∧ ((0 : Nat) = 0 ∧ (5 : Nat) = 5) ∧ (0 : Int) = 2 ∧ True) ∧ (True ∧ True ∧ True ∧ True ∧ True ∧ True) ∧ fcs (tmP n l) = y.fst ∧ grL (isF (tmP n l)) = y.snd.fst ∧ hsL (tmP n l) = y.snd.snd.fst ∧ shL (tmP n l) = y.snd.snd.snd.fst ∧ grL (lnkG (tmP n l) (0 : Nat)) = y.snd.snd.snd.snd ∧ True) ∨ (∃ (y : List Int × List Int × List Int × List Int × List Int), okL5 y ∧ (tmN n = tmN n ∧ tmP n l = tmP n l ∧ List.take (20 : Nat) (tmP n l) = List.take (20 : Nat) (tmP n l) ∧ (0 : Int) = 0 ∧ (0 : Int) = 0 ∧ (0 : Int) = 0 ∧ (0 : Int) = 0 ∧ (0 : Int) = 0 ∧ ((0 : Nat) = 0 ∧ (5 : Nat) = 5) ∧ (0 : Int) = 3 ∧ True) ∧ (True ∧ True ∧ True ∧ True ∧ True ∧ True) ∧ fcs (tmP n l) = y.fst ∧ grL (isF (tmP n l)) = y.snd.fst ∧ hsL (tmP n l) = y.snd.snd.fst ∧ shL (tmP n l) = y.snd.snd.snd.fst ∧ grL (lnkG (tmP n l) (0 : Nat)) = y.snd.snd.snd.snd ∧ True) ∨ (∃ (y : List Int × List Int × List Int × List Int × List Int), okL5 y ∧ (tmN n = tmN n ∧ tmP n l = tmP n l ∧ List.take (20 : Nat) (tmP n l) = List.take (20 : Nat) (tmP n l) ∧ (0 : Int) = 0 ∧ (0 : Int) = 0 ∧ (0 : Int) = 0 ∧ (0 : Int) = 0 ∧ (0 : Int) = 0 ∧ ((0 : Nat) = 0 ∧ (5 : Nat) = 5) ∧ (0 : Int) = 4 ∧ True) ∧ (True ∧ True ∧ True ∧ True ∧ True ∧ True) ∧ fcs (tmP n l) = y.fst ∧ grL (isF (tmP n l)) = y.snd.fst ∧ hsL (tmP n l) = y.snd.snd.fst ∧ shL (tmP n l) = y.snd.snd.snd.fst ∧ grL (lnkG (tmP n l) (0 : Nat)) = y.snd.snd.snd.snd ∧ True) ∨ ∃ (y : List Int × List Int × List Int × List Int × List Int), okL5 y ∧ (tmN n = tmN n ∧ tmP n l = tmP n l ∧ List.take (20 : Nat) (tmP n l) = List.take (20 : Nat) (tmP n l) ∧ (0 : Int) = 0 ∧ (0 : Int) = 0 ∧ (0 : Int) = 0 ∧ (0 : Int) = 0 ∧ (0 : Int) = 0 ∧ ((0 : Nat) = 0 ∧ (5 : Nat) = 5) ∧ (0 : Int) = 5 ∧ True) ∧ (True ∧ True ∧ True ∧ True ∧ True ∧ True) ∧ fcs (tmP n l) = y.fst ∧ grL (isF (tmP n l)) = y.snd.fst ∧ hsL (tmP n l) = y.snd.snd.fst ∧ shL (tmP n l) = y.snd.snd.snd.fst ∧ grL (lnkG (tmP n l) (0 : Nat)) = y.snd.snd.snd.snd ∧ True) ∧ (∀ (y : Unit), True → True ∧ True ∧ ((numOk (tmN n) ∧ ((1 : Nat) ≤ (tmP n l).length ∧ (tmP n l).length ≤ 10) ∧ ∀ (k : Nat), k < (tmP n l).length → goodAt (tmN n) (tmP n l) k) ∧ True) ∧ True ∧ True ∧ True ∧ True ∧ True ∧ True ∧ True ∧ True ∧ ((0 : Int) = 0 → True ∧ True ∧ True ∧ True ∧ ((0 : Int) = 0 → True ∧ True ∧ True ∧ True ∧ ((0 : Int) = 0 → True ∧ True ∧ True ∧ True ∧ ((0 : Int) = 0 → True ∧ True ∧ True ∧ True ∧ ((0 : Int) = 0 → True ∧ True ∧ True ∧ True ∧ ((0 : Int) = 0 → True ∧ True ∧ ((tmP n l).length + 1 ≤ 1000000000000000 ∧ True) ∧ True ∧ True ∧ (decide (tmP n l = List.take (20 : Nat) (tmP n l)) = true → True ∧ True ∧ True ∧ ((numOk (tmN n) ∧ okL (List.take (20 : Nat) (tmP n l)) ∧ (List.take (20 : Nat) (tmP n l)).length < 1000000) ∧ True) ∧ ((fcs (tmP n l)).length + 1 ≤ 1000000000000000 ∧ True) ∧ True ∧ True ∧ (decide (fcs (tmP n l) = facesL (tmN n) (List.take (20 : Nat) (tmP n l))) = true → (True ∧ True) ∧ True ∧ True ∧ True ∧ (true = true ∧ True) ∧ True) ∧ (decide (fcs (tmP n l) = facesL (tmN n) (List.take (20 : Nat) (tmP n l))) = false → True ∧ True ∧ True ∧ (false = true ∧ True) ∧ True)) ∧ (decide (tmP n l = List.take (20 : Nat) (tmP n l)) = false → True ∧ True ∧ True ∧ True ∧ True ∧ (false = true ∧ True) ∧ True)) ∧ (¬(0 : Int) = 0 → True ∧ True ∧ True ∧ True ∧ True ∧ True ∧ True ∧ (false = true ∧ True) ∧ True)) ∧ (¬(0 : Int) = 0 → True ∧ True ∧ True ∧ True ∧ True ∧ True ∧ True ∧ True ∧ True ∧ (false = true ∧ True) ∧ True)) ∧ (¬(0 : Int) = 0 → True ∧ True ∧ True ∧ True ∧ True ∧ True ∧ True ∧ True ∧ True ∧ True ∧ True ∧ (false = true ∧ True) ∧ True)) ∧ (¬(0 : Int) = 0 → True ∧ True ∧ True ∧ True ∧ True ∧ True ∧ True ∧ True ∧ True ∧ True ∧ True ∧ True ∧ True ∧ (false = true ∧ True) ∧ True)) ∧ (¬(0 : Int) = 0 → True ∧ True ∧ True ∧ True ∧ True ∧ True ∧ True ∧ True ∧ True ∧ True ∧ True ∧ True ∧ True ∧ True ∧ True ∧ (false = true ∧ True) ∧ True)) ∧ (¬(0 : Int) = 0 → True ∧ True ∧ True ∧ True ∧ True ∧ True ∧ True ∧ True ∧ True ∧ True ∧ True ∧ True ∧ True ∧ True ∧ True ∧ True ∧ True ∧ (false = true ∧ True) ∧ True)) ∧ True) (by kernel_rfl) ?_
   simp only [zz]
   have hl2 := hc.2.1
   have ht : (tmP n l).take 20 = tmP n l := List.take_of_length_le (by omega)
   have hfl := fcs_len (tmP n l)
   have hgl : (grL (isF (tmP n l))).length ≤ 64 := trueN_len _ _
   have hkl : (grL (lnkG (tmP n l) 0)).length ≤ 64 := trueN_len _ _
   have hsl := (sh_facts hc).l
   have hhl : (hsL (tmP n l)).length ≤ 64 := by
     have := mxL_le (tmP n l)
     have h3 := cnts_length (tmP n l)
     rw [hs_eq]; simp [rhL]; omega
   rw [ht] at hL ⊢
   rw [faces_fcs hc]
   exact ⟨by omega, ⟨by omega, by decide, by decide⟩, hc, hc, hc, ⟨hc, hp⟩, hc, hL _, .inl ⟨(_, _, _, _, _), ⟨hfl, hgl, hhl, Nat.le_trans hsl (by decide), hkl⟩, rfl, rfl, rfl, rfl, rfl⟩, fun _ _ => ⟨hc, ⟨fun _ => ⟨fun _ => ⟨fun _ => ⟨fun _ => ⟨fun _ => ⟨fun _ => ⟨by omega, fun _ => ⟨⟨hc.1, hc.ok, by omega⟩, by omega, fun _ => trivial, fun h => by simp at h⟩, fun h => by simp at h⟩, fun h => absurd trivial h⟩, fun h => absurd trivial h⟩, fun h => absurd trivial h⟩, fun h => absurd trivial h⟩, fun h => absurd trivial h⟩, fun h => absurd trivial h⟩⟩⟩
 · have hp : pure (tmP n l) = false := by simpa using hp
   have hL := loop8n (tmN n) (tmP n l) ((tmP n l).take 20)
   refine gcall_of (X := X8b) ((Xw_ok _ _)) (f := 8) (fn := Try.f8) (c := bodyOf Try.f8) (by kernel_rfl) (by kernel_rfl) (view := false) (rvs := [.tmp 4]) (by kernel_rfl) (H := (fun _ => some (h8n (tmN n) (tmP n l) ((tmP n l).take 20)))) 250 (by kernel_rfl) ?_
   refine of_eq (q := True ∧ True ∧ True ∧ (l.length + 1 ≤ 1000000000000000 ∧ True) ∧ True ∧ True ∧ True ∧ True ∧ True ∧ True ∧ (((tmP n l).length < 1000000000000000 ∧ (0 : Int) ≤ 20 ∧ (20 : Int) < 1000000) ∧ True) ∧ True ∧ True ∧ True ∧ ((numOk (tmN n) ∧ ((1 : Nat) ≤ (tmP n l).length ∧ (tmP n l).length ≤ 10) ∧ ∀ (k : Nat), k < (tmP n l).length → goodAt (tmN n) (tmP n l) k) ∧ True) ∧ True ∧ True ∧ True ∧ True ∧ True ∧ True ∧ True ∧ ((numOk (tmN n) ∧ ((1 : Nat) ≤ (tmP n l).length ∧ (tmP n l).length ≤ 10) ∧ ∀ (k : Nat), k < (tmP n l).length → goodAt (tmN n) (tmP n l) k) ∧ True) ∧ True ∧ True ∧ True ∧ True ∧ True ∧ True ∧ True ∧ ((numOk (tmN n) ∧ ((1 : Nat) ≤ (tmP n l).length ∧ (tmP n l).length ≤ 10) ∧ ∀ (k : Nat), k < (tmP n l).length → goodAt (tmN n) (tmP n l) k) ∧ True) ∧ True ∧ True ∧ True ∧ True ∧ True ∧ True ∧ True ∧ ((cxOk (tmN n) (tmP n l) ∧ pure (tmP n l) = false) ∧ True) ∧ True ∧ True ∧ True ∧ True ∧ True ∧ True ∧ True ∧ True ∧ True ∧ ((cxOk (tmN n) (tmP n l) ∧ (0 : Int) = 0) ∧ True) ∧ True ∧ True ∧ True ∧ True ∧ True ∧ True ∧ True ∧ True ∧ True ∧ True ∧ True ∧ True ∧ True ∧ LoopOK X8 L8_0 (h8n (tmN n) (tmP n l) (List.take (20 : Nat) (tmP n l))) (RetR X8b true false [ResultVar.tmp (4 : Tmp)] [AV.tt] []) ∧ ((∃ (y : List Int × List Int × List Int × List Int × List Int), okL5 y ∧ (tmN n = tmN n ∧ tmP n l = tmP n l ∧ List.take (20 : Nat) (tmP n l) = List.take (20 : Nat) (tmP n l) ∧ (0 : Int) = 0 ∧ (0 : Int) = 0 ∧ (0 : Int) = 0 ∧ (0 : Int) = 0 ∧ (0 : Int) = 0 ∧ ((0 : Nat) = 0 ∧ (5 : Nat) = 5) ∧ (0 : Int) = 0 ∧ True) ∧ (True ∧ True ∧ True ∧ True ∧ True ∧ True) ∧ fcs (tmP n l) = y.fst ∧ grL (isF (tmP n l)) = y.snd.fst ∧ hsL (tmP n l) = y.snd.snd.fst ∧ grL (lnkG (tmP n l) (0 : Nat)) = y.snd.snd.snd.snd ∧ True) ∨ (∃ (y : List Int × List Int × List Int × List Int × List Int), okL5 y ∧ (tmN n = tmN n ∧ tmP n l = tmP n l ∧ List.take (20 : Nat) (tmP n l) = List.take (20 : Nat) (tmP n l) ∧ (0 : Int) = 0 ∧ (0 : Int) = 0 ∧ (0 : Int) = 0 ∧ (0 : Int) = 0 ∧ (0 : Int) = 0 ∧ ((0 : Nat) = 0 ∧ (5 : Nat) = 5) ∧ (0 : Int) = 1 ∧ True) ∧ (True ∧ True ∧ True ∧ True ∧ True ∧ True) ∧ fcs (tmP n l) = y.fst ∧ grL (isF (tmP n l)) = y.snd.fst ∧ hsL (tmP n l) = y.snd.snd.fst ∧ grL (lnkG (tmP n l) (0 : Nat)) = y.snd.snd.snd.snd ∧ True) ∨ (∃ (y : List Int × List Int × List Int × List Int × List Int), okL5 y ∧ (tmN n = tmN n ∧ tmP n l = tmP n l ∧ List.take (20 : Nat) (tmP n l) = List.take (20 : Nat) (tmP n l) ∧ (0 : Int) = 0 ∧ (0 : Int) = 0 ∧ (0 : Int) = 0 ∧ (0 : Int) = 0 ∧ (0 : Int) = 0 ∧ ((0 : Nat) = 0 ∧ (5 : Nat) = 5) ∧ (0 : Int) = 2 ∧ True) ∧ (True ∧ True ∧ True ∧ True ∧ True ∧ True) ∧ fcs (tmP n l) = y.fst ∧ grL (isF (tmP n l)) = y.snd.fst ∧ hsL (tmP n l) = y.snd.snd.fst ∧ grL (lnkG (tmP n l) (0 : Nat)) = y.snd.snd.snd.snd ∧ True) ∨ (∃ (y : List Int × List Int × List Int × List Int × List Int), okL5 y ∧ (tmN n = tmN n ∧ tmP n l = tmP n l ∧ List.take (20 : Nat) (tmP n l) = List.take (20 : Nat) (tmP n l) ∧ (0 : Int) = 0 ∧ (0 : Int) = 0 ∧ (0 : Int) = 0 ∧ (0 : Int) = 0 ∧ (0 : Int) = 0 ∧ ((0 : Nat) = 0 ∧ (5 : Nat) = 5) ∧ (0 : Int) = 3 ∧ True) ∧ (True ∧ True ∧ True ∧ True ∧ True ∧ True) ∧ fcs (tmP n l) = y.fst ∧ grL (isF (tmP n l)) = y.snd.fst ∧ hsL (tmP n l) = y.snd.snd.fst ∧ grL (lnkG (tmP n l) (0 : Nat)) = y.snd.snd.snd.snd ∧ True) ∨ (∃ (y : List Int × List Int × List Int × List Int × List Int), okL5 y ∧ (tmN n = tmN n ∧ tmP n l = tmP n l ∧ List.take (20 : Nat) (tmP n l) = List.take (20 : Nat) (tmP n l) ∧ (0 : Int) = 0 ∧ (0 : Int) = 0 ∧ (0 : Int) = 0 ∧ (0 : Int) = 0 ∧ (0 : Int) = 0 ∧ ((0 : Nat) = 0 ∧ (5 : Nat) = 5) ∧ (0 : Int) = 4 ∧ True) ∧ (True ∧ True ∧ True ∧ True ∧ True ∧ True) ∧ fcs (tmP n l) = y.fst ∧ grL (isF (tmP n l)) = y.snd.fst ∧ hsL (tmP n l) = y.snd.snd.fst ∧ grL (lnkG (tmP n l) (0 : Nat)) = y.snd.snd.snd.snd ∧ True) ∨ ∃ (y : List Int × List Int × List Int × List Int × List Int), okL5 y ∧ (tmN n = tmN n ∧ tmP n l = tmP n l ∧ List.take (20 : Nat) (tmP n l) = List.take (20 : Nat) (tmP n l) ∧ (0 : Int) = 0 ∧ (0 : Int) = 0 ∧ (0 : Int) = 0 ∧ (0 : Int) = 0 ∧ (0 : Int) = 0 ∧ ((0 : Nat) = 0 ∧ (5 : Nat) = 5) ∧ (0 : Int) = 5 ∧ True) ∧ (True ∧ True ∧ True ∧ True ∧ True ∧ True) ∧ fcs (tmP n l) = y.fst ∧ grL (isF (tmP n l)) = y.snd.fst ∧ hsL (tmP n l) = y.snd.snd.fst ∧ grL (lnkG (tmP n l) (0 : Nat)) = y.snd.snd.snd.snd ∧ True) ∧ (∀ (y : Unit), True → True ∧ True ∧ ((numOk (tmN n) ∧ ((1 : Nat) ≤ (tmP n l).length ∧ (tmP n l).length ≤ 10) ∧ ∀ (k : Nat), k < (tmP n l).length → goodAt (tmN n) (tmP n l) k) ∧ True) ∧ True ∧ True ∧ True ∧ True ∧ True ∧ True ∧ True ∧ True ∧ ((0 : Int) = 0 → True ∧ True ∧ True ∧ True ∧ ((0 : Int) = 0 → True ∧ True ∧ True ∧ True ∧ ((0 : Int) = 0 → True ∧ True ∧ True ∧ True ∧ ((0 : Int) = 0 → True ∧ True ∧ True ∧ True ∧ ((0 : Int) = 0 → True ∧ True ∧ True ∧ True ∧ ((0 : Int) = 0 → True ∧ True ∧ ((tmP n l).length + 1 ≤ 1000000000000000 ∧ True) ∧ True ∧ True ∧ (decide (tmP n l = List.take (20 : Nat) (tmP n l)) = true → True ∧ True ∧ True ∧ ((numOk (tmN n) ∧ okL (List.take (20 : Nat) (tmP n l)) ∧ (List.take (20 : Nat) (tmP n l)).length < 1000000) ∧ True) ∧ ((fcs (tmP n l)).length + 1 ≤ 1000000000000000 ∧ True) ∧ True ∧ True ∧ (decide (fcs (tmP n l) = facesL (tmN n) (List.take (20 : Nat) (tmP n l))) = true → (True ∧ True) ∧ True ∧ True ∧ True ∧ (true = true ∧ True) ∧ True) ∧ (decide (fcs (tmP n l) = facesL (tmN n) (List.take (20 : Nat) (tmP n l))) = false → True ∧ True ∧ True ∧ (false = true ∧ True) ∧ True)) ∧ (decide (tmP n l = List.take (20 : Nat) (tmP n l)) = false → True ∧ True ∧ True ∧ True ∧ True ∧ (false = true ∧ True) ∧ True)) ∧ (¬(0 : Int) = 0 → True ∧ True ∧ True ∧ True ∧ True ∧ True ∧ True ∧ (false = true ∧ True) ∧ True)) ∧ (¬(0 : Int) = 0 → True ∧ True ∧ True ∧ True ∧ True ∧ True ∧ True ∧ True ∧ True ∧ (false = true ∧ True) ∧ True)) ∧ (¬(0 : Int) = 0 → True ∧ True ∧ True ∧ True ∧ True ∧ True ∧ True ∧ True ∧ True ∧ True ∧ True ∧ (false = true ∧ True) ∧ True)) ∧ (¬(0 : Int) = 0 → True ∧ True ∧ True ∧ True ∧ True ∧ True ∧ True ∧ True ∧ True ∧ True ∧ True ∧ True ∧ True ∧ (false = true ∧ True) ∧ True)) ∧ (¬(0 : Int) = 0 → True ∧ True ∧ True ∧ True ∧ True ∧ True ∧ True ∧ True ∧ True ∧ True ∧ True ∧ True ∧ True ∧ True ∧ True ∧ (false = true ∧ True) ∧ True)) ∧ (¬(0 : Int) = 0 → True ∧ True ∧ True ∧ True ∧ True ∧ True ∧ True ∧ True ∧ True ∧ True ∧ True ∧ True ∧ True ∧ True ∧ True ∧ True ∧ True ∧ (false = true ∧ True) ∧ True)) ∧ True) (by kernel_rfl) ?_
   simp only [zz]
   have hl2 := hc.2.1
   have ht : (tmP n l).take 20 = tmP n l := List.take_of_length_le (by omega)
   have hfl := fcs_len (tmP n l)
   have hgl : (grL (isF (tmP n l))).length ≤ 64 := trueN_len _ _
   have hkl : (grL (lnkG (tmP n l) 0)).length ≤ 64 := trueN_len _ _
   have hsl := (sh_facts hc).l
   have hhl : (hsL (tmP n l)).length ≤ 64 := by
     have := mxL_le (tmP n l)
     have h3 := cnts_length (tmP n l)
     rw [hs_eq]; simp [rhL]; omega
   rw [ht] at hL ⊢
   rw [faces_fcs hc]
   exact ⟨by omega, ⟨by omega, by decide, by decide⟩, hc, hc, hc, ⟨hc, hp⟩, hc, hL _, .inl ⟨(_, _, _, [], _), ⟨hfl, hgl, hhl, by simp, hkl⟩, rfl, rfl, rfl, rfl⟩, fun _ _ => ⟨hc, ⟨fun _ => ⟨fun _ => ⟨fun _ => ⟨fun _ => ⟨fun _ => ⟨fun _ => ⟨by omega, fun _ => ⟨⟨hc.1, hc.ok, by omega⟩, by omega, fun _ => trivial, fun h => by simp at h⟩, fun h => by simp at h⟩, fun h => absurd trivial h⟩, fun h => absurd trivial h⟩, fun h => absurd trivial h⟩, fun h => absurd trivial h⟩, fun h => absurd trivial h⟩, fun h => absurd trivial h⟩⟩⟩
end Go.Am.Sh

/- Shells: from the laws' contracts to the given statements: what all laws share. -/
namespace Go.Proofs.Ytfpoonbcnabihaa
open Go Go.ChangeShapes Go.WideShapes Go.ChangeAt Go.RowKit Go.Am Go.Am.Sh
theorem own : ownKnob Try.prog.godebug = none := by kernel_rfl
theorem laidOut : laidOutB Try.prog = true := by kernel_rfl
theorem u3 : Try.prog.underlying 3 = some (.int .i64) := by kernel_rfl
theorem u4 : Try.prog.underlying 4 = some .bool := by kernel_rfl
theorem u22 : Try.prog.underlying 22 = some (.slice 3) := by kernel_rfl
theorem tyOk3 : TyOk Try.prog 3 I64 := u3
theorem tyOk22 : TyOk Try.prog 22 (.sl I64) := ⟨3, u22, u3, by kernel_rfl, by decide, of_decide_eq_true (by kernel_rfl)⟩
theorem reach_le {l : List Nat} (h : l.all (fun x => decide (x ≤ reachBytes)) = true) : ∀ n ∈ l, n ≤ 140737488355328 := fun n hn => by
 have := of_decide_eq_true (List.all_eq_true.mp h n hn)
 have e : reachBytes = 140737488351232 := rfl
 omega
theorem glob_of {W : World} : GlobOk gl (fun b => b < W.heap.size) W := fun g p hp => by cases hp
end Go.Proofs.Ytfpoonbcnabihaa
