/- Part B4 of the proof that the law named in the last file returns true at every input and leaves its arguments as they were; no condition of its own. -/
import Derived.Test.YtfpoonbcnabihaaB3
import Derived.Test.YtfpoonbcnabihaaA2
import Derived.Test.YtfpoonbcnabihaaRows
import Derived.WalkKit
import Derived.ProofKit
import Derived.OpenShut
import Derived.SizedLaws
import Derived.ChangeOld
import Derived.Below
import Derived.Stop.Joined
set_option linter.unusedSimpArgs false
set_option linter.unusedVariables false
/- Shells: a shelling is searched. -/
namespace Go.Am.Sh
open Go Go.Am Go.Proofs
noncomputable def Xb (l : EL) (m0 : Nat) (bs : List Nat) (dr : Nat → Option Nat) : Cy := { mkX Try.prog tt gl l m0 dr with bs := bs }
theorem Xb_ok (l : EL) (m0 : Nat) (bs : List Nat) (dr : Nat → Option Nat) : (Xb l m0 bs dr).Ok := (mkX_ok tt_ok l m0 dr).bump bs
abbrev Mm := List (Int × Bool)
abbrev Res := Bool × List Int × Mm
def mg (m : Mm) (d : Int) : Bool := (mGet I64 m d).getD false
def mp (m : Mm) (d : Int) : Mm := mPut I64 m d true
/-- The first rounds, until one comes to an end. -/
def lpK (p : List Int) (f : Nat → List Int → Mm → Res) (D : Nat) (l : List Int) (m : Mm) : Nat → Res
 | 0 => (false, l, m)
 | k + 1 => if (lpK p f D l m k).1 = true then lpK p f D l m k else if D / 2 ^ k % 2 = 1 ∨ flw p D k = false then lpK p f D l m k else
     if (f (D ||| 2 ^ k) (l ++ [(k : Int)]) (lpK p f D l m k).2.2).1 = true then f (D ||| 2 ^ k) (l ++ [(k : Int)]) (lpK p f D l m k).2.2
     else (false, l, (f (D ||| 2 ^ k) (l ++ [(k : Int)]) (lpK p f D l m k).2.2).2.2)
/-- The search; as many levels as pieces are left. -/
def gr (p : List Int) : Nat → Nat → List Int → Mm → Res
 | 0, _, l, m => (true, l, m)
 | n + 1, D, l, m => if mg m D = true then (false, l, m) else if (lpK p (gr p n) D l m p.length).1 = true then lpK p (gr p n) D l m p.length else (false, l, mp (lpK p (gr p n) D l m p.length).2.2 D)
theorem gr_list {p : List Int} {n D : Nat} {l : List Int} {m : Mm} (h : (gr p n D l m).1 = false) : (gr p n D l m).2.1 = l := by
 cases n with
 | zero => cases h
 | succ n =>
   rw [gr] at h ⊢
   split
   · rfl
   · rename_i h1; rw [if_neg h1] at h
     split
     · rename_i h2; rw [if_pos h2, h2] at h; cases h
     · rfl
theorem lpK_stop {p : List Int} {f : Nat → List Int → Mm → Res} {D : Nat} {l : List Int} {m : Mm} {k : Nat} (h : (lpK p f D l m k).1 = true) : ∀ j, lpK p f D l m (k + j) = lpK p f D l m k
 | 0 => rfl
 | j + 1 => by rw [show k + (j + 1) = k + j + 1 by omega, lpK, lpK_stop h j, if_pos h]
def clo55 (a b c d : Nat) : AV := .clo 55 [] [.ptr a 0 [], .ptr b 0 [], .ptr c 0 [], .ptr d 0 []]
def mmO (m : Mm) : Ob := .mo I64 .bool m
def gS (v : Nat) (n : Int) (p l : List Int) (m : Mm) : List Ob := [.bx (.own 1 v), .sc v 3 I64 l, .bx (.ptr 3 0 []), cxO n p, .bx (.mp 5), mmO m, .bx (clo55 0 2 4 6)]
def aS (D : Int) : List AV := [.int .i64 D, .ptr 0 0 [], .ptr 2 0 [], .ptr 4 0 [], .ptr 6 0 []]
structure pre55 (n : Int) (p : List Int) (lv D : Nat) (l : List Int) : Prop where
 h : cxOk n p
 D : D < 2 ^ p.length
 l : l.length + lv = p.length
def GS (lv : Nat) : Prop := ∀ (n : Int) (p : List Int) (D : Nat) (l : List Int) (m : Mm), pre55 n p lv D l → GCall Try.prog gl 55 false (aS D) (gS 0 n p l m) [.bool (gr p lv D l m).1] (gS 1 n p (gr p lv D l m).2.1 (gr p lv D l m).2.2)
def unMm : Ob → Option Mm
 | .mo k v m => (if h : k = I64 ∧ v = .bool then some (by obtain ⟨rfl, rfl⟩ := h; exact m) else none)
 | _ => none
def unSc : Ob → Option (List Int)
 | .sc _ _ e xs => castL e I64 xs
 | _ => none
abbrev G5 := Int × Cx3 × List Int × Mm
def get55 (xs : List AV) (obs : List Ob) : Option G5 :=
 match xs with
 | .int .i64 d :: _ => (match unSc (obs.getD 1 .gone), unCx (obs.getD 3 .gone), unMm (obs.getD 5 .gone) with
   | some l, some x, some m => some (d, x, l, m)
   | _, _, _ => none)
 | _ => none
def gSq (v : Nat) (x : Cx3) (l : List Int) (m : Mm) : List Ob := [.bx (.own 1 v), .sc v 3 I64 l, .bx (.ptr 3 0 []), cxQ x, .bx (.mp 5), mmO m, .bx (clo55 0 2 4 6)]
structure ok55 (lv : Nat) (x : G5) : Prop where
 h : okC x.2.1
 d : 0 ≤ x.1
 p : pre55 x.2.1.1 x.2.1.2.1 lv x.1.toNat x.2.2.1
def e55S (lv : Nat) (h : GS lv) : Entry Try.prog gl := entryW 55 ⟨Try.f55, by kernel_rfl, by kernel_rfl, by kernel_rfl⟩ true get55 (ok55 lv) false (fun x => aS x.1) (fun x => gSq 0 x.2.1 x.2.2.1 x.2.2.2) (fun x => [.bool (gr x.2.1.2.1 lv x.1.toNat x.2.2.1 x.2.2.2).1])
 (fun x => gSq 1 x.2.1 (gr x.2.1.2.1 lv x.1.toNat x.2.2.1 x.2.2.2).2.1 (gr x.2.1.2.1 lv x.1.toNat x.2.2.1 x.2.2.2).2.2) (fun x hx => by
   have := h _ _ _ _ x.2.2.2 hx.p
   rw [Int.toNat_of_nonneg hx.d] at this
   have e : ∀ v l m, gSq v x.2.1 l m = gS v x.2.1.1 x.2.1.2.1 l m := fun v l m => by unfold gSq gS; rw [cxQ_ok hx.h]
   rw [e, e]; exact this)
noncomputable abbrev X55 (es : EL) : Cy := Xb es 7 [1] (fun _ => none)
theorem gS0 : GS 0 := by
 intro n p D l m hp
 refine gcall_of (X := (X55 [e56])) ((Xb_ok _ _ _ _)) (f := 55) (fn := Try.f55) (c := bodyOf Try.f55) (by kernel_rfl) (by kernel_rfl) (view := false) (rvs := [.tmp 6]) (by kernel_rfl) (H := fun _ => none) 80 (by kernel_rfl) ?_
 refine of_eq (q := True ∧ True ∧ True ∧ True ∧ True ∧ True ∧ True ∧ True ∧ True ∧ ((l.length : Int) = (p.length : Int) → True ∧ True ∧ (true = true ∧ True) ∧ True ∧ l = (gr p (0 : Nat) D l m).snd.fst ∧ True ∧ (n = n ∧ p = p ∧ mk (isF p) = mk (isF p) ∧ True) ∧ True ∧ m = (gr p (0 : Nat) D l m).snd.snd ∧ (True ∧ True ∧ True ∧ True ∧ True ∧ True) ∧ True) ∧ (¬(l.length : Int) = (p.length : Int) → True ∧ True ∧ True ∧ ((mGet I64 m (D : Int)).getD false = true → True ∧ True ∧ (false = true ∧ True) ∧ True ∧ l = (gr p (0 : Nat) D l m).snd.fst ∧ True ∧ (n = n ∧ p = p ∧ mk (isF p) = mk (isF p) ∧ True) ∧ True ∧ m = (gr p (0 : Nat) D l m).snd.snd ∧ (True ∧ True ∧ True ∧ True ∧ True ∧ True) ∧ True) ∧ ((mGet I64 m (D : Int)).getD false = false → True ∧ True ∧ True ∧ True ∧ True ∧ True ∧ False))) (by kernel_rfl) ?_
 simp only [zz]
 have h1 := hp.l
 exact ⟨fun _ => ⟨rfl, rfl⟩, fun h => absurd (by omega) h⟩
noncomputable def L55_0 : Code := lp (bodyOf Try.f55) 0
theorem or_pow10 {D k : Nat} (hD : D < 1024) (hk : k < 10) : bOr .i64 (D : Int) (1 * 2 ^ k) = ((D ||| 2 ^ k : Nat) : Int) ∧ D ||| 2 ^ k < 1024 ∧ (1 : Int) * 2 ^ k ≤ 512 ∧ (0 : Int) ≤ 1 * 2 ^ k := by
 have h2 : 2 ^ k ≤ 2 ^ 9 := Nat.pow_le_pow_right (by decide) (by omega)
 have e : (2 ^ k : Int) = ((2 ^ k : Nat) : Int) := by rw [Int.natCast_pow]; try rfl
 have h3 : D ||| 2 ^ k < 2 ^ 10 := Nat.or_lt_two_pow hD (by omega)
 have hb : bOr .i64 (D : Int) ((2 ^ k : Nat) : Int) = ((D ||| 2 ^ k : Nat) : Int) := bOr_nat (by omega) (by omega)
 rw [Int.one_mul, e]
 refine ⟨hb, by omega, ?_, Int.natCast_nonneg _⟩
 generalize 2 ^ k = P at *
 omega
theorem lpK_go {p : List Int} {f : Nat → List Int → Mm → Res} {D : Nat} {l : List Int} {m : Mm} {k : Nat} (h : (lpK p f D l m k).1 = false) : lpK p f D l m (k + 1) = if D / 2 ^ k % 2 = 1 ∨ flw p D k = false then lpK p f D l m k else
     if (f (D ||| 2 ^ k) (l ++ [(k : Int)]) (lpK p f D l m k).2.2).1 = true then f (D ||| 2 ^ k) (l ++ [(k : Int)]) (lpK p f D l m k).2.2
     else (false, l, (f (D ||| 2 ^ k) (l ++ [(k : Int)]) (lpK p f D l m k).2.2).2.2) := by rw [lpK, if_neg (by simp [h])]
theorem pre_D {n : Int} {p : List Int} {lv D : Nat} {l : List Int} (h : pre55 n p lv D l) : D < 1024 := by
 have := Nat.pow_le_pow_right (show 0 < 2 by decide) h.h.2.1.2
 have := h.D
 omega
def stS (v : Nat) (n : Int) (p : List Int) (f : Nat → List Int → Mm → Res) (D : Nat) (l : List Int) (m : Mm) (k : Nat) : St := ⟨aS D ++ dd 18 ++ .int .i64 p.length :: .int .i64 k :: dd 34, gS v n p l (lpK p f D l m k).2.2⟩
def inS (p : List Int) (f : Nat → List Int → Mm → Res) (D : Nat) (l : List Int) (m : Mm) (k : Nat) : Prop := k ≤ p.length ∧ (lpK p f D l m k).1 = false
def fmS (n : Int) (p : List Int) (f : Nat → List Int → Mm → Res) (D : Nat) (l : List Int) (m : Mm) : List Fam := [⟨Nat, inS p f D l m, stS 0 n p f D l m, fun k => p.length - k, fun _ _ => none⟩, ⟨Nat, inS p f D l m, stS 1 n p f D l m, fun k => p.length - k, fun _ _ => none⟩]
def exS (n : Int) (p : List Int) (f : Nat → List Int → Mm → Res) (D : Nat) (l : List Int) (m : Mm) : List (List Nat × Ex) := [([0, 1, 2, 3, 4], ⟨0, Unit, fun _ => (lpK p f D l m p.length).1 = false, fun _ => ⟨aS D ++ dd 54, gS 0 n p l (lpK p f D l m p.length).2.2⟩⟩), ([0, 1, 2, 3, 4], ⟨0, Unit, fun _ => (lpK p f D l m p.length).1 = false, fun _ => ⟨aS D ++ dd 54, gS 1 n p l (lpK p f D l m p.length).2.2⟩⟩)]
def hS (n : Int) (p : List Int) (f : Nat → List Int → Mm → Res) (D : Nat) (l : List Int) (m : Mm) : Hint := ⟨chks 7 [0, 1, 2, 3, 4, 23, 24] (fmS n p f D l m), (exS n p f D l m).map (·.2)⟩
noncomputable def HS (n : Int) (p : List Int) (f : Nat → List Int → Mm → Res) (D : Nat) (l : List Int) (m : Mm) : Nat → Option Hint := fun _ => some (hS n p f D l m)
theorem loopS (lv : Nat) (h' : GS lv) (n : Int) (p : List Int) (D : Nat) (l : List Int) (m : Mm) (hp : pre55 n p (lv + 1) D l) (hm : ¬ mg m D = true) : LoopOK (X55 [e56, e55S lv h']) L55_0 (hS n p (gr p lv) D l m)
   (RetR (X55 [e56, e55S lv h']) false false [.tmp 6] [.bool (gr p (lv + 1) D l m).1] (gS 1 n p (gr p (lv + 1) D l m).2.1 (gr p (lv + 1) D l m).2.2)) := by
 refine loop_fams (Xb_ok _ _ _ _) [0, 1, 2, 3, 4, 23, 24] (fmS n p (gr p lv) D l m) (exS n p (gr p lv) D l m) 150 ⟨fun (k : Nat) hk => ?_, fun (k : Nat) hk => ?_, trivial⟩
 · refine of_eq (q := True ∧ ((k : Int) < (p.length : Int) → True ∧ True ∧ True ∧ True ∧ inR .u64 (k : Int) ∧ ((0 : Int) ≤ (k : Int) ∧ (k : Int) < bitsOf .i64) ∧ True ∧ True ∧ True ∧ (bAnd .i64 ((D : Int) / (2 : Int) ^ k) (1 : Int) = 1 → True ∧ inR .i64 ((k : Int) + 1) ∧ True ∧ ((∃ (y : Nat), (inS p (gr p lv) D l m y ∧ p.length - y < p.length - k) ∧ ((D : Int) = (D : Int) ∧ True ∧ True ∧ True ∧ True ∧ (p.length : Int) = (p.length : Int) ∧ (k : Int) + 1 = (y : Int) ∧ True) ∧ True ∧ l = l ∧ True ∧ (n = n ∧ p = p ∧ mk (isF p) = mk (isF p) ∧ True) ∧ True ∧ (lpK p (gr p lv) D l m k).snd.snd = (lpK p (gr p lv) D l m y).snd.snd ∧ (True ∧ True ∧ True ∧ True ∧ True ∧ True) ∧ True) ∨ ∃ (y : Nat), (inS p (gr p lv) D l m y ∧ p.length - y < p.length - k) ∧ ((D : Int) = (D : Int) ∧ True ∧ True ∧ True ∧ True ∧ (p.length : Int) = (p.length : Int) ∧ (k : Int) + 1 = (y : Int) ∧ True) ∧ False ∧ False ∧ True ∧ (n = n ∧ p = p ∧ mk (isF p) = mk (isF p) ∧ True) ∧ True ∧ (lpK p (gr p lv) D l m k).snd.snd = (lpK p (gr p lv) D l m y).snd.snd ∧ (True ∧ True ∧ True ∧ True ∧ True ∧ True) ∧ True)) ∧ (¬bAnd .i64 ((D : Int) / (2 : Int) ^ k) (1 : Int) = 1 → True ∧ True ∧ True ∧ ((ok56 ((D : Int), (k : Int), n, p, mk (isF p)) ∧ (True ∧ (D : Int) = (D : Int) ∧ (k : Int) = (k : Int) ∧ True) ∧ (n = n ∧ p = p ∧ mk (isF p) = mk (isF p) ∧ True) ∧ True) ∧ True ∧ True) ∧ True ∧ True ∧ ((!flw p D k) = true → inR .i64 ((k : Int) + 1) ∧ True ∧ ((∃ (y : Nat), (inS p (gr p lv) D l m y ∧ p.length - y < p.length - k) ∧ ((D : Int) = (D : Int) ∧ True ∧ True ∧ True ∧ True ∧ (p.length : Int) = (p.length : Int) ∧ (k : Int) + 1 = (y : Int) ∧ True) ∧ True ∧ l = l ∧ True ∧ (n = n ∧ p = p ∧ mk (isF p) = mk (isF p) ∧ True) ∧ True ∧ (lpK p (gr p lv) D l m k).snd.snd = (lpK p (gr p lv) D l m y).snd.snd ∧ (True ∧ True ∧ True ∧ True ∧ True ∧ True) ∧ True) ∨ ∃ (y : Nat), (inS p (gr p lv) D l m y ∧ p.length - y < p.length - k) ∧ ((D : Int) = (D : Int) ∧ True ∧ True ∧ True ∧ True ∧ (p.length : Int) = (p.length : Int) ∧ (k : Int) + 1 = (y : Int) ∧ True) ∧ False ∧ False ∧ True ∧ (n = n ∧ p = p ∧ mk (isF p) = mk (isF p) ∧ True) ∧ True ∧ (lpK p (gr p lv) D l m k).snd.snd = (lpK p (gr p lv) D l m y).snd.snd ∧ (True ∧ True ∧ True ∧ True ∧ True ∧ True) ∧ True)) ∧ ((!flw p D k) = false → True ∧ True ∧ True ∧ sumPre l.length [(k : Int)].length (nat_lit 8) ∧ True ∧ True ∧ True ∧ True ∧ inR .u64 (k : Int) ∧ (((0 : Int) ≤ (k : Int) ∧ (k : Int) < bitsOf .i64) ∧ (-9223372036854775808 : Int) ≤ 1 * 2 ^ k ∧ (1 : Int) * 2 ^ k ≤ 9223372036854775807) ∧ True ∧ ((ok55 lv (bOr .i64 (D : Int) ((1 : Int) * 2 ^ k), (n, p, mk (isF p)), l ++ [(k : Int)], (lpK p (gr p lv) D l m k).snd.snd) ∧ (bOr .i64 (D : Int) ((1 : Int) * 2 ^ k) = bOr .i64 (D : Int) ((1 : Int) * 2 ^ k) ∧ True ∧ True ∧ True ∧ True ∧ True) ∧ True ∧ l ++ [(k : Int)] = l ++ [(k : Int)] ∧ True ∧ (n = n ∧ p = p ∧ mk (isF p) = mk (isF p) ∧ True) ∧ True ∧ (lpK p (gr p lv) D l m k).snd.snd = (lpK p (gr p lv) D l m k).snd.snd ∧ (True ∧ True ∧ True ∧ True ∧ True ∧ True) ∧ True) ∧ True ∧ True ∧ True ∧ True ∧ True ∧ True ∧ True ∧ True) ∧ ((gr p lv (bOr .i64 (D : Int) ((1 : Int) * 2 ^ k)).toNat (l ++ [(k : Int)]) (lpK p (gr p lv) D l m k).snd.snd).fst = true → True ∧ True ∧ (true = (gr p (lv + 1) D l m).fst ∧ True) ∧ True ∧ (gr p lv (bOr .i64 (D : Int) ((1 : Int) * 2 ^ k)).toNat (l ++ [(k : Int)]) (lpK p (gr p lv) D l m k).snd.snd).snd.fst = (gr p (lv + 1) D l m).snd.fst ∧ True ∧ (n = n ∧ p = p ∧ mk (isF p) = mk (isF p) ∧ True) ∧ True ∧ (gr p lv (bOr .i64 (D : Int) ((1 : Int) * 2 ^ k)).toNat (l ++ [(k : Int)]) (lpK p (gr p lv) D l m k).snd.snd).snd.snd = (gr p (lv + 1) D l m).snd.snd ∧ (True ∧ True ∧ True ∧ True ∧ True ∧ True) ∧ True) ∧ ((gr p lv (bOr .i64 (D : Int) ((1 : Int) * 2 ^ k)).toNat (l ++ [(k : Int)]) (lpK p (gr p lv) D l m k).snd.snd).fst = false → True ∧ True ∧ True ∧ inR .i64 ((↑(gr p lv (bOr .i64 (D : Int) ((1 : Int) * 2 ^ k)).toNat (l ++ [(k : Int)]) (lpK p (gr p lv) D l m k).snd.snd).snd.fst.length : Int) - 1) ∧ ((0 : Int) ≤ (↑(gr p lv (bOr .i64 (D : Int) ((1 : Int) * 2 ^ k)).toNat (l ++ [(k : Int)]) (lpK p (gr p lv) D l m k).snd.snd).snd.fst.length : Int) - 1 ∧ (↑(gr p lv (bOr .i64 (D : Int) ((1 : Int) * 2 ^ k)).toNat (l ++ [(k : Int)]) (lpK p (gr p lv) D l m k).snd.snd).snd.fst.length : Int) - 1 ≤ (↑(gr p lv (bOr .i64 (D : Int) ((1 : Int) * 2 ^ k)).toNat (l ++ [(k : Int)]) (lpK p (gr p lv) D l m k).snd.snd).snd.fst.length : Int)) ∧ True ∧ inR .i64 ((k : Int) + 1) ∧ True ∧ ((∃ (y : Nat), (inS p (gr p lv) D l m y ∧ p.length - y < p.length - k) ∧ ((D : Int) = (D : Int) ∧ True ∧ True ∧ True ∧ True ∧ (p.length : Int) = (p.length : Int) ∧ (k : Int) + 1 = (y : Int) ∧ True) ∧ False ∧ False ∧ True ∧ (n = n ∧ p = p ∧ mk (isF p) = mk (isF p) ∧ True) ∧ True ∧ (gr p lv (bOr .i64 (D : Int) ((1 : Int) * 2 ^ k)).toNat (l ++ [(k : Int)]) (lpK p (gr p lv) D l m k).snd.snd).snd.snd = (lpK p (gr p lv) D l m y).snd.snd ∧ (True ∧ True ∧ True ∧ True ∧ True ∧ True) ∧ True) ∨ ∃ (y : Nat), (inS p (gr p lv) D l m y ∧ p.length - y < p.length - k) ∧ ((D : Int) = (D : Int) ∧ True ∧ True ∧ True ∧ True ∧ (p.length : Int) = (p.length : Int) ∧ (k : Int) + 1 = (y : Int) ∧ True) ∧ True ∧ List.take ((↑(gr p lv (bOr .i64 (D : Int) ((1 : Int) * 2 ^ k)).toNat (l ++ [(k : Int)]) (lpK p (gr p lv) D l m k).snd.snd).snd.fst.length : Int) - 1).toNat (gr p lv (bOr .i64 (D : Int) ((1 : Int) * 2 ^ k)).toNat (l ++ [(k : Int)]) (lpK p (gr p lv) D l m k).snd.snd).snd.fst = l ∧ True ∧ (n = n ∧ p = p ∧ mk (isF p) = mk (isF p) ∧ True) ∧ True ∧ (gr p lv (bOr .i64 (D : Int) ((1 : Int) * 2 ^ k)).toNat (l ++ [(k : Int)]) (lpK p (gr p lv) D l m k).snd.snd).snd.snd = (lpK p (gr p lv) D l m y).snd.snd ∧ (True ∧ True ∧ True ∧ True ∧ True ∧ True) ∧ True))))) ∧ (¬(k : Int) < (p.length : Int) → (∃ (y : Unit), (lpK p (gr p lv) D l m p.length).fst = false ∧ ((D : Int) = (D : Int) ∧ True ∧ True ∧ True ∧ True ∧ True) ∧ True ∧ l = l ∧ True ∧ (n = n ∧ p = p ∧ mk (isF p) = mk (isF p) ∧ True) ∧ True ∧ (lpK p (gr p lv) D l m k).snd.snd = (lpK p (gr p lv) D l m p.length).snd.snd ∧ (True ∧ True ∧ True ∧ True ∧ True ∧ True) ∧ True) ∨ ∃ (y : Unit), (lpK p (gr p lv) D l m p.length).fst = false ∧ ((D : Int) = (D : Int) ∧ True ∧ True ∧ True ∧ True ∧ True) ∧ False ∧ False ∧ True ∧ (n = n ∧ p = p ∧ mk (isF p) = mk (isF p) ∧ True) ∧ True ∧ (lpK p (gr p lv) D l m k).snd.snd = (lpK p (gr p lv) D l m p.length).snd.snd ∧ (True ∧ True ∧ True ∧ True ∧ True ∧ True) ∧ True)) (by kernel_rfl) ?_
   simp only [zz]
   obtain ⟨k1, k2⟩ := hk
   have hl := hp.l
   have hc := hp.h.2.1
   have hD := pre_D hp
   refine ⟨fun h => ?_, fun h => by rw [show p.length = k by omega]; exact ⟨k2, rfl⟩⟩
   have hkp : k < p.length := by omega
   have hb := or_pow10 hD (k := k) (by omega)
   have hst := lpK_go k2
   rw [bit_shr hD, hb.1, Int.toNat_natCast]
   have hskip : (D / 2 ^ k % 2 = 1 ∨ flw p D k = false) → inR .i64 ((k : Int) + 1) ∧ ∃ y : Nat, (inS p (gr p lv) D l m y ∧ p.length - y < p.length - k) ∧ (k : Int) + 1 = (y : Int) ∧ (lpK p (gr p lv) D l m k).2.2 = (lpK p (gr p lv) D l m y).2.2 := fun hh => by
     rw [if_pos hh] at hst
     exact ⟨by simp only [inR]; omega, k + 1, ⟨⟨by omega, by rw [hst]; exact k2⟩, by omega⟩, by omega, by rw [hst]⟩
   refine ⟨by simp only [inR]; omega, ⟨by omega, by simp only [bitsOf]; omega⟩, fun hx => hskip (.inl (by omega)), fun hx => ⟨⟨⟨hp.h, rfl⟩, ⟨by simp only; omega, by simp only; omega⟩, ⟨by simp only; omega, by simp only; omega⟩⟩, fun hx2 => hskip (.inr (by simpa using hx2)), fun hx2 => ?_⟩⟩
   have hx2 : flw p D k = true := by simpa using hx2
   rw [if_neg (by simp [hx2]; omega)] at hst
   have hlt : D ||| 2 ^ k < 2 ^ p.length := Nat.or_lt_two_pow hp.D (Nat.pow_lt_pow_right (by decide) hkp)
   have hpre : pre55 n p lv (D ||| 2 ^ k) (l ++ [(k : Int)]) := ⟨hp.h, hlt, by simp; omega⟩
   refine ⟨by unfold sumPre; simp; omega, by simp only [inR]; omega, ⟨⟨by omega, by simp only [bitsOf]; omega⟩, by omega, by omega⟩, ⟨⟨hp.h, rfl⟩, by simp only; omega, hpre⟩, fun hr => ?_, fun hr => ?_⟩
   · have hr : (gr p lv (D ||| 2 ^ k) (l ++ [(k : Int)]) (lpK p (gr p lv) D l m k).2.2).1 = true := hr
     rw [if_pos hr] at hst
     have hs := lpK_stop (k := k + 1) (by rw [hst]; exact hr) (p.length - (k + 1))
     rw [show k + 1 + (p.length - (k + 1)) = p.length by omega, hst] at hs
     have e : gr p (lv + 1) D l m = gr p lv (D ||| 2 ^ k) (l ++ [(k : Int)]) (lpK p (gr p lv) D l m k).2.2 := by rw [gr, if_neg hm, hs, if_pos hr]
     rw [e]
     exact ⟨hr.symm, rfl, rfl⟩
   · have hr : (gr p lv (D ||| 2 ^ k) (l ++ [(k : Int)]) (lpK p (gr p lv) D l m k).2.2).1 = false := hr
     rw [if_neg (by simp [hr])] at hst
     have h2 := gr_list hr
     have q1 : inR .i64 (((gr p lv (D ||| 2 ^ k) (l ++ [(k : Int)]) (lpK p (gr p lv) D l m k).2.2).2.1.length : Int) - 1) := by rw [h2]; simp only [inR]; simp; omega
     have q2 : 0 ≤ ((gr p lv (D ||| 2 ^ k) (l ++ [(k : Int)]) (lpK p (gr p lv) D l m k).2.2).2.1.length : Int) - 1 ∧ ((gr p lv (D ||| 2 ^ k) (l ++ [(k : Int)]) (lpK p (gr p lv) D l m k).2.2).2.1.length : Int) - 1 ≤ ((gr p lv (D ||| 2 ^ k) (l ++ [(k : Int)]) (lpK p (gr p lv) D l m k).2.2).2.1.length : Int) := by rw [h2]; simp; omega
     have q3 : (gr p lv (D ||| 2 ^ k) (l ++ [(k : Int)]) (lpK p (gr p lv) D l m k).2.2).2.1.take (((gr p lv (D ||| 2 ^ k) (l ++ [(k : Int)]) (lpK p (gr p lv) D l m k).2.2).2.1.length : Int) - 1).toNat = l := by rw [h2]; simp
     have q4 : (gr p lv (D ||| 2 ^ k) (l ++ [(k : Int)]) (lpK p (gr p lv) D l m k).2.2).2.2 = (lpK p (gr p lv) D l m (k + 1)).2.2 := by rw [hst]
     exact ⟨q1, q2, by simp only [inR]; omega, k + 1, ⟨⟨by omega, by rw [hst]⟩, by omega⟩, by omega, q3, q4⟩
 · refine of_eq (q := True ∧ ((k : Int) < (p.length : Int) → True ∧ True ∧ True ∧ True ∧ inR .u64 (k : Int) ∧ ((0 : Int) ≤ (k : Int) ∧ (k : Int) < bitsOf .i64) ∧ True ∧ True ∧ True ∧ (bAnd .i64 ((D : Int) / (2 : Int) ^ k) (1 : Int) = 1 → True ∧ inR .i64 ((k : Int) + 1) ∧ True ∧ ((∃ (y : Nat), (inS p (gr p lv) D l m y ∧ p.length - y < p.length - k) ∧ ((D : Int) = (D : Int) ∧ True ∧ True ∧ True ∧ True ∧ (p.length : Int) = (p.length : Int) ∧ (k : Int) + 1 = (y : Int) ∧ True) ∧ False ∧ False ∧ True ∧ (n = n ∧ p = p ∧ mk (isF p) = mk (isF p) ∧ True) ∧ True ∧ (lpK p (gr p lv) D l m k).snd.snd = (lpK p (gr p lv) D l m y).snd.snd ∧ (True ∧ True ∧ True ∧ True ∧ True ∧ True) ∧ True) ∨ ∃ (y : Nat), (inS p (gr p lv) D l m y ∧ p.length - y < p.length - k) ∧ ((D : Int) = (D : Int) ∧ True ∧ True ∧ True ∧ True ∧ (p.length : Int) = (p.length : Int) ∧ (k : Int) + 1 = (y : Int) ∧ True) ∧ True ∧ l = l ∧ True ∧ (n = n ∧ p = p ∧ mk (isF p) = mk (isF p) ∧ True) ∧ True ∧ (lpK p (gr p lv) D l m k).snd.snd = (lpK p (gr p lv) D l m y).snd.snd ∧ (True ∧ True ∧ True ∧ True ∧ True ∧ True) ∧ True)) ∧ (¬bAnd .i64 ((D : Int) / (2 : Int) ^ k) (1 : Int) = 1 → True ∧ True ∧ True ∧ ((ok56 ((D : Int), (k : Int), n, p, mk (isF p)) ∧ (True ∧ (D : Int) = (D : Int) ∧ (k : Int) = (k : Int) ∧ True) ∧ (n = n ∧ p = p ∧ mk (isF p) = mk (isF p) ∧ True) ∧ True) ∧ True ∧ True) ∧ True ∧ True ∧ ((!flw p D k) = true → inR .i64 ((k : Int) + 1) ∧ True ∧ ((∃ (y : Nat), (inS p (gr p lv) D l m y ∧ p.length - y < p.length - k) ∧ ((D : Int) = (D : Int) ∧ True ∧ True ∧ True ∧ True ∧ (p.length : Int) = (p.length : Int) ∧ (k : Int) + 1 = (y : Int) ∧ True) ∧ False ∧ False ∧ True ∧ (n = n ∧ p = p ∧ mk (isF p) = mk (isF p) ∧ True) ∧ True ∧ (lpK p (gr p lv) D l m k).snd.snd = (lpK p (gr p lv) D l m y).snd.snd ∧ (True ∧ True ∧ True ∧ True ∧ True ∧ True) ∧ True) ∨ ∃ (y : Nat), (inS p (gr p lv) D l m y ∧ p.length - y < p.length - k) ∧ ((D : Int) = (D : Int) ∧ True ∧ True ∧ True ∧ True ∧ (p.length : Int) = (p.length : Int) ∧ (k : Int) + 1 = (y : Int) ∧ True) ∧ True ∧ l = l ∧ True ∧ (n = n ∧ p = p ∧ mk (isF p) = mk (isF p) ∧ True) ∧ True ∧ (lpK p (gr p lv) D l m k).snd.snd = (lpK p (gr p lv) D l m y).snd.snd ∧ (True ∧ True ∧ True ∧ True ∧ True ∧ True) ∧ True)) ∧ ((!flw p D k) = false → True ∧ True ∧ True ∧ sumPre l.length [(k : Int)].length (nat_lit 8) ∧ True ∧ True ∧ True ∧ True ∧ inR .u64 (k : Int) ∧ (((0 : Int) ≤ (k : Int) ∧ (k : Int) < bitsOf .i64) ∧ (-9223372036854775808 : Int) ≤ 1 * 2 ^ k ∧ (1 : Int) * 2 ^ k ≤ 9223372036854775807) ∧ True ∧ ((ok55 lv (bOr .i64 (D : Int) ((1 : Int) * 2 ^ k), (n, p, mk (isF p)), l ++ [(k : Int)], (lpK p (gr p lv) D l m k).snd.snd) ∧ (bOr .i64 (D : Int) ((1 : Int) * 2 ^ k) = bOr .i64 (D : Int) ((1 : Int) * 2 ^ k) ∧ True ∧ True ∧ True ∧ True ∧ True) ∧ True ∧ l ++ [(k : Int)] = l ++ [(k : Int)] ∧ True ∧ (n = n ∧ p = p ∧ mk (isF p) = mk (isF p) ∧ True) ∧ True ∧ (lpK p (gr p lv) D l m k).snd.snd = (lpK p (gr p lv) D l m k).snd.snd ∧ (True ∧ True ∧ True ∧ True ∧ True ∧ True) ∧ True) ∧ True ∧ True ∧ True ∧ True ∧ True ∧ True ∧ True ∧ True) ∧ ((gr p lv (bOr .i64 (D : Int) ((1 : Int) * 2 ^ k)).toNat (l ++ [(k : Int)]) (lpK p (gr p lv) D l m k).snd.snd).fst = true → True ∧ True ∧ (true = (gr p (lv + 1) D l m).fst ∧ True) ∧ True ∧ (gr p lv (bOr .i64 (D : Int) ((1 : Int) * 2 ^ k)).toNat (l ++ [(k : Int)]) (lpK p (gr p lv) D l m k).snd.snd).snd.fst = (gr p (lv + 1) D l m).snd.fst ∧ True ∧ (n = n ∧ p = p ∧ mk (isF p) = mk (isF p) ∧ True) ∧ True ∧ (gr p lv (bOr .i64 (D : Int) ((1 : Int) * 2 ^ k)).toNat (l ++ [(k : Int)]) (lpK p (gr p lv) D l m k).snd.snd).snd.snd = (gr p (lv + 1) D l m).snd.snd ∧ (True ∧ True ∧ True ∧ True ∧ True ∧ True) ∧ True) ∧ ((gr p lv (bOr .i64 (D : Int) ((1 : Int) * 2 ^ k)).toNat (l ++ [(k : Int)]) (lpK p (gr p lv) D l m k).snd.snd).fst = false → True ∧ True ∧ True ∧ inR .i64 ((↑(gr p lv (bOr .i64 (D : Int) ((1 : Int) * 2 ^ k)).toNat (l ++ [(k : Int)]) (lpK p (gr p lv) D l m k).snd.snd).snd.fst.length : Int) - 1) ∧ ((0 : Int) ≤ (↑(gr p lv (bOr .i64 (D : Int) ((1 : Int) * 2 ^ k)).toNat (l ++ [(k : Int)]) (lpK p (gr p lv) D l m k).snd.snd).snd.fst.length : Int) - 1 ∧ (↑(gr p lv (bOr .i64 (D : Int) ((1 : Int) * 2 ^ k)).toNat (l ++ [(k : Int)]) (lpK p (gr p lv) D l m k).snd.snd).snd.fst.length : Int) - 1 ≤ (↑(gr p lv (bOr .i64 (D : Int) ((1 : Int) * 2 ^ k)).toNat (l ++ [(k : Int)]) (lpK p (gr p lv) D l m k).snd.snd).snd.fst.length : Int)) ∧ True ∧ inR .i64 ((k : Int) + 1) ∧ True ∧ ((∃ (y : Nat), (inS p (gr p lv) D l m y ∧ p.length - y < p.length - k) ∧ ((D : Int) = (D : Int) ∧ True ∧ True ∧ True ∧ True ∧ (p.length : Int) = (p.length : Int) ∧ (k : Int) + 1 = (y : Int) ∧ True) ∧ False ∧ False ∧ True ∧ (n = n ∧ p = p ∧ mk (isF p) = mk (isF p) ∧ True) ∧ True ∧ (gr p lv (bOr .i64 (D : Int) ((1 : Int) * 2 ^ k)).toNat (l ++ [(k : Int)]) (lpK p (gr p lv) D l m k).snd.snd).snd.snd = (lpK p (gr p lv) D l m y).snd.snd ∧ (True ∧ True ∧ True ∧ True ∧ True ∧ True) ∧ True) ∨ ∃ (y : Nat), (inS p (gr p lv) D l m y ∧ p.length - y < p.length - k) ∧ ((D : Int) = (D : Int) ∧ True ∧ True ∧ True ∧ True ∧ (p.length : Int) = (p.length : Int) ∧ (k : Int) + 1 = (y : Int) ∧ True) ∧ True ∧ List.take ((↑(gr p lv (bOr .i64 (D : Int) ((1 : Int) * 2 ^ k)).toNat (l ++ [(k : Int)]) (lpK p (gr p lv) D l m k).snd.snd).snd.fst.length : Int) - 1).toNat (gr p lv (bOr .i64 (D : Int) ((1 : Int) * 2 ^ k)).toNat (l ++ [(k : Int)]) (lpK p (gr p lv) D l m k).snd.snd).snd.fst = l ∧ True ∧ (n = n ∧ p = p ∧ mk (isF p) = mk (isF p) ∧ True) ∧ True ∧ (gr p lv (bOr .i64 (D : Int) ((1 : Int) * 2 ^ k)).toNat (l ++ [(k : Int)]) (lpK p (gr p lv) D l m k).snd.snd).snd.snd = (lpK p (gr p lv) D l m y).snd.snd ∧ (True ∧ True ∧ True ∧ True ∧ True ∧ True) ∧ True))))) ∧ (¬(k : Int) < (p.length : Int) → (∃ (y : Unit), (lpK p (gr p lv) D l m p.length).fst = false ∧ ((D : Int) = (D : Int) ∧ True ∧ True ∧ True ∧ True ∧ True) ∧ False ∧ False ∧ True ∧ (n = n ∧ p = p ∧ mk (isF p) = mk (isF p) ∧ True) ∧ True ∧ (lpK p (gr p lv) D l m k).snd.snd = (lpK p (gr p lv) D l m p.length).snd.snd ∧ (True ∧ True ∧ True ∧ True ∧ True ∧ True) ∧ True) ∨ ∃ (y : Unit), (lpK p (gr p lv) D l m p.length).fst = false ∧ ((D : Int) = (D : Int) ∧ True ∧ True ∧ True ∧ True ∧ True) ∧ True ∧ l = l ∧ True ∧ (n = n ∧ p = p ∧ mk (isF p) = mk (isF p) ∧ True) ∧ True ∧ (lpK p (gr p lv) D l m k).snd.snd = (lpK p (gr p lv) D l m p.length).snd.snd ∧ (True ∧ True ∧ True ∧ True ∧ True ∧ True) ∧ True)) (by kernel_rfl) ?_
   simp only [zz]
   obtain ⟨k1, k2⟩ := hk
   have hl := hp.l
   have hc := hp.h.2.1
   have hD := pre_D hp
   refine ⟨fun h => ?_, fun h => by rw [show p.length = k by omega]; exact ⟨k2, rfl⟩⟩
   have hkp : k < p.length := by omega
   have hb := or_pow10 hD (k := k) (by omega)
   have hst := lpK_go k2
   rw [bit_shr hD, hb.1, Int.toNat_natCast]
   have hskip : (D / 2 ^ k % 2 = 1 ∨ flw p D k = false) → inR .i64 ((k : Int) + 1) ∧ ∃ y : Nat, (inS p (gr p lv) D l m y ∧ p.length - y < p.length - k) ∧ (k : Int) + 1 = (y : Int) ∧ (lpK p (gr p lv) D l m k).2.2 = (lpK p (gr p lv) D l m y).2.2 := fun hh => by
     rw [if_pos hh] at hst
     exact ⟨by simp only [inR]; omega, k + 1, ⟨⟨by omega, by rw [hst]; exact k2⟩, by omega⟩, by omega, by rw [hst]⟩
   refine ⟨by simp only [inR]; omega, ⟨by omega, by simp only [bitsOf]; omega⟩, fun hx => hskip (.inl (by omega)), fun hx => ⟨⟨⟨hp.h, rfl⟩, ⟨by simp only; omega, by simp only; omega⟩, ⟨by simp only; omega, by simp only; omega⟩⟩, fun hx2 => hskip (.inr (by simpa using hx2)), fun hx2 => ?_⟩⟩
   have hx2 : flw p D k = true := by simpa using hx2
   rw [if_neg (by simp [hx2]; omega)] at hst
   have hlt : D ||| 2 ^ k < 2 ^ p.length := Nat.or_lt_two_pow hp.D (Nat.pow_lt_pow_right (by decide) hkp)
   have hpre : pre55 n p lv (D ||| 2 ^ k) (l ++ [(k : Int)]) := ⟨hp.h, hlt, by simp; omega⟩
   refine ⟨by unfold sumPre; simp; omega, by simp only [inR]; omega, ⟨⟨by omega, by simp only [bitsOf]; omega⟩, by omega, by omega⟩, ⟨⟨hp.h, rfl⟩, by simp only; omega, hpre⟩, fun hr => ?_, fun hr => ?_⟩
   · have hr : (gr p lv (D ||| 2 ^ k) (l ++ [(k : Int)]) (lpK p (gr p lv) D l m k).2.2).1 = true := hr
     rw [if_pos hr] at hst
     have hs := lpK_stop (k := k + 1) (by rw [hst]; exact hr) (p.length - (k + 1))
     rw [show k + 1 + (p.length - (k + 1)) = p.length by omega, hst] at hs
     have e : gr p (lv + 1) D l m = gr p lv (D ||| 2 ^ k) (l ++ [(k : Int)]) (lpK p (gr p lv) D l m k).2.2 := by rw [gr, if_neg hm, hs, if_pos hr]
     rw [e]
     exact ⟨hr.symm, rfl, rfl⟩
   · have hr : (gr p lv (D ||| 2 ^ k) (l ++ [(k : Int)]) (lpK p (gr p lv) D l m k).2.2).1 = false := hr
     rw [if_neg (by simp [hr])] at hst
     have h2 := gr_list hr
     have q1 : inR .i64 (((gr p lv (D ||| 2 ^ k) (l ++ [(k : Int)]) (lpK p (gr p lv) D l m k).2.2).2.1.length : Int) - 1) := by rw [h2]; simp only [inR]; simp; omega
     have q2 : 0 ≤ ((gr p lv (D ||| 2 ^ k) (l ++ [(k : Int)]) (lpK p (gr p lv) D l m k).2.2).2.1.length : Int) - 1 ∧ ((gr p lv (D ||| 2 ^ k) (l ++ [(k : Int)]) (lpK p (gr p lv) D l m k).2.2).2.1.length : Int) - 1 ≤ ((gr p lv (D ||| 2 ^ k) (l ++ [(k : Int)]) (lpK p (gr p lv) D l m k).2.2).2.1.length : Int) := by rw [h2]; simp; omega
     have q3 : (gr p lv (D ||| 2 ^ k) (l ++ [(k : Int)]) (lpK p (gr p lv) D l m k).2.2).2.1.take (((gr p lv (D ||| 2 ^ k) (l ++ [(k : Int)]) (lpK p (gr p lv) D l m k).2.2).2.1.length : Int) - 1).toNat = l := by rw [h2]; simp
     have q4 : (gr p lv (D ||| 2 ^ k) (l ++ [(k : Int)]) (lpK p (gr p lv) D l m k).2.2).2.2 = (lpK p (gr p lv) D l m (k + 1)).2.2 := by rw [hst]
     exact ⟨q1, q2, by simp only [inR]; omega, k + 1, ⟨⟨by omega, by rw [hst]⟩, by omega⟩, by omega, q3, q4⟩
theorem gS1 (lv : Nat) (h' : GS lv) : GS (lv + 1) := by
 intro n p D l m hp
 have hL := fun hm => loopS lv h' n p D l m hp hm
 refine gcall_of (X := (X55 [e56, e55S lv h'])) ((Xb_ok _ _ _ _)) (f := 55) (fn := Try.f55) (c := bodyOf Try.f55) (by kernel_rfl) (by kernel_rfl) (view := false) (rvs := [.tmp 6]) (by kernel_rfl) (H := (HS n p (gr p lv) D l m)) 80 (by kernel_rfl) ?_
 refine of_eq (q := True ∧ True ∧ True ∧ True ∧ True ∧ True ∧ True ∧ True ∧ True ∧ ((l.length : Int) = (p.length : Int) → True ∧ True ∧ (true = (gr p (lv + 1) D l m).fst ∧ True) ∧ True ∧ l = (gr p (lv + 1) D l m).snd.fst ∧ True ∧ (n = n ∧ p = p ∧ mk (isF p) = mk (isF p) ∧ True) ∧ True ∧ m = (gr p (lv + 1) D l m).snd.snd ∧ (True ∧ True ∧ True ∧ True ∧ True ∧ True) ∧ True) ∧ (¬(l.length : Int) = (p.length : Int) → True ∧ True ∧ True ∧ ((mGet I64 m (D : Int)).getD false = true → True ∧ True ∧ (false = (gr p (lv + 1) D l m).fst ∧ True) ∧ True ∧ l = (gr p (lv + 1) D l m).snd.fst ∧ True ∧ (n = n ∧ p = p ∧ mk (isF p) = mk (isF p) ∧ True) ∧ True ∧ m = (gr p (lv + 1) D l m).snd.snd ∧ (True ∧ True ∧ True ∧ True ∧ True ∧ True) ∧ True) ∧ ((mGet I64 m (D : Int)).getD false = false → True ∧ True ∧ True ∧ True ∧ True ∧ True ∧ LoopOK (X55 [e56, e55S lv h']) L55_0 (hS n p (gr p lv) D l m) (RetR (X55 [e56, e55S lv h']) false false [ResultVar.tmp (6 : Tmp)] [AV.bool (gr p (lv + 1) D l m).fst] (gS (1 : Nat) n p (gr p (lv + 1) D l m).snd.fst (gr p (lv + 1) D l m).snd.snd)) ∧ ((∃ (y : Nat), inS p (gr p lv) D l m y ∧ ((D : Int) = (D : Int) ∧ True ∧ True ∧ True ∧ True ∧ (p.length : Int) = (p.length : Int) ∧ (0 : Int) = (y : Int) ∧ True) ∧ True ∧ l = l ∧ True ∧ (n = n ∧ p = p ∧ mk (isF p) = mk (isF p) ∧ True) ∧ True ∧ m = (lpK p (gr p lv) D l m y).snd.snd ∧ (True ∧ True ∧ True ∧ True ∧ True ∧ True) ∧ True) ∨ ∃ (y : Nat), inS p (gr p lv) D l m y ∧ ((D : Int) = (D : Int) ∧ True ∧ True ∧ True ∧ True ∧ (p.length : Int) = (p.length : Int) ∧ (0 : Int) = (y : Int) ∧ True) ∧ False ∧ False ∧ True ∧ (n = n ∧ p = p ∧ mk (isF p) = mk (isF p) ∧ True) ∧ True ∧ m = (lpK p (gr p lv) D l m y).snd.snd ∧ (True ∧ True ∧ True ∧ True ∧ True ∧ True) ∧ True) ∧ (∀ (y : Unit), (lpK p (gr p lv) D l m p.length).fst = false → True ∧ True ∧ True ∧ True ∧ True ∧ (false = (gr p (lv + 1) D l m).fst ∧ True) ∧ True ∧ l = (gr p (lv + 1) D l m).snd.fst ∧ True ∧ (n = n ∧ p = p ∧ mk (isF p) = mk (isF p) ∧ True) ∧ True ∧ mPut I64 (lpK p (gr p lv) D l m p.length).snd.snd (D : Int) true = (gr p (lv + 1) D l m).snd.snd ∧ (True ∧ True ∧ True ∧ True ∧ True ∧ True) ∧ True) ∧ (∀ (y : Unit), (lpK p (gr p lv) D l m p.length).fst = false → True ∧ True ∧ True ∧ True ∧ True ∧ (false = (gr p (lv + 1) D l m).fst ∧ True) ∧ True ∧ l = (gr p (lv + 1) D l m).snd.fst ∧ True ∧ (n = n ∧ p = p ∧ mk (isF p) = mk (isF p) ∧ True) ∧ True ∧ mPut I64 (lpK p (gr p lv) D l m p.length).snd.snd (D : Int) true = (gr p (lv + 1) D l m).snd.snd ∧ (True ∧ True ∧ True ∧ True ∧ True ∧ True) ∧ True) ∧ True))) (by kernel_rfl) ?_
 simp only [zz]
 have hl := hp.l
 have hg : mg m D = (mGet I64 m D).getD false := rfl
 refine ⟨fun h => by omega, fun _ => ⟨fun h => ?_, fun h => ⟨hL (by rw [hg, h]; simp) , ⟨0, ⟨Nat.zero_le _, rfl⟩, rfl, rfl⟩, fun _ hf => ?_, fun _ hf => ?_⟩⟩⟩
 · rw [gr, hg, if_pos h]; exact ⟨rfl, rfl, rfl⟩
 · rw [gr, hg, if_neg (by simp [h]), if_neg (by simp [hf])]; exact ⟨rfl, rfl, rfl⟩
 · rw [gr, hg, if_neg (by simp [h]), if_neg (by simp [hf])]; exact ⟨rfl, rfl, rfl⟩
theorem gS_all : ∀ lv, GS lv
 | 0 => gS0
 | lv + 1 => gS1 lv (gS_all lv)
def gN (n : Int) (p : List Int) (m : Mm) : List Ob := [.bx nl, .bx (.ptr 2 0 []), cxO n p, .bx (.mp 4), mmO m, .bx (clo55 0 1 3 5)]
def gO (n : Int) (p l : List Int) (m : Mm) : List Ob := [.bx (.own 6 0), .bx (.ptr 2 0 []), cxO n p, .bx (.mp 4), mmO m, .bx (clo55 0 1 3 5), .sc 0 3 I64 l]
def aN (D : Int) : List AV := [.int .i64 D, .ptr 0 0 [], .ptr 1 0 [], .ptr 3 0 [], .ptr 5 0 []]
def sN (n : Int) (p : List Int) (D : Nat) (m : Mm) (k : Nat) : St := ⟨aN D ++ dd 18 ++ .int .i64 p.length :: .int .i64 k :: dd 34, gN n p m⟩
def sO (n : Int) (p : List Int) (f : Nat → List Int → Mm → Res) (D : Nat) (m : Mm) (k : Nat) : St := ⟨aN D ++ dd 18 ++ .int .i64 p.length :: .int .i64 k :: dd 34, gO n p [] (lpK p f D [] m k).2.2⟩
def fmN (n : Int) (p : List Int) (f : Nat → List Int → Mm → Res) (D : Nat) (m : Mm) : List Fam := [⟨Nat, fun k => k = 0, sN n p D m, fun k => p.length - k, fun _ _ => none⟩, ⟨Nat, inS p f D [] m, sO n p f D m, fun k => p.length - k, fun _ _ => none⟩]
def exN (n : Int) (p : List Int) (f : Nat → List Int → Mm → Res) (D : Nat) (m : Mm) : List (List Nat × Ex) := [([0, 1, 2, 3, 4], ⟨0, Unit, fun _ => (lpK p f D [] m p.length).1 = false, fun _ => ⟨aN D ++ dd 54, gO n p [] (lpK p f D [] m p.length).2.2⟩⟩)]
def hN (n : Int) (p : List Int) (f : Nat → List Int → Mm → Res) (D : Nat) (m : Mm) : Hint := ⟨chks 6 [0, 1, 2, 3, 4, 23, 24] (fmN n p f D m), (exN n p f D m).map (·.2)⟩
noncomputable def HN (n : Int) (p : List Int) (f : Nat → List Int → Mm → Res) (D : Nat) (m : Mm) : Nat → Option Hint := fun _ => some (hN n p f D m)
noncomputable abbrev XN (lv : Nat) : Cy := Xb [e56, e55S lv (gS_all lv)] 6 [] (fun _ => none)
theorem flw_zero (p : List Int) (k : Nat) : flw p 0 k = true := by
 refine decide_eq_true fun j _ h => ?_
 rw [Nat.zero_div] at h; cases h
theorem loopN (lv : Nat) (n : Int) (p : List Int) (D : Nat) (m : Mm) (hp : pre55 n p (lv + 1) D []) (hD0 : D = 0) (hm : ¬ mg m D = true) : LoopOK (XN lv) L55_0 (hN n p (gr p lv) D m)
   (RetR (XN lv) false false [.tmp 6] [.bool (gr p (lv + 1) D [] m).1] (gO n p (gr p (lv + 1) D [] m).2.1 (gr p (lv + 1) D [] m).2.2)) := by
 refine loop_fams (Xb_ok _ _ _ _) [0, 1, 2, 3, 4, 23, 24] (fmN n p (gr p lv) D m) (exN n p (gr p lv) D m) 150 ⟨fun (k : Nat) hk => ?_, fun (k : Nat) hk => ?_, trivial⟩
 · refine of_eq (q := True ∧ ((k : Int) < (p.length : Int) → True ∧ True ∧ True ∧ True ∧ inR .u64 (k : Int) ∧ ((0 : Int) ≤ (k : Int) ∧ (k : Int) < bitsOf .i64) ∧ True ∧ True ∧ True ∧ (bAnd .i64 ((D : Int) / (2 : Int) ^ k) (1 : Int) = 1 → True ∧ inR .i64 ((k : Int) + 1) ∧ True ∧ ((∃ (y : Nat), (y = 0 ∧ p.length - y < p.length - k) ∧ ((D : Int) = (D : Int) ∧ True ∧ True ∧ True ∧ True ∧ (p.length : Int) = (p.length : Int) ∧ (k : Int) + 1 = (y : Int) ∧ True) ∧ True ∧ True ∧ (n = n ∧ p = p ∧ mk (isF p) = mk (isF p) ∧ True) ∧ True ∧ m = m ∧ (True ∧ True ∧ True ∧ True ∧ True ∧ True) ∧ True) ∨ ∃ (y : Nat), (inS p (gr p lv) D [] m y ∧ p.length - y < p.length - k) ∧ ((D : Int) = (D : Int) ∧ True ∧ True ∧ True ∧ True ∧ (p.length : Int) = (p.length : Int) ∧ (k : Int) + 1 = (y : Int) ∧ True) ∧ False ∧ True ∧ (n = n ∧ p = p ∧ mk (isF p) = mk (isF p) ∧ True) ∧ True ∧ m = (lpK p (gr p lv) D [] m y).snd.snd ∧ (True ∧ True ∧ True ∧ True ∧ True ∧ True) ∧ False)) ∧ (¬bAnd .i64 ((D : Int) / (2 : Int) ^ k) (1 : Int) = 1 → True ∧ True ∧ True ∧ ((ok56 ((D : Int), (k : Int), n, p, mk (isF p)) ∧ (True ∧ (D : Int) = (D : Int) ∧ (k : Int) = (k : Int) ∧ True) ∧ (n = n ∧ p = p ∧ mk (isF p) = mk (isF p) ∧ True) ∧ True) ∧ True ∧ True) ∧ True ∧ True ∧ ((!flw p D k) = true → inR .i64 ((k : Int) + 1) ∧ True ∧ ((∃ (y : Nat), (y = 0 ∧ p.length - y < p.length - k) ∧ ((D : Int) = (D : Int) ∧ True ∧ True ∧ True ∧ True ∧ (p.length : Int) = (p.length : Int) ∧ (k : Int) + 1 = (y : Int) ∧ True) ∧ True ∧ True ∧ (n = n ∧ p = p ∧ mk (isF p) = mk (isF p) ∧ True) ∧ True ∧ m = m ∧ (True ∧ True ∧ True ∧ True ∧ True ∧ True) ∧ True) ∨ ∃ (y : Nat), (inS p (gr p lv) D [] m y ∧ p.length - y < p.length - k) ∧ ((D : Int) = (D : Int) ∧ True ∧ True ∧ True ∧ True ∧ (p.length : Int) = (p.length : Int) ∧ (k : Int) + 1 = (y : Int) ∧ True) ∧ False ∧ True ∧ (n = n ∧ p = p ∧ mk (isF p) = mk (isF p) ∧ True) ∧ True ∧ m = (lpK p (gr p lv) D [] m y).snd.snd ∧ (True ∧ True ∧ True ∧ True ∧ True ∧ True) ∧ False)) ∧ ((!flw p D k) = false → True ∧ True ∧ True ∧ sumPre (0 : Nat) [(k : Int)].length (nat_lit 8) ∧ True ∧ True ∧ True ∧ True ∧ inR .u64 (k : Int) ∧ (((0 : Int) ≤ (k : Int) ∧ (k : Int) < bitsOf .i64) ∧ (-9223372036854775808 : Int) ≤ 1 * 2 ^ k ∧ (1 : Int) * 2 ^ k ≤ 9223372036854775807) ∧ True ∧ ((ok55 lv (bOr .i64 (D : Int) ((1 : Int) * 2 ^ k), (n, p, mk (isF p)), [(k : Int)], m) ∧ (bOr .i64 (D : Int) ((1 : Int) * 2 ^ k) = bOr .i64 (D : Int) ((1 : Int) * 2 ^ k) ∧ True ∧ True ∧ True ∧ True ∧ True) ∧ True ∧ [(k : Int)] = [(k : Int)] ∧ True ∧ (n = n ∧ p = p ∧ mk (isF p) = mk (isF p) ∧ True) ∧ True ∧ m = m ∧ (True ∧ True ∧ True ∧ True ∧ True ∧ True) ∧ True) ∧ True ∧ True ∧ True ∧ True ∧ True ∧ True ∧ True ∧ True) ∧ ((gr p lv (bOr .i64 (D : Int) ((1 : Int) * 2 ^ k)).toNat [(k : Int)] m).fst = true → True ∧ True ∧ (true = (gr p (lv + 1) D [] m).fst ∧ True) ∧ True ∧ True ∧ (n = n ∧ p = p ∧ mk (isF p) = mk (isF p) ∧ True) ∧ True ∧ (gr p lv (bOr .i64 (D : Int) ((1 : Int) * 2 ^ k)).toNat [(k : Int)] m).snd.snd = (gr p (lv + 1) D [] m).snd.snd ∧ (True ∧ True ∧ True ∧ True ∧ True ∧ True) ∧ (gr p lv (bOr .i64 (D : Int) ((1 : Int) * 2 ^ k)).toNat [(k : Int)] m).snd.fst = (gr p (lv + 1) D [] m).snd.fst ∧ True) ∧ ((gr p lv (bOr .i64 (D : Int) ((1 : Int) * 2 ^ k)).toNat [(k : Int)] m).fst = false → True ∧ True ∧ True ∧ inR .i64 ((↑(gr p lv (bOr .i64 (D : Int) ((1 : Int) * 2 ^ k)).toNat [(k : Int)] m).snd.fst.length : Int) - 1) ∧ ((0 : Int) ≤ (↑(gr p lv (bOr .i64 (D : Int) ((1 : Int) * 2 ^ k)).toNat [(k : Int)] m).snd.fst.length : Int) - 1 ∧ (↑(gr p lv (bOr .i64 (D : Int) ((1 : Int) * 2 ^ k)).toNat [(k : Int)] m).snd.fst.length : Int) - 1 ≤ (↑(gr p lv (bOr .i64 (D : Int) ((1 : Int) * 2 ^ k)).toNat [(k : Int)] m).snd.fst.length : Int)) ∧ True ∧ inR .i64 ((k : Int) + 1) ∧ True ∧ ((∃ (y : Nat), (y = 0 ∧ p.length - y < p.length - k) ∧ ((D : Int) = (D : Int) ∧ True ∧ True ∧ True ∧ True ∧ (p.length : Int) = (p.length : Int) ∧ (k : Int) + 1 = (y : Int) ∧ True) ∧ False ∧ True ∧ (n = n ∧ p = p ∧ mk (isF p) = mk (isF p) ∧ True) ∧ True ∧ (gr p lv (bOr .i64 (D : Int) ((1 : Int) * 2 ^ k)).toNat [(k : Int)] m).snd.snd = m ∧ (True ∧ True ∧ True ∧ True ∧ True ∧ True) ∧ True) ∨ ∃ (y : Nat), (inS p (gr p lv) D [] m y ∧ p.length - y < p.length - k) ∧ ((D : Int) = (D : Int) ∧ True ∧ True ∧ True ∧ True ∧ (p.length : Int) = (p.length : Int) ∧ (k : Int) + 1 = (y : Int) ∧ True) ∧ True ∧ True ∧ (n = n ∧ p = p ∧ mk (isF p) = mk (isF p) ∧ True) ∧ True ∧ (gr p lv (bOr .i64 (D : Int) ((1 : Int) * 2 ^ k)).toNat [(k : Int)] m).snd.snd = (lpK p (gr p lv) D [] m y).snd.snd ∧ (True ∧ True ∧ True ∧ True ∧ True ∧ True) ∧ List.take ((↑(gr p lv (bOr .i64 (D : Int) ((1 : Int) * 2 ^ k)).toNat [(k : Int)] m).snd.fst.length : Int) - 1).toNat (gr p lv (bOr .i64 (D : Int) ((1 : Int) * 2 ^ k)).toNat [(k : Int)] m).snd.fst = [] ∧ True))))) ∧ (¬(k : Int) < (p.length : Int) → ∃ (y : Unit), (lpK p (gr p lv) D [] m p.length).fst = false ∧ ((D : Int) = (D : Int) ∧ True ∧ True ∧ True ∧ True ∧ True) ∧ False ∧ True ∧ (n = n ∧ p = p ∧ mk (isF p) = mk (isF p) ∧ True) ∧ True ∧ m = (lpK p (gr p lv) D [] m p.length).snd.snd ∧ (True ∧ True ∧ True ∧ True ∧ True ∧ True) ∧ False)) (by kernel_rfl) ?_
   simp only [zz]
   have hk : k = 0 := hk
   have hl : lv + 1 = p.length := by have := hp.l; simpa using this
   have hc := hp.h.2.1
   have hD := pre_D hp
   refine ⟨fun h => ?_, fun h => by omega⟩
   have hkp : k < p.length := by omega
   have hb := or_pow10 hD (k := k) (by omega)
   have e0 : lpK p (gr p lv) D [] m k = (false, [], m) := by rw [hk]; try rfl
   have hst := lpK_go (p := p) (f := gr p lv) (D := D) (l := []) (m := m) (k := k) (by rw [e0])
   have hf : flw p D k = true := by rw [hD0]; exact flw_zero p k
   have hz : D / 2 ^ k % 2 = 0 := by rw [hD0, Nat.zero_div]
   rw [if_neg (by rw [hz, hf]; simp), e0] at hst
   simp only [List.nil_append] at hst
   rw [bit_shr hD, hb.1, Int.toNat_natCast, hz, hf]
   have hlt : D ||| 2 ^ k < 2 ^ p.length := Nat.or_lt_two_pow hp.D (Nat.pow_lt_pow_right (by decide) hkp)
   have hpre : pre55 n p lv (D ||| 2 ^ k) [(k : Int)] := ⟨hp.h, hlt, by simp; omega⟩
   refine ⟨by simp only [inR]; omega, ⟨by omega, by simp only [bitsOf]; omega⟩, fun hx => absurd hx (by decide), fun hx => ⟨⟨⟨hp.h, rfl⟩, ⟨by simp only; omega, by simp only; omega⟩, ⟨by simp only; omega, by simp only; omega⟩⟩, fun hx2 => absurd hx2 (by decide), fun hx2 => ?_⟩⟩
   refine ⟨by unfold sumPre; simp, by simp only [inR]; omega, ⟨⟨by omega, by simp only [bitsOf]; omega⟩, by omega, by omega⟩, ⟨⟨hp.h, rfl⟩, by simp only; omega, hpre⟩, fun hr => ?_, fun hr => ?_⟩
   · have hr : (gr p lv (D ||| 2 ^ k) [(k : Int)] m).1 = true := hr
     rw [if_pos hr] at hst
     have hs := lpK_stop (k := k + 1) (by rw [hst]; exact hr) (p.length - (k + 1))
     rw [show k + 1 + (p.length - (k + 1)) = p.length by omega, hst] at hs
     have e : gr p (lv + 1) D [] m = gr p lv (D ||| 2 ^ k) [(k : Int)] m := by rw [gr, if_neg hm, hs, if_pos hr]
     rw [e]
     exact ⟨hr.symm, rfl, rfl⟩
   · have hr : (gr p lv (D ||| 2 ^ k) [(k : Int)] m).1 = false := hr
     rw [if_neg (by simp [hr])] at hst
     have h2 := gr_list hr
     have q1 : inR .i64 (((gr p lv (D ||| 2 ^ k) [(k : Int)] m).2.1.length : Int) - 1) := by rw [h2]; simp only [inR]; simp
     have q2 : 0 ≤ ((gr p lv (D ||| 2 ^ k) [(k : Int)] m).2.1.length : Int) - 1 ∧ ((gr p lv (D ||| 2 ^ k) [(k : Int)] m).2.1.length : Int) - 1 ≤ ((gr p lv (D ||| 2 ^ k) [(k : Int)] m).2.1.length : Int) := by rw [h2]; simp
     have q3 : (gr p lv (D ||| 2 ^ k) [(k : Int)] m).2.1.take (((gr p lv (D ||| 2 ^ k) [(k : Int)] m).2.1.length : Int) - 1).toNat = [] := by rw [h2]; simp
     have q4 : (gr p lv (D ||| 2 ^ k) [(k : Int)] m).2.2 = (lpK p (gr p lv) D [] m (k + 1)).2.2 := by rw [hst]
     exact ⟨q1, q2, by simp only [inR]; omega, k + 1, ⟨⟨by omega, by rw [hst]⟩, by omega⟩, by omega, q4, q3⟩
 · refine of_eq (q := True ∧ ((k : Int) < (p.length : Int) → True ∧ True ∧ True ∧ True ∧ inR .u64 (k : Int) ∧ ((0 : Int) ≤ (k : Int) ∧ (k : Int) < bitsOf .i64) ∧ True ∧ True ∧ True ∧ (bAnd .i64 ((D : Int) / (2 : Int) ^ k) (1 : Int) = 1 → True ∧ inR .i64 ((k : Int) + 1) ∧ True ∧ ((∃ (y : Nat), (y = 0 ∧ p.length - y < p.length - k) ∧ ((D : Int) = (D : Int) ∧ True ∧ True ∧ True ∧ True ∧ (p.length : Int) = (p.length : Int) ∧ (k : Int) + 1 = (y : Int) ∧ True) ∧ False ∧ True ∧ (n = n ∧ p = p ∧ mk (isF p) = mk (isF p) ∧ True) ∧ True ∧ (lpK p (gr p lv) D [] m k).snd.snd = m ∧ (True ∧ True ∧ True ∧ True ∧ True ∧ True) ∧ True) ∨ ∃ (y : Nat), (inS p (gr p lv) D [] m y ∧ p.length - y < p.length - k) ∧ ((D : Int) = (D : Int) ∧ True ∧ True ∧ True ∧ True ∧ (p.length : Int) = (p.length : Int) ∧ (k : Int) + 1 = (y : Int) ∧ True) ∧ True ∧ True ∧ (n = n ∧ p = p ∧ mk (isF p) = mk (isF p) ∧ True) ∧ True ∧ (lpK p (gr p lv) D [] m k).snd.snd = (lpK p (gr p lv) D [] m y).snd.snd ∧ (True ∧ True ∧ True ∧ True ∧ True ∧ True) ∧ ([] : List Int) = [] ∧ True)) ∧ (¬bAnd .i64 ((D : Int) / (2 : Int) ^ k) (1 : Int) = 1 → True ∧ True ∧ True ∧ ((ok56 ((D : Int), (k : Int), n, p, mk (isF p)) ∧ (True ∧ (D : Int) = (D : Int) ∧ (k : Int) = (k : Int) ∧ True) ∧ (n = n ∧ p = p ∧ mk (isF p) = mk (isF p) ∧ True) ∧ True) ∧ True ∧ True) ∧ True ∧ True ∧ ((!flw p D k) = true → inR .i64 ((k : Int) + 1) ∧ True ∧ ((∃ (y : Nat), (y = 0 ∧ p.length - y < p.length - k) ∧ ((D : Int) = (D : Int) ∧ True ∧ True ∧ True ∧ True ∧ (p.length : Int) = (p.length : Int) ∧ (k : Int) + 1 = (y : Int) ∧ True) ∧ False ∧ True ∧ (n = n ∧ p = p ∧ mk (isF p) = mk (isF p) ∧ True) ∧ True ∧ (lpK p (gr p lv) D [] m k).snd.snd = m ∧ (True ∧ True ∧ True ∧ True ∧ True ∧ True) ∧ True) ∨ ∃ (y : Nat), (inS p (gr p lv) D [] m y ∧ p.length - y < p.length - k) ∧ ((D : Int) = (D : Int) ∧ True ∧ True ∧ True ∧ True ∧ (p.length : Int) = (p.length : Int) ∧ (k : Int) + 1 = (y : Int) ∧ True) ∧ True ∧ True ∧ (n = n ∧ p = p ∧ mk (isF p) = mk (isF p) ∧ True) ∧ True ∧ (lpK p (gr p lv) D [] m k).snd.snd = (lpK p (gr p lv) D [] m y).snd.snd ∧ (True ∧ True ∧ True ∧ True ∧ True ∧ True) ∧ ([] : List Int) = [] ∧ True)) ∧ ((!flw p D k) = false → True ∧ True ∧ True ∧ sumPre ([] : List Int).length [(k : Int)].length (nat_lit 8) ∧ True ∧ True ∧ True ∧ True ∧ inR .u64 (k : Int) ∧ (((0 : Int) ≤ (k : Int) ∧ (k : Int) < bitsOf .i64) ∧ (-9223372036854775808 : Int) ≤ 1 * 2 ^ k ∧ (1 : Int) * 2 ^ k ≤ 9223372036854775807) ∧ True ∧ ((ok55 lv (bOr .i64 (D : Int) ((1 : Int) * 2 ^ k), (n, p, mk (isF p)), [] ++ [(k : Int)], (lpK p (gr p lv) D [] m k).snd.snd) ∧ (bOr .i64 (D : Int) ((1 : Int) * 2 ^ k) = bOr .i64 (D : Int) ((1 : Int) * 2 ^ k) ∧ True ∧ True ∧ True ∧ True ∧ True) ∧ True ∧ [] ++ [(k : Int)] = [] ++ [(k : Int)] ∧ True ∧ (n = n ∧ p = p ∧ mk (isF p) = mk (isF p) ∧ True) ∧ True ∧ (lpK p (gr p lv) D [] m k).snd.snd = (lpK p (gr p lv) D [] m k).snd.snd ∧ (True ∧ True ∧ True ∧ True ∧ True ∧ True) ∧ True) ∧ True ∧ True ∧ True ∧ True ∧ True ∧ True ∧ True ∧ True) ∧ ((gr p lv (bOr .i64 (D : Int) ((1 : Int) * 2 ^ k)).toNat ([] ++ [(k : Int)]) (lpK p (gr p lv) D [] m k).snd.snd).fst = true → True ∧ True ∧ (true = (gr p (lv + 1) D [] m).fst ∧ True) ∧ True ∧ True ∧ (n = n ∧ p = p ∧ mk (isF p) = mk (isF p) ∧ True) ∧ True ∧ (gr p lv (bOr .i64 (D : Int) ((1 : Int) * 2 ^ k)).toNat ([] ++ [(k : Int)]) (lpK p (gr p lv) D [] m k).snd.snd).snd.snd = (gr p (lv + 1) D [] m).snd.snd ∧ (True ∧ True ∧ True ∧ True ∧ True ∧ True) ∧ (gr p lv (bOr .i64 (D : Int) ((1 : Int) * 2 ^ k)).toNat ([] ++ [(k : Int)]) (lpK p (gr p lv) D [] m k).snd.snd).snd.fst = (gr p (lv + 1) D [] m).snd.fst ∧ True) ∧ ((gr p lv (bOr .i64 (D : Int) ((1 : Int) * 2 ^ k)).toNat ([] ++ [(k : Int)]) (lpK p (gr p lv) D [] m k).snd.snd).fst = false → True ∧ True ∧ True ∧ inR .i64 ((↑(gr p lv (bOr .i64 (D : Int) ((1 : Int) * 2 ^ k)).toNat ([] ++ [(k : Int)]) (lpK p (gr p lv) D [] m k).snd.snd).snd.fst.length : Int) - 1) ∧ ((0 : Int) ≤ (↑(gr p lv (bOr .i64 (D : Int) ((1 : Int) * 2 ^ k)).toNat ([] ++ [(k : Int)]) (lpK p (gr p lv) D [] m k).snd.snd).snd.fst.length : Int) - 1 ∧ (↑(gr p lv (bOr .i64 (D : Int) ((1 : Int) * 2 ^ k)).toNat ([] ++ [(k : Int)]) (lpK p (gr p lv) D [] m k).snd.snd).snd.fst.length : Int) - 1 ≤ (↑(gr p lv (bOr .i64 (D : Int) ((1 : Int) * 2 ^ k)).toNat ([] ++ [(k : Int)]) (lpK p (gr p lv) D [] m k).snd.snd).snd.fst.length : Int)) ∧ True ∧ inR .i64 ((k : Int) + 1) ∧ True ∧ ((∃ (y : Nat), (y = 0 ∧ p.length - y < p.length - k) ∧ ((D : Int) = (D : Int) ∧ True ∧ True ∧ True ∧ True ∧ (p.length : Int) = (p.length : Int) ∧ (k : Int) + 1 = (y : Int) ∧ True) ∧ False ∧ True ∧ (n = n ∧ p = p ∧ mk (isF p) = mk (isF p) ∧ True) ∧ True ∧ (gr p lv (bOr .i64 (D : Int) ((1 : Int) * 2 ^ k)).toNat ([] ++ [(k : Int)]) (lpK p (gr p lv) D [] m k).snd.snd).snd.snd = m ∧ (True ∧ True ∧ True ∧ True ∧ True ∧ True) ∧ True) ∨ ∃ (y : Nat), (inS p (gr p lv) D [] m y ∧ p.length - y < p.length - k) ∧ ((D : Int) = (D : Int) ∧ True ∧ True ∧ True ∧ True ∧ (p.length : Int) = (p.length : Int) ∧ (k : Int) + 1 = (y : Int) ∧ True) ∧ True ∧ True ∧ (n = n ∧ p = p ∧ mk (isF p) = mk (isF p) ∧ True) ∧ True ∧ (gr p lv (bOr .i64 (D : Int) ((1 : Int) * 2 ^ k)).toNat ([] ++ [(k : Int)]) (lpK p (gr p lv) D [] m k).snd.snd).snd.snd = (lpK p (gr p lv) D [] m y).snd.snd ∧ (True ∧ True ∧ True ∧ True ∧ True ∧ True) ∧ List.take ((↑(gr p lv (bOr .i64 (D : Int) ((1 : Int) * 2 ^ k)).toNat ([] ++ [(k : Int)]) (lpK p (gr p lv) D [] m k).snd.snd).snd.fst.length : Int) - 1).toNat (gr p lv (bOr .i64 (D : Int) ((1 : Int) * 2 ^ k)).toNat ([] ++ [(k : Int)]) (lpK p (gr p lv) D [] m k).snd.snd).snd.fst = [] ∧ True))))) ∧ (¬(k : Int) < (p.length : Int) → ∃ (y : Unit), (lpK p (gr p lv) D [] m p.length).fst = false ∧ ((D : Int) = (D : Int) ∧ True ∧ True ∧ True ∧ True ∧ True) ∧ True ∧ True ∧ (n = n ∧ p = p ∧ mk (isF p) = mk (isF p) ∧ True) ∧ True ∧ (lpK p (gr p lv) D [] m k).snd.snd = (lpK p (gr p lv) D [] m p.length).snd.snd ∧ (True ∧ True ∧ True ∧ True ∧ True ∧ True) ∧ ([] : List Int) = [] ∧ True)) (by kernel_rfl) ?_
   simp only [zz]
   obtain ⟨k1, k2⟩ := hk
   have hl : lv + 1 = p.length := by have := hp.l; simpa using this
   have hc := hp.h.2.1
   have hD := pre_D hp
   refine ⟨fun h => ?_, fun h => by rw [show p.length = k by omega]; exact ⟨k2, rfl⟩⟩
   have hkp : k < p.length := by omega
   have hb := or_pow10 hD (k := k) (by omega)
   have hst := lpK_go k2
   rw [bit_shr hD, hb.1, Int.toNat_natCast]
   have hskip : (D / 2 ^ k % 2 = 1 ∨ flw p D k = false) → inR .i64 ((k : Int) + 1) ∧ ∃ y : Nat, (inS p (gr p lv) D [] m y ∧ p.length - y < p.length - k) ∧ (k : Int) + 1 = (y : Int) ∧ (lpK p (gr p lv) D [] m k).2.2 = (lpK p (gr p lv) D [] m y).2.2 := fun hh => by
     rw [if_pos hh] at hst
     exact ⟨by simp only [inR]; omega, k + 1, ⟨⟨by omega, by rw [hst]; exact k2⟩, by omega⟩, by omega, by rw [hst]⟩
   refine ⟨by simp only [inR]; omega, ⟨by omega, by simp only [bitsOf]; omega⟩, fun hx => hskip (.inl (by omega)), fun hx => ⟨⟨⟨hp.h, rfl⟩, ⟨by simp only; omega, by simp only; omega⟩, ⟨by simp only; omega, by simp only; omega⟩⟩, fun hx2 => hskip (.inr (by simpa using hx2)), fun hx2 => ?_⟩⟩
   have hx2 : flw p D k = true := by simpa using hx2
   rw [if_neg (by simp [hx2]; omega)] at hst
   have hlt : D ||| 2 ^ k < 2 ^ p.length := Nat.or_lt_two_pow hp.D (Nat.pow_lt_pow_right (by decide) hkp)
   have hpre : pre55 n p lv (D ||| 2 ^ k) ([] ++ [(k : Int)]) := ⟨hp.h, hlt, by simp; omega⟩
   refine ⟨by unfold sumPre; simp, by simp only [inR]; omega, ⟨⟨by omega, by simp only [bitsOf]; omega⟩, by omega, by omega⟩, ⟨⟨hp.h, rfl⟩, by simp only; omega, hpre⟩, fun hr => ?_, fun hr => ?_⟩
   · have hr : (gr p lv (D ||| 2 ^ k) ([] ++ [(k : Int)]) (lpK p (gr p lv) D [] m k).2.2).1 = true := hr
     rw [if_pos hr] at hst
     have hs := lpK_stop (k := k + 1) (by rw [hst]; exact hr) (p.length - (k + 1))
     rw [show k + 1 + (p.length - (k + 1)) = p.length by omega, hst] at hs
     have e : gr p (lv + 1) D [] m = gr p lv (D ||| 2 ^ k) ([] ++ [(k : Int)]) (lpK p (gr p lv) D [] m k).2.2 := by rw [gr, if_neg hm, hs, if_pos hr]
     rw [e]
     exact ⟨hr.symm, rfl, rfl⟩
   · have hr : (gr p lv (D ||| 2 ^ k) ([] ++ [(k : Int)]) (lpK p (gr p lv) D [] m k).2.2).1 = false := hr
     rw [if_neg (by rw [hr]; simp)] at hst
     have h2 := gr_list hr
     have q1 : inR .i64 (((gr p lv (D ||| 2 ^ k) ([] ++ [(k : Int)]) (lpK p (gr p lv) D [] m k).2.2).2.1.length : Int) - 1) := by rw [h2]; simp only [inR]; simp
     have q2 : 0 ≤ ((gr p lv (D ||| 2 ^ k) ([] ++ [(k : Int)]) (lpK p (gr p lv) D [] m k).2.2).2.1.length : Int) - 1 ∧ ((gr p lv (D ||| 2 ^ k) ([] ++ [(k : Int)]) (lpK p (gr p lv) D [] m k).2.2).2.1.length : Int) - 1 ≤ ((gr p lv (D ||| 2 ^ k) ([] ++ [(k : Int)]) (lpK p (gr p lv) D [] m k).2.2).2.1.length : Int) := by rw [h2]; simp
     have q3 : (gr p lv (D ||| 2 ^ k) ([] ++ [(k : Int)]) (lpK p (gr p lv) D [] m k).2.2).2.1.take (((gr p lv (D ||| 2 ^ k) ([] ++ [(k : Int)]) (lpK p (gr p lv) D [] m k).2.2).2.1.length : Int) - 1).toNat = [] := by rw [h2]; simp
     have q4 : (gr p lv (D ||| 2 ^ k) ([] ++ [(k : Int)]) (lpK p (gr p lv) D [] m k).2.2).2.2 = (lpK p (gr p lv) D [] m (k + 1)).2.2 := by rw [hst]
     exact ⟨q1, q2, by simp only [inR]; omega, k + 1, ⟨⟨by omega, by rw [hst]⟩, by omega⟩, by omega, q4, q3⟩
theorem call55 (lv : Nat) (n : Int) (p : List Int) (D : Nat) (m : Mm) (hp : pre55 n p (lv + 1) D []) (hD0 : D = 0) (hm : ¬ mg m D = true) : GCall Try.prog gl 55 false (aN D) (gN n p m) [.bool (gr p (lv + 1) D [] m).1] (gO n p (gr p (lv + 1) D [] m).2.1 (gr p (lv + 1) D [] m).2.2) := by
 refine gcall_of (X := (XN lv)) ((Xb_ok _ _ _ _)) (f := 55) (fn := Try.f55) (c := bodyOf Try.f55) (by kernel_rfl) (by kernel_rfl) (view := false) (rvs := [.tmp 6]) (by kernel_rfl) (H := (HN n p (gr p lv) D m)) 80 (by kernel_rfl) ?_
 have hL := loopN lv n p D m hp hD0 hm
 refine of_eq (q := True ∧ True ∧ True ∧ True ∧ True ∧ True ∧ True ∧ True ∧ True ∧ ((0 : Int) = (p.length : Int) → True ∧ True ∧ (true = (gr p (lv + 1) D [] m).fst ∧ True) ∧ False ∧ True ∧ (n = n ∧ p = p ∧ mk (isF p) = mk (isF p) ∧ True) ∧ True ∧ m = (gr p (lv + 1) D [] m).snd.snd ∧ (True ∧ True ∧ True ∧ True ∧ True ∧ True) ∧ False) ∧ (¬(0 : Int) = (p.length : Int) → True ∧ True ∧ True ∧ ((mGet I64 m (D : Int)).getD false = true → True ∧ True ∧ (false = (gr p (lv + 1) D [] m).fst ∧ True) ∧ False ∧ True ∧ (n = n ∧ p = p ∧ mk (isF p) = mk (isF p) ∧ True) ∧ True ∧ m = (gr p (lv + 1) D [] m).snd.snd ∧ (True ∧ True ∧ True ∧ True ∧ True ∧ True) ∧ False) ∧ ((mGet I64 m (D : Int)).getD false = false → True ∧ True ∧ True ∧ True ∧ True ∧ True ∧ LoopOK (XN lv) L55_0 (hN n p (gr p lv) D m) (RetR (XN lv) false false [ResultVar.tmp (6 : Tmp)] [AV.bool (gr p (lv + 1) D [] m).fst] (gO n p (gr p (lv + 1) D [] m).snd.fst (gr p (lv + 1) D [] m).snd.snd)) ∧ ((∃ (y : Nat), y = 0 ∧ ((D : Int) = (D : Int) ∧ True ∧ True ∧ True ∧ True ∧ (p.length : Int) = (p.length : Int) ∧ (0 : Int) = (y : Int) ∧ True) ∧ True ∧ True ∧ (n = n ∧ p = p ∧ mk (isF p) = mk (isF p) ∧ True) ∧ True ∧ m = m ∧ (True ∧ True ∧ True ∧ True ∧ True ∧ True) ∧ True) ∨ ∃ (y : Nat), inS p (gr p lv) D [] m y ∧ ((D : Int) = (D : Int) ∧ True ∧ True ∧ True ∧ True ∧ (p.length : Int) = (p.length : Int) ∧ (0 : Int) = (y : Int) ∧ True) ∧ False ∧ True ∧ (n = n ∧ p = p ∧ mk (isF p) = mk (isF p) ∧ True) ∧ True ∧ m = (lpK p (gr p lv) D [] m y).snd.snd ∧ (True ∧ True ∧ True ∧ True ∧ True ∧ True) ∧ False) ∧ (∀ (y : Unit), (lpK p (gr p lv) D [] m p.length).fst = false → True ∧ True ∧ True ∧ True ∧ True ∧ (false = (gr p (lv + 1) D [] m).fst ∧ True) ∧ True ∧ True ∧ (n = n ∧ p = p ∧ mk (isF p) = mk (isF p) ∧ True) ∧ True ∧ mPut I64 (lpK p (gr p lv) D [] m p.length).snd.snd (D : Int) true = (gr p (lv + 1) D [] m).snd.snd ∧ (True ∧ True ∧ True ∧ True ∧ True ∧ True) ∧ ([] : List Int) = (gr p (lv + 1) D [] m).snd.fst ∧ True) ∧ True))) (by kernel_rfl) ?_
 simp only [zz]
 have hl : lv + 1 = p.length := by have := hp.l; simpa using this
 have hg : mg m D = (mGet I64 m D).getD false := rfl
 refine ⟨fun h => by omega, fun _ => ⟨fun h => hm (by rw [hg]; exact h), fun h => ⟨hL, ⟨0, rfl, rfl⟩, fun _ hf => ?_⟩⟩⟩
 rw [gr, if_neg hm, if_neg (by simp [hf])]; exact ⟨rfl, rfl, rfl⟩
end Go.Am.Sh

/- Shells: Shell. -/
namespace Go.Am.Sh
open Go Go.Am Go.Proofs
def isNl : Ob → Bool
 | .bx (.vv _) => true
 | _ => false
abbrev G5n := Int × Cx3 × Mm
def get55n (xs : List AV) (obs : List Ob) : Option G5n :=
 match xs with
 | .int .i64 d :: _ => (match isNl (obs.getD 0 .gone), unCx (obs.getD 2 .gone), unMm (obs.getD 4 .gone) with
   | true, some x, some m => some (d, x, m)
   | _, _, _ => none)
 | _ => none
structure ok55n (x : G5n) : Prop where
 h : okC x.2.1
 d : x.1 = 0
 m : x.2.2 = []
def gNq (x : Cx3) (m : Mm) : List Ob := [.bx nl, .bx (.ptr 2 0 []), cxQ x, .bx (.mp 4), mmO m, .bx (clo55 0 1 3 5)]
def gOq (x : Cx3) (l : List Int) (m : Mm) : List Ob := [.bx (.own 6 0), .bx (.ptr 2 0 []), cxQ x, .bx (.mp 4), mmO m, .bx (clo55 0 1 3 5), .sc 0 3 I64 l]
def grow (p : List Int) : Res := gr p p.length 0 [] []
theorem call55N (n : Int) (p : List Int) (h : cxOk n p) : GCall Try.prog gl 55 false (aN 0) (gN n p []) [.bool (grow p).1] (gO n p (grow p).2.1 (grow p).2.2) := by
 have hl := h.2.1.1
 obtain ⟨lv, hlv⟩ : ∃ lv, p.length = lv + 1 := ⟨p.length - 1, by omega⟩
 have := call55 lv n p 0 [] ⟨h, by have := Nat.pow_le_pow_right (show 0 < 2 by decide) hl; omega, by simp; omega⟩ rfl (by simp [mg, mGet])
 rw [← hlv] at this
 exact this
def e55N : Entry Try.prog gl := entryW 55 ⟨Try.f55, by kernel_rfl, by kernel_rfl, by kernel_rfl⟩ true get55n ok55n false (fun x => aN x.1) (fun x => gNq x.2.1 x.2.2) (fun x => [.bool (grow x.2.1.2.1).1])
 (fun x => gOq x.2.1 (grow x.2.1.2.1).2.1 (grow x.2.1.2.1).2.2) (fun x hx => by
   have := call55N _ _ hx.h.h
   have e : gNq x.2.1 [] = gN x.2.1.1 x.2.1.2.1 [] := by unfold gNq gN; rw [cxQ_ok hx.h]
   have e2 : ∀ l m, gOq x.2.1 l m = gO x.2.1.1 x.2.1.2.1 l m := fun l m => by unfold gOq gO; rw [cxQ_ok hx.h]
   rw [hx.d, hx.m, e, e2]; exact this)
def shB (p : List Int) : Bool := pure p && (grow p).1
def shL (p : List Int) : List Int := if pure p = true then (grow p).2.1 else []
theorem call15 (n : Int) (p : List Int) (h : cxOk n p) : GCall Try.prog gl 15 true [.int .i64 n, .sl I64 p] [] [.sl I64 (shL p), .bool (shB p), .int .i64 0] [] := by
 refine gcall_of (X := X [e53, e54, e55N]) (X_ok [e53, e54, e55N]) (f := 15) (fn := Try.f15) (c := bodyOf Try.f15) (by kernel_rfl) (by kernel_rfl) (view := true) (rvs := [.tmp 4, .tmp 5, .tmp 6]) (by kernel_rfl) (H := fun _ => none) 80 (by kernel_rfl) ?_
 refine of_eq (q := True ∧ True ∧ True ∧ True ∧ True ∧ (CxP n p ∧ True) ∧ True ∧ True ∧ True ∧ True ∧ True ∧ True ∧ True ∧ True ∧ (¬(0 : Int) = 0 → True ∧ True ∧ True ∧ True ∧ True ∧ (([] : List Int) = shL p ∧ false = shB p ∧ (0 : Int) = 0 ∧ True) ∧ True) ∧ (¬¬(0 : Int) = 0 → True ∧ ((okC (n, p, mk (isF p)) ∧ (True ∧ True) ∧ (n = n ∧ p = p ∧ mk (isF p) = mk (isF p) ∧ True) ∧ True) ∧ True ∧ True) ∧ True ∧ ((!pure p) = true → True ∧ True ∧ True ∧ True ∧ (([] : List Int) = shL p ∧ false = shB p ∧ (0 : Int) = 0 ∧ True) ∧ True) ∧ ((!pure p) = false → True ∧ True ∧ True ∧ True ∧ True ∧ True ∧ True ∧ True ∧ ((ok55n ((0 : Int), (n, p, mk (isF p)), []) ∧ ((0 : Int) = 0 ∧ True ∧ True ∧ True ∧ True ∧ True) ∧ True ∧ True ∧ (n = n ∧ p = p ∧ mk (isF p) = mk (isF p) ∧ True) ∧ True ∧ ([] : List (Int × Bool)) = [] ∧ (True ∧ True ∧ True ∧ True ∧ True ∧ True) ∧ True) ∧ True ∧ True ∧ True ∧ True ∧ True ∧ True ∧ True) ∧ True ∧ True ∧ True ∧ True ∧ True ∧ True ∧ True ∧ ((grow p).snd.fst = shL p ∧ (grow p).fst = shB p ∧ (0 : Int) = 0 ∧ True) ∧ True))) (by kernel_rfl) ?_
 simp only [zz]
 refine ⟨⟨h⟩, fun h => absurd trivial h, fun _ => ⟨⟨h, rfl⟩, fun hp => ?_, fun hp => ⟨⟨⟨h, rfl⟩, rfl, rfl⟩, ?_⟩⟩⟩
 · have hp : pure p = false := by simpa using hp
   simp [shL, shB, hp]
 · have hp : pure p = true := by simpa using hp
   simp [shL, shB, hp]
end Go.Am.Sh

/- Shells: awake. -/
namespace Go.Am.Sh
open Go Go.Am Go.Proofs
def e15 : Entry Try.prog gl := entry2 15 ⟨Try.f15, by kernel_rfl, by kernel_rfl, by kernel_rfl⟩ I64 SI (fun (n : Int) p => cxOk n p) true (fun _ p => [.sl I64 (shL p), .bool (shB p), .int .i64 0]) (fun _ _ => []) (fun (n : Int) p h => call15 n p h)
def e38 : Entry Try.prog gl := entry2 38 ⟨Try.f38, by kernel_rfl, by kernel_rfl, by kernel_rfl⟩ I64 SI (fun (n : Int) p => cxOk n p) false (fun _ p => [.sl I64 (cnts p), .int .i64 0]) (fun _ _ => []) (fun (n : Int) p h => call38 n p h)
def e27 : Entry Try.prog gl := entry2 27 ⟨Try.f27, by kernel_rfl, by kernel_rfl, by kernel_rfl⟩ I64 SI (fun (n : Int) p => cxOk n p) false (fun _ p => [.sl I64 (hsL p), .int .i64 0]) (fun _ _ => []) (fun (n : Int) p h => call27 n p h)
def e30 : Entry Try.prog gl := entry2 30 ⟨Try.f30, by kernel_rfl, by kernel_rfl, by kernel_rfl⟩ I64 SI (fun (n : Int) p => cxOk n p) false (fun _ p => [.sl I64 (hoL p), .int .i64 0]) (fun _ _ => []) (fun (n : Int) p h => call30 n p h)
def e36 : Entry Try.prog gl := entry2 36 ⟨Try.f36, by kernel_rfl, by kernel_rfl, by kernel_rfl⟩ I64 SI (fun (n : Int) p => cxOk n p) false (fun (n : Int) p => [.sl I64 (fewR (grL (duaG n p))), .int .i64 (fewE (grL (duaG n p)))]) (fun _ _ => []) (fun (n : Int) p h => call36 n p h)
def e24 : Entry Try.prog gl := entry2 24 ⟨Try.f24, by kernel_rfl, by kernel_rfl, by kernel_rfl⟩ I64 I64 (fun (n d : Int) => momOk n d) true (fun (n d : Int) => [.sl I64 (momL n d), .int .i64 0]) (fun _ _ => []) (fun (n d : Int) h => call24 n d h)
instance (n : Int) (p : List Int) (k : Nat) : Decidable (goodAt n p k) := by unfold goodAt; infer_instance
instance (n : Int) (p : List Int) : Decidable (cxOk n p) := by unfold cxOk numOk; infer_instance
theorem call19 : GCall Try.prog gl 19 true [] [] [.tt] [] := by
 have f1 : cxOk 3 [3, 5, 6] := by decide +kernel
 have f2 : cxOk 3 [7] := by decide +kernel
 have f3 : cxOk 4 [3, 12] := by decide +kernel
 have f4 : cnts [3, 5, 6] = [1, 3, 3] := by kernel_rfl
 have f5 : hsL [3, 5, 6] = [1, 1, 1] := by kernel_rfl
 have f6 : hoL [3, 5, 6] = [0, 1] := by kernel_rfl
 have f7 : shL [7] = [0] := by kernel_rfl
 have f8 : fewR (grL (duaG 4 [3, 12])) = [5, 6, 9, 10] := by kernel_rfl
 have f9 : fewE (grL (duaG 4 [3, 12])) = 0 := by kernel_rfl
 refine gcall_of (X := X [e38, e27, e30, e15, e36, e24, e23]) (X_ok [e38, e27, e30, e15, e36, e24, e23]) (f := 19) (fn := Try.f19) (c := bodyOf Try.f19) (by kernel_rfl) (by kernel_rfl) (view := false) (rvs := [.tmp 0]) (by kernel_rfl) (H := fun _ => none) 200 (by kernel_rfl) ?_
 refine of_eq (q := True ∧ True ∧ ((numOk (3 : Int) ∧ ((1 : Nat) ≤ [(3 : Int), (5 : Int), (6 : Int)].length ∧ [(3 : Int), (5 : Int), (6 : Int)].length ≤ 10) ∧ ∀ (k : Nat), k < [(3 : Int), (5 : Int), (6 : Int)].length → goodAt (3 : Int) [(3 : Int), (5 : Int), (6 : Int)] k) ∧ True) ∧ True ∧ True ∧ True ∧ True ∧ True ∧ True ∧ ((numOk (3 : Int) ∧ ((1 : Nat) ≤ [(3 : Int), (5 : Int), (6 : Int)].length ∧ [(3 : Int), (5 : Int), (6 : Int)].length ≤ 10) ∧ ∀ (k : Nat), k < [(3 : Int), (5 : Int), (6 : Int)].length → goodAt (3 : Int) [(3 : Int), (5 : Int), (6 : Int)] k) ∧ True) ∧ True ∧ True ∧ True ∧ True ∧ True ∧ True ∧ ((numOk (3 : Int) ∧ ((1 : Nat) ≤ [(3 : Int), (5 : Int), (6 : Int)].length ∧ [(3 : Int), (5 : Int), (6 : Int)].length ≤ 10) ∧ ∀ (k : Nat), k < [(3 : Int), (5 : Int), (6 : Int)].length → goodAt (3 : Int) [(3 : Int), (5 : Int), (6 : Int)] k) ∧ True) ∧ True ∧ True ∧ True ∧ True ∧ True ∧ True ∧ ((numOk (3 : Int) ∧ ((1 : Nat) ≤ [(7 : Int)].length ∧ [(7 : Int)].length ≤ 10) ∧ ∀ (k : Nat), k < [(7 : Int)].length → goodAt (3 : Int) [(7 : Int)] k) ∧ True) ∧ True ∧ True ∧ True ∧ True ∧ True ∧ True ∧ True ∧ True ∧ ((numOk (4 : Int) ∧ ((1 : Nat) ≤ [(3 : Int), (12 : Int)].length ∧ [(3 : Int), (12 : Int)].length ≤ 10) ∧ ∀ (k : Nat), k < [(3 : Int), (12 : Int)].length → goodAt (4 : Int) [(3 : Int), (12 : Int)] k) ∧ True) ∧ True ∧ True ∧ True ∧ True ∧ True ∧ (((2 : Int) ≤ 3 ∧ (3 : Int) < 5 ∧ (5 : Int) ≤ 6) ∧ True) ∧ True ∧ True ∧ True ∧ True ∧ True ∧ True ∧ True ∧ True ∧ ((0 : Int) = 0 → True ∧ True ∧ ((cnts [(3 : Int), (5 : Int), (6 : Int)]).length + 1 ≤ 1000000000000000 ∧ True) ∧ True ∧ True ∧ (true = true → True ∧ True ∧ True ∧ True ∧ ((0 : Int) = 0 → True ∧ True ∧ ((hsL [(3 : Int), (5 : Int), (6 : Int)]).length + 1 ≤ 1000000000000000 ∧ True) ∧ True ∧ True ∧ (true = true → True ∧ True ∧ True ∧ True ∧ ((0 : Int) = 0 → True ∧ True ∧ ((hoL [(3 : Int), (5 : Int), (6 : Int)]).length + 1 ≤ 1000000000000000 ∧ True) ∧ True ∧ True ∧ (true = true → True ∧ True ∧ True ∧ True ∧ ((0 : Int) = 0 → True ∧ True ∧ True ∧ (true = true → True ∧ True ∧ ((shL [(7 : Int)]).length + 1 ≤ 1000000000000000 ∧ True) ∧ True ∧ True ∧ (true = true → True ∧ True ∧ True ∧ True ∧ (fewE (grL (duaG (4 : Int) [(3 : Int), (12 : Int)])) = 0 → True ∧ True ∧ ((fewR (grL (duaG (4 : Int) [(3 : Int), (12 : Int)]))).length + 1 ≤ 1000000000000000 ∧ True) ∧ True ∧ True ∧ (true = true → True ∧ True ∧ True ∧ True ∧ ((0 : Int) = 0 → True ∧ True ∧ True ∧ True ∧ True ∧ True ∧ (true = true ∧ True) ∧ True) ∧ (¬(0 : Int) = 0 → True ∧ True ∧ True ∧ (false = true ∧ True) ∧ True)) ∧ (true = false → True ∧ True ∧ True ∧ True ∧ True ∧ (false = true ∧ True) ∧ True)) ∧ (¬fewE (grL (duaG (4 : Int) [(3 : Int), (12 : Int)])) = 0 → True ∧ True ∧ True ∧ True ∧ True ∧ True ∧ True ∧ (false = true ∧ True) ∧ True)) ∧ (true = false → True ∧ True ∧ True ∧ True ∧ True ∧ True ∧ True ∧ True ∧ True ∧ (false = true ∧ True) ∧ True)) ∧ (true = false → True ∧ True ∧ True ∧ True ∧ True ∧ True ∧ True ∧ True ∧ True ∧ True ∧ True ∧ (false = true ∧ True) ∧ True)) ∧ (¬(0 : Int) = 0 → True ∧ True ∧ True ∧ True ∧ True ∧ True ∧ True ∧ True ∧ True ∧ True ∧ True ∧ True ∧ True ∧ (false = true ∧ True) ∧ True)) ∧ (true = false → True ∧ True ∧ True ∧ True ∧ True ∧ True ∧ True ∧ True ∧ True ∧ True ∧ True ∧ True ∧ True ∧ True ∧ True ∧ (false = true ∧ True) ∧ True)) ∧ (¬(0 : Int) = 0 → True ∧ True ∧ True ∧ True ∧ True ∧ True ∧ True ∧ True ∧ True ∧ True ∧ True ∧ True ∧ True ∧ True ∧ True ∧ True ∧ True ∧ (false = true ∧ True) ∧ True)) ∧ (true = false → True ∧ True ∧ True ∧ True ∧ True ∧ True ∧ True ∧ True ∧ True ∧ True ∧ True ∧ True ∧ True ∧ True ∧ True ∧ True ∧ True ∧ True ∧ True ∧ (false = true ∧ True) ∧ True)) ∧ (¬(0 : Int) = 0 → True ∧ True ∧ True ∧ True ∧ True ∧ True ∧ True ∧ True ∧ True ∧ True ∧ True ∧ True ∧ True ∧ True ∧ True ∧ True ∧ True ∧ True ∧ True ∧ True ∧ True ∧ (false = true ∧ True) ∧ True)) ∧ (true = false → True ∧ True ∧ True ∧ True ∧ True ∧ True ∧ True ∧ True ∧ True ∧ True ∧ True ∧ True ∧ True ∧ True ∧ True ∧ True ∧ True ∧ True ∧ True ∧ True ∧ True ∧ True ∧ True ∧ (false = true ∧ True) ∧ True)) ∧ (¬(0 : Int) = 0 → True ∧ True ∧ True ∧ True ∧ True ∧ True ∧ True ∧ True ∧ True ∧ True ∧ True ∧ True ∧ True ∧ True ∧ True ∧ True ∧ True ∧ True ∧ True ∧ True ∧ True ∧ True ∧ True ∧ True ∧ True ∧ (false = true ∧ True) ∧ True)) (by kernel_rfl) ?_
 rw [f4, f5, f6, f7, f8, f9]
 simp
 exact ⟨⟨f1.1, f1.2.2⟩, ⟨f2.1, f2.2.2 0 (by decide)⟩, f3.1, f3.2.2⟩
def e19 : Entry Try.prog gl where
 f := 19
 lend := false
 en := ⟨Try.f19, by kernel_rfl, by kernel_rfl, by kernel_rfl⟩
 go := fun args ob0 => match args, ob0 with
   | [], [] => some (True, true, [.tt], [])
   | _, _ => none
 ok := by
   intro args ob0 p s r o h hp
   split at h <;> try (cases h; done)
   injection h with h; injection h with h1 h2; injection h2 with h2 h3; injection h3 with h3 h4
   subst h1 h2 h3 h4
   exact call19
end Go.Am.Sh

/- Shells: the reference's shellings. -/
namespace Go.Am.Sh
open Go Go.Am Go.Proofs
def puN (p : List Int) (k : Nat) : Prop := ∀ i, i < k → pc (p.getD i 0).toNat = pc (p.getD 0 0).toNat
instance (p k) : Decidable (puN p k) := by unfold puN; infer_instance
def puB (p : List Int) : Bool := decide (puN p p.length)
structure ok10 (p : List Int) : Prop where
 h : okL p
 l : p.length ≤ 10
noncomputable def L58_0 : Code := lp (bodyOf Try.f58) 0
def st58 (p : List Int) (k : Nat) : St := ⟨.sl I64 p :: dd 2 ++ .int .i64 k :: dd 16, []⟩
def ex58 (p : List Int) : List (List Nat × Ex) := [([], ⟨0, Unit, fun _ => puN p p.length, fun _ => ⟨dd 20, []⟩⟩)]
noncomputable def H58 (p : List Int) : Nat → Option Hint := fun _ => some ⟨chk 0 [0, 3] (fun k => k ≤ p.length ∧ puN p k) (st58 p), (ex58 p).map (·.2)⟩
theorem loop58 (p : List Int) (h : ok10 p) : LoopOK (X [e29]) L58_0 ⟨chk 0 [0, 3] (fun k => k ≤ p.length ∧ puN p k) (st58 p), (ex58 p).map (·.2)⟩ (RetR (X [e29]) true false [.tmp 2] [.bool (puB p)] []) := by
 refine loop_ok (X_ok _) (H := fun _ _ => none) [0, 3] (fun k => k ≤ p.length ∧ puN p k) (st58 p) (fun k => p.length - k) (ex58 p) 100 fun (k : Nat) hk => ?_
 refine of_eq (q := True ∧ True ∧ True ∧ True ∧ ((k : Int) < (p.length : Int) → True ∧ True ∧ idxPre (k : Int) p.length ∧ True ∧ ((0 : Int) ≤ p.getD k (0 : Int) ∧ p.getD k (0 : Int) < 64) ∧ True ∧ idxPre (0 : Int) p.length ∧ True ∧ ((0 : Int) ≤ p.getD (0 : Nat) (0 : Int) ∧ p.getD (0 : Nat) (0 : Int) < 64) ∧ True ∧ (¬(↑(pc (Int.toNat (p.getD k (0 : Int)))) : Int) = (↑(pc (Int.toNat (p.getD (0 : Nat) (0 : Int)))) : Int) → True ∧ True ∧ (false = puB p ∧ True) ∧ True) ∧ (¬¬(↑(pc (Int.toNat (p.getD k (0 : Int)))) : Int) = (↑(pc (Int.toNat (p.getD (0 : Nat) (0 : Int)))) : Int) → True ∧ inR .i64 ((k : Int) + 1) ∧ True ∧ ∃ (y : Nat), ((y ≤ p.length ∧ puN p y) ∧ p.length - y < p.length - k) ∧ (p = p ∧ (k : Int) + 1 = (y : Int) ∧ True) ∧ True)) ∧ (¬(k : Int) < (p.length : Int) → ∃ (y : Unit), puN p p.length ∧ True ∧ True)) (by kernel_rfl) ?_
 simp only [zz]
 obtain ⟨h1, h2⟩ := hk
 have hl := h.l
 refine ⟨fun hk => ⟨idx_nat (by omega), okL_get h.h k, idx_nat (i := 0) (by omega), okL_get h.h 0, fun hx => ?_, fun hx => ⟨by simp only [inR]; omega, k + 1, ⟨⟨by omega, fun j hj => ?_⟩, by omega⟩, by omega⟩⟩, fun hk => by rw [show p.length = k by omega]; exact h2⟩
 · refine (decide_eq_false fun hn => hx ?_).symm
   rw [hn k (by omega)]
 · rcases Nat.lt_or_ge j k with h3 | h3
   · exact h2 j h3
   · rw [show j = k by omega]; omega
theorem call58 (p : List Int) (h : ok10 p) : GCall Try.prog gl 58 true [.sl I64 p] [] [.bool (puB p)] [] := by
 refine gcall_of (X := X [e29]) (X_ok [e29]) (f := 58) (fn := Try.f58) (c := bodyOf Try.f58) (by kernel_rfl) (by kernel_rfl) (view := false) (rvs := [.tmp 2]) (by kernel_rfl) (H := (H58 p)) 80 (by kernel_rfl) ?_
 have hL := loop58 p h
 refine of_eq (q := True ∧ True ∧ LoopOK (X [e29]) L58_0 { J := chk (0 : Nat) [(0 : Nat), (3 : Nat)] (fun (k : Nat) => k ≤ p.length ∧ puN p k) (st58 p), exits := List.map (fun (x : List Nat × Ex) => x.snd) (ex58 p) } (RetR (X [e29]) true false [ResultVar.tmp (2 : Tmp)] [AV.bool (puB p)] []) ∧ (∃ (y : Nat), (y ≤ p.length ∧ puN p y) ∧ (p = p ∧ (0 : Int) = (y : Int) ∧ True) ∧ True) ∧ (∀ (y : Unit), puN p p.length → True ∧ True ∧ (true = puB p ∧ True) ∧ True) ∧ True) (by kernel_rfl) ?_
 simp only [zz]
 exact ⟨hL, ⟨0, ⟨Nat.zero_le _, fun j hj => absurd hj (Nat.not_lt_zero j)⟩, rfl⟩, fun _ h => (decide_eq_true h).symm⟩
def e58 : Entry Try.prog gl := entry1 58 ⟨Try.f58, by kernel_rfl, by kernel_rfl, by kernel_rfl⟩ SI (fun p => ok10 p) true (fun p => [.bool (puB p)]) (fun _ => []) (call58)
def fnd (p : List Int) (D s e : Nat) : Nat → Bool
 | 0 => false
 | g + 1 => fnd p D s e g || (decide (D / 2 ^ g % 2 = 1) && decide (pc (mns s (p.getD g 0).toNat) = 1) && decide (mns s (p.getD g 0).toNat &&& e = 0))
def nxN (p : List Int) (D i k : Nat) : Prop := ∀ e, e < k → D / 2 ^ e % 2 = 1 → fnd p D (p.getD i 0).toNat (p.getD e 0).toNat p.length = true
instance (p D i k) : Decidable (nxN p D i k) := by unfold nxN; infer_instance
def nxB (p : List Int) (D i : Nat) : Bool := decide (nxN p D i p.length)
theorem bit_tmod {D k : Nat} : ((D : Int) / 2 ^ k).tmod 2 = ((D / 2 ^ k % 2 : Nat) : Int) := by
 have e : (2 ^ k : Int) = ((2 ^ k : Nat) : Int) := by rw [Int.natCast_pow]; try rfl
 rw [e]
 generalize 2 ^ k = P
 have e1 : (D : Int) / (P : Int) = ((D / P : Nat) : Int) := by rw [Int.natCast_ediv]
 rw [e1, Int.tmod_eq_emod_of_nonneg (Int.natCast_nonneg _)]
 omega
noncomputable def L57_0 : Code := lp (bodyOf Try.f57) 0
noncomputable def L57_2 : Code := lp (bodyOf Try.f57) 2
def sj57 (p : List Int) (D i e g : Nat) : St := ⟨.sl I64 p :: .int .i64 D :: dd 5 ++ .int .i64 (p.getD i 0) :: .int .i64 e :: .bool (fnd p D (p.getD i 0).toNat (p.getD e 0).toNat g) :: .int .i64 g :: dd 52, []⟩
def ej57 (p : List Int) (D i e : Nat) : List (List Nat × Ex) := [([0, 1, 7, 8, 9], ⟨2, Unit, fun _ => True, fun _ => ⟨.sl I64 p :: .int .i64 D :: dd 5 ++ .int .i64 (p.getD i 0) :: .int .i64 e :: .bool (fnd p D (p.getD i 0).toNat (p.getD e 0).toNat p.length) :: dd 53, []⟩⟩)]
def hj57 (p : List Int) (D i e : Nat) : Hint := ⟨chk 0 [0, 1, 7, 8, 9, 10] (fun g => g ≤ p.length) (sj57 p D i e), (ej57 p D i e).map (·.2)⟩
def st57 (p : List Int) (D i e : Nat) : St := ⟨.sl I64 p :: .int .i64 D :: dd 5 ++ .int .i64 (p.getD i 0) :: .int .i64 e :: dd 54, []⟩
def ex57 (p : List Int) (D i : Nat) : List (List Nat × Ex) := [([], ⟨0, Unit, fun _ => nxB p D i = true, fun _ => ⟨dd 63, []⟩⟩)]
noncomputable def H57 (p : List Int) (D i : Nat) : Nat → Option Hint := fun _ => some ⟨chk 0 [0, 1, 7, 8] (fun k => k ≤ p.length ∧ nxN p D i k) (st57 p D i), (ex57 p D i).map (·.2)⟩
theorem loop57b (p : List Int) (D i e : Nat) (h : ok10 p) (hD : D < 1024) (he : e < p.length) (R : Exit → St → Prop) : LoopOK (X [e29]) L57_2 (hj57 p D i e) R := by
 refine loop_ok (X_ok _) (H := fun _ _ => none) [0, 1, 7, 8, 9, 10] (fun g => g ≤ p.length) (sj57 p D i e) (fun k => p.length - k) (ej57 p D i e) 150 fun (k : Nat) hk => ?_
 refine of_eq (q := True ∧ True ∧ True ∧ True ∧ ((k : Int) < (p.length : Int) → True ∧ True ∧ True ∧ idxPre (k : Int) p.length ∧ True ∧ True ∧ True ∧ True ∧ True ∧ (fnd p D (p.getD i (0 : Int)).toNat (p.getD e (0 : Int)).toNat k = true → True ∧ True ∧ True ∧ inR .i64 ((k : Int) + 1) ∧ True ∧ ∃ (y : Nat), (y ≤ p.length ∧ p.length - y < p.length - k) ∧ (p = p ∧ (D : Int) = (D : Int) ∧ p.getD i (0 : Int) = p.getD i (0 : Int) ∧ (e : Int) = (e : Int) ∧ true = fnd p D (p.getD i (0 : Int)).toNat (p.getD e (0 : Int)).toNat y ∧ (k : Int) + 1 = (y : Int) ∧ True) ∧ True) ∧ (fnd p D (p.getD i (0 : Int)).toNat (p.getD e (0 : Int)).toNat k = false → True ∧ True ∧ ((0 : Int) ≤ (k : Int) ∧ (k : Int) < bitsOf .i64) ∧ ¬(2 : Int) = 0 ∧ True ∧ True ∧ (((D : Int) / (2 : Int) ^ k).tmod (2 : Int) = 1 → True ∧ (((0 : Int) ≤ bNot .i64 (p.getD i (0 : Int)) (p.getD k (0 : Int)) ∧ bNot .i64 (p.getD i (0 : Int)) (p.getD k (0 : Int)) < 64) ∧ True) ∧ True ∧ True ∧ True ∧ ((↑(pc (bNot .i64 (p.getD i (0 : Int)) (p.getD k (0 : Int))).toNat) : Int) = 1 → True ∧ True ∧ True ∧ idxPre (e : Int) p.length ∧ True ∧ True ∧ True ∧ True ∧ True ∧ True ∧ True ∧ inR .i64 ((k : Int) + 1) ∧ True ∧ ∃ (y : Nat), (y ≤ p.length ∧ p.length - y < p.length - k) ∧ (p = p ∧ (D : Int) = (D : Int) ∧ p.getD i (0 : Int) = p.getD i (0 : Int) ∧ (e : Int) = (e : Int) ∧ decide (bAnd .i64 (bNot .i64 (p.getD i (0 : Int)) (p.getD k (0 : Int))) (p.getD e (0 : Int)) = 0) = fnd p D (p.getD i (0 : Int)).toNat (p.getD e (0 : Int)).toNat y ∧ (k : Int) + 1 = (y : Int) ∧ True) ∧ True) ∧ (¬(↑(pc (bNot .i64 (p.getD i (0 : Int)) (p.getD k (0 : Int))).toNat) : Int) = 1 → True ∧ True ∧ True ∧ True ∧ inR .i64 ((k : Int) + 1) ∧ True ∧ ∃ (y : Nat), (y ≤ p.length ∧ p.length - y < p.length - k) ∧ (p = p ∧ (D : Int) = (D : Int) ∧ p.getD i (0 : Int) = p.getD i (0 : Int) ∧ (e : Int) = (e : Int) ∧ false = fnd p D (p.getD i (0 : Int)).toNat (p.getD e (0 : Int)).toNat y ∧ (k : Int) + 1 = (y : Int) ∧ True) ∧ True)) ∧ (¬((D : Int) / (2 : Int) ^ k).tmod (2 : Int) = 1 → True ∧ True ∧ True ∧ True ∧ True ∧ True ∧ inR .i64 ((k : Int) + 1) ∧ True ∧ ∃ (y : Nat), (y ≤ p.length ∧ p.length - y < p.length - k) ∧ (p = p ∧ (D : Int) = (D : Int) ∧ p.getD i (0 : Int) = p.getD i (0 : Int) ∧ (e : Int) = (e : Int) ∧ false = fnd p D (p.getD i (0 : Int)).toNat (p.getD e (0 : Int)).toNat y ∧ (k : Int) + 1 = (y : Int) ∧ True) ∧ True))) ∧ (¬(k : Int) < (p.length : Int) → ∃ (y : Unit), True ∧ (p = p ∧ (D : Int) = (D : Int) ∧ p.getD i (0 : Int) = p.getD i (0 : Int) ∧ (e : Int) = (e : Int) ∧ fnd p D (p.getD i (0 : Int)).toNat (p.getD e (0 : Int)).toNat k = fnd p D (p.getD i (0 : Int)).toNat (p.getD e (0 : Int)).toNat p.length ∧ True) ∧ True)) (by kernel_rfl) ?_
 simp only [zz]
 have hk : k ≤ p.length := hk
 have hl := h.l
 obtain ⟨s1, s2⟩ := okL_get h.h i
 obtain ⟨q1, q2⟩ := okL_get h.h k
 obtain ⟨r1, r2⟩ := okL_get h.h e
 refine ⟨fun hlt => ?_, fun hlt => by rw [show p.length = k by omega]⟩
 have hm := mns_lt ⟨(p.getD i 0).toNat, by omega⟩ ⟨(p.getD k 0).toNat, by omega⟩
 simp only at hm
 have e1 : bNot .i64 (p.getD i 0) (p.getD k 0) = ((mns (p.getD i 0).toNat (p.getD k 0).toNat : Nat) : Int) := by
   rw [← bNot_nat (by omega) (by omega), Int.toNat_of_nonneg s1, Int.toNat_of_nonneg q1]
 have e2 : bAnd .i64 ((mns (p.getD i 0).toNat (p.getD k 0).toNat : Nat) : Int) (p.getD e 0) = ((mns (p.getD i 0).toNat (p.getD k 0).toNat &&& (p.getD e 0).toNat : Nat) : Int) := by
   rw [← bAnd_nat (by omega) (by omega), Int.toNat_of_nonneg r1]
 rw [bit_tmod, e1, e2, Int.toNat_natCast]
 have hst : fnd p D (p.getD i 0).toNat (p.getD e 0).toNat (k + 1) = _ := rfl
 have hn : ∀ b, b = fnd p D (p.getD i 0).toNat (p.getD e 0).toNat (k + 1) → inR .i64 ((k : Int) + 1) ∧ ∃ y : Nat, (y ≤ p.length ∧ p.length - y < p.length - k) ∧ b = fnd p D (p.getD i 0).toNat (p.getD e 0).toNat y ∧ (k : Int) + 1 = (y : Int) := fun b hb => ⟨by simp only [inR]; omega, k + 1, by omega, hb, by omega⟩
 refine ⟨idx_nat (by omega), fun hf => hn true (by rw [fnd, hf]; rfl), fun hf => ⟨⟨by omega, by simp only [bitsOf]; omega⟩, by decide, fun hb => ⟨by omega, fun hc => ⟨idx_nat he, hn _ ?_⟩, fun hc => hn false ?_⟩, fun hb => hn false ?_⟩⟩
 · rw [fnd, hf, decide_eq_true (show D / 2 ^ k % 2 = 1 by omega), decide_eq_true (show pc (mns (p.getD i 0).toNat (p.getD k 0).toNat) = 1 by omega)]
   simp
 · rw [fnd, hf, decide_eq_false (show ¬ pc (mns (p.getD i 0).toNat (p.getD k 0).toNat) = 1 by omega)]
   simp
 · rw [fnd, hf, decide_eq_false (show ¬ D / 2 ^ k % 2 = 1 by omega)]
   simp
theorem loop57 (p : List Int) (D i : Nat) (h : ok10 p) (hD : D < 1024) (hi : i < p.length) : LoopOK (X [e29]) L57_0 ⟨chk 0 [0, 1, 7, 8] (fun k => k ≤ p.length ∧ nxN p D i k) (st57 p D i), (ex57 p D i).map (·.2)⟩ (RetR (X [e29]) true false [.tmp 6] [.bool (nxB p D i)] []) := by
 refine loop_ok (X_ok _) (H := fun k _ => some (hj57 p D i k)) [0, 1, 7, 8] (fun k => k ≤ p.length ∧ nxN p D i k) (st57 p D i) (fun k => p.length - k) (ex57 p D i) 150 fun (k : Nat) hk => ?_
 have hL := fun hk => loop57b p D i k h hD hk (bodyR (X [e29]).m0 (ex57 p D i) (RetR (X [e29]) true false [.tmp 6] [.bool (nxB p D i)] []))
 refine of_eq (q := True ∧ True ∧ True ∧ True ∧ ((k : Int) < (p.length : Int) → True ∧ True ∧ ((0 : Int) ≤ (k : Int) ∧ (k : Int) < bitsOf .i64) ∧ ¬(2 : Int) = 0 ∧ True ∧ (((D : Int) / (2 : Int) ^ k).tmod (2 : Int) = 0 → True ∧ inR .i64 ((k : Int) + 1) ∧ True ∧ ∃ (y : Nat), ((y ≤ p.length ∧ nxN p D i y) ∧ p.length - y < p.length - k) ∧ (p = p ∧ (D : Int) = (D : Int) ∧ p.getD i (0 : Int) = p.getD i (0 : Int) ∧ (k : Int) + 1 = (y : Int) ∧ True) ∧ True) ∧ (¬((D : Int) / (2 : Int) ^ k).tmod (2 : Int) = 0 → True ∧ True ∧ LoopOK (X [e29]) L57_2 (hj57 p D i k) (bodyR (X [e29]).m0 (ex57 p D i) (RetR (X [e29]) true false [ResultVar.tmp (6 : Tmp)] [AV.bool (nxB p D i)] [])) ∧ (∃ (y : Nat), y ≤ p.length ∧ (p = p ∧ (D : Int) = (D : Int) ∧ p.getD i (0 : Int) = p.getD i (0 : Int) ∧ (k : Int) = (k : Int) ∧ false = fnd p D (p.getD i (0 : Int)).toNat (p.getD k (0 : Int)).toNat y ∧ (0 : Int) = (y : Int) ∧ True) ∧ True) ∧ (∀ (y : Unit), True → True ∧ True ∧ ((!fnd p D (p.getD i (0 : Int)).toNat (p.getD k (0 : Int)).toNat p.length) = true → True ∧ True ∧ (false = nxB p D i ∧ True) ∧ True) ∧ ((!fnd p D (p.getD i (0 : Int)).toNat (p.getD k (0 : Int)).toNat p.length) = false → True ∧ inR .i64 ((k : Int) + 1) ∧ True ∧ ∃ (y : Nat), ((y ≤ p.length ∧ nxN p D i y) ∧ p.length - y < p.length - k) ∧ (p = p ∧ (D : Int) = (D : Int) ∧ p.getD i (0 : Int) = p.getD i (0 : Int) ∧ (k : Int) + 1 = (y : Int) ∧ True) ∧ True)) ∧ True)) ∧ (¬(k : Int) < (p.length : Int) → ∃ (y : Unit), nxB p D i = true ∧ True ∧ True)) (by kernel_rfl) ?_
 simp only [zz]
 obtain ⟨hk, hf⟩ := hk
 have hl := h.l
 rw [bit_tmod]
 refine ⟨fun hlt => ?_, fun hlt => decide_eq_true (by rw [show p.length = k by omega]; exact hf)⟩
 have hn : (D / 2 ^ k % 2 = 1 → fnd p D (p.getD i 0).toNat (p.getD k 0).toNat p.length = true) → inR .i64 ((k : Int) + 1) ∧ ∃ y : Nat, ((y ≤ p.length ∧ nxN p D i y) ∧ p.length - y < p.length - k) ∧ (k : Int) + 1 = (y : Int) := fun hc => ⟨by simp only [inR]; omega, k + 1, ⟨⟨by omega, fun j hj hb => by
   rcases Nat.lt_or_ge j k with h1 | h1
   · exact hf j h1 hb
   · have : j = k := by omega
     subst this; exact hc hb⟩, by omega⟩, by omega⟩
 refine ⟨⟨by omega, by simp only [bitsOf]; omega⟩, by decide, fun hb => hn fun hc => by omega, fun hb => ⟨hL (by omega), ⟨0, Nat.zero_le _, rfl, rfl⟩, fun _ _ => ⟨fun hx => ?_, fun hx => hn fun _ => by simpa using hx⟩⟩⟩
 refine (decide_eq_false fun hx2 => ?_).symm
 rw [hx2 k (by omega) (by omega)] at hx
 cases hx
theorem call57 (p : List Int) (D i : Nat) (h : ok10 p) (hD : D < 1024) (hi : i < p.length) : GCall Try.prog gl 57 true [.sl I64 p, .int .i64 D, .int .i64 i] [] [.bool (nxB p D i)] [] := by
 refine gcall_of (X := X [e29]) (X_ok [e29]) (f := 57) (fn := Try.f57) (c := bodyOf Try.f57) (by kernel_rfl) (by kernel_rfl) (view := false) (rvs := [.tmp 6]) (by kernel_rfl) (H := (H57 p D i)) 80 (by kernel_rfl) ?_
 have hL := loop57 p D i h hD hi
 refine of_eq (q := True ∧ True ∧ True ∧ idxPre (i : Int) p.length ∧ True ∧ True ∧ True ∧ LoopOK (X [e29]) L57_0 { J := chk (0 : Nat) [(0 : Nat), (1 : Nat), (7 : Nat), (8 : Nat)] (fun (k : Nat) => k ≤ p.length ∧ nxN p D i k) (st57 p D i), exits := List.map (fun (x : List Nat × Ex) => x.snd) (ex57 p D i) } (RetR (X [e29]) true false [ResultVar.tmp (6 : Tmp)] [AV.bool (nxB p D i)] []) ∧ (∃ (y : Nat), (y ≤ p.length ∧ nxN p D i y) ∧ (p = p ∧ (D : Int) = (D : Int) ∧ p.getD i (0 : Int) = p.getD i (0 : Int) ∧ (0 : Int) = (y : Int) ∧ True) ∧ True) ∧ (∀ (y : Unit), nxB p D i = true → True ∧ True ∧ (true = nxB p D i ∧ True) ∧ True) ∧ True) (by kernel_rfl) ?_
 simp only [zz]
 exact ⟨idx_nat hi, hL, ⟨0, ⟨Nat.zero_le _, fun j hj => absurd hj (Nat.not_lt_zero j)⟩, rfl⟩, fun _ h => h.symm⟩
structure ok57 (p : List Int) (D i : Int) : Prop where
 h : ok10 p
 D : 0 ≤ D ∧ D < 1024
 i : 0 ≤ i ∧ i < p.length
theorem call57' (p : List Int) (D i : Int) (h : ok57 p D i) : GCall Try.prog gl 57 true [.sl I64 p, .int .i64 D, .int .i64 i] [] [.bool (nxB p D.toNat i.toNat)] [] := by
 have h1 := h.D
 have h2 := h.i
 have := call57 p D.toNat i.toNat h.h (by omega) (by omega)
 rwa [Int.toNat_of_nonneg h1.1, Int.toNat_of_nonneg h2.1] at this
def e57 : Entry Try.prog gl := entry3 57 ⟨Try.f57, by kernel_rfl, by kernel_rfl, by kernel_rfl⟩ SI I64 I64 (fun p (D i : Int) => ok57 p D i) true (fun p (D i : Int) => [.bool (nxB p D.toNat i.toNat)]) (fun _ _ _ => []) (call57')
def sgB (p : List Int) (i : Int) : Bool := decide (0 ≤ i ∧ i < p.length)
/-- The set of the first k pieces of an order, if they are a shelling so far. -/
def sgK (p o : List Int) : Nat → Option Nat
 | 0 => some 0
 | k + 1 => (sgK p o k).bind fun D => if sgB p (o.getD k 0) = true ∧ D / 2 ^ (o.getD k 0).toNat % 2 = 0 ∧ nxB p D (o.getD k 0).toNat = true then some (D ||| 2 ^ (o.getD k 0).toNat) else none
def sgD (p o : List Int) (k : Nat) : Nat := (sgK p o k).getD 0
def sgR (p o : List Int) : Bool := (sgK p o o.length).isSome && decide (o.length = p.length) && puB p
theorem sg_some {p o : List Int} {k : Nat} (h : (sgK p o k).isSome = true) : sgK p o k = some (sgD p o k) := by
 unfold sgD
 cases hm : sgK p o k with
 | none => rw [hm] at h; cases h
 | some q => rfl
theorem sg_none {p o : List Int} {k : Nat} (h : sgK p o k = none) : ∀ j, sgK p o (k + j) = none
 | 0 => h
 | j + 1 => by rw [show k + (j + 1) = k + j + 1 by omega, sgK, sg_none h j]; try rfl
theorem sg_bad {p o : List Int} {k : Nat} (hk : k < o.length) (h : sgK p o (k + 1) = none) : sgR p o = false := by
 have := sg_none h (o.length - (k + 1))
 rw [show k + 1 + (o.length - (k + 1)) = o.length by omega] at this
 unfold sgR; rw [this]; try rfl
theorem sg_lt {p o : List Int} (hl : p.length ≤ 10) : ∀ {k : Nat} {D : Nat}, sgK p o k = some D → D < 1024
 | 0, D, h => by injection h with h; omega
 | k + 1, D, h => by
   rw [sgK] at h
   cases hm : sgK p o k with
   | none => rw [hm] at h; cases h
   | some q =>
     rw [hm] at h
     simp only [Option.bind_some] at h
     split at h
     · rename_i hc
       injection h with h; subst h
       have hb : 0 ≤ o.getD k 0 ∧ o.getD k 0 < p.length := of_decide_eq_true hc.1
       exact Nat.or_lt_two_pow (n := 10) (sg_lt hl hm) (Nat.pow_lt_pow_right (by decide) (by omega))
     · cases h
noncomputable def L17_0 : Code := lp (bodyOf Try.f17) 0
def st17 (p o : List Int) (k : Nat) : St := ⟨.sl I64 p :: .sl I64 o :: dd 3 ++ .int .i64 (sgD p o k) :: .int .i64 k :: dd 46, []⟩
def in17 (p o : List Int) (k : Nat) : Prop := k ≤ o.length ∧ (sgK p o k).isSome = true
def ex17 (p o : List Int) : List (List Nat × Ex) := [([0, 1], ⟨0, Unit, fun _ => (sgK p o o.length).isSome = true, fun _ => ⟨.sl I64 p :: .sl I64 o :: dd 51, []⟩⟩)]
noncomputable def H17 (p o : List Int) : Nat → Option Hint := fun _ => some ⟨chk 0 [0, 1, 5, 6] (in17 p o) (st17 p o), (ex17 p o).map (·.2)⟩
theorem loop17 (p o : List Int) (h : ok10 p) (ho : o.length < 1000000000000000) : LoopOK (X [e57, e58]) L17_0 ⟨chk 0 [0, 1, 5, 6] (in17 p o) (st17 p o), (ex17 p o).map (·.2)⟩ (RetR (X [e57, e58]) true false [.tmp 4] [.bool (sgR p o)] []) := by
 refine loop_ok (X_ok _) (H := fun _ _ => none) [0, 1, 5, 6] (in17 p o) (st17 p o) (fun k => o.length - k) (ex17 p o) 150 fun (k : Nat) hk => ?_
 refine of_eq (q := True ∧ True ∧ True ∧ True ∧ ((k : Int) < (o.length : Int) → True ∧ True ∧ idxPre (k : Int) o.length ∧ True ∧ True ∧ True ∧ True ∧ True ∧ (o.getD k (0 : Int) < 0 → True ∧ True ∧ True ∧ True ∧ True ∧ True ∧ True ∧ (false = sgR p o ∧ True) ∧ True) ∧ (¬o.getD k (0 : Int) < 0 → True ∧ True ∧ True ∧ True ∧ True ∧ True ∧ ((p.length : Int) ≤ o.getD k (0 : Int) → True ∧ True ∧ True ∧ True ∧ True ∧ (false = sgR p o ∧ True) ∧ True) ∧ (¬(p.length : Int) ≤ o.getD k (0 : Int) → True ∧ True ∧ ((0 : Int) ≤ o.getD k (0 : Int) ∧ o.getD k (0 : Int) < bitsOf .i64) ∧ ¬(2 : Int) = 0 ∧ True ∧ True ∧ True ∧ (((↑(sgD p o k) : Int) / (2 : Int) ^ Int.toNat (o.getD k (0 : Int))).tmod (2 : Int) = 1 → True ∧ True ∧ True ∧ (false = sgR p o ∧ True) ∧ True) ∧ (¬((↑(sgD p o k) : Int) / (2 : Int) ^ Int.toNat (o.getD k (0 : Int))).tmod (2 : Int) = 1 → True ∧ True ∧ True ∧ (ok57 p (↑(sgD p o k) : Int) (o.getD k (0 : Int)) ∧ True) ∧ True ∧ True ∧ ((!nxB p (sgD p o k) (Int.toNat (o.getD k (0 : Int)))) = true → True ∧ True ∧ (false = sgR p o ∧ True) ∧ True) ∧ ((!nxB p (sgD p o k) (Int.toNat (o.getD k (0 : Int)))) = false → True ∧ True ∧ (((0 : Int) ≤ o.getD k (0 : Int) ∧ o.getD k (0 : Int) < bitsOf .i64) ∧ (-9223372036854775808 : Int) ≤ 1 * 2 ^ Int.toNat (o.getD k (0 : Int)) ∧ (1 : Int) * 2 ^ Int.toNat (o.getD k (0 : Int)) ≤ 9223372036854775807) ∧ True ∧ True ∧ True ∧ inR .i64 ((k : Int) + 1) ∧ True ∧ ∃ (y : Nat), (in17 p o y ∧ o.length - y < o.length - k) ∧ (p = p ∧ o = o ∧ bOr .i64 (↑(sgD p o k) : Int) ((1 : Int) * 2 ^ Int.toNat (o.getD k (0 : Int))) = (↑(sgD p o y) : Int) ∧ (k : Int) + 1 = (y : Int) ∧ True) ∧ True))))) ∧ (¬(k : Int) < (o.length : Int) → ∃ (y : Unit), (sgK p o o.length).isSome = true ∧ (p = p ∧ o = o ∧ True) ∧ True)) (by kernel_rfl) ?_
 simp only [zz]
 obtain ⟨k1, k2⟩ := hk
 have hl := h.l
 have hs := sg_some k2
 have hD := sg_lt hl hs
 refine ⟨fun hlt => ?_, fun hlt => by rw [show o.length = k by omega]; exact k2⟩
 have hst : sgK p o (k + 1) = if sgB p (o.getD k 0) = true ∧ sgD p o k / 2 ^ (o.getD k 0).toNat % 2 = 0 ∧ nxB p (sgD p o k) (o.getD k 0).toNat = true then some (sgD p o k ||| 2 ^ (o.getD k 0).toNat) else none := by rw [sgK, hs]; try rfl
 have hbad : ¬ (sgB p (o.getD k 0) = true ∧ sgD p o k / 2 ^ (o.getD k 0).toNat % 2 = 0 ∧ nxB p (sgD p o k) (o.getD k 0).toNat = true) → false = sgR p o := fun hc => by
   rw [if_neg hc] at hst
   exact (sg_bad (by omega) hst).symm
 rw [bit_tmod]
 refine ⟨idx_nat (by omega), fun hx => hbad fun hc => ?_, fun hx => ⟨fun hx2 => hbad fun hc => ?_, fun hx2 => ⟨⟨by omega, by simp only [bitsOf]; omega⟩, by decide, fun hb => hbad fun hc => ?_, fun hb => ⟨⟨h, ⟨by omega, by omega⟩, by omega, by omega⟩, fun hn => hbad fun hc => ?_, fun hn => ?_⟩⟩⟩⟩
 · have : 0 ≤ o.getD k 0 ∧ o.getD k 0 < p.length := of_decide_eq_true hc.1
   omega
 · have : 0 ≤ o.getD k 0 ∧ o.getD k 0 < p.length := of_decide_eq_true hc.1
   omega
 · have := hc.2.1
   omega
 · rw [hc.2.2] at hn; cases hn
 · have hb2 := or_pow10 hD (k := (o.getD k 0).toNat) (by omega)
   rw [if_pos ⟨decide_eq_true ⟨by omega, by omega⟩, by omega, by simpa using hn⟩] at hst
   exact ⟨⟨⟨by omega, by simp only [bitsOf]; omega⟩, by omega, by omega⟩, by simp only [inR]; omega, k + 1, ⟨⟨by omega, by rw [hst]; rfl⟩, by omega⟩, by rw [hb2.1]; unfold sgD; rw [hst]; rfl, by omega⟩
theorem call17 (p o : List Int) (h : ok10 p) (ho : o.length < 1000000000000000) : GCall Try.prog gl 17 true [.sl I64 p, .sl I64 o] [] [.bool (sgR p o)] [] := by
 refine gcall_of (X := X [e57, e58]) (X_ok [e57, e58]) (f := 17) (fn := Try.f17) (c := bodyOf Try.f17) (by kernel_rfl) (by kernel_rfl) (view := false) (rvs := [.tmp 4]) (by kernel_rfl) (H := (H17 p o)) 80 (by kernel_rfl) ?_
 have hL := loop17 p o h ho
 refine of_eq (q := True ∧ True ∧ True ∧ LoopOK (X [e57, e58]) L17_0 { J := chk (0 : Nat) [(0 : Nat), (1 : Nat), (5 : Nat), (6 : Nat)] (in17 p o) (st17 p o), exits := List.map (fun (x : List Nat × Ex) => x.snd) (ex17 p o) } (RetR (X [e57, e58]) true false [ResultVar.tmp (4 : Tmp)] [AV.bool (sgR p o)] []) ∧ (∃ (y : Nat), in17 p o y ∧ (p = p ∧ o = o ∧ (0 : Int) = (↑(sgD p o y) : Int) ∧ (0 : Int) = (y : Int) ∧ True) ∧ True) ∧ (∀ (y : Unit), (sgK p o o.length).isSome = true → True ∧ True ∧ True ∧ True ∧ True ∧ True ∧ ((o.length : Int) = (p.length : Int) → True ∧ (ok10 p ∧ True) ∧ True ∧ True ∧ True ∧ (puB p = sgR p o ∧ True) ∧ True) ∧ (¬(o.length : Int) = (p.length : Int) → True ∧ True ∧ True ∧ (false = sgR p o ∧ True) ∧ True)) ∧ True) (by kernel_rfl) ?_
 simp only [zz]
 refine ⟨hL, ⟨0, ⟨Nat.zero_le _, rfl⟩, rfl, rfl⟩, fun _ hs => ⟨fun he => ⟨h, ?_⟩, fun he => ?_⟩⟩
 · unfold sgR; rw [hs, decide_eq_true (show o.length = p.length by omega)]; simp
 · unfold sgR; rw [decide_eq_false (show ¬ o.length = p.length by omega)]; simp
def e17 : Entry Try.prog gl := entry2 17 ⟨Try.f17, by kernel_rfl, by kernel_rfl, by kernel_rfl⟩ SI SI (fun p o => ok10 p ∧ (o : List Int).length < 1000000000000000) true (fun p o => [.bool (sgR p o)]) (fun _ _ => []) (fun p o h => call17 p o h.1 h.2)
end Go.Am.Sh

/- Shells: the reference's Check. -/
namespace Go.Am.Sh
open Go Go.Am Go.Proofs
theorem sub_and {a b : Int} (ha : 0 ≤ a ∧ a < 64) (hb : 0 ≤ b ∧ b < 64) : (bAnd .i64 a b = a) ↔ sub a.toNat b.toNat = true := by
 have : bAnd .i64 a b = ((a.toNat &&& b.toNat : Nat) : Int) := by rw [← bAnd_nat (by omega) (by omega), Int.toNat_of_nonneg ha.1, Int.toNat_of_nonneg hb.1]
 rw [this]
 unfold sub
 constructor
 · intro h
   have : a.toNat &&& b.toNat = a.toNat := by omega
   rw [this]; exact Nat.beq_refl _
 · intro h
   have := Nat.eq_of_beq_eq_true h
   omega
end Go.Am.Sh

/- Shells: the law of the moment complexes. -/
namespace Go.Am.Sh
open Go Go.Am Go.Proofs
/-- How many of a list have all of a set. -/
def cntM (x : Nat) (p : List Int) (j : Nat) : Nat := ((p.take j).filter fun s => decide (mns x s.toNat = 0)).length
structure mf (n d : Int) : Prop where
 m : momOk n d
 len : 1 ≤ (momL n d).length ∧ (momL n d).length ≤ 10
 hl : ((hsL (momL n d)).length : Int) = d + 1
 hs : ∀ k, k < d.toNat + 1 → (hsL (momL n d)).getD k 0 = (hsL (momL n d)).getD (d.toNat - k) 0
 sh : shB (momL n d) = true
 sg : sgR (momL n d) (shL (momL n d)) = true
 sl : (shL (momL n d)).length ≤ 10
 two : ∀ k, k < (fcs (momL n d)).length → (pc ((fcs (momL n d)).getD k 0).toNat : Int) = d - 1 → cntM ((fcs (momL n d)).getD k 0).toNat (momL n d) (momL n d).length = 2
instance (n d : Int) : Decidable (momOk n d) := by unfold momOk; infer_instance
theorem u64_nn (n : Int) : 0 ≤ modU .u64 n := by
 show 0 ≤ n % 18446744073709551616
 omega
end Go.Am.Sh

/- Shells: the reference's Pieces. -/
namespace Go.Am.Sh
open Go Go.Am Go.Proofs
/-- Set x is one of the first k of a list. -/
def inK (s : List Int) (x : Nat) : Nat → Bool
 | 0 => false
 | k + 1 => inK s x k || decide (s.getD k 0 = x)
/-- Set x is no part of another of the first k. -/
def mxS (s : List Int) (x : Nat) : Nat → Bool
 | 0 => true
 | k + 1 => mxS s x k && (decide (s.getD k 0 = x) || !sub x (s.getD k 0).toNat)
def pieB (s : List Int) (x : Nat) : Bool := inK s x s.length && mxS s x s.length
def pieL (s : List Int) : List Int := trueN (pieB s) 64
structure ok22 (s : List Int) : Prop where
 h : okL s
 l : s.length < 1000000
noncomputable def L22_0 : Code := lp (bodyOf Try.f22) 0
noncomputable def L22_2 : Code := lp (bodyOf Try.f22) 2
def sz22 (s : List Int) (k : Nat) : St := ⟨.sl I64 s :: dd 2 ++ nl :: .int .i64 k :: dd 49, []⟩
def jz22 (s : List Int) (k i : Nat) : St := ⟨.sl I64 s :: dd 2 ++ nl :: .int .i64 k :: .bool (inK s k i) :: .bool (mxS s k i) :: .int .i64 i :: dd 46, []⟩
def ejz22 (s : List Int) (k : Nat) : List (List Nat × Ex) := [([0, 3, 4, 5, 6], ⟨2, Unit, fun _ => True, fun _ => ⟨.sl I64 s :: dd 2 ++ nl :: .int .i64 k :: .bool (inK s k s.length) :: .bool (mxS s k s.length) :: dd 47, []⟩⟩)]
def hz22 (s : List Int) (k : Nat) : Hint := ⟨chk 0 [0, 3, 4, 5, 6, 7] (fun i => i ≤ s.length) (jz22 s k), (ejz22 s k).map (·.2)⟩
theorem loop22z (s : List Int) (k : Nat) (h : ok22 s) (hk : k < 64) (R : Exit → St → Prop) : LoopOK (X [e63]) L22_2 (hz22 s k) R := by
 refine loop_ok (X_ok _) (H := fun _ _ => none) [0, 3, 4, 5, 6, 7] (fun i => i ≤ s.length) (jz22 s k) (fun i => s.length - i) (ejz22 s k) 150 fun (i : Nat) hi => ?_
 refine of_eq (q := True ∧ True ∧ True ∧ True ∧ ((i : Int) < (s.length : Int) → True ∧ True ∧ (inK s k i = true → True ∧ True ∧ True ∧ True ∧ (mxS s k i = true → True ∧ True ∧ idxPre (i : Int) s.length ∧ True ∧ True ∧ True ∧ True ∧ (s.getD i (0 : Int) = (k : Int) → True ∧ True ∧ True ∧ True ∧ inR .i64 ((i : Int) + 1) ∧ True ∧ ∃ (y : Nat), (y ≤ s.length ∧ s.length - y < s.length - i) ∧ (s = s ∧ True ∧ (k : Int) = (k : Int) ∧ true = inK s k y ∧ true = mxS s k y ∧ (i : Int) + 1 = (y : Int) ∧ True) ∧ True) ∧ (¬s.getD i (0 : Int) = (k : Int) → True ∧ True ∧ True ∧ idxPre (i : Int) s.length ∧ True ∧ ((((0 : Int) ≤ (k : Int) ∧ (k : Int) < 64) ∧ (0 : Int) ≤ s.getD i (0 : Int) ∧ s.getD i (0 : Int) < 64) ∧ True) ∧ True ∧ True ∧ True ∧ True ∧ True ∧ inR .i64 ((i : Int) + 1) ∧ True ∧ ∃ (y : Nat), (y ≤ s.length ∧ s.length - y < s.length - i) ∧ (s = s ∧ True ∧ (k : Int) = (k : Int) ∧ true = inK s k y ∧ (!sub k (Int.toNat (s.getD i (0 : Int)))) = mxS s k y ∧ (i : Int) + 1 = (y : Int) ∧ True) ∧ True)) ∧ (mxS s k i = false → True ∧ True ∧ True ∧ inR .i64 ((i : Int) + 1) ∧ True ∧ ∃ (y : Nat), (y ≤ s.length ∧ s.length - y < s.length - i) ∧ (s = s ∧ True ∧ (k : Int) = (k : Int) ∧ true = inK s k y ∧ false = mxS s k y ∧ (i : Int) + 1 = (y : Int) ∧ True) ∧ True)) ∧ (inK s k i = false → True ∧ True ∧ idxPre (i : Int) s.length ∧ True ∧ True ∧ True ∧ True ∧ True ∧ True ∧ True ∧ (mxS s k i = true → True ∧ True ∧ idxPre (i : Int) s.length ∧ True ∧ True ∧ True ∧ True ∧ (s.getD i (0 : Int) = (k : Int) → True ∧ True ∧ True ∧ True ∧ inR .i64 ((i : Int) + 1) ∧ True ∧ ∃ (y : Nat), (y ≤ s.length ∧ s.length - y < s.length - i) ∧ (s = s ∧ True ∧ (k : Int) = (k : Int) ∧ decide (s.getD i (0 : Int) = (k : Int)) = inK s k y ∧ true = mxS s k y ∧ (i : Int) + 1 = (y : Int) ∧ True) ∧ True) ∧ (¬s.getD i (0 : Int) = (k : Int) → True ∧ True ∧ True ∧ idxPre (i : Int) s.length ∧ True ∧ ((((0 : Int) ≤ (k : Int) ∧ (k : Int) < 64) ∧ (0 : Int) ≤ s.getD i (0 : Int) ∧ s.getD i (0 : Int) < 64) ∧ True) ∧ True ∧ True ∧ True ∧ True ∧ True ∧ inR .i64 ((i : Int) + 1) ∧ True ∧ ∃ (y : Nat), (y ≤ s.length ∧ s.length - y < s.length - i) ∧ (s = s ∧ True ∧ (k : Int) = (k : Int) ∧ decide (s.getD i (0 : Int) = (k : Int)) = inK s k y ∧ (!sub k (Int.toNat (s.getD i (0 : Int)))) = mxS s k y ∧ (i : Int) + 1 = (y : Int) ∧ True) ∧ True)) ∧ (mxS s k i = false → True ∧ True ∧ True ∧ inR .i64 ((i : Int) + 1) ∧ True ∧ ∃ (y : Nat), (y ≤ s.length ∧ s.length - y < s.length - i) ∧ (s = s ∧ True ∧ (k : Int) = (k : Int) ∧ decide (s.getD i (0 : Int) = (k : Int)) = inK s k y ∧ false = mxS s k y ∧ (i : Int) + 1 = (y : Int) ∧ True) ∧ True))) ∧ (¬(i : Int) < (s.length : Int) → ∃ (y : Unit), True ∧ (s = s ∧ True ∧ (k : Int) = (k : Int) ∧ inK s k i = inK s k s.length ∧ mxS s k i = mxS s k s.length ∧ True) ∧ True)) (by kernel_rfl) ?_
 simp only [zz]
 have hi : i ≤ s.length := hi
 obtain ⟨q1, q2⟩ := okL_get h.h i
 have hl := h.l
 refine ⟨fun hlt => ?_, fun hlt => by rw [show s.length = i by omega]; exact ⟨rfl, rfl⟩⟩
 have hx : idxPre (i : Int) s.length := idx_nat (by omega)
 have hn : ∀ b c, b = inK s k (i + 1) → c = mxS s k (i + 1) → inR .i64 ((i : Int) + 1) ∧ ∃ y : Nat, (y ≤ s.length ∧ s.length - y < s.length - i) ∧ b = inK s k y ∧ c = mxS s k y ∧ (i : Int) + 1 = (y : Int) := fun b c hb hc => ⟨by simp only [inR]; omega, i + 1, by omega, hb, hc, by omega⟩
 have hr : (0 ≤ (k : Int) ∧ (k : Int) < 64) ∧ 0 ≤ s.getD i 0 ∧ s.getD i 0 < 64 := ⟨⟨by omega, by omega⟩, q1, q2⟩
 refine ⟨fun hI => ⟨fun hM => ⟨hx, fun he => hn _ _ ?_ ?_, fun he => ⟨hx, hr, hn _ _ ?_ ?_⟩⟩, fun hM => hn _ _ ?_ ?_⟩, fun hI => ⟨hx, fun hM => ⟨hx, fun he => hn _ _ ?_ ?_, fun he => ⟨hx, hr, hn _ _ ?_ ?_⟩⟩, fun hM => hn _ _ ?_ ?_⟩⟩
 · rw [inK, hI]; try rfl
 · rw [mxS, hM, decide_eq_true he]; try rfl
 · rw [inK, hI]; try rfl
 · rw [mxS, hM, decide_eq_false he]; try rfl
 · rw [inK, hI]; try rfl
 · rw [mxS, hM]; try rfl
 · rw [inK, hI]; try rfl
 · rw [mxS, hM, decide_eq_true he]; try rfl
 · rw [inK, hI]; try rfl
 · rw [mxS, hM, decide_eq_false he]; try rfl
 · rw [inK, hI]; try rfl
 · rw [mxS, hM]; try rfl
def st22 (s : List Int) (k : Nat) : St := ⟨.sl I64 s :: dd 2 ++ .own 0 0 :: .int .i64 k :: dd 49, [.sc 0 3 I64 (trueN (pieB s) k)]⟩
def jt22 (s : List Int) (k i : Nat) : St := ⟨.sl I64 s :: dd 2 ++ .own 0 0 :: .int .i64 k :: .bool (inK s k i) :: .bool (mxS s k i) :: .int .i64 i :: dd 46, [.sc 0 3 I64 (trueN (pieB s) k)]⟩
def ejt22 (s : List Int) (k : Nat) : List (List Nat × Ex) := [([0, 3, 4, 5, 6], ⟨2, Unit, fun _ => True, fun _ => ⟨.sl I64 s :: dd 2 ++ .own 0 0 :: .int .i64 k :: .bool (inK s k s.length) :: .bool (mxS s k s.length) :: dd 47, [.sc 0 3 I64 (trueN (pieB s) k)]⟩⟩)]
def ht22 (s : List Int) (k : Nat) : Hint := ⟨chk 0 [0, 3, 4, 5, 6, 7] (fun i => i ≤ s.length) (jt22 s k), (ejt22 s k).map (·.2)⟩
theorem loop22t (s : List Int) (k : Nat) (h : ok22 s) (hk : k < 64) (R : Exit → St → Prop) : LoopOK (X [e63]) L22_2 (ht22 s k) R := by
 refine loop_ok (X_ok _) (H := fun _ _ => none) [0, 3, 4, 5, 6, 7] (fun i => i ≤ s.length) (jt22 s k) (fun i => s.length - i) (ejt22 s k) 150 fun (i : Nat) hi => ?_
 refine of_eq (q := True ∧ True ∧ True ∧ True ∧ ((i : Int) < (s.length : Int) → True ∧ True ∧ (inK s k i = true → True ∧ True ∧ True ∧ True ∧ (mxS s k i = true → True ∧ True ∧ idxPre (i : Int) s.length ∧ True ∧ True ∧ True ∧ True ∧ (s.getD i (0 : Int) = (k : Int) → True ∧ True ∧ True ∧ True ∧ inR .i64 ((i : Int) + 1) ∧ True ∧ ∃ (y : Nat), (y ≤ s.length ∧ s.length - y < s.length - i) ∧ (s = s ∧ True ∧ (k : Int) = (k : Int) ∧ true = inK s k y ∧ true = mxS s k y ∧ (i : Int) + 1 = (y : Int) ∧ True) ∧ trueN (pieB s) k = trueN (pieB s) k ∧ True) ∧ (¬s.getD i (0 : Int) = (k : Int) → True ∧ True ∧ True ∧ idxPre (i : Int) s.length ∧ True ∧ ((((0 : Int) ≤ (k : Int) ∧ (k : Int) < 64) ∧ (0 : Int) ≤ s.getD i (0 : Int) ∧ s.getD i (0 : Int) < 64) ∧ True) ∧ True ∧ True ∧ True ∧ True ∧ True ∧ inR .i64 ((i : Int) + 1) ∧ True ∧ ∃ (y : Nat), (y ≤ s.length ∧ s.length - y < s.length - i) ∧ (s = s ∧ True ∧ (k : Int) = (k : Int) ∧ true = inK s k y ∧ (!sub k (Int.toNat (s.getD i (0 : Int)))) = mxS s k y ∧ (i : Int) + 1 = (y : Int) ∧ True) ∧ trueN (pieB s) k = trueN (pieB s) k ∧ True)) ∧ (mxS s k i = false → True ∧ True ∧ True ∧ inR .i64 ((i : Int) + 1) ∧ True ∧ ∃ (y : Nat), (y ≤ s.length ∧ s.length - y < s.length - i) ∧ (s = s ∧ True ∧ (k : Int) = (k : Int) ∧ true = inK s k y ∧ false = mxS s k y ∧ (i : Int) + 1 = (y : Int) ∧ True) ∧ trueN (pieB s) k = trueN (pieB s) k ∧ True)) ∧ (inK s k i = false → True ∧ True ∧ idxPre (i : Int) s.length ∧ True ∧ True ∧ True ∧ True ∧ True ∧ True ∧ True ∧ (mxS s k i = true → True ∧ True ∧ idxPre (i : Int) s.length ∧ True ∧ True ∧ True ∧ True ∧ (s.getD i (0 : Int) = (k : Int) → True ∧ True ∧ True ∧ True ∧ inR .i64 ((i : Int) + 1) ∧ True ∧ ∃ (y : Nat), (y ≤ s.length ∧ s.length - y < s.length - i) ∧ (s = s ∧ True ∧ (k : Int) = (k : Int) ∧ decide (s.getD i (0 : Int) = (k : Int)) = inK s k y ∧ true = mxS s k y ∧ (i : Int) + 1 = (y : Int) ∧ True) ∧ trueN (pieB s) k = trueN (pieB s) k ∧ True) ∧ (¬s.getD i (0 : Int) = (k : Int) → True ∧ True ∧ True ∧ idxPre (i : Int) s.length ∧ True ∧ ((((0 : Int) ≤ (k : Int) ∧ (k : Int) < 64) ∧ (0 : Int) ≤ s.getD i (0 : Int) ∧ s.getD i (0 : Int) < 64) ∧ True) ∧ True ∧ True ∧ True ∧ True ∧ True ∧ inR .i64 ((i : Int) + 1) ∧ True ∧ ∃ (y : Nat), (y ≤ s.length ∧ s.length - y < s.length - i) ∧ (s = s ∧ True ∧ (k : Int) = (k : Int) ∧ decide (s.getD i (0 : Int) = (k : Int)) = inK s k y ∧ (!sub k (Int.toNat (s.getD i (0 : Int)))) = mxS s k y ∧ (i : Int) + 1 = (y : Int) ∧ True) ∧ trueN (pieB s) k = trueN (pieB s) k ∧ True)) ∧ (mxS s k i = false → True ∧ True ∧ True ∧ inR .i64 ((i : Int) + 1) ∧ True ∧ ∃ (y : Nat), (y ≤ s.length ∧ s.length - y < s.length - i) ∧ (s = s ∧ True ∧ (k : Int) = (k : Int) ∧ decide (s.getD i (0 : Int) = (k : Int)) = inK s k y ∧ false = mxS s k y ∧ (i : Int) + 1 = (y : Int) ∧ True) ∧ trueN (pieB s) k = trueN (pieB s) k ∧ True))) ∧ (¬(i : Int) < (s.length : Int) → ∃ (y : Unit), True ∧ (s = s ∧ True ∧ (k : Int) = (k : Int) ∧ inK s k i = inK s k s.length ∧ mxS s k i = mxS s k s.length ∧ True) ∧ trueN (pieB s) k = trueN (pieB s) k ∧ True)) (by kernel_rfl) ?_
 simp only [zz]
 have hi : i ≤ s.length := hi
 obtain ⟨q1, q2⟩ := okL_get h.h i
 have hl := h.l
 refine ⟨fun hlt => ?_, fun hlt => by rw [show s.length = i by omega]; exact ⟨rfl, rfl⟩⟩
 have hx : idxPre (i : Int) s.length := idx_nat (by omega)
 have hn : ∀ b c, b = inK s k (i + 1) → c = mxS s k (i + 1) → inR .i64 ((i : Int) + 1) ∧ ∃ y : Nat, (y ≤ s.length ∧ s.length - y < s.length - i) ∧ b = inK s k y ∧ c = mxS s k y ∧ (i : Int) + 1 = (y : Int) := fun b c hb hc => ⟨by simp only [inR]; omega, i + 1, by omega, hb, hc, by omega⟩
 have hr : (0 ≤ (k : Int) ∧ (k : Int) < 64) ∧ 0 ≤ s.getD i 0 ∧ s.getD i 0 < 64 := ⟨⟨by omega, by omega⟩, q1, q2⟩
 refine ⟨fun hI => ⟨fun hM => ⟨hx, fun he => hn _ _ ?_ ?_, fun he => ⟨hx, hr, hn _ _ ?_ ?_⟩⟩, fun hM => hn _ _ ?_ ?_⟩, fun hI => ⟨hx, fun hM => ⟨hx, fun he => hn _ _ ?_ ?_, fun he => ⟨hx, hr, hn _ _ ?_ ?_⟩⟩, fun hM => hn _ _ ?_ ?_⟩⟩
 · rw [inK, hI]; try rfl
 · rw [mxS, hM, decide_eq_true he]; try rfl
 · rw [inK, hI]; try rfl
 · rw [mxS, hM, decide_eq_false he]; try rfl
 · rw [inK, hI]; try rfl
 · rw [mxS, hM]; try rfl
 · rw [inK, hI]; try rfl
 · rw [mxS, hM, decide_eq_true he]; try rfl
 · rw [inK, hI]; try rfl
 · rw [mxS, hM, decide_eq_false he]; try rfl
 · rw [inK, hI]; try rfl
 · rw [mxS, hM]; try rfl
noncomputable def fm22 (s : List Int) : List Fam := [⟨Nat, fun k => k ≤ 64 ∧ trueN (pieB s) k = [], sz22 s, fun k => 64 - k, fun k _ => some (hz22 s k)⟩, ⟨Nat, fun k => k ≤ 64, st22 s, fun k => 64 - k, fun k _ => some (ht22 s k)⟩]
def ex22 (s : List Int) : List (List Nat × Ex) := [([3], ⟨0, Unit, fun _ => pieL s = [], fun _ => ⟨dd 3 ++ nl :: dd 50, []⟩⟩), ([3], ⟨0, Unit, fun _ => True, fun _ => ⟨dd 3 ++ .own 0 0 :: dd 50, [.sc 0 3 I64 (pieL s)]⟩⟩)]
noncomputable def H22 (s : List Int) : Nat → Option Hint := fun _ => some ⟨chks 0 [0, 3, 4] (fm22 s), (ex22 s).map (·.2)⟩
theorem loop22 (s : List Int) (h : ok22 s) (R : Exit → St → Prop) : LoopOK (X [e63]) L22_0 ⟨chks 0 [0, 3, 4] (fm22 s), (ex22 s).map (·.2)⟩ R := by
 refine loop_fams (X_ok _) [0, 3, 4] (fm22 s) (ex22 s) 150 ⟨fun (k : Nat) hk => ?_, fun (k : Nat) hk => ?_, trivial⟩
 · have hL := fun hk => loop22z s k h hk
   refine of_eq (q := True ∧ True ∧ ((k : Int) < 64 → True ∧ True ∧ True ∧ LoopOK (X [e63]) L22_2 (hz22 s k) (bodyR (X [e63]).m0 (ex22 s) R) ∧ (∃ (y : Nat), y ≤ s.length ∧ (s = s ∧ True ∧ (k : Int) = (k : Int) ∧ false = inK s k y ∧ true = mxS s k y ∧ (0 : Int) = (y : Int) ∧ True) ∧ True) ∧ (∀ (y : Unit), True → True ∧ True ∧ (inK s k s.length = true → True ∧ True ∧ (mxS s k s.length = true → True ∧ True ∧ True ∧ sumPre (0 : Nat) [(k : Int)].length (nat_lit 8) ∧ True ∧ True ∧ inR .i64 ((k : Int) + 1) ∧ True ∧ ((∃ (y : Nat), ((y ≤ 64 ∧ trueN (pieB s) y = []) ∧ (64 : Nat) - y < 64 - k) ∧ (s = s ∧ False ∧ (k : Int) + 1 = (y : Int) ∧ True) ∧ True) ∨ ∃ (y : Nat), (y ≤ 64 ∧ (64 : Nat) - y < 64 - k) ∧ (s = s ∧ True ∧ (k : Int) + 1 = (y : Int) ∧ True) ∧ [(k : Int)] = trueN (pieB s) y ∧ True)) ∧ (mxS s k s.length = false → True ∧ inR .i64 ((k : Int) + 1) ∧ True ∧ ((∃ (y : Nat), ((y ≤ 64 ∧ trueN (pieB s) y = []) ∧ (64 : Nat) - y < 64 - k) ∧ (s = s ∧ True ∧ (k : Int) + 1 = (y : Int) ∧ True) ∧ True) ∨ ∃ (y : Nat), (y ≤ 64 ∧ (64 : Nat) - y < 64 - k) ∧ (s = s ∧ False ∧ (k : Int) + 1 = (y : Int) ∧ True) ∧ False))) ∧ (inK s k s.length = false → True ∧ True ∧ inR .i64 ((k : Int) + 1) ∧ True ∧ ((∃ (y : Nat), ((y ≤ 64 ∧ trueN (pieB s) y = []) ∧ (64 : Nat) - y < 64 - k) ∧ (s = s ∧ True ∧ (k : Int) + 1 = (y : Int) ∧ True) ∧ True) ∨ ∃ (y : Nat), (y ≤ 64 ∧ (64 : Nat) - y < 64 - k) ∧ (s = s ∧ False ∧ (k : Int) + 1 = (y : Int) ∧ True) ∧ False))) ∧ True) ∧ (¬(k : Int) < 64 → (∃ (y : Unit), pieL s = [] ∧ (True ∧ True) ∧ True) ∨ ∃ (y : Unit), True ∧ (False ∧ True) ∧ False)) (by kernel_rfl) ?_
   simp only [zz]
   obtain ⟨k1, k2⟩ := hk
   have hf : k < 64 → pieB s k = false → inR .i64 ((k : Int) + 1) ∧ ∃ y : Nat, ((y ≤ 64 ∧ trueN (pieB s) y = []) ∧ 64 - y < 64 - k) ∧ (k : Int) + 1 = (y : Int) := fun h3 hb => ⟨by simp only [inR]; omega, k + 1, ⟨⟨by omega, by rw [trueN, hb, k2]; rfl⟩, by omega⟩, by omega⟩
   have hz : ∃ y : Nat, y ≤ s.length ∧ false = inK s k y ∧ true = mxS s k y ∧ (0 : Int) = (y : Int) := ⟨0, Nat.zero_le _, rfl, rfl, rfl⟩
   refine ⟨fun h3 => ⟨hL (by omega) _, hz, fun _ _ => ⟨fun hI => ⟨fun hM => ⟨by unfold sumPre; simp, by simp only [inR]; omega, k + 1, by omega, by omega, ?_⟩, fun hM => hf (by omega) ?_⟩, fun hI => hf (by omega) ?_⟩⟩, fun h3 => ?_⟩
   · have hb : pieB s k = true := by unfold pieB; rw [hI, hM]; try rfl
     rw [trueN, if_pos hb, k2]; try rfl
   · unfold pieB; rw [hI, hM]; try rfl
   · unfold pieB; rw [hI]; try rfl
   · unfold pieL; rw [show 64 = k by omega, k2]
 · have hL := fun hk => loop22t s k h hk
   refine of_eq (q := True ∧ True ∧ ((k : Int) < 64 → True ∧ True ∧ True ∧ LoopOK (X [e63]) L22_2 (ht22 s k) (bodyR (X [e63]).m0 (ex22 s) R) ∧ (∃ (y : Nat), y ≤ s.length ∧ (s = s ∧ True ∧ (k : Int) = (k : Int) ∧ false = inK s k y ∧ true = mxS s k y ∧ (0 : Int) = (y : Int) ∧ True) ∧ trueN (pieB s) k = trueN (pieB s) k ∧ True) ∧ (∀ (y : Unit), True → True ∧ True ∧ (inK s k s.length = true → True ∧ True ∧ (mxS s k s.length = true → True ∧ True ∧ True ∧ sumPre (trueN (pieB s) k).length [(k : Int)].length (nat_lit 8) ∧ True ∧ True ∧ inR .i64 ((k : Int) + 1) ∧ True ∧ ((∃ (y : Nat), ((y ≤ 64 ∧ trueN (pieB s) y = []) ∧ (64 : Nat) - y < 64 - k) ∧ (s = s ∧ False ∧ (k : Int) + 1 = (y : Int) ∧ True) ∧ True) ∨ ∃ (y : Nat), (y ≤ 64 ∧ (64 : Nat) - y < 64 - k) ∧ (s = s ∧ True ∧ (k : Int) + 1 = (y : Int) ∧ True) ∧ trueN (pieB s) k ++ [(k : Int)] = trueN (pieB s) y ∧ True)) ∧ (mxS s k s.length = false → True ∧ inR .i64 ((k : Int) + 1) ∧ True ∧ ((∃ (y : Nat), ((y ≤ 64 ∧ trueN (pieB s) y = []) ∧ (64 : Nat) - y < 64 - k) ∧ (s = s ∧ False ∧ (k : Int) + 1 = (y : Int) ∧ True) ∧ True) ∨ ∃ (y : Nat), (y ≤ 64 ∧ (64 : Nat) - y < 64 - k) ∧ (s = s ∧ True ∧ (k : Int) + 1 = (y : Int) ∧ True) ∧ trueN (pieB s) k = trueN (pieB s) y ∧ True))) ∧ (inK s k s.length = false → True ∧ True ∧ inR .i64 ((k : Int) + 1) ∧ True ∧ ((∃ (y : Nat), ((y ≤ 64 ∧ trueN (pieB s) y = []) ∧ (64 : Nat) - y < 64 - k) ∧ (s = s ∧ False ∧ (k : Int) + 1 = (y : Int) ∧ True) ∧ True) ∨ ∃ (y : Nat), (y ≤ 64 ∧ (64 : Nat) - y < 64 - k) ∧ (s = s ∧ True ∧ (k : Int) + 1 = (y : Int) ∧ True) ∧ trueN (pieB s) k = trueN (pieB s) y ∧ True))) ∧ True) ∧ (¬(k : Int) < 64 → (∃ (y : Unit), pieL s = [] ∧ (False ∧ True) ∧ True) ∨ ∃ (y : Unit), True ∧ (True ∧ True) ∧ trueN (pieB s) k = pieL s ∧ True)) (by kernel_rfl) ?_
   simp only [zz]
   have hk : k ≤ 64 := hk
   have hl := trueN_len (pieB s) k
   have hf : k < 64 → pieB s k = false → inR .i64 ((k : Int) + 1) ∧ ∃ y : Nat, (y ≤ 64 ∧ 64 - y < 64 - k) ∧ (k : Int) + 1 = (y : Int) ∧ trueN (pieB s) k = trueN (pieB s) y := fun h3 hb => ⟨by simp only [inR]; omega, k + 1, by omega, by omega, by rw [trueN, hb]; rfl⟩
   have hz : ∃ y : Nat, y ≤ s.length ∧ false = inK s k y ∧ true = mxS s k y ∧ (0 : Int) = (y : Int) := ⟨0, Nat.zero_le _, rfl, rfl, rfl⟩
   refine ⟨fun h3 => ⟨hL (by omega) _, hz, fun _ _ => ⟨fun hI => ⟨fun hM => ⟨by unfold sumPre; simp; omega, by simp only [inR]; omega, k + 1, by omega, by omega, ?_⟩, fun hM => hf (by omega) ?_⟩, fun hI => hf (by omega) ?_⟩⟩, fun h3 => ?_⟩
   · have hb : pieB s k = true := by unfold pieB; rw [hI, hM]; try rfl
     rw [trueN, if_pos hb]; try rfl
   · unfold pieB; rw [hI, hM]; try rfl
   · unfold pieB; rw [hI]; try rfl
   · unfold pieL; rw [show 64 = k by omega]
theorem call22 (s : List Int) (h : ok22 s) : GCall Try.prog gl 22 true [.sl I64 s] [] [.sl I64 (pieL s)] [] := by
 refine gcall_of (X := (X [e63])) ((X_ok _)) (f := 22) (fn := Try.f22) (c := bodyOf Try.f22) (by kernel_rfl) (by kernel_rfl) (view := true) (rvs := [.tmp 2]) (by kernel_rfl) (H := (H22 s)) 80 (by kernel_rfl) ?_
 have hL := loop22 s h
 refine of_eq (q := True ∧ True ∧ True ∧ LoopOK (X [e63]) L22_0 { J := chks (0 : Nat) [(0 : Nat), (3 : Nat), (4 : Nat)] (fm22 s), exits := List.map (fun (x : List Nat × Ex) => x.snd) (ex22 s) } (RetR (X [e63]) true true [ResultVar.tmp (2 : Tmp)] [AV.sl I64 (pieL s)] []) ∧ ((∃ (y : Nat), (y ≤ 64 ∧ trueN (pieB s) y = []) ∧ (s = s ∧ True ∧ (0 : Int) = (y : Int) ∧ True) ∧ True) ∨ ∃ (y : Nat), y ≤ 64 ∧ (s = s ∧ False ∧ (0 : Int) = (y : Int) ∧ True) ∧ False) ∧ (∀ (y : Unit), pieL s = [] → True ∧ True ∧ True ∧ (([] : List Int) = pieL s ∧ True) ∧ True) ∧ (∀ (y : Unit), True → True ∧ True ∧ True ∧ (pieL s = pieL s ∧ True) ∧ True) ∧ True) (by kernel_rfl) ?_
 simp only [zz]
 exact ⟨hL _, ⟨0, ⟨Nat.zero_le _, rfl⟩, rfl⟩, fun _ h => h.symm, fun _ h => h⟩
def e22 : Entry Try.prog gl := entry1 22 ⟨Try.f22, by kernel_rfl, by kernel_rfl, by kernel_rfl⟩ SI (fun s => ok22 s) true (fun s => [.sl I64 (pieL s)]) (fun _ => []) (call22)
end Go.Am.Sh

/- Shells: tame. -/
namespace Go.Am.Sh
open Go Go.Am Go.Proofs
def hs14 : Nat → Bool := fun t => Nat.beq t 10 || Nat.beq t 30
noncomputable def Xh (l : EL) (hs : Nat → Bool) (dr : Nat → Option Nat) : Cy := { Xd l dr with hs := hs }
theorem Xh_ok (l : EL) (hs : Nat → Bool) (dr : Nat → Option Nat) : (Xh l hs dr).Ok := { tt := (Xd_ok l dr).tt, Γ := (Xd_ok l dr).Γ, Γd := (Xd_ok l dr).Γd, Yl := (Xd_ok l dr).Yl }
noncomputable abbrev X14 : Cy := Xh [e22] hs14 (drOf [(6, 11)])
def tmN (n : Int) : Int := 1 + (modU .u64 n).tmod 6
def tmS (n : Int) (l : List Int) (k : Nat) : List Int := 1 :: (l.take k).map fun x => (modU .u64 x).tmod (2 ^ (tmN n).toNat)
theorem tmN_bd (n : Int) : numOk (tmN n) := by
 have h1 : 0 ≤ modU .u64 n := u64_nn n
 have e := Int.tmod_eq_emod_of_nonneg (b := 6) h1
 unfold tmN numOk
 omega
theorem tm_pow (n : Int) : modU .u64 (1 * 2 ^ (tmN n).toNat) = 2 ^ (tmN n).toNat := by
 obtain ⟨e1, e2, e3⟩ := numOk_pow (tmN_bd n)
 rw [Int.one_mul, ← e1]
 show _ % 18446744073709551616 = _
 omega
theorem tm_pos (n : Int) : (2 : Int) ≤ 2 ^ (tmN n).toNat ∧ (2 : Int) ^ (tmN n).toNat ≤ 64 := by
 obtain ⟨e1, e2, e3⟩ := numOk_pow (tmN_bd n)
 omega
theorem tm_x {n : Int} (x : Int) : 0 ≤ (modU .u64 x).tmod (2 ^ (tmN n).toNat) ∧ (modU .u64 x).tmod (2 ^ (tmN n).toNat) < 2 ^ (tmN n).toNat ∧ (modU .u64 x).tmod (2 ^ (tmN n).toNat) < 64 := by
 have h := tm_pos n
 have h3 := Int.tmod_nonneg (a := modU .u64 x) (2 ^ (tmN n).toNat) (u64_nn x)
 have h4 := Int.tmod_lt_of_pos (modU .u64 x) (show (0 : Int) < 2 ^ (tmN n).toNat by omega)
 omega
theorem tm_mem {n : Int} {l : List Int} {k : Nat} {x : Int} (h : x ∈ tmS n l k) : 0 ≤ x ∧ x < 2 ^ (tmN n).toNat := by
 have hp := tm_pos n
 unfold tmS at h
 simp only [List.mem_cons, List.mem_map] at h
 rcases h with h | ⟨y, _, h⟩
 · omega
 · have := tm_x (n := n) y
   omega
theorem tm_ok (n : Int) (l : List Int) : ok22 (tmS n l 10) := ⟨fun x hx => by have := tm_mem hx; have := tm_pos n; omega, by unfold tmS; simp; omega⟩
theorem tm_lt (n : Int) (l : List Int) : ∀ x ∈ tmS n l 10, x < 2 ^ (tmN n).toNat := fun x hx => (tm_mem hx).2
theorem trueN_asc {g : Nat → Bool} : ∀ {k i j : Nat}, i < j → j < (trueN g k).length → (trueN g k).getD i 0 < (trueN g k).getD j 0
 | 0, i, j, _, h => by simp [trueN] at h
 | k + 1, i, j, hij, h => by
   rw [trueN] at h ⊢
   by_cases hg : g k = true
   · rw [if_pos hg] at h ⊢
     rw [List.length_append, List.length_singleton] at h
     rcases Nat.lt_or_ge j (trueN g k).length with hj | hj
     · rw [getD_append_left (by omega), getD_append_left hj]; exact trueN_asc hij hj
     · have e : (trueN g k ++ [(k : Int)]).getD j 0 = k := by
         rw [List.getD_eq_getElem?_getD, List.getElem?_append_right hj, show j - (trueN g k).length = 0 by omega]; try rfl
       rw [e, getD_append_left (by omega)]
       obtain ⟨m, h1, h2, _⟩ := trueN_mem (mem_getD (d := 0) (show i < (trueN g k).length by omega))
       omega
   · rw [if_neg hg] at h ⊢; exact trueN_asc hij h
theorem inK_iff {s : List Int} {x : Nat} : ∀ {k : Nat}, inK s x k = true ↔ ∃ i, i < k ∧ s.getD i 0 = x
 | 0 => by simp [inK]
 | k + 1 => by
   rw [inK, Bool.or_eq_true, inK_iff, decide_eq_true_eq]
   constructor
   · rintro (⟨i, h1, h2⟩ | h)
     · exact ⟨i, by omega, h2⟩
     · exact ⟨k, by omega, h⟩
   · rintro ⟨i, h1, h2⟩
     rcases Nat.lt_or_ge i k with h3 | h3
     · exact .inl ⟨i, h3, h2⟩
     · exact .inr (by rw [show k = i by omega]; exact h2)
theorem mxS_iff {s : List Int} {x : Nat} : ∀ {k : Nat}, mxS s x k = true ↔ ∀ i, i < k → s.getD i 0 = x ∨ sub x (s.getD i 0).toNat = false
 | 0 => by simp [mxS]
 | k + 1 => by
   rw [mxS, Bool.and_eq_true, mxS_iff, Bool.or_eq_true, decide_eq_true_eq, Bool.not_eq_true']
   constructor
   · rintro ⟨h1, h2⟩ i hi
     rcases Nat.lt_or_ge i k with h3 | h3
     · exact h1 i h3
     · rw [show i = k by omega]; exact h2
   · intro h
     exact ⟨fun i hi => h i (by omega), h k (by omega)⟩
theorem pie_mem {s : List Int} {y : Int} (h : y ∈ pieL s) : ∃ x : Nat, y = x ∧ x < 64 ∧ (∃ i, i < s.length ∧ s.getD i 0 = x) ∧ ∀ i, i < s.length → s.getD i 0 = x ∨ sub x (s.getD i 0).toNat = false := by
 obtain ⟨x, h1, h2, h3⟩ := trueN_mem h
 unfold pieB at h3
 rw [Bool.and_eq_true, inK_iff, mxS_iff] at h3
 exact ⟨x, h1, h2, h3.1, h3.2⟩
theorem pie_pos {s : List Int} (h1 : ∃ i, i < s.length ∧ 1 ≤ s.getD i 0) : ∀ y ∈ pieL s, 1 ≤ y := fun y hy => by
 obtain ⟨x, rfl, h2, h3, h4⟩ := pie_mem hy
 obtain ⟨i, hi, h5⟩ := h1
 rcases Nat.eq_zero_or_pos x with h0 | h0
 · subst h0
   rcases h4 i hi with h6 | h6
   · omega
   · rw [sub_zero] at h6; cases h6
 · omega
theorem max_ex (s : List Int) : ∀ k, ∃ i, i < k + 1 ∧ ∀ j, j < k + 1 → s.getD j 0 ≤ s.getD i 0
 | 0 => ⟨0, by omega, fun j hj => by rw [show j = 0 by omega]; exact Int.le_refl _⟩
 | k + 1 => by
   obtain ⟨i, h1, h2⟩ := max_ex s k
   by_cases h : s.getD i 0 ≤ s.getD (k + 1) 0
   · refine ⟨k + 1, by omega, fun j hj => ?_⟩
     rcases Nat.lt_or_ge j (k + 1) with h3 | h3
     · exact Int.le_trans (h2 j h3) h
     · rw [show j = k + 1 by omega]; exact Int.le_refl _
   · refine ⟨i, by omega, fun j hj => ?_⟩
     rcases Nat.lt_or_ge j (k + 1) with h3 | h3
     · exact h2 j h3
     · rw [show j = k + 1 by omega]; omega
theorem pie_ne {s : List Int} (h : okL s) (hl : 1 ≤ s.length) : 1 ≤ (pieL s).length := by
 obtain ⟨k, hk⟩ : ∃ k, s.length = k + 1 := ⟨s.length - 1, by omega⟩
 obtain ⟨i, h1, h2⟩ := max_ex s k
 have hr := okL_get h i
 have hb : pieB s (s.getD i 0).toNat = true := by
   unfold pieB
   rw [Bool.and_eq_true, inK_iff, mxS_iff]
   refine ⟨⟨i, by omega, by omega⟩, fun j hj => ?_⟩
   have h3 := h2 j (by omega)
   have h4 := okL_get h j
   cases hs : sub (s.getD i 0).toNat (s.getD j 0).toNat with
   | false => exact .inr rfl
   | true => have := sub_le hs; exact .inl (by omega)
 have := trueN_has (g := pieB s) (k := 64) (by omega) hb
 exact List.length_pos_of_mem this
theorem take_get {l : List Int} {k m : Nat} (h : k < m) : (l.take m).getD k 0 = l.getD k 0 := by
 rw [List.getD_eq_getElem?_getD, List.getD_eq_getElem?_getD, List.getElem?_take_of_lt h]
theorem pie_cx {n : Int} {s : List Int} (hn : numOk n) (h : ok22 s) (hlt : ∀ x ∈ s, x < 2 ^ n.toNat) (h1 : ∃ i, i < s.length ∧ 1 ≤ s.getD i 0) : cxOk n ((pieL s).take 10) := by
 have hne := pie_ne h.h (by obtain ⟨i, hi, _⟩ := h1; omega)
 have hlen : ((pieL s).take 10).length ≤ 10 ∧ 1 ≤ ((pieL s).take 10).length ∧ ((pieL s).take 10).length ≤ (pieL s).length := by rw [List.length_take]; omega
 refine ⟨hn, ⟨hlen.2.1, hlen.1⟩, fun k hk => ?_⟩
 have hk1 : k < (pieL s).length := by omega
 have hmem := mem_getD (d := (0 : Int)) hk1
 have hpos := pie_pos h1 _ hmem
 obtain ⟨x, e, hx, ⟨i, hi, hi2⟩, hmx⟩ := pie_mem hmem
 have hrk := trueN_ok (pieB s) _ hmem
 refine ⟨by rw [take_get (by omega)]; exact hpos, by rw [take_get (by omega), e, ← hi2]; exact hlt _ (mem_getD hi), fun h0 => by rw [take_get (by omega), take_get (by omega)]; exact trueN_asc (by omega) hk1, fun j hj hne2 => ?_⟩
 have hj1 : j < (pieL s).length := by omega
 have hmem2 := mem_getD (d := (0 : Int)) hj1
 obtain ⟨y, e2, hy, ⟨i2, hi3, hi4⟩, hmy⟩ := pie_mem hmem2
 have hrj := trueN_ok (pieB s) _ hmem2
 rw [take_get (by omega), take_get (by omega), Ne, sub_and hrk hrj, e, e2, Int.toNat_natCast, Int.toNat_natCast]
 rcases hmx i2 hi3 with h5 | h5
 · exfalso
   have hxy : (pieL s).getD k 0 = (pieL s).getD j 0 := by omega
   rcases Nat.lt_or_ge j k with h6 | h6
   · have := trueN_asc (g := pieB s) (k := 64) h6 hk1
     unfold pieL at hxy; omega
   · have := trueN_asc (g := pieB s) (k := 64) (show k < j by omega) hj1
     unfold pieL at hxy; omega
 · rw [hi4, Int.toNat_natCast] at h5
   rw [h5]; simp
noncomputable def L14_0 : Code := lp (bodyOf Try.f14) 0
def st14 (n : Int) (l : List Int) (k : Nat) : St := ⟨.int .i64 (tmN n) :: .sl I64 l :: dd 4 ++ .own 0 0 :: .int .i64 k :: dd 51, [.sc 0 3 I64 (tmS n l k)]⟩
def in14 (l : List Int) (k : Nat) : Prop := k ≤ l.length ∧ k ≤ 10
def ex14 (n : Int) (l : List Int) : List (List Nat × Ex) := [([0, 6], ⟨0, Unit, fun _ => True, fun _ => ⟨.int .i64 (tmN n) :: dd 5 ++ .own 0 0 :: dd 52, [.sc 0 3 I64 (tmS n l 10)]⟩⟩)]
noncomputable def H14 (n : Int) (l : List Int) : Nat → Option Hint := fun _ => some ⟨chk 0 [0, 1, 6, 7] (in14 l) (st14 n l), (ex14 n l).map (·.2)⟩
theorem loop14 (n : Int) (l : List Int) (hl : l.length < 1000000000000000) (R : Exit → St → Prop) : LoopOK X14 L14_0 ⟨chk 0 [0, 1, 6, 7] (in14 l) (st14 n l), (ex14 n l).map (·.2)⟩ R := by
 refine loop_ok (Xh_ok _ _ _) (H := fun _ _ => none) [0, 1, 6, 7] (in14 l) (st14 n l) (fun k => l.length - k) (ex14 n l) 150 fun (k : Nat) hk => ?_
 refine of_eq (q := True ∧ True ∧ True ∧ True ∧ True ∧ ((k : Int) < (l.length : Int) → True ∧ True ∧ True ∧ ((k : Int) < 10 → True ∧ True ∧ True ∧ idxPre (k : Int) l.length ∧ True ∧ True ∧ True ∧ (((0 : Int) ≤ tmN n ∧ tmN n < bitsOf .u64) ∧ True) ∧ ¬modU .u64 ((1 : Int) * 2 ^ (tmN n).toNat) = 0 ∧ inR .i64 ((modU .u64 (l.getD k (0 : Int))).tmod (modU .u64 ((1 : Int) * 2 ^ (tmN n).toNat))) ∧ True ∧ sumPre (tmS n l k).length [(modU .u64 (l.getD k (0 : Int))).tmod (modU .u64 ((1 : Int) * 2 ^ (tmN n).toNat))].length (nat_lit 8) ∧ True ∧ True ∧ inR .i64 ((k : Int) + 1) ∧ True ∧ ∃ (y : Nat), (in14 l y ∧ l.length - y < l.length - k) ∧ (tmN n = tmN n ∧ l = l ∧ True ∧ (k : Int) + 1 = (y : Int) ∧ True) ∧ tmS n l k ++ [(modU .u64 (l.getD k (0 : Int))).tmod (modU .u64 ((1 : Int) * 2 ^ (tmN n).toNat))] = tmS n l y ∧ True) ∧ (¬(k : Int) < 10 → ∃ (y : Unit), True ∧ (tmN n = tmN n ∧ True ∧ True) ∧ tmS n l k = tmS n l (10 : Nat) ∧ True)) ∧ (¬(k : Int) < (l.length : Int) → True ∧ ∃ (y : Unit), True ∧ (tmN n = tmN n ∧ True ∧ True) ∧ tmS n l k = tmS n l (10 : Nat) ∧ True)) (by kernel_rfl) ?_
 simp only [zz]
 obtain ⟨k1, k2⟩ := hk
 obtain ⟨b1, b2⟩ := tmN_bd n
 have hp := tm_pow n
 refine ⟨fun h => ⟨fun h2 => ?_, fun h2 => by rw [show k = 10 by omega]⟩, fun h => ?_⟩
 · rw [hp]
   have hx := tm_x (n := n) (l.getD k 0)
   have hlen : (tmS n l k).length ≤ 11 := by unfold tmS; simp; omega
   refine ⟨idx_nat (by omega), ⟨by omega, by simp only [bitsOf]; omega⟩, by have := tm_pos n; omega, by simp only [inR]; omega, by unfold sumPre; simp; omega, by simp only [inR]; omega, k + 1, ⟨⟨by omega, by omega⟩, by omega⟩, by omega, ?_⟩
   unfold tmS
   rw [take_getD (d := 0) (show k < l.length by omega), List.map_append]
   rfl
 · unfold tmS
   rw [List.take_of_length_le (by omega), List.take_of_length_le (by omega)]
def tmP (n : Int) (l : List Int) : List Int := (pieL (tmS n l 10)).take 10
theorem call14 (n : Int) (l : List Int) (hl : l.length < 1000000000000000) : GCall Try.prog gl 14 false [.int .i64 n, .sl I64 l] [] [.int .i64 (tmN n), .sl I64 (tmP n l)] [] := by
 refine gcall_of (X := X14) ((Xh_ok _ _ _)) (f := 14) (fn := Try.f14) (c := bodyOf Try.f14) (by kernel_rfl) (by kernel_rfl) (view := true) (rvs := [.tmp 4, .tmp 5]) (by kernel_rfl) (H := (H14 n l)) 200 (by kernel_rfl) ?_
 have hL := loop14 n l hl
 refine of_eq (q := True ∧ True ∧ True ∧ True ∧ ¬(6 : Int) = 0 ∧ inR .i64 ((modU .u64 n).tmod (6 : Int)) ∧ inR .i64 ((1 : Int) + (modU .u64 n).tmod (6 : Int)) ∧ True ∧ True ∧ True ∧ True ∧ LoopOK X14 L14_0 { J := chk (0 : Nat) [(0 : Nat), (1 : Nat), (6 : Nat), (7 : Nat)] (in14 l) (st14 n l), exits := List.map (fun (x : List Nat × Ex) => x.snd) (ex14 n l) } (RetR X14 false true [ResultVar.tmp (4 : Tmp), ResultVar.tmp (5 : Tmp)] [AV.int .i64 (tmN n), AV.sl I64 (tmP n l)] []) ∧ (∃ (y : Nat), in14 l y ∧ ((1 : Int) + (modU .u64 n).tmod (6 : Int) = tmN n ∧ l = l ∧ True ∧ (0 : Int) = (y : Int) ∧ True) ∧ [(1 : Int)] = tmS n l y ∧ True) ∧ (∀ (y : Unit), True → True ∧ (ok22 (tmS n l (10 : Nat)) ∧ True) ∧ True ∧ True ∧ True ∧ True ∧ True ∧ ((1 : Int) < (↑(pieL (tmS n l (10 : Nat))).length : Int) → True ∧ idxPre (0 : Int) (pieL (tmS n l (10 : Nat))).length ∧ True ∧ True ∧ True ∧ ((pieL (tmS n l (10 : Nat))).getD (0 : Nat) (0 : Int) = 0 → True ∧ slPre (pieL (tmS n l (10 : Nat))).length (pieL (tmS n l (10 : Nat))).length (some (1 : Int)) none none ∧ True ∧ True ∧ True ∧ True ∧ True ∧ True ∧ True ∧ True ∧ True ∧ slPre (cutL (pieL (tmS n l (10 : Nat))) (some (1 : Int)) none).length (cutL (pieL (tmS n l (10 : Nat))) (some (1 : Int)) none).length none (some (minI (↑(cutL (pieL (tmS n l (10 : Nat))) (some (1 : Int)) none).length : Int) (10 : Int))) (some (minI (↑(cutL (pieL (tmS n l (10 : Nat))) (some (1 : Int)) none).length : Int) (10 : Int))) ∧ True ∧ True ∧ True ∧ (tmN n = tmN n ∧ cutL (cutL (pieL (tmS n l (10 : Nat))) (some (1 : Int)) none) none (some (minI (↑(cutL (pieL (tmS n l (10 : Nat))) (some (1 : Int)) none).length : Int) (10 : Int))) = tmP n l ∧ True) ∧ True) ∧ (¬(pieL (tmS n l (10 : Nat))).getD (0 : Nat) (0 : Int) = 0 → True ∧ True ∧ True ∧ True ∧ True ∧ True ∧ True ∧ True ∧ slPre (pieL (tmS n l (10 : Nat))).length (pieL (tmS n l (10 : Nat))).length none (some (minI (↑(pieL (tmS n l (10 : Nat))).length : Int) (10 : Int))) (some (minI (↑(pieL (tmS n l (10 : Nat))).length : Int) (10 : Int))) ∧ True ∧ True ∧ True ∧ (tmN n = tmN n ∧ cutL (pieL (tmS n l (10 : Nat))) none (some (minI (↑(pieL (tmS n l (10 : Nat))).length : Int) (10 : Int))) = tmP n l ∧ True) ∧ True)) ∧ (¬(1 : Int) < (↑(pieL (tmS n l (10 : Nat))).length : Int) → True ∧ True ∧ True ∧ True ∧ True ∧ True ∧ True ∧ True ∧ True ∧ slPre (pieL (tmS n l (10 : Nat))).length (pieL (tmS n l (10 : Nat))).length none (some (minI (↑(pieL (tmS n l (10 : Nat))).length : Int) (10 : Int))) (some (minI (↑(pieL (tmS n l (10 : Nat))).length : Int) (10 : Int))) ∧ True ∧ True ∧ True ∧ (tmN n = tmN n ∧ cutL (pieL (tmS n l (10 : Nat))) none (some (minI (↑(pieL (tmS n l (10 : Nat))).length : Int) (10 : Int))) = tmP n l ∧ True) ∧ True)) ∧ True) (by kernel_rfl) ?_
 simp only [zz]
 obtain ⟨b1, b2⟩ := tmN_bd n
 have hb : 1 + (modU .u64 n).tmod 6 = tmN n := rfl
 have hz : ∀ L : List Int, cutL L none (some (minI (L.length : Int) 10)) = L.take 10 ∧ slPre L.length L.length none (some (minI (L.length : Int) 10)) (some (minI (L.length : Int) 10)) := fun L => by
   unfold minI cutL slPre
   simp only
   by_cases h : (10 : Int) < L.length
   · rw [if_pos h]; exact ⟨rfl, by omega⟩
   · rw [if_neg h, Int.toNat_natCast]
     exact ⟨by rw [List.take_of_length_le (Nat.le_refl _), List.take_of_length_le (by omega)], by omega⟩
 rw [hb]
 obtain ⟨z1, z2⟩ := hz (pieL (tmS n l 10))
 refine ⟨by decide, by simp only [inR]; omega, by simp only [inR]; omega, hL _, ⟨0, ⟨Nat.zero_le _, Nat.zero_le _⟩, ⟨rfl, rfl⟩, by simp [tmS]⟩, fun _ _ => ⟨tm_ok n l, fun h => ⟨by unfold idxPre; omega, fun h0 => ?_, fun _ => ⟨z2, z1⟩⟩, fun _ => ⟨z2, z1⟩⟩⟩
 exfalso
 have := pie_pos (s := tmS n l 10) ⟨0, by simp [tmS], by simp [tmS]⟩ _ (mem_getD (d := 0) (show 0 < (pieL (tmS n l 10)).length by omega))
 omega
theorem tm_cx (n : Int) (l : List Int) : cxOk (tmN n) (tmP n l) := pie_cx (tmN_bd n) (tm_ok n l) (tm_lt n l) ⟨0, by simp [tmS], by simp [tmS]⟩
end Go.Am.Sh

/- Shells: the reference's Counts, choose, Hs, Euler. -/
namespace Go.Am.Sh
open Go Go.Am Go.Proofs
def e14 : Entry Try.prog gl := entry2 14 ⟨Try.f14, by kernel_rfl, by kernel_rfl, by kernel_rfl⟩ I64 SI (fun (_ : Int) l => (l : List Int).length < 1000000000000000) false (fun n l => [.int .i64 (tmN n), .sl I64 (tmP n l)]) (fun _ _ => []) (call14)
def chK (n : Int) : Nat → Int
 | 0 => 1
 | k + 1 => (chK n k * (n - (k + 1) + 1)).tdiv (k + 1)
end Go.Am.Sh

/- Shells: the reference's Hs and Euler. -/
namespace Go.Am.Sh
open Go Go.Am Go.Proofs
def sg (j : Nat) : Int := 1 - 2 * ((j % 2 : Nat) : Int)
def htm (f : List Int) (k i : Nat) : Int := f.getD i 0 * chK ((f.length - 1 - i : Nat) : Int) (k - i) * sg (k - i)
def hsum (f : List Int) (k : Nat) : Nat → Int
 | 0 => 0
 | i + 1 => hsum f k i + htm f k i
def rhL (f : List Int) : List Int := (List.range f.length).map fun j => hsum f j (j + 1)
structure okF (f : List Int) : Prop where
 b : bdd 64 f
 l : 1 ≤ f.length ∧ f.length ≤ 7
end Go.Am.Sh

/- Shells: the law of the counts. -/
namespace Go.Am.Sh
open Go Go.Am Go.Proofs
theorem hq1 (a : Int) : hsK [a] 1 = rhL [a] := by
 simp [hsK, rhL, hsum, htm, sg, chK]
theorem hq2 (a b : Int) : hsK [a, b] 2 = rhL [a, b] := by
 simp [hsK, rhL, hsum, htm, sg, chK, triJ, List.range_succ]
 try omega
theorem hq3 (a b c : Int) : hsK [a, b, c] 3 = rhL [a, b, c] := by
 simp [hsK, rhL, hsum, htm, sg, chK, triJ, List.range_succ]
 try omega
end Go.Am.Sh

/- Shells: the law's pure. -/
namespace Go.Am.Sh
open Go Go.Am Go.Proofs
def lastP (p : List Int) (s : Int) : Bool := decide (pc s.toNat = pc (p.getD (p.length - 1) 0).toNat)
def puK (p : List Int) (k : Nat) : List Int := (p.take k).filter (lastP p)
def puP (p : List Int) : List Int := p.filter (lastP p)
noncomputable def L18_0 : Code := lp (bodyOf Try.f18) 0
def sz18 (n : Int) (p : List Int) (k : Nat) : St := ⟨.int .i64 n :: dd 5 ++ .sl I64 p :: nl :: .int .i64 k :: dd 34, []⟩
def st18 (n : Int) (p : List Int) (k : Nat) : St := ⟨.int .i64 n :: dd 5 ++ .sl I64 p :: .own 0 0 :: .int .i64 k :: dd 34, [.sc 0 3 I64 (puK p k)]⟩
def fm18 (n : Int) (p : List Int) : List Fam := [⟨Nat, fun k => k ≤ p.length ∧ puK p k = [], sz18 n p, fun k => p.length - k, fun _ _ => none⟩, ⟨Nat, fun k => k ≤ p.length, st18 n p, fun k => p.length - k, fun _ _ => none⟩]
def ex18 (n : Int) (p : List Int) : List (List Nat × Ex) := [([0, 7], ⟨0, Unit, fun _ => puP p = [], fun _ => ⟨.int .i64 n :: dd 6 ++ nl :: dd 35, []⟩⟩), ([0, 7], ⟨0, Unit, fun _ => True, fun _ => ⟨.int .i64 n :: dd 6 ++ .own 0 0 :: dd 35, [.sc 0 3 I64 (puP p)]⟩⟩)]
noncomputable def H18 (n : Int) (p : List Int) : Nat → Option Hint := fun _ => some ⟨chks 0 [0, 6, 7, 8] (fm18 n p), (ex18 n p).map (·.2)⟩
theorem puK_step {p : List Int} {k : Nat} (h : k < p.length) : puK p (k + 1) = if lastP p (p.getD k 0) = true then puK p k ++ [p.getD k 0] else puK p k := by
 unfold puK
 rw [take_getD (d := 0) h, List.filter_append]
 by_cases hl : lastP p (p.getD k 0) = true
 · rw [if_pos hl, List.filter_cons_of_pos hl]; try rfl
 · rw [if_neg hl, List.filter_cons_of_neg hl]; simp
theorem puK_end {p : List Int} {k : Nat} (h : k = p.length) : puK p k = puP p := by
 unfold puK puP; rw [h, List.take_length]
theorem puK_len (p : List Int) (k : Nat) : (puK p k).length ≤ k := Nat.le_trans (List.length_filter_le _ _) (by rw [List.length_take]; omega)
theorem loop18 (n : Int) (p : List Int) (h : ok10 p) (R : Exit → St → Prop) : LoopOK (X [e14, e29]) L18_0 ⟨chks 0 [0, 6, 7, 8] (fm18 n p), (ex18 n p).map (·.2)⟩ R := by
 refine loop_fams (X_ok _) [0, 6, 7, 8] (fm18 n p) (ex18 n p) 150 ⟨fun (k : Nat) hk => ?_, fun (k : Nat) hk => ?_, trivial⟩
 · refine of_eq (q := True ∧ True ∧ True ∧ True ∧ ((k : Int) < (p.length : Int) → True ∧ True ∧ idxPre (k : Int) p.length ∧ True ∧ ((0 : Int) ≤ p.getD k (0 : Int) ∧ p.getD k (0 : Int) < 64) ∧ True ∧ True ∧ True ∧ inR .i64 ((p.length : Int) - 1) ∧ idxPre ((p.length : Int) - 1) p.length ∧ True ∧ ((0 : Int) ≤ p.getD ((p.length : Int) - 1).toNat (0 : Int) ∧ p.getD ((p.length : Int) - 1).toNat (0 : Int) < 64) ∧ True ∧ ((↑(pc (Int.toNat (p.getD k (0 : Int)))) : Int) = (↑(pc (Int.toNat (p.getD ((p.length : Int) - 1).toNat (0 : Int)))) : Int) → True ∧ True ∧ True ∧ idxPre (k : Int) p.length ∧ True ∧ True ∧ sumPre (0 : Nat) [p.getD k (0 : Int)].length (nat_lit 8) ∧ True ∧ True ∧ inR .i64 ((k : Int) + 1) ∧ True ∧ ((∃ (y : Nat), ((y ≤ p.length ∧ puK p y = []) ∧ p.length - y < p.length - k) ∧ (n = n ∧ p = p ∧ False ∧ (k : Int) + 1 = (y : Int) ∧ True) ∧ True) ∨ ∃ (y : Nat), (y ≤ p.length ∧ p.length - y < p.length - k) ∧ (n = n ∧ p = p ∧ True ∧ (k : Int) + 1 = (y : Int) ∧ True) ∧ [p.getD k (0 : Int)] = puK p y ∧ True)) ∧ (¬(↑(pc (Int.toNat (p.getD k (0 : Int)))) : Int) = (↑(pc (Int.toNat (p.getD ((p.length : Int) - 1).toNat (0 : Int)))) : Int) → True ∧ inR .i64 ((k : Int) + 1) ∧ True ∧ ((∃ (y : Nat), ((y ≤ p.length ∧ puK p y = []) ∧ p.length - y < p.length - k) ∧ (n = n ∧ p = p ∧ True ∧ (k : Int) + 1 = (y : Int) ∧ True) ∧ True) ∨ ∃ (y : Nat), (y ≤ p.length ∧ p.length - y < p.length - k) ∧ (n = n ∧ p = p ∧ False ∧ (k : Int) + 1 = (y : Int) ∧ True) ∧ False))) ∧ (¬(k : Int) < (p.length : Int) → (∃ (y : Unit), puP p = [] ∧ (n = n ∧ True ∧ True) ∧ True) ∨ ∃ (y : Unit), True ∧ (n = n ∧ False ∧ True) ∧ False)) (by kernel_rfl) ?_
   simp only [zz]
   obtain ⟨k1, k2⟩ := hk
   have hl := h.l
   refine ⟨fun hlt => ?_, fun hlt => by rw [← puK_end (show k = p.length by omega)]; exact k2⟩
   have hst := puK_step (p := p) (k := k) (by omega)
   rw [show ((p.length : Int) - 1).toNat = p.length - 1 by omega]
   refine ⟨idx_nat (by omega), okL_get h.h k, by simp only [inR]; omega, by unfold idxPre; omega, okL_get h.h _, fun he => ⟨idx_nat (by omega), by unfold sumPre; simp, by simp only [inR]; omega, k + 1, by omega, by omega, ?_⟩, fun he => ⟨by simp only [inR]; omega, k + 1, ⟨⟨by omega, ?_⟩, by omega⟩, by omega⟩⟩
   · rw [hst, if_pos (show lastP p (p.getD k 0) = true from decide_eq_true (by omega)), k2]; try rfl
   · rw [hst, if_neg (by unfold lastP; rw [decide_eq_true_eq]; omega), k2]
 · refine of_eq (q := True ∧ True ∧ True ∧ True ∧ ((k : Int) < (p.length : Int) → True ∧ True ∧ idxPre (k : Int) p.length ∧ True ∧ ((0 : Int) ≤ p.getD k (0 : Int) ∧ p.getD k (0 : Int) < 64) ∧ True ∧ True ∧ True ∧ inR .i64 ((p.length : Int) - 1) ∧ idxPre ((p.length : Int) - 1) p.length ∧ True ∧ ((0 : Int) ≤ p.getD ((p.length : Int) - 1).toNat (0 : Int) ∧ p.getD ((p.length : Int) - 1).toNat (0 : Int) < 64) ∧ True ∧ ((↑(pc (Int.toNat (p.getD k (0 : Int)))) : Int) = (↑(pc (Int.toNat (p.getD ((p.length : Int) - 1).toNat (0 : Int)))) : Int) → True ∧ True ∧ True ∧ idxPre (k : Int) p.length ∧ True ∧ True ∧ sumPre (puK p k).length [p.getD k (0 : Int)].length (nat_lit 8) ∧ True ∧ True ∧ inR .i64 ((k : Int) + 1) ∧ True ∧ ((∃ (y : Nat), ((y ≤ p.length ∧ puK p y = []) ∧ p.length - y < p.length - k) ∧ (n = n ∧ p = p ∧ False ∧ (k : Int) + 1 = (y : Int) ∧ True) ∧ True) ∨ ∃ (y : Nat), (y ≤ p.length ∧ p.length - y < p.length - k) ∧ (n = n ∧ p = p ∧ True ∧ (k : Int) + 1 = (y : Int) ∧ True) ∧ puK p k ++ [p.getD k (0 : Int)] = puK p y ∧ True)) ∧ (¬(↑(pc (Int.toNat (p.getD k (0 : Int)))) : Int) = (↑(pc (Int.toNat (p.getD ((p.length : Int) - 1).toNat (0 : Int)))) : Int) → True ∧ inR .i64 ((k : Int) + 1) ∧ True ∧ ((∃ (y : Nat), ((y ≤ p.length ∧ puK p y = []) ∧ p.length - y < p.length - k) ∧ (n = n ∧ p = p ∧ False ∧ (k : Int) + 1 = (y : Int) ∧ True) ∧ True) ∨ ∃ (y : Nat), (y ≤ p.length ∧ p.length - y < p.length - k) ∧ (n = n ∧ p = p ∧ True ∧ (k : Int) + 1 = (y : Int) ∧ True) ∧ puK p k = puK p y ∧ True))) ∧ (¬(k : Int) < (p.length : Int) → (∃ (y : Unit), puP p = [] ∧ (n = n ∧ False ∧ True) ∧ True) ∨ ∃ (y : Unit), True ∧ (n = n ∧ True ∧ True) ∧ puK p k = puP p ∧ True)) (by kernel_rfl) ?_
   simp only [zz]
   have hk : k ≤ p.length := hk
   have hl := h.l
   have hle := puK_len p k
   refine ⟨fun hlt => ?_, fun hlt => puK_end (show k = p.length by omega)⟩
   have hst := puK_step (p := p) (k := k) (by omega)
   rw [show ((p.length : Int) - 1).toNat = p.length - 1 by omega]
   refine ⟨idx_nat (by omega), okL_get h.h k, by simp only [inR]; omega, by unfold idxPre; omega, okL_get h.h _, fun he => ⟨idx_nat (by omega), by unfold sumPre; simp; omega, by simp only [inR]; omega, k + 1, by omega, by omega, ?_⟩, fun he => ⟨by simp only [inR]; omega, k + 1, by omega, by omega, ?_⟩⟩
   · rw [hst, if_pos (show lastP p (p.getD k 0) = true from decide_eq_true (by omega))]; try rfl
   · rw [hst, if_neg (by unfold lastP; rw [decide_eq_true_eq]; omega)]
theorem call18 (n : Int) (l : List Int) (hl : l.length < 1000000000000000) : GCall Try.prog gl 18 true [.int .i64 n, .sl I64 l] [] [.int .i64 (tmN n), .sl I64 (puP (tmP n l))] [] := by
 have hc := tm_cx n l
 refine gcall_of (X := X [e14, e29]) (X_ok [e14, e29]) (f := 18) (fn := Try.f18) (c := bodyOf Try.f18) (by kernel_rfl) (by kernel_rfl) (view := true) (rvs := [.tmp 4, .tmp 5]) (by kernel_rfl) (H := (H18 (tmN n) (tmP n l))) 80 (by kernel_rfl) ?_
 have hL := loop18 (tmN n) (tmP n l) ⟨hc.ok, hc.2.1.2⟩
 refine of_eq (q := True ∧ True ∧ True ∧ True ∧ (l.length + 1 ≤ 1000000000000000 ∧ True) ∧ True ∧ True ∧ True ∧ True ∧ True ∧ True ∧ True ∧ LoopOK (X [e14, e29]) L18_0 { J := chks (0 : Nat) [(0 : Nat), (6 : Nat), (7 : Nat), (8 : Nat)] (fm18 (tmN n) (tmP n l)), exits := List.map (fun (x : List Nat × Ex) => x.snd) (ex18 (tmN n) (tmP n l)) } (RetR (X [e14, e29]) true true [ResultVar.tmp (4 : Tmp), ResultVar.tmp (5 : Tmp)] [AV.int .i64 (tmN n), AV.sl I64 (puP (tmP n l))] []) ∧ ((∃ (y : Nat), (y ≤ (tmP n l).length ∧ puK (tmP n l) y = []) ∧ (tmN n = tmN n ∧ tmP n l = tmP n l ∧ True ∧ (0 : Int) = (y : Int) ∧ True) ∧ True) ∨ ∃ (y : Nat), y ≤ (tmP n l).length ∧ (tmN n = tmN n ∧ tmP n l = tmP n l ∧ False ∧ (0 : Int) = (y : Int) ∧ True) ∧ False) ∧ (∀ (y : Unit), puP (tmP n l) = [] → True ∧ True ∧ True ∧ True ∧ True ∧ (tmN n = tmN n ∧ ([] : List Int) = puP (tmP n l) ∧ True) ∧ True) ∧ (∀ (y : Unit), True → True ∧ True ∧ True ∧ True ∧ True ∧ (tmN n = tmN n ∧ puP (tmP n l) = puP (tmP n l) ∧ True) ∧ True) ∧ True) (by kernel_rfl) ?_
 simp only [zz]
 exact ⟨by omega, hL _, ⟨0, ⟨Nat.zero_le _, rfl⟩, rfl⟩, fun _ h => h.symm, fun _ h => h⟩
def e18 : Entry Try.prog gl := entry2 18 ⟨Try.f18, by kernel_rfl, by kernel_rfl, by kernel_rfl⟩ I64 SI (fun (_ : Int) l => (l : List Int).length < 1000000000000000) true (fun n l => [.int .i64 (tmN n), .sl I64 (puP (tmP n l))]) (fun _ _ => []) (call18)
structure cxS (n : Int) (p : List Int) : Prop where
 rng : ∀ s ∈ p, 1 ≤ s ∧ s < 2 ^ n.toNat
 asc : p.Pairwise (· < ·)
 anti : ∀ a ∈ p, ∀ b ∈ p, a ≠ b → bAnd .i64 a b ≠ a
theorem pair_get {l : List Int} : (∀ k, 0 < k → k < l.length → l.getD (k - 1) 0 < l.getD k 0) → l.Pairwise (· < ·) := by
 induction l with
 | nil => intro _; exact List.Pairwise.nil
 | cons a l ih =>
   intro h
   have h1 : ∀ k, 0 < k → k < l.length → l.getD (k - 1) 0 < l.getD k 0 := fun k h0 hk => by
     have := h (k + 1) (by omega) (by simp; omega)
     rw [show k + 1 - 1 = (k - 1) + 1 by omega] at this
     simpa using this
   have ip := ih h1
   refine List.Pairwise.cons (fun b hb => ?_) ip
   cases l with
   | nil => cases hb
   | cons c l =>
     have h2 : a < c := by simpa using h 1 (by omega) (by simp)
     rcases List.mem_cons.mp hb with h3 | h3
     · rw [h3]; exact h2
     · exact Int.lt_trans h2 ((List.pairwise_cons.mp ip).1 b h3)
theorem get_pair {l : List Int} (h : l.Pairwise (· < ·)) {i j : Nat} (hij : i < j) (hj : j < l.length) : l.getD i 0 < l.getD j 0 := by
 rw [getD_lt hj, getD_lt (show i < l.length by omega)]
 exact List.pairwise_iff_getElem.mp h i j (by omega) hj hij
theorem cxS_of {n : Int} {p : List Int} (h : cxOk n p) : cxS n p := by
 have hg : ∀ s ∈ p, ∃ k, k < p.length ∧ p.getD k 0 = s := fun s hs => by
   obtain ⟨k, hk, e⟩ := List.getElem_of_mem hs
   exact ⟨k, hk, by rw [getD_lt hk]; exact e⟩
 refine ⟨fun s hs => ?_, pair_get fun k h0 hk => (h.2.2 k hk).2.2.1 h0, fun a ha b hb hne => ?_⟩
 · obtain ⟨k, hk, rfl⟩ := hg s hs
   exact ⟨(h.2.2 k hk).1, (h.2.2 k hk).2.1⟩
 · obtain ⟨i, hi, rfl⟩ := hg a ha
   obtain ⟨j, hj, rfl⟩ := hg b hb
   exact (h.2.2 i hi).2.2.2 j hj (fun e => hne (by rw [e]))
theorem cx_ofS {n : Int} {p : List Int} (hn : numOk n) (hl : 1 ≤ p.length ∧ p.length ≤ 10) (h : cxS n p) : cxOk n p := by
 refine ⟨hn, hl, fun k hk => ?_⟩
 have hr := h.rng _ (mem_getD (d := 0) hk)
 refine ⟨hr.1, hr.2, fun h0 => get_pair h.asc (by omega) hk, fun j hj hne => h.anti _ (mem_getD hk) _ (mem_getD hj) fun e => ?_⟩
 rcases Nat.lt_or_ge j k with h1 | h1
 · have := get_pair h.asc h1 hk; omega
 · have := get_pair h.asc (show k < j by omega) hj; omega
theorem cx_filter {n : Int} {p : List Int} (f : Int → Bool) (h : cxOk n p) (h1 : 1 ≤ (p.filter f).length) : cxOk n (p.filter f) := by
 have hs := cxS_of h
 have hle := List.length_filter_le f p
 have hl := h.2.1
 refine cx_ofS h.1 ⟨h1, by omega⟩ ⟨fun s hs2 => hs.rng s (List.mem_filter.mp hs2).1, hs.asc.filter f, fun a ha b hb hne => hs.anti a (List.mem_filter.mp ha).1 b (List.mem_filter.mp hb).1 hne⟩
theorem pu_cx (n : Int) (l : List Int) : cxOk (tmN n) (puP (tmP n l)) := by
 have h := tm_cx n l
 have hl := h.2.1
 refine cx_filter _ h ?_
 have : (tmP n l).getD ((tmP n l).length - 1) 0 ∈ (tmP n l).filter (lastP (tmP n l)) := List.mem_filter.mpr ⟨mem_getD (by omega), decide_eq_true rfl⟩
 exact List.length_pos_of_mem this
end Go.Am.Sh

/- Shells: what follows, in the program and in the reference; IsShelling. -/
namespace Go.Am.Sh
open Go Go.Am Go.Proofs
theorem mns_bit (a e v : Nat) : (mns a e).testBit v = (a.testBit v && !e.testBit v) := by
 unfold mns
 rw [Nat.testBit_xor, Nat.testBit_and]
 cases a.testBit v <;> cases e.testBit v <;> rfl
theorem mns_or (a b e : Nat) : mns (a ||| b) e = mns a e ||| mns b e := by
 apply Nat.eq_of_testBit_eq
 intro v
 rw [mns_bit, Nat.testBit_or, Nat.testBit_or, mns_bit, mns_bit]
 cases a.testBit v <;> cases b.testBit v <;> cases e.testBit v <;> rfl
theorem or_ne (x y : Nat) : x ||| y ≠ 0 ↔ x ≠ 0 ∨ y ≠ 0 := by
 rw [Ne, Nat.or_eq_zero_iff]; omega
theorem one_and : ∀ m e : Fin 64, pc m.val = 1 → ((m.val &&& e.val = 0) ↔ mns m.val e.val ≠ 0) := by decide +kernel
theorem low_fnd {n : Int} {p : List Int} (hp : cxOk n p) {D s e : Nat} (hs : s < 64) (he : e < 64) : ∀ k, (mns (lowK p D s k) e ≠ 0) ↔ fnd p D s e k = true
 | 0 => by
   have : mns 0 e = 0 := by unfold mns; rw [Nat.zero_and]; try rfl
   simp [lowK, fnd, this]
 | k + 1 => by
   have ih := low_fnd hp (D := D) hs he k
   have h1 := okL_get hp.ok k
   have hm := mns_lt ⟨s, hs⟩ ⟨(p.getD k 0).toNat, by omega⟩
   simp only at hm
   have ho := one_and ⟨mns s (p.getD k 0).toNat, hm⟩ ⟨e, he⟩
   simp only at ho
   rw [lowK, fnd, Bool.or_eq_true, Bool.and_eq_true, Bool.and_eq_true, decide_eq_true_eq, decide_eq_true_eq, decide_eq_true_eq, ← ih]
   by_cases hc : D / 2 ^ k % 2 = 1 ∧ pc (mns s (p.getD k 0).toNat) = 1
   · rw [if_pos hc, mns_or, or_ne]
     constructor
     · rintro (h | h)
       · exact .inl h
       · exact .inr ⟨hc, (ho hc.2).mpr h⟩
     · rintro (h | h)
       · exact .inl h
       · exact .inr ((ho hc.2).mp h.2)
   · rw [if_neg hc]
     constructor
     · exact .inl
     · rintro (h | h)
       · exact h
       · exact absurd h.1 hc
theorem flw_nx {n : Int} {p : List Int} (hp : cxOk n p) (D i : Nat) : flw p D i = nxB p D i := by
 have hs := okL_get hp.ok i
 unfold flw nxB
 rw [decide_eq_decide]
 unfold flwN nxN low
 constructor
 · intro h e he hb
   have hr := okL_get hp.ok e
   exact (low_fnd hp (by omega) (by omega) _).mp (h e he hb)
 · intro h e he hb
   have hr := okL_get hp.ok e
   exact (low_fnd hp (by omega) (by omega) _).mpr (h e he hb)
theorem pure_pu {n : Int} {p : List Int} (hp : cxOk n p) : pure p = puB p := by
 have h1 := hp.2.1.1
 have hmx : ∃ j, j < p.length ∧ ((pc (p.getD j 0).toNat : Nat) : Int) = mxL p := by
   have key : ∀ k, 1 ≤ k → k ≤ p.length → ∃ j, j < k ∧ ((pc (p.getD j 0).toNat : Nat) : Int) = mxK p k := by
     intro k
     induction k with
     | zero => intro h; omega
     | succ k ih =>
       intro _ hk
       rw [mxK_step (by omega)]
       unfold maxI
       by_cases hlt : mxK p k < ((pc (p.getD k 0).toNat : Nat) : Int)
       · rw [if_pos hlt]; exact ⟨k, by omega, rfl⟩
       · rw [if_neg hlt]
         rcases Nat.eq_zero_or_pos k with h0 | h0
         · subst h0
           refine ⟨0, by omega, ?_⟩
           have : mxK p 0 = 0 := rfl
           omega
         · obtain ⟨j, h2, h3⟩ := ih h0 (by omega)
           exact ⟨j, by omega, h3⟩
   exact key p.length h1 (Nat.le_refl _)
 obtain ⟨j, hj, hj2⟩ := hmx
 rw [Bool.eq_iff_iff]
 unfold pure puB
 rw [List.all_eq_true, decide_eq_true_eq]
 constructor
 · intro h i hi
   have a := of_decide_eq_true (h _ (mem_getD (d := 0) hi))
   have b := of_decide_eq_true (h _ (mem_getD (d := 0) (show 0 < p.length by omega)))
   omega
 · intro h s hs
   obtain ⟨k, hk, e⟩ := List.getElem_of_mem hs
   have a := h k hk
   have b := h j hj
   rw [getD_lt hk, e] at a
   exact decide_eq_true (by omega)
end Go.Am.Sh

/- Shells: the reference's Shellable. -/
namespace Go.Am.Sh
open Go Go.Am Go.Proofs
/-- The sets that are reached: one row, the first k of its pieces. -/
def rowC (p : List Int) (D : Nat) (xs : List Bool) : Nat → List Bool
 | 0 => xs
 | k + 1 => if D / 2 ^ k % 2 = 0 ∧ nxB p D k = true then (rowC p D xs k).set (D ||| 2 ^ k) true else rowC p D xs k
/-- ... the first rows. -/
def canC (p : List Int) : Nat → List Bool
 | 0 => (List.replicate (2 ^ p.length) false).set 0 true
 | D + 1 => if (canC p D).getD D false = true then rowC p D (canC p D) p.length else canC p D
def shR (p : List Int) : Bool := puB p && (canC p (2 ^ p.length)).getD (2 ^ p.length - 1) false
theorem rowC_length (p : List Int) (D : Nat) (xs : List Bool) : ∀ k, (rowC p D xs k).length = xs.length
 | 0 => rfl
 | k + 1 => by
   rw [rowC]; split
   · rw [List.length_set, rowC_length p D xs k]
   · exact rowC_length p D xs k
theorem canC_length (p : List Int) : ∀ D, (canC p D).length = 2 ^ p.length
 | 0 => by simp [canC]
 | D + 1 => by
   rw [canC]; split
   · rw [rowC_length, canC_length p D]
   · exact canC_length p D
theorem or_bit_ne {D k : Nat} (h : D / 2 ^ k % 2 = 0) : D ||| 2 ^ k ≠ D := fun e => by
 have h1 : (D ||| 2 ^ k).testBit k = true := by rw [Nat.testBit_or, Nat.testBit_two_pow_self]; simp
 rw [e, Nat.testBit_eq_decide_div_mod_eq, h] at h1
 cases h1
theorem rowC_self (p : List Int) (D : Nat) (xs : List Bool) : ∀ k, (rowC p D xs k).getD D false = xs.getD D false
 | 0 => rfl
 | k + 1 => by
   rw [rowC]; split
   · rename_i h
     rw [List.getD_eq_getElem?_getD, List.getElem?_set_ne (or_bit_ne h.1), ← List.getD_eq_getElem?_getD]
     exact rowC_self p D xs k
   · exact rowC_self p D xs k
theorem pow_len {p : List Int} (h : ok10 p) : ((2 ^ p.length : Nat) : Int) = 2 ^ p.length ∧ 2 ^ p.length ≤ 1024 ∧ 1 ≤ 2 ^ p.length := by
 have h1 := Nat.pow_le_pow_right (show 0 < 2 by decide) h.l
 have h2 := Nat.pow_pos (n := p.length) (show 0 < 2 by decide)
 exact ⟨by rw [Int.natCast_pow]; rfl, by omega, h2⟩
noncomputable def L16_0 : Code := lp (bodyOf Try.f16) 0
noncomputable def L16_2 : Code := lp (bodyOf Try.f16) 2
def st16 (p : List Int) (D : Nat) : St := ⟨.sl I64 p :: dd 2 ++ .own 0 0 :: .int .i64 D :: dd 52, [.sc 0 4 .bool (canC p D)]⟩
def ex16 (p : List Int) : List (List Nat × Ex) := [([0, 3], ⟨0, Unit, fun _ => True, fun _ => ⟨.sl I64 p :: dd 2 ++ .own 0 0 :: dd 53, [.sc 0 4 .bool (canC p (2 ^ p.length))]⟩⟩)]
def sj16 (p : List Int) (D i : Nat) : St := ⟨.sl I64 p :: dd 2 ++ .own 0 0 :: .int .i64 D :: .int .i64 i :: dd 51, [.sc 0 4 .bool (rowC p D (canC p D) i)]⟩
def ij16 (p : List Int) (D i : Nat) : Prop := i ≤ p.length ∧ (i = 0 ∨ (canC p D).getD D false = true)
def ej16 (p : List Int) (D : Nat) : List (List Nat × Ex) := [([0, 3, 4], ⟨2, Unit, fun _ => True, fun _ => ⟨.sl I64 p :: dd 2 ++ .own 0 0 :: .int .i64 D :: dd 52, [.sc 0 4 .bool (canC p (D + 1))]⟩⟩)]
def hj16 (p : List Int) (D : Nat) : Hint := ⟨chk 0 [0, 3, 4, 5] (ij16 p D) (sj16 p D), (ej16 p D).map (·.2)⟩
noncomputable def H16 (p : List Int) : Nat → Option Hint := fun _ => some ⟨chk 0 [0, 3, 4] (fun D => D ≤ 2 ^ p.length) (st16 p), (ex16 p).map (·.2)⟩
theorem loop16b (p : List Int) (D : Nat) (h : ok10 p) (hD : D < 2 ^ p.length) (R : Exit → St → Prop) : LoopOK (X [e57, e58]) L16_2 (hj16 p D) R := by
 refine loop_ok (X_ok _) (H := fun _ _ => none) [0, 3, 4, 5] (ij16 p D) (sj16 p D) (fun i => p.length - i) (ej16 p D) 150 fun (i : Nat) hi => ?_
 refine of_eq (q := True ∧ True ∧ True ∧ True ∧ True ∧ ((i : Int) < (p.length : Int) → True ∧ True ∧ idxPre (D : Int) (rowC p D (canC p D) i).length ∧ True ∧ True ∧ ((rowC p D (canC p D) i).getD D false = true → True ∧ True ∧ ((0 : Int) ≤ (i : Int) ∧ (i : Int) < bitsOf .i64) ∧ ¬(2 : Int) = 0 ∧ True ∧ True ∧ (((D : Int) / (2 : Int) ^ i).tmod (2 : Int) = 0 → True ∧ True ∧ True ∧ (ok57 p (D : Int) (i : Int) ∧ True) ∧ True ∧ (nxB p D i = true → True ∧ True ∧ True ∧ (((0 : Int) ≤ (i : Int) ∧ (i : Int) < bitsOf .i64) ∧ (-9223372036854775808 : Int) ≤ 1 * 2 ^ i ∧ (1 : Int) * 2 ^ i ≤ 9223372036854775807) ∧ True ∧ idxPre (bOr .i64 (D : Int) ((1 : Int) * 2 ^ i)) (rowC p D (canC p D) i).length ∧ True ∧ True ∧ inR .i64 ((i : Int) + 1) ∧ True ∧ ∃ (y : Nat), (ij16 p D y ∧ p.length - y < p.length - i) ∧ (p = p ∧ True ∧ (D : Int) = (D : Int) ∧ (i : Int) + 1 = (y : Int) ∧ True) ∧ (rowC p D (canC p D) i).set (bOr .i64 (D : Int) ((1 : Int) * 2 ^ i)).toNat true = rowC p D (canC p D) y ∧ True) ∧ (nxB p D i = false → True ∧ inR .i64 ((i : Int) + 1) ∧ True ∧ ∃ (y : Nat), (ij16 p D y ∧ p.length - y < p.length - i) ∧ (p = p ∧ True ∧ (D : Int) = (D : Int) ∧ (i : Int) + 1 = (y : Int) ∧ True) ∧ rowC p D (canC p D) i = rowC p D (canC p D) y ∧ True)) ∧ (¬((D : Int) / (2 : Int) ^ i).tmod (2 : Int) = 0 → True ∧ True ∧ inR .i64 ((i : Int) + 1) ∧ True ∧ ∃ (y : Nat), (ij16 p D y ∧ p.length - y < p.length - i) ∧ (p = p ∧ True ∧ (D : Int) = (D : Int) ∧ (i : Int) + 1 = (y : Int) ∧ True) ∧ rowC p D (canC p D) i = rowC p D (canC p D) y ∧ True)) ∧ ((rowC p D (canC p D) i).getD D false = false → ∃ (y : Unit), True ∧ (p = p ∧ True ∧ (D : Int) = (D : Int) ∧ True) ∧ rowC p D (canC p D) i = canC p (D + 1) ∧ True)) ∧ (¬(i : Int) < (p.length : Int) → True ∧ ∃ (y : Unit), True ∧ (p = p ∧ True ∧ (D : Int) = (D : Int) ∧ True) ∧ rowC p D (canC p D) i = canC p (D + 1) ∧ True)) (by kernel_rfl) ?_
 simp only [zz]
 obtain ⟨i1, i2⟩ := hi
 have hl := h.l
 obtain ⟨e1, e2, e3⟩ := pow_len h
 have hlen : (rowC p D (canC p D) i).length = 2 ^ p.length := by rw [rowC_length, canC_length]
 have hself := rowC_self p D (canC p D) i
 rw [bit_tmod, hself, hlen]
 refine ⟨fun hlt => ⟨idx_nat hD, fun hc => ?_, fun hc => ?_⟩, fun hlt => ?_⟩
 · have hil : i < p.length := by omega
   have hb := or_pow10 (D := D) (by omega) (k := i) (by omega)
   rw [hb.1, Int.toNat_natCast]
   have hlt2 : D ||| 2 ^ i < 2 ^ p.length := Nat.or_lt_two_pow hD (Nat.pow_lt_pow_right (by decide) hil)
   have hn : ∀ xs, xs = rowC p D (canC p D) (i + 1) → inR .i64 ((i : Int) + 1) ∧ ∃ y : Nat, (ij16 p D y ∧ p.length - y < p.length - i) ∧ (i : Int) + 1 = (y : Int) ∧ xs = rowC p D (canC p D) y := fun xs hx => ⟨by simp only [inR]; omega, i + 1, ⟨⟨by omega, .inr hc⟩, by omega⟩, by omega, hx⟩
   refine ⟨⟨by omega, by simp only [bitsOf]; omega⟩, by decide, fun hx => ⟨⟨h, ⟨by omega, by omega⟩, by omega, by omega⟩, fun hy => ⟨⟨⟨by omega, by simp only [bitsOf]; omega⟩, by omega, by omega⟩, idx_nat hlt2, hn _ ?_⟩, fun hy => hn _ ?_⟩, fun hx => hn _ ?_⟩
   · rw [rowC, if_pos ⟨by omega, hy⟩]
   · rw [rowC, if_neg (by rw [hy]; simp)]
   · rw [rowC, if_neg (by omega)]
 · have : i = 0 := i2.resolve_right (by rw [hc]; decide)
   subst this
   rw [canC, if_neg (by rw [hc]; decide)]; try rfl
 · have : i = p.length := by omega
   subst this
   rcases i2 with h0 | h0
   · by_cases hc : (canC p D).getD D false = true
     · rw [canC, if_pos hc]
     · rw [canC, if_neg hc, h0]; try rfl
   · rw [canC, if_pos h0]
theorem loop16 (p : List Int) (h : ok10 p) (R : Exit → St → Prop) : LoopOK (X [e57, e58]) L16_0 ⟨chk 0 [0, 3, 4] (fun D => D ≤ 2 ^ p.length) (st16 p), (ex16 p).map (·.2)⟩ R := by
 refine loop_ok (X_ok _) (H := fun D _ => some (hj16 p D)) [0, 3, 4] (fun D => D ≤ 2 ^ p.length) (st16 p) (fun D => 2 ^ p.length - D) (ex16 p) 150 fun (D : Nat) hD => ?_
 have hL := fun hD => loop16b p D h hD (bodyR (X [e57, e58]).m0 (ex16 p) R)
 refine of_eq (q := True ∧ True ∧ True ∧ True ∧ ((D : Int) < (↑(canC p D).length : Int) → True ∧ LoopOK (X [e57, e58]) L16_2 (hj16 p D) (bodyR (X [e57, e58]).m0 (ex16 p) R) ∧ (∃ (y : Nat), ij16 p D y ∧ (p = p ∧ True ∧ (D : Int) = (D : Int) ∧ (0 : Int) = (y : Int) ∧ True) ∧ canC p D = rowC p D (canC p D) y ∧ True) ∧ (∀ (y : Unit), True → True ∧ inR .i64 ((D : Int) + 1) ∧ True ∧ ∃ (y : Nat), (y ≤ 2 ^ p.length ∧ (2 : Nat) ^ p.length - y < 2 ^ p.length - D) ∧ (p = p ∧ True ∧ (D : Int) + 1 = (y : Int) ∧ True) ∧ canC p (D + 1) = canC p y ∧ True) ∧ True) ∧ (¬(D : Int) < (↑(canC p D).length : Int) → ∃ (y : Unit), True ∧ (p = p ∧ True ∧ True) ∧ canC p D = canC p ((2 : Nat) ^ p.length) ∧ True)) (by kernel_rfl) ?_
 simp only [zz]
 have hD : D ≤ 2 ^ p.length := hD
 obtain ⟨e1, e2, e3⟩ := pow_len h
 have hlen := canC_length p D
 exact ⟨fun hlt => ⟨hL (by omega), ⟨0, ⟨Nat.zero_le _, .inl rfl⟩, rfl, rfl⟩, fun _ _ => ⟨by simp only [inR]; omega, D + 1, by omega, by omega, rfl⟩⟩, fun hlt => by rw [show D = 2 ^ p.length by omega]⟩
theorem call16 (p : List Int) (h : ok10 p) : GCall Try.prog gl 16 true [.sl I64 p] [] [.bool (shR p)] [] := by
 refine gcall_of (X := X [e57, e58]) (X_ok [e57, e58]) (f := 16) (fn := Try.f16) (c := bodyOf Try.f16) (by kernel_rfl) (by kernel_rfl) (view := false) (rvs := [.tmp 2]) (by kernel_rfl) (H := (H16 p)) 80 (by kernel_rfl) ?_
 have hL := loop16 p h
 refine of_eq (q := True ∧ True ∧ True ∧ (((0 : Int) ≤ (p.length : Int) ∧ (p.length : Int) < bitsOf .i64) ∧ (-9223372036854775808 : Int) ≤ 1 * 2 ^ p.length ∧ (1 : Int) * 2 ^ p.length ≤ 9223372036854775807) ∧ ((0 : Int) ≤ 1 * 2 ^ p.length ∧ (1 : Int) * 2 ^ p.length ≤ 1 * 2 ^ p.length ∧ (1 : Int) * 2 ^ p.length * (↑(nat_lit 1) : Int) ≤ 140737488355328 ∧ (1 : Int) * 2 ^ p.length ≤ 140737488355328) ∧ True ∧ True ∧ idxPre (0 : Int) (List.replicate ((1 : Int) * 2 ^ p.length).toNat Ty.bool.dflt).length ∧ True ∧ True ∧ LoopOK (X [e57, e58]) L16_0 { J := chk (0 : Nat) [(0 : Nat), (3 : Nat), (4 : Nat)] (fun (D : Nat) => D ≤ 2 ^ p.length) (st16 p), exits := List.map (fun (x : List Nat × Ex) => x.snd) (ex16 p) } (RetR (X [e57, e58]) true false [ResultVar.tmp (2 : Tmp)] [AV.bool (shR p)] []) ∧ (∃ (y : Nat), y ≤ 2 ^ p.length ∧ (p = p ∧ True ∧ (0 : Int) = (y : Int) ∧ True) ∧ (List.replicate ((1 : Int) * 2 ^ p.length).toNat Ty.bool.dflt).set (0 : Nat) true = canC p y ∧ True) ∧ (∀ (y : Unit), True → True ∧ (ok10 p ∧ True) ∧ True ∧ (puB p = true → True ∧ True ∧ True ∧ inR .i64 ((↑(canC p ((2 : Nat) ^ p.length)).length : Int) - 1) ∧ idxPre ((↑(canC p ((2 : Nat) ^ p.length)).length : Int) - 1) (canC p ((2 : Nat) ^ p.length)).length ∧ True ∧ True ∧ True ∧ True ∧ ((canC p ((2 : Nat) ^ p.length)).getD ((↑(canC p ((2 : Nat) ^ p.length)).length : Int) - 1).toNat false = shR p ∧ True) ∧ True) ∧ (puB p = false → True ∧ True ∧ True ∧ (false = shR p ∧ True) ∧ True)) ∧ True) (by kernel_rfl) ?_
 simp only [zz]
 have hl := h.l
 obtain ⟨e1, e2, e3⟩ := pow_len h
 have hlen := canC_length p (2 ^ p.length)
 rw [Int.one_mul, ← e1, Int.toNat_natCast]
 refine ⟨⟨⟨by omega, by simp only [bitsOf]; omega⟩, by omega, by omega⟩, ⟨by omega, by omega⟩, by rw [List.length_replicate]; unfold idxPre; omega, hL _, ⟨0, Nat.zero_le _, rfl, rfl⟩, fun _ _ => ⟨h, fun hp => ⟨by simp only [inR]; omega, by unfold idxPre; omega, ?_⟩, fun hp => ?_⟩⟩
 · unfold shR
   rw [hp, hlen, show (((2 ^ p.length : Nat) : Int) - 1).toNat = 2 ^ p.length - 1 by omega]; try rfl
 · unfold shR; rw [hp]; try rfl
def e16 : Entry Try.prog gl := entry1 16 ⟨Try.f16, by kernel_rfl, by kernel_rfl, by kernel_rfl⟩ SI (fun p => ok10 p) true (fun p => [.bool (shR p)]) (fun _ => []) (call16)
end Go.Am.Sh

/- Shells: what the search finds is what the reference reaches. -/
namespace Go.Am.Sh
open Go Go.Am Go.Proofs
theorem or_div {D k j : Nat} (h : D / 2 ^ k % 2 = 0) : (D ||| 2 ^ k) / 2 ^ j % 2 = D / 2 ^ j % 2 + if k = j then 1 else 0 := by
 have h1 : (D ||| 2 ^ k).testBit j = (D.testBit j || (2 ^ k).testBit j) := Nat.testBit_or ..
 rw [Nat.testBit_two_pow, Nat.testBit_eq_decide_div_mod_eq, Nat.testBit_eq_decide_div_mod_eq] at h1
 have a := Nat.mod_two_eq_zero_or_one ((D ||| 2 ^ k) / 2 ^ j)
 have b := Nat.mod_two_eq_zero_or_one (D / 2 ^ j)
 by_cases e : k = j
 · subst e
   rw [h] at h1 ⊢
   rw [if_pos rfl]
   rcases a with a | a
   · rw [a] at h1; simp at h1
   · exact a
 · rw [if_neg e]
   rcases a with a | a <;> rcases b with b | b <;> rw [a, b] at h1 ⊢ <;> simp [e] at h1
theorem pcK_or {D k : Nat} (h : D / 2 ^ k % 2 = 0) : ∀ m, pcK (D ||| 2 ^ k) m = pcK D m + if k < m then 1 else 0
 | 0 => by simp [pcK]
 | m + 1 => by
   rw [pcK, pcK, pcK_or h m, or_div h]
   by_cases e : k = m
   · rw [if_neg (by omega), if_pos e, if_pos (by omega)]; omega
   · rw [if_neg e]
     by_cases e2 : k < m
     · rw [if_pos e2, if_pos (by omega)]; omega
     · rw [if_neg e2, if_neg (by omega)]; omega
theorem pcK_full : ∀ L : Fin 11, pcK (2 ^ L.val - 1) L.val = L.val := by decide +kernel
theorem full_of : ∀ L : Fin 11, ∀ D : Fin 1024, D.val < 2 ^ L.val → pcK D.val L.val = L.val → D.val = 2 ^ L.val - 1 := by decide +kernel
theorem pcK_zero : ∀ m, pcK 0 m = 0
 | 0 => rfl
 | m + 1 => by rw [pcK, pcK_zero m, Nat.zero_div]
/-- From a set of pieces all are reached, in n steps. -/
def Go' (p : List Int) : Nat → Nat → Prop
 | 0, _ => True
 | n + 1, D => ∃ k, k < p.length ∧ D / 2 ^ k % 2 = 0 ∧ nxB p D k = true ∧ Go' p n (D ||| 2 ^ k)
theorem mget_put (m : Mm) (q q' : Int) (v : Bool) : mGet I64 (mPut I64 m q v) q' = if q' = q then some v else mGet I64 m q' := by
 induction m with
 | nil =>
   simp only [mPut, mGet]
   split
   · rename_i h _; rw [if_pos h]
   · rename_i h _; rw [if_neg h]
 | cons e m ih =>
   simp only [mPut] at ih ⊢
   split
   · rename_i h _
     simp only [mGet]
     split
     · rename_i h2 _; rw [if_pos h2]
     · rename_i h2 _
       rw [if_neg h2]
       split
       · rename_i h3 _; exact absurd (h3.trans h.symm) h2
       · rfl
   · rename_i h _
     simp only [mGet]
     split
     · rename_i h2 _
       rw [if_neg (fun e' => h (e'.symm.trans h2))]
     · exact ih
theorem mg_mp {m : Mm} {d x : Int} (h : mg (mp m d) x = true) : x = d ∨ mg m x = true := by
 unfold mg mp at h
 rw [mget_put] at h
 by_cases e : x = d
 · exact .inl e
 · rw [if_neg e] at h; exact .inr h
def MI (p : List Int) (m : Mm) : Prop := ∀ D : Nat, mg m D = true → ¬ Go' p (p.length - pcK D p.length) D
structure rOk (p : List Int) (r : Res) : Prop where
 s : (sgK p r.2.1 r.2.1.length).isSome = true
 l : r.2.1.length = p.length
theorem sgK_app {p o : List Int} {m : List Int} : ∀ {k : Nat}, k ≤ o.length → sgK p (o ++ m) k = sgK p o k
 | 0, _ => rfl
 | k + 1, h => by rw [sgK, sgK, sgK_app (by omega), getD_append_left (by omega)]
theorem sgK_snoc {p l : List Int} {D k : Nat} (h : sgK p l l.length = some D) (hk : k < p.length) (h0 : D / 2 ^ k % 2 = 0) (hn : nxB p D k = true) : sgK p (l ++ [(k : Int)]) (l ++ [(k : Int)]).length = some (D ||| 2 ^ k) := by
 have e : (l ++ [(k : Int)]).getD l.length 0 = k := by
   rw [List.getD_eq_getElem?_getD, List.getElem?_append_right (Nat.le_refl _), Nat.sub_self]; try rfl
 rw [List.length_append, List.length_singleton, sgK, sgK_app (Nat.le_refl _), h, e, Option.bind_some, Int.toNat_natCast, if_pos ⟨decide_eq_true ⟨by omega, by omega⟩, h0, hn⟩]
def grP (p : List Int) (n : Nat) : Prop := ∀ (D : Nat) (l : List Int) (m : Mm), l.length + n = p.length → pcK D p.length + n = p.length → sgK p l l.length = some D → MI p m →
 ((gr p n D l m).1 = true → Go' p n D ∧ rOk p (gr p n D l m)) ∧ ((gr p n D l m).1 = false → ¬ Go' p n D) ∧ MI p (gr p n D l m).2.2
theorem lp_spec {c : Int} {p : List Int} (hp : cxOk c p) {n : Nat} (ih : grP p n) {D : Nat} {l : List Int} {m : Mm} (h1 : l.length + (n + 1) = p.length) (h2 : pcK D p.length + (n + 1) = p.length) (h3 : sgK p l l.length = some D) (h4 : MI p m) : ∀ k, k ≤ p.length →
   ((lpK p (gr p n) D l m k).1 = true → Go' p (n + 1) D ∧ rOk p (lpK p (gr p n) D l m k)) ∧ ((lpK p (gr p n) D l m k).1 = false → ∀ j, j < k → D / 2 ^ j % 2 = 0 → nxB p D j = true → ¬ Go' p n (D ||| 2 ^ j)) ∧ MI p (lpK p (gr p n) D l m k).2.2
 | 0, _ => ⟨fun h => (by cases h), fun _ j hj => absurd hj (Nat.not_lt_zero j), h4⟩
 | k + 1, hk => by
   obtain ⟨a1, a2, a3⟩ := lp_spec hp ih h1 h2 h3 h4 k (by omega)
   by_cases hs : (lpK p (gr p n) D l m k).1 = true
   · have e := lpK_stop hs 1
     rw [e]
     exact ⟨a1, fun h => (by rw [hs] at h; cases h), a3⟩
   · have hs : (lpK p (gr p n) D l m k).1 = false := by simpa using hs
     have hst := lpK_go hs
     by_cases hc : D / 2 ^ k % 2 = 1 ∨ flw p D k = false
     · rw [if_pos hc] at hst
       rw [hst]
       refine ⟨a1, fun h j hj hb hn => ?_, a3⟩
       rcases Nat.lt_or_ge j k with h5 | h5
       · exact a2 h j h5 hb hn
       · have : j = k := by omega
         subst this
         rcases hc with hc | hc
         · omega
         · rw [flw_nx hp] at hc; rw [hc] at hn; cases hn
     · rw [if_neg hc] at hst
       have hb : D / 2 ^ k % 2 = 0 := by
         have := Nat.mod_two_eq_zero_or_one (D / 2 ^ k)
         rcases this with h | h
         · exact h
         · exact absurd (.inl h) hc
       have hn : nxB p D k = true := by
         rw [← flw_nx hp]
         cases hf : flw p D k with
         | true => rfl
         | false => exact absurd (.inr hf) hc
       have hpc := pcK_or hb p.length
       rw [if_pos (show k < p.length by omega)] at hpc
       obtain ⟨b1, b2, b3⟩ := ih (D ||| 2 ^ k) (l ++ [(k : Int)]) (lpK p (gr p n) D l m k).2.2 (by simp; omega) (by omega) (sgK_snoc h3 (by omega) hb hn) a3
       by_cases hr : (gr p n (D ||| 2 ^ k) (l ++ [(k : Int)]) (lpK p (gr p n) D l m k).2.2).1 = true
       · rw [if_pos hr] at hst
         rw [hst]
         exact ⟨fun h => ⟨⟨k, by omega, hb, hn, (b1 h).1⟩, (b1 h).2⟩, fun h => (by rw [hr] at h; cases h), b3⟩
       · rw [if_neg hr] at hst
         rw [hst]
         refine ⟨fun h => (by cases h), fun _ j hj hb2 hn2 => ?_, b3⟩
         rcases Nat.lt_or_ge j k with h5 | h5
         · exact a2 hs j h5 hb2 hn2
         · rw [show j = k by omega]
           exact b2 (by simpa using hr)
theorem gr_spec {c : Int} {p : List Int} (hp : cxOk c p) : ∀ n, grP p n
 | 0 => fun D l m h1 h2 h3 h4 => ⟨fun _ => ⟨trivial, ⟨by rw [gr]; simp only; rw [h3]; rfl, by rw [gr]; simp only; omega⟩⟩, fun h => (by cases h), h4⟩
 | n + 1 => fun D l m h1 h2 h3 h4 => by
   obtain ⟨a1, a2, a3⟩ := lp_spec hp (gr_spec hp n) h1 h2 h3 h4 p.length (Nat.le_refl _)
   rw [gr]
   by_cases hm : mg m D = true
   · rw [if_pos hm]
     refine ⟨fun h => (by cases h), fun _ => ?_, h4⟩
     have := h4 D hm
     rwa [show p.length - pcK D p.length = n + 1 by omega] at this
   · rw [if_neg hm]
     by_cases hs : (lpK p (gr p n) D l m p.length).1 = true
     · rw [if_pos hs]
       exact ⟨a1, fun h => (by rw [hs] at h; cases h), a3⟩
     · rw [if_neg hs]
       have hs : (lpK p (gr p n) D l m p.length).1 = false := by simpa using hs
       have hno : ¬ Go' p (n + 1) D := fun ⟨k, h5, h6, h7, h8⟩ => a2 hs k h5 h6 h7 h8
       refine ⟨fun h => (by cases h), fun _ => hno, fun D' hD' => ?_⟩
       rcases mg_mp hD' with h5 | h5
       · have : D' = D := by omega
         subst this
         rwa [show p.length - pcK D' p.length = n + 1 by omega]
       · exact a3 D' h5
end Go.Am.Sh

/- Shells: the law of the shellings. -/
namespace Go.Am.Sh
open Go Go.Am Go.Proofs
theorem set_keep {l : List Bool} {i x : Nat} (h : l.getD x false = true) : (l.set i true).getD x false = true := by
 by_cases e : i = x
 · subst e
   have hl : i < l.length := by
     rcases Nat.lt_or_ge i l.length with h2 | h2
     · exact h2
     · rw [List.getD_eq_getElem?_getD, List.getElem?_eq_none h2] at h; cases h
   rw [List.getD_eq_getElem?_getD, List.getElem?_set_self hl]; try rfl
 · rw [List.getD_eq_getElem?_getD, List.getElem?_set_ne e, ← List.getD_eq_getElem?_getD]; exact h
theorem set_true {l : List Bool} {i x : Nat} (h : (l.set i true).getD x false = true) : x = i ∨ l.getD x false = true := by
 by_cases e : i = x
 · exact .inl e.symm
 · rw [List.getD_eq_getElem?_getD, List.getElem?_set_ne e, ← List.getD_eq_getElem?_getD] at h; exact .inr h
theorem rowC_mono {p : List Int} {D x : Nat} {xs : List Bool} (h : xs.getD x false = true) : ∀ k, (rowC p D xs k).getD x false = true
 | 0 => h
 | k + 1 => by
   rw [rowC]; split
   · exact set_keep (rowC_mono h k)
   · exact rowC_mono h k
theorem rowC_true {p : List Int} {D x : Nat} {xs : List Bool} : ∀ {k : Nat}, (rowC p D xs k).getD x false = true → xs.getD x false = true ∨ ∃ j, j < k ∧ D / 2 ^ j % 2 = 0 ∧ nxB p D j = true ∧ x = D ||| 2 ^ j
 | 0, h => .inl h
 | k + 1, h => by
   rw [rowC] at h
   split at h
   · rename_i hc
     rcases set_true h with h2 | h2
     · exact .inr ⟨k, by omega, hc.1, hc.2, h2⟩
     · rcases rowC_true h2 with h3 | ⟨j, a, b⟩
       · exact .inl h3
       · exact .inr ⟨j, by omega, b⟩
   · rcases rowC_true h with h3 | ⟨j, a, b⟩
     · exact .inl h3
     · exact .inr ⟨j, by omega, b⟩
theorem rowC_has {p : List Int} {D j : Nat} {xs : List Bool} (hb : D / 2 ^ j % 2 = 0) (hn : nxB p D j = true) (hl : D ||| 2 ^ j < xs.length) : ∀ {k : Nat}, j < k → (rowC p D xs k).getD (D ||| 2 ^ j) false = true
 | 0, h => absurd h (Nat.not_lt_zero j)
 | k + 1, h => by
   rcases Nat.lt_or_ge j k with h2 | h2
   · have ih := rowC_has hb hn hl h2
     rw [rowC]; split
     · exact set_keep ih
     · exact ih
   · have : j = k := by omega
     subst this
     rw [rowC, if_pos ⟨hb, hn⟩, List.getD_eq_getElem?_getD, List.getElem?_set_self (by rw [rowC_length]; exact hl)]; try rfl
theorem canC_mono {p : List Int} {D x : Nat} (h : (canC p D).getD x false = true) : ∀ j, (canC p (D + j)).getD x false = true
 | 0 => h
 | j + 1 => by
   have ih := canC_mono h j
   rw [show D + (j + 1) = D + j + 1 by omega, canC]; split
   · exact rowC_mono ih _
   · exact ih
theorem canC_zero (p : List Int) {x : Nat} (h : (canC p 0).getD x false = true) : x = 0 := by
 rw [canC] at h
 rcases set_true h with h2 | h2
 · exact h2
 · rw [List.getD_eq_getElem?_getD, List.getElem?_replicate] at h2
   split at h2 <;> cases h2
theorem canC_sound {p : List Int} : ∀ {D x : Nat}, (canC p D).getD x false = true → Go' p (p.length - pcK x p.length) x → Go' p p.length 0
 | 0, x, h, hg => by
   have := canC_zero p h
   subst this
   rwa [pcK_zero, Nat.sub_zero] at hg
 | D + 1, x, h, hg => by
   rw [canC] at h
   split at h
   · rename_i hD
     rcases rowC_true h with h2 | ⟨j, h2, h3, h4, h5⟩
     · exact canC_sound h2 hg
     · subst h5
       have hpc := pcK_or h3 p.length
       rw [if_pos h2] at hpc
       have hle := pcK_le (D ||| 2 ^ j) p.length
       refine canC_sound hD ?_
       rw [show p.length - pcK D p.length = (p.length - pcK (D ||| 2 ^ j) p.length) + 1 by omega]
       exact ⟨j, h2, h3, h4, hg⟩
   · exact canC_sound h hg
theorem canC_full {p : List Int} (hl : p.length ≤ 10) : ∀ {n D : Nat}, D < 2 ^ p.length → pcK D p.length + n = p.length → Go' p n D → (canC p D).getD D false = true → (canC p (2 ^ p.length)).getD (2 ^ p.length - 1) false = true
 | 0, D, hD, hp, _, hc => by
   have h2 := Nat.pow_le_pow_right (show 0 < 2 by decide) hl
   have hf := full_of ⟨p.length, by omega⟩ ⟨D, by omega⟩ hD (by simp only; omega)
   simp only at hf
   have := canC_mono hc 1
   rw [show D + 1 = 2 ^ p.length by omega] at this
   rwa [hf] at this
 | n + 1, D, hD, hp, ⟨j, h1, h2, h3, h4⟩, hc => by
   have hpc := pcK_or h2 p.length
   rw [if_pos h1] at hpc
   have hlt : D ||| 2 ^ j < 2 ^ p.length := Nat.or_lt_two_pow hD (Nat.pow_lt_pow_right (by decide) h1)
   have hne := or_bit_ne h2
   have hge : D ≤ D ||| 2 ^ j := Nat.left_le_or
   have hc1 : (canC p (D + 1)).getD (D ||| 2 ^ j) false = true := by
     rw [canC, if_pos hc]
     exact rowC_has h2 h3 (by rw [canC_length]; exact hlt) h1
   have hc2 := canC_mono hc1 ((D ||| 2 ^ j) - (D + 1))
   rw [show D + 1 + ((D ||| 2 ^ j) - (D + 1)) = D ||| 2 ^ j by omega] at hc2
   exact canC_full hl hlt (by omega) h4 hc2
theorem shR_iff {n : Int} {p : List Int} (h : cxOk n p) : shR p = true ↔ puB p = true ∧ Go' p p.length 0 := by
 have hl := h.2.1
 have h2 := Nat.pow_pos (n := p.length) (show 0 < 2 by decide)
 unfold shR
 rw [Bool.and_eq_true]
 constructor
 · rintro ⟨h3, h4⟩
   refine ⟨h3, canC_sound h4 ?_⟩
   have := pcK_full ⟨p.length, by omega⟩
   simp only at this
   rw [this, Nat.sub_self]; trivial
 · rintro ⟨h3, h4⟩
   refine ⟨h3, canC_full hl.2 h2 (by rw [pcK_zero]; omega) h4 ?_⟩
   rw [canC, List.getD_eq_getElem?_getD, List.getElem?_set_self (by simpa using h2)]; try rfl
structure shF (p : List Int) : Prop where
 e : shB p = shR p
 s : shB p = true → sgR p (shL p) = true
 z : shB p = false → shL p = []
 l : (shL p).length ≤ 10
theorem sh_facts {n : Int} {p : List Int} (h : cxOk n p) : shF p := by
 have hl := h.2.1
 obtain ⟨a1, a2, _⟩ := gr_spec h p.length 0 [] [] (by simp) (by rw [pcK_zero]; omega) rfl (fun D hD => by simp [mg, mGet] at hD)
 have hp := pure_pu h
 have ha : (grow p).1 = true ↔ Go' p p.length 0 := ⟨fun h => (a1 h).1, fun h => by
   cases hg : (grow p).1 with
   | true => rfl
   | false => exact absurd h (a2 hg)⟩
 refine ⟨?_, fun hs => ?_, fun hs => ?_, ?_⟩
 · rw [Bool.eq_iff_iff, shR_iff h]
   unfold shB
   rw [Bool.and_eq_true, hp, ha]
 · unfold shB at hs
   rw [Bool.and_eq_true] at hs
   obtain ⟨b1, b2⟩ := (a1 hs.2).2
   unfold sgR shL
   rw [if_pos hs.1]
   have b1 : (sgK p (grow p).2.1 (grow p).2.1.length).isSome = true := b1
   have b2 : (grow p).2.1.length = p.length := b2
   rw [b1, ← hp, hs.1, decide_eq_true b2]; try rfl
 · unfold shL
   by_cases hpp : pure p = true
   · rw [if_pos hpp]
     unfold shB at hs
     rw [hpp, Bool.true_and] at hs
     exact gr_list hs
   · rw [if_neg hpp]
 · unfold shL
   by_cases hpp : pure p = true
   · rw [if_pos hpp]
     cases hg : (grow p).1 with
     | true => have : (grow p).2.1.length = p.length := (a1 hg).2.l; omega
     | false => have : (grow p).2.1 = [] := gr_list hg; rw [this]; simp
   · rw [if_neg hpp]; simp
end Go.Am.Sh

/- Shells: the walk of the law of the shellings. -/
namespace Go.Am.Sh
open Go Go.Am Go.Proofs
def roP (n : Int) (l : List Int) (k : Nat) : List Int := if k = 0 then tmP n l else puP (tmP n l)
noncomputable def L3_0 : Code := lp (bodyOf Try.f3) 0
def st3 (n : Int) (l : List Int) (k : Nat) : St := ⟨.int .i64 n :: .sl I64 l :: dd 3 ++ .int .i64 (tmN n) :: .sl I64 (roP n l k) :: .int .i64 k :: dd 53, []⟩
def ex3 : List (List Nat × Ex) := [([], ⟨0, Unit, fun _ => True, fun _ => ⟨dd 61, []⟩⟩)]
noncomputable def H3 (n : Int) (l : List Int) : Nat → Option Hint := fun _ => some ⟨chk 0 [0, 1, 5, 6, 7] (fun k => k ≤ 2) (st3 n l), ex3.map (·.2)⟩
noncomputable abbrev E3 : EL := [e14, e15, e16, e17, e18, e19]
noncomputable def R3 : Exit → St → Prop := RetR (X E3) true false [.tmp 4] [.tt] []
theorem loop3 (n : Int) (l : List Int) (hl : l.length < 1000000000000000) : LoopOK (X E3) L3_0 ⟨chk 0 [0, 1, 5, 6, 7] (fun k => k ≤ 2) (st3 n l), ex3.map (·.2)⟩ R3 := by
 refine loop_ok (X_ok _) (H := fun _ _ => none) [0, 1, 5, 6, 7] (fun k => k ≤ 2) (st3 n l) (fun k => 2 - k) ex3 200 fun (k : Nat) hk => ?_
 refine of_eq (q := True ∧ True ∧ ((k : Int) < 2 → True ∧ True ∧ ((numOk (tmN n) ∧ ((1 : Nat) ≤ (roP n l k).length ∧ (roP n l k).length ≤ 10) ∧ ∀ (k_1 : Nat), k_1 < (roP n l k).length → goodAt (tmN n) (roP n l k) k_1) ∧ True) ∧ True ∧ True ∧ True ∧ True ∧ True ∧ True ∧ True ∧ True ∧ True ∧ True ∧ (¬(0 : Int) = 0 → True ∧ True ∧ True ∧ True ∧ True ∧ True ∧ True ∧ (false = true ∧ True) ∧ True) ∧ (¬¬(0 : Int) = 0 → True ∧ True ∧ (ok10 (roP n l k) ∧ True) ∧ True ∧ True ∧ True ∧ ((shB (roP n l k) != shR (roP n l k)) = true → True ∧ True ∧ True ∧ True ∧ True ∧ (false = true ∧ True) ∧ True) ∧ ((shB (roP n l k) != shR (roP n l k)) = false → True ∧ True ∧ (shB (roP n l k) = true → True ∧ True ∧ ((ok10 (roP n l k) ∧ (shL (roP n l k)).length < 1000000000000000) ∧ True) ∧ True ∧ True ∧ True ∧ True ∧ ((!sgR (roP n l k) (shL (roP n l k))) = true → True ∧ True ∧ True ∧ (false = true ∧ True) ∧ True) ∧ ((!sgR (roP n l k) (shL (roP n l k))) = false → True ∧ True ∧ True ∧ ((!shB (roP n l k)) = true → True ∧ True ∧ True ∧ True ∧ True ∧ (¬(↑(shL (roP n l k)).length : Int) = 0 → True ∧ True ∧ (false = true ∧ True) ∧ True) ∧ (¬¬(↑(shL (roP n l k)).length : Int) = 0 → True ∧ True ∧ (l.length + 1 ≤ 1000000000000000 ∧ True) ∧ True ∧ True ∧ True ∧ True ∧ True ∧ True ∧ inR .i64 ((k : Int) + 1) ∧ True ∧ ∃ (y : Nat), (y ≤ 2 ∧ (2 : Nat) - y < 2 - k) ∧ (n = n ∧ l = l ∧ tmN n = tmN n ∧ puP (tmP n l) = roP n l y ∧ (k : Int) + 1 = (y : Int) ∧ True) ∧ True)) ∧ ((!shB (roP n l k)) = false → True ∧ True ∧ True ∧ True ∧ (l.length + 1 ≤ 1000000000000000 ∧ True) ∧ True ∧ True ∧ True ∧ True ∧ True ∧ True ∧ inR .i64 ((k : Int) + 1) ∧ True ∧ ∃ (y : Nat), (y ≤ 2 ∧ (2 : Nat) - y < 2 - k) ∧ (n = n ∧ l = l ∧ tmN n = tmN n ∧ puP (tmP n l) = roP n l y ∧ (k : Int) + 1 = (y : Int) ∧ True) ∧ True))) ∧ (shB (roP n l k) = false → True ∧ True ∧ True ∧ True ∧ True ∧ True ∧ ((!shB (roP n l k)) = true → True ∧ True ∧ True ∧ True ∧ True ∧ (¬(↑(shL (roP n l k)).length : Int) = 0 → True ∧ True ∧ (false = true ∧ True) ∧ True) ∧ (¬¬(↑(shL (roP n l k)).length : Int) = 0 → True ∧ True ∧ (l.length + 1 ≤ 1000000000000000 ∧ True) ∧ True ∧ True ∧ True ∧ True ∧ True ∧ True ∧ inR .i64 ((k : Int) + 1) ∧ True ∧ ∃ (y : Nat), (y ≤ 2 ∧ (2 : Nat) - y < 2 - k) ∧ (n = n ∧ l = l ∧ tmN n = tmN n ∧ puP (tmP n l) = roP n l y ∧ (k : Int) + 1 = (y : Int) ∧ True) ∧ True)) ∧ ((!shB (roP n l k)) = false → True ∧ True ∧ True ∧ True ∧ (l.length + 1 ≤ 1000000000000000 ∧ True) ∧ True ∧ True ∧ True ∧ True ∧ True ∧ True ∧ inR .i64 ((k : Int) + 1) ∧ True ∧ ∃ (y : Nat), (y ≤ 2 ∧ (2 : Nat) - y < 2 - k) ∧ (n = n ∧ l = l ∧ tmN n = tmN n ∧ puP (tmP n l) = roP n l y ∧ (k : Int) + 1 = (y : Int) ∧ True) ∧ True))))) ∧ (¬(k : Int) < 2 → ∃ (y : Unit), True ∧ True ∧ True)) (by kernel_rfl) ?_
 simp only [zz]
 have hk : k ≤ 2 := hk
 have hc : cxOk (tmN n) (roP n l k) := by
   unfold roP; split
   · exact tm_cx n l
   · exact pu_cx n l
 have hf := sh_facts hc
 refine ⟨fun hlt => ?_, fun _ => trivial⟩
 have h10 : ok10 (roP n l k) := ⟨hc.ok, hc.2.1.2⟩
 have hsl := hf.l
 have hn : l.length + 1 ≤ 1000000000000000 ∧ inR .i64 ((k : Int) + 1) ∧ ∃ y : Nat, (y ≤ 2 ∧ 2 - y < 2 - k) ∧ puP (tmP n l) = roP n l y ∧ (k : Int) + 1 = (y : Int) := ⟨by omega, by simp only [inR]; omega, k + 1, by omega, by unfold roP; rw [if_neg (by omega)], by omega⟩
 refine ⟨hc, fun h => absurd trivial h, fun _ => ⟨h10, fun h => ?_, fun _ => ⟨fun hs => ⟨⟨h10, by omega⟩, fun h => ?_, fun _ => ⟨fun h => ?_, fun _ => hn⟩⟩, fun hs => ⟨fun _ => ⟨fun h => ?_, fun _ => hn⟩, fun _ => hn⟩⟩⟩⟩
 · rw [hf.e] at h; simp at h
 · rw [hf.s hs] at h; cases h
 · rw [hs] at h; cases h
 · rw [hf.z hs] at h; exact absurd rfl h
theorem call3 (n : Int) (l : List Int) (hl : l.length < 1000000000000000) : GCall Try.prog gl 3 true [.int .i64 n, .sl I64 l] [] [.tt] [] := by
 refine gcall_of (X := (X E3)) ((X_ok _)) (f := 3) (fn := Try.f3) (c := bodyOf Try.f3) (by kernel_rfl) (by kernel_rfl) (view := false) (rvs := [.tmp 4]) (by kernel_rfl) (H := (H3 n l)) 200 (by kernel_rfl) ?_
 have hL := loop3 n l hl
 refine of_eq (q := True ∧ True ∧ True ∧ (l.length + 1 ≤ 1000000000000000 ∧ True) ∧ True ∧ True ∧ True ∧ True ∧ True ∧ True ∧ LoopOK (X E3) L3_0 { J := chk (0 : Nat) [(0 : Nat), (1 : Nat), (5 : Nat), (6 : Nat), (7 : Nat)] (fun (k : Nat) => k ≤ 2) (st3 n l), exits := List.map (fun (x : List Nat × Ex) => x.snd) ex3 } R3 ∧ (∃ (y : Nat), y ≤ 2 ∧ (n = n ∧ l = l ∧ tmN n = tmN n ∧ tmP n l = roP n l y ∧ (0 : Int) = (y : Int) ∧ True) ∧ True) ∧ (∀ (y : Unit), True → (True ∧ True) ∧ True ∧ True ∧ (true = true ∧ True) ∧ True) ∧ True) (by kernel_rfl) ?_
 simp only [zz]
 exact ⟨by omega, hL, ⟨0, by omega, rfl, rfl⟩, fun _ h => h⟩
end Go.Am.Sh

/- Shells: from the laws' contracts to the given statements: what all laws share. -/
namespace Go.Proofs.Ytfpoonbcnabihaa
open Go Go.ChangeShapes Go.WideShapes Go.ChangeAt Go.RowKit Go.Am Go.Am.Sh
theorem own : ownKnob Try.prog.godebug = none := by kernel_rfl
theorem laidOut : laidOutB Try.prog = true := by kernel_rfl
theorem u3 : Try.prog.underlying 3 = some (.int .i64) := by kernel_rfl
theorem u4 : Try.prog.underlying 4 = some .bool := by kernel_rfl
theorem u22 : Try.prog.underlying 22 = some (.slice 3) := by kernel_rfl
theorem tyOk3 : TyOk Try.prog 3 I64 := u3
theorem tyOk22 : TyOk Try.prog 22 (.sl I64) := ⟨3, u22, u3, by kernel_rfl, by decide, of_decide_eq_true (by kernel_rfl)⟩
theorem reach_le {l : List Nat} (h : l.all (fun x => decide (x ≤ reachBytes)) = true) : ∀ n ∈ l, n ≤ 140737488355328 := fun n hn => by
 have := of_decide_eq_true (List.all_eq_true.mp h n hn)
 have e : reachBytes = 140737488351232 := rfl
 omega
theorem glob_of {W : World} : GlobOk gl (fun b => b < W.heap.size) W := fun g p hp => by cases hp
end Go.Proofs.Ytfpoonbcnabihaa
