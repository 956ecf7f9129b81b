/- Part B4 of the proof that the law named in the last file returns true at every input and leaves its arguments as they were; no condition of its own. -/
import Derived.Test.YtfpoonbcnabihaaB3
set_option linter.unusedSimpArgs false
set_option linter.unusedVariables false
/- Shells: a shelling is searched. -/
namespace Go.Am.Sh
open Go Go.Am Go.Proofs
noncomputable def Xb (l : EL) (m0 : Nat) (bs : List Nat) (dr : Nat → Option Nat) : Cy := { mkX Try.prog tt gl l m0 dr with bs := bs }
theorem Xb_ok (l : EL) (m0 : Nat) (bs : List Nat) (dr : Nat → Option Nat) : (Xb l m0 bs dr).Ok := (mkX_ok tt_ok l m0 dr).bump bs
abbrev Mm := List (Int × Bool)
abbrev Res := Bool × List Int × Mm
def mg (m : Mm) (d : Int) : Bool := (mGet I64 m d).getD false
def mp (m : Mm) (d : Int) : Mm := mPut I64 m d true
/-- The first rounds, until one comes to an end. -/
def lpK (p : List Int) (f : Nat → List Int → Mm → Res) (D : Nat) (l : List Int) (m : Mm) : Nat → Res
 | 0 => (false, l, m)
 | k + 1 => if (lpK p f D l m k).1 = true then lpK p f D l m k else if D / 2 ^ k % 2 = 1 ∨ flw p D k = false then lpK p f D l m k else
     if (f (D ||| 2 ^ k) (l ++ [(k : Int)]) (lpK p f D l m k).2.2).1 = true then f (D ||| 2 ^ k) (l ++ [(k : Int)]) (lpK p f D l m k).2.2
     else (false, l, (f (D ||| 2 ^ k) (l ++ [(k : Int)]) (lpK p f D l m k).2.2).2.2)
/-- The search; as many levels as pieces are left. -/
def gr (p : List Int) : Nat → Nat → List Int → Mm → Res
 | 0, _, l, m => (true, l, m)
 | n + 1, D, l, m => if mg m D = true then (false, l, m) else if (lpK p (gr p n) D l m p.length).1 = true then lpK p (gr p n) D l m p.length else (false, l, mp (lpK p (gr p n) D l m p.length).2.2 D)
theorem gr_list {p : List Int} {n D : Nat} {l : List Int} {m : Mm} (h : (gr p n D l m).1 = false) : (gr p n D l m).2.1 = l := by
 cases n with
 | zero => cases h
 | succ n =>
   rw [gr] at h ⊢
   split
   · rfl
   · rename_i h1; rw [if_neg h1] at h
     split
     · rename_i h2; rw [if_pos h2, h2] at h; cases h
     · rfl
theorem lpK_stop {p : List Int} {f : Nat → List Int → Mm → Res} {D : Nat} {l : List Int} {m : Mm} {k : Nat} (h : (lpK p f D l m k).1 = true) : ∀ j, lpK p f D l m (k + j) = lpK p f D l m k
 | 0 => rfl
 | j + 1 => by rw [show k + (j + 1) = k + j + 1 by omega, lpK, lpK_stop h j, if_pos h]
def clo55 (a b c d : Nat) : AV := .clo 55 [] [.ptr a 0 [], .ptr b 0 [], .ptr c 0 [], .ptr d 0 []]
def mmO (m : Mm) : Ob := .mo I64 .bool m
def gS (v : Nat) (n : Int) (p l : List Int) (m : Mm) : List Ob := [.bx (.own 1 v), .sc v 3 I64 l, .bx (.ptr 3 0 []), cxO n p, .bx (.mp 5), mmO m, .bx (clo55 0 2 4 6)]
def aS (D : Int) : List AV := [.int .i64 D, .ptr 0 0 [], .ptr 2 0 [], .ptr 4 0 [], .ptr 6 0 []]
structure pre55 (n : Int) (p : List Int) (lv D : Nat) (l : List Int) : Prop where
 h : cxOk n p
 D : D < 2 ^ p.length
 l : l.length + lv = p.length
def GS (lv : Nat) : Prop := ∀ (n : Int) (p : List Int) (D : Nat) (l : List Int) (m : Mm), pre55 n p lv D l → GCall Try.prog gl 55 false (aS D) (gS 0 n p l m) [.bool (gr p lv D l m).1] (gS 1 n p (gr p lv D l m).2.1 (gr p lv D l m).2.2)
def unMm : Ob → Option Mm
 | .mo k v m => (if h : k = I64 ∧ v = .bool then some (by obtain ⟨rfl, rfl⟩ := h; exact m) else none)
 | _ => none
def unSc : Ob → Option (List Int)
 | .sc _ _ e xs => castL e I64 xs
 | _ => none
abbrev G5 := Int × Cx3 × List Int × Mm
def get55 (xs : List AV) (obs : List Ob) : Option G5 :=
 match xs with
 | .int .i64 d :: _ => (match unSc (obs.getD 1 .gone), unCx (obs.getD 3 .gone), unMm (obs.getD 5 .gone) with
   | some l, some x, some m => some (d, x, l, m)
   | _, _, _ => none)
 | _ => none
def gSq (v : Nat) (x : Cx3) (l : List Int) (m : Mm) : List Ob := [.bx (.own 1 v), .sc v 3 I64 l, .bx (.ptr 3 0 []), cxQ x, .bx (.mp 5), mmO m, .bx (clo55 0 2 4 6)]
structure ok55 (lv : Nat) (x : G5) : Prop where
 h : okC x.2.1
 d : 0 ≤ x.1
 p : pre55 x.2.1.1 x.2.1.2.1 lv x.1.toNat x.2.2.1
def e55S (lv : Nat) (h : GS lv) : Entry Try.prog gl := entryW 55 ⟨Try.f55, by kernel_rfl, by kernel_rfl, by kernel_rfl⟩ true get55 (ok55 lv) false (fun x => aS x.1) (fun x => gSq 0 x.2.1 x.2.2.1 x.2.2.2) (fun x => [.bool (gr x.2.1.2.1 lv x.1.toNat x.2.2.1 x.2.2.2).1])
 (fun x => gSq 1 x.2.1 (gr x.2.1.2.1 lv x.1.toNat x.2.2.1 x.2.2.2).2.1 (gr x.2.1.2.1 lv x.1.toNat x.2.2.1 x.2.2.2).2.2) (fun x hx => by
   have := h _ _ _ _ x.2.2.2 hx.p
   rw [Int.toNat_of_nonneg hx.d] at this
   have e : ∀ v l m, gSq v x.2.1 l m = gS v x.2.1.1 x.2.1.2.1 l m := fun v l m => by unfold gSq gS; rw [cxQ_ok hx.h]
   rw [e, e]; exact this)
noncomputable abbrev X55 (es : EL) : Cy := Xb es 7 [1] (fun _ => none)
theorem gS0 : GS 0 := by
 intro n p D l m hp
 refine gcall_of (X := (X55 [e56])) ((Xb_ok _ _ _ _)) (f := 55) (fn := Try.f55) (c := bodyOf Try.f55) (by kernel_rfl) (by kernel_rfl) (view := false) (rvs := [.tmp 6]) (by kernel_rfl) (H := fun _ => none) 80 (by kernel_rfl) ?_
 refine of_eq (q := True ∧ True ∧ True ∧ True ∧ True ∧ True ∧ True ∧ True ∧ True ∧ ((l.length : Int) = (p.length : Int) → True ∧ True ∧ (true = true ∧ True) ∧ True ∧ l = (gr p (0 : Nat) D l m).snd.fst ∧ True ∧ (n = n ∧ p = p ∧ mk (isF p) = mk (isF p) ∧ True) ∧ True ∧ m = (gr p (0 : Nat) D l m).snd.snd ∧ (True ∧ True ∧ True ∧ True ∧ True ∧ True) ∧ True) ∧ (¬(l.length : Int) = (p.length : Int) → True ∧ True ∧ True ∧ ((mGet I64 m (D : Int)).getD false = true → True ∧ True ∧ (false = true ∧ True) ∧ True ∧ l = (gr p (0 : Nat) D l m).snd.fst ∧ True ∧ (n = n ∧ p = p ∧ mk (isF p) = mk (isF p) ∧ True) ∧ True ∧ m = (gr p (0 : Nat) D l m).snd.snd ∧ (True ∧ True ∧ True ∧ True ∧ True ∧ True) ∧ True) ∧ ((mGet I64 m (D : Int)).getD false = false → True ∧ True ∧ True ∧ True ∧ True ∧ True ∧ False))) (by kernel_rfl) ?_
 simp only [zz]
 have h1 := hp.l
 exact ⟨fun _ => ⟨rfl, rfl⟩, fun h => absurd (by omega) h⟩
noncomputable def L55_0 : Code := lp (bodyOf Try.f55) 0
theorem or_pow10 {D k : Nat} (hD : D < 1024) (hk : k < 10) : bOr .i64 (D : Int) (1 * 2 ^ k) = ((D ||| 2 ^ k : Nat) : Int) ∧ D ||| 2 ^ k < 1024 ∧ (1 : Int) * 2 ^ k ≤ 512 ∧ (0 : Int) ≤ 1 * 2 ^ k := by
 have h2 : 2 ^ k ≤ 2 ^ 9 := Nat.pow_le_pow_right (by decide) (by omega)
 have e : (2 ^ k : Int) = ((2 ^ k : Nat) : Int) := by rw [Int.natCast_pow]; try rfl
 have h3 : D ||| 2 ^ k < 2 ^ 10 := Nat.or_lt_two_pow hD (by omega)
 have hb : bOr .i64 (D : Int) ((2 ^ k : Nat) : Int) = ((D ||| 2 ^ k : Nat) : Int) := bOr_nat (by omega) (by omega)
 rw [Int.one_mul, e]
 refine ⟨hb, by omega, ?_, Int.natCast_nonneg _⟩
 generalize 2 ^ k = P at *
 omega
theorem lpK_go {p : List Int} {f : Nat → List Int → Mm → Res} {D : Nat} {l : List Int} {m : Mm} {k : Nat} (h : (lpK p f D l m k).1 = false) : lpK p f D l m (k + 1) = if D / 2 ^ k % 2 = 1 ∨ flw p D k = false then lpK p f D l m k else
     if (f (D ||| 2 ^ k) (l ++ [(k : Int)]) (lpK p f D l m k).2.2).1 = true then f (D ||| 2 ^ k) (l ++ [(k : Int)]) (lpK p f D l m k).2.2
     else (false, l, (f (D ||| 2 ^ k) (l ++ [(k : Int)]) (lpK p f D l m k).2.2).2.2) := by rw [lpK, if_neg (by simp [h])]
theorem pre_D {n : Int} {p : List Int} {lv D : Nat} {l : List Int} (h : pre55 n p lv D l) : D < 1024 := by
 have := Nat.pow_le_pow_right (show 0 < 2 by decide) h.h.2.1.2
 have := h.D
 omega
def stS (v : Nat) (n : Int) (p : List Int) (f : Nat → List Int → Mm → Res) (D : Nat) (l : List Int) (m : Mm) (k : Nat) : St := ⟨aS D ++ dd 18 ++ .int .i64 p.length :: .int .i64 k :: dd 34, gS v n p l (lpK p f D l m k).2.2⟩
def inS (p : List Int) (f : Nat → List Int → Mm → Res) (D : Nat) (l : List Int) (m : Mm) (k : Nat) : Prop := k ≤ p.length ∧ (lpK p f D l m k).1 = false
def fmS (n : Int) (p : List Int) (f : Nat → List Int → Mm → Res) (D : Nat) (l : List Int) (m : Mm) : List Fam := [⟨Nat, inS p f D l m, stS 0 n p f D l m, fun k => p.length - k, fun _ _ => none⟩, ⟨Nat, inS p f D l m, stS 1 n p f D l m, fun k => p.length - k, fun _ _ => none⟩]
def exS (n : Int) (p : List Int) (f : Nat → List Int → Mm → Res) (D : Nat) (l : List Int) (m : Mm) : List (List Nat × Ex) := [([0, 1, 2, 3, 4], ⟨0, Unit, fun _ => (lpK p f D l m p.length).1 = false, fun _ => ⟨aS D ++ dd 54, gS 0 n p l (lpK p f D l m p.length).2.2⟩⟩), ([0, 1, 2, 3, 4], ⟨0, Unit, fun _ => (lpK p f D l m p.length).1 = false, fun _ => ⟨aS D ++ dd 54, gS 1 n p l (lpK p f D l m p.length).2.2⟩⟩)]
def hS (n : Int) (p : List Int) (f : Nat → List Int → Mm → Res) (D : Nat) (l : List Int) (m : Mm) : Hint := ⟨chks 7 [0, 1, 2, 3, 4, 23, 24] (fmS n p f D l m), (exS n p f D l m).map (·.2)⟩
noncomputable def HS (n : Int) (p : List Int) (f : Nat → List Int → Mm → Res) (D : Nat) (l : List Int) (m : Mm) : Nat → Option Hint := fun _ => some (hS n p f D l m)
theorem loopS (lv : Nat) (h' : GS lv) (n : Int) (p : List Int) (D : Nat) (l : List Int) (m : Mm) (hp : pre55 n p (lv + 1) D l) (hm : ¬ mg m D = true) : LoopOK (X55 [e56, e55S lv h']) L55_0 (hS n p (gr p lv) D l m)
   (RetR (X55 [e56, e55S lv h']) false false [.tmp 6] [.bool (gr p (lv + 1) D l m).1] (gS 1 n p (gr p (lv + 1) D l m).2.1 (gr p (lv + 1) D l m).2.2)) := by
 refine loop_fams (Xb_ok _ _ _ _) [0, 1, 2, 3, 4, 23, 24] (fmS n p (gr p lv) D l m) (exS n p (gr p lv) D l m) 150 ⟨fun (k : Nat) hk => ?_, fun (k : Nat) hk => ?_, trivial⟩
 · refine of_eq (q := True ∧ ((k : Int) < (p.length : Int) → True ∧ True ∧ True ∧ True ∧ inR .u64 (k : Int) ∧ ((0 : Int) ≤ (k : Int) ∧ (k : Int) < bitsOf .i64) ∧ True ∧ True ∧ True ∧ (bAnd .i64 ((D : Int) / (2 : Int) ^ k) (1 : Int) = 1 → True ∧ inR .i64 ((k : Int) + 1) ∧ True ∧ ((∃ (y : Nat), (inS p (gr p lv) D l m y ∧ p.length - y < p.length - k) ∧ ((D : Int) = (D : Int) ∧ True ∧ True ∧ True ∧ True ∧ (p.length : Int) = (p.length : Int) ∧ (k : Int) + 1 = (y : Int) ∧ True) ∧ True ∧ l = l ∧ True ∧ (n = n ∧ p = p ∧ mk (isF p) = mk (isF p) ∧ True) ∧ True ∧ (lpK p (gr p lv) D l m k).snd.snd = (lpK p (gr p lv) D l m y).snd.snd ∧ (True ∧ True ∧ True ∧ True ∧ True ∧ True) ∧ True) ∨ ∃ (y : Nat), (inS p (gr p lv) D l m y ∧ p.length - y < p.length - k) ∧ ((D : Int) = (D : Int) ∧ True ∧ True ∧ True ∧ True ∧ (p.length : Int) = (p.length : Int) ∧ (k : Int) + 1 = (y : Int) ∧ True) ∧ False ∧ False ∧ True ∧ (n = n ∧ p = p ∧ mk (isF p) = mk (isF p) ∧ True) ∧ True ∧ (lpK p (gr p lv) D l m k).snd.snd = (lpK p (gr p lv) D l m y).snd.snd ∧ (True ∧ True ∧ True ∧ True ∧ True ∧ True) ∧ True)) ∧ (¬bAnd .i64 ((D : Int) / (2 : Int) ^ k) (1 : Int) = 1 → True ∧ True ∧ True ∧ ((ok56 ((D : Int), (k : Int), n, p, mk (isF p)) ∧ (True ∧ (D : Int) = (D : Int) ∧ (k : Int) = (k : Int) ∧ True) ∧ (n = n ∧ p = p ∧ mk (isF p) = mk (isF p) ∧ True) ∧ True) ∧ True ∧ True) ∧ True ∧ True ∧ ((!flw p D k) = true → inR .i64 ((k : Int) + 1) ∧ True ∧ ((∃ (y : Nat), (inS p (gr p lv) D l m y ∧ p.length - y < p.length - k) ∧ ((D : Int) = (D : Int) ∧ True ∧ True ∧ True ∧ True ∧ (p.length : Int) = (p.length : Int) ∧ (k : Int) + 1 = (y : Int) ∧ True) ∧ True ∧ l = l ∧ True ∧ (n = n ∧ p = p ∧ mk (isF p) = mk (isF p) ∧ True) ∧ True ∧ (lpK p (gr p lv) D l m k).snd.snd = (lpK p (gr p lv) D l m y).snd.snd ∧ (True ∧ True ∧ True ∧ True ∧ True ∧ True) ∧ True) ∨ ∃ (y : Nat), (inS p (gr p lv) D l m y ∧ p.length - y < p.length - k) ∧ ((D : Int) = (D : Int) ∧ True ∧ True ∧ True ∧ True ∧ (p.length : Int) = (p.length : Int) ∧ (k : Int) + 1 = (y : Int) ∧ True) ∧ False ∧ False ∧ True ∧ (n = n ∧ p = p ∧ mk (isF p) = mk (isF p) ∧ True) ∧ True ∧ (lpK p (gr p lv) D l m k).snd.snd = (lpK p (gr p lv) D l m y).snd.snd ∧ (True ∧ True ∧ True ∧ True ∧ True ∧ True) ∧ True)) ∧ ((!flw p D k) = false → True ∧ True ∧ True ∧ sumPre l.length [(k : Int)].length (nat_lit 8) ∧ True ∧ True ∧ True ∧ True ∧ inR .u64 (k : Int) ∧ (((0 : Int) ≤ (k : Int) ∧ (k : Int) < bitsOf .i64) ∧ (-9223372036854775808 : Int) ≤ 1 * 2 ^ k ∧ (1 : Int) * 2 ^ k ≤ 9223372036854775807) ∧ True ∧ ((ok55 lv (bOr .i64 (D : Int) ((1 : Int) * 2 ^ k), (n, p, mk (isF p)), l ++ [(k : Int)], (lpK p (gr p lv) D l m k).snd.snd) ∧ (bOr .i64 (D : Int) ((1 : Int) * 2 ^ k) = bOr .i64 (D : Int) ((1 : Int) * 2 ^ k) ∧ True ∧ True ∧ True ∧ True ∧ True) ∧ True ∧ l ++ [(k : Int)] = l ++ [(k : Int)] ∧ True ∧ (n = n ∧ p = p ∧ mk (isF p) = mk (isF p) ∧ True) ∧ True ∧ (lpK p (gr p lv) D l m k).snd.snd = (lpK p (gr p lv) D l m k).snd.snd ∧ (True ∧ True ∧ True ∧ True ∧ True ∧ True) ∧ True) ∧ True ∧ True ∧ True ∧ True ∧ True ∧ True ∧ True ∧ True) ∧ ((gr p lv (bOr .i64 (D : Int) ((1 : Int) * 2 ^ k)).toNat (l ++ [(k : Int)]) (lpK p (gr p lv) D l m k).snd.snd).fst = true → True ∧ True ∧ (true = (gr p (lv + 1) D l m).fst ∧ True) ∧ True ∧ (gr p lv (bOr .i64 (D : Int) ((1 : Int) * 2 ^ k)).toNat (l ++ [(k : Int)]) (lpK p (gr p lv) D l m k).snd.snd).snd.fst = (gr p (lv + 1) D l m).snd.fst ∧ True ∧ (n = n ∧ p = p ∧ mk (isF p) = mk (isF p) ∧ True) ∧ True ∧ (gr p lv (bOr .i64 (D : Int) ((1 : Int) * 2 ^ k)).toNat (l ++ [(k : Int)]) (lpK p (gr p lv) D l m k).snd.snd).snd.snd = (gr p (lv + 1) D l m).snd.snd ∧ (True ∧ True ∧ True ∧ True ∧ True ∧ True) ∧ True) ∧ ((gr p lv (bOr .i64 (D : Int) ((1 : Int) * 2 ^ k)).toNat (l ++ [(k : Int)]) (lpK p (gr p lv) D l m k).snd.snd).fst = false → True ∧ True ∧ True ∧ inR .i64 ((↑(gr p lv (bOr .i64 (D : Int) ((1 : Int) * 2 ^ k)).toNat (l ++ [(k : Int)]) (lpK p (gr p lv) D l m k).snd.snd).snd.fst.length : Int) - 1) ∧ ((0 : Int) ≤ (↑(gr p lv (bOr .i64 (D : Int) ((1 : Int) * 2 ^ k)).toNat (l ++ [(k : Int)]) (lpK p (gr p lv) D l m k).snd.snd).snd.fst.length : Int) - 1 ∧ (↑(gr p lv (bOr .i64 (D : Int) ((1 : Int) * 2 ^ k)).toNat (l ++ [(k : Int)]) (lpK p (gr p lv) D l m k).snd.snd).snd.fst.length : Int) - 1 ≤ (↑(gr p lv (bOr .i64 (D : Int) ((1 : Int) * 2 ^ k)).toNat (l ++ [(k : Int)]) (lpK p (gr p lv) D l m k).snd.snd).snd.fst.length : Int)) ∧ True ∧ inR .i64 ((k : Int) + 1) ∧ True ∧ ((∃ (y : Nat), (inS p (gr p lv) D l m y ∧ p.length - y < p.length - k) ∧ ((D : Int) = (D : Int) ∧ True ∧ True ∧ True ∧ True ∧ (p.length : Int) = (p.length : Int) ∧ (k : Int) + 1 = (y : Int) ∧ True) ∧ False ∧ False ∧ True ∧ (n = n ∧ p = p ∧ mk (isF p) = mk (isF p) ∧ True) ∧ True ∧ (gr p lv (bOr .i64 (D : Int) ((1 : Int) * 2 ^ k)).toNat (l ++ [(k : Int)]) (lpK p (gr p lv) D l m k).snd.snd).snd.snd = (lpK p (gr p lv) D l m y).snd.snd ∧ (True ∧ True ∧ True ∧ True ∧ True ∧ True) ∧ True) ∨ ∃ (y : Nat), (inS p (gr p lv) D l m y ∧ p.length - y < p.length - k) ∧ ((D : Int) = (D : Int) ∧ True ∧ True ∧ True ∧ True ∧ (p.length : Int) = (p.length : Int) ∧ (k : Int) + 1 = (y : Int) ∧ True) ∧ True ∧ List.take ((↑(gr p lv (bOr .i64 (D : Int) ((1 : Int) * 2 ^ k)).toNat (l ++ [(k : Int)]) (lpK p (gr p lv) D l m k).snd.snd).snd.fst.length : Int) - 1).toNat (gr p lv (bOr .i64 (D : Int) ((1 : Int) * 2 ^ k)).toNat (l ++ [(k : Int)]) (lpK p (gr p lv) D l m k).snd.snd).snd.fst = l ∧ True ∧ (n = n ∧ p = p ∧ mk (isF p) = mk (isF p) ∧ True) ∧ True ∧ (gr p lv (bOr .i64 (D : Int) ((1 : Int) * 2 ^ k)).toNat (l ++ [(k : Int)]) (lpK p (gr p lv) D l m k).snd.snd).snd.snd = (lpK p (gr p lv) D l m y).snd.snd ∧ (True ∧ True ∧ True ∧ True ∧ True ∧ True) ∧ True))))) ∧ (¬(k : Int) < (p.length : Int) → (∃ (y : Unit), (lpK p (gr p lv) D l m p.length).fst = false ∧ ((D : Int) = (D : Int) ∧ True ∧ True ∧ True ∧ True ∧ True) ∧ True ∧ l = l ∧ True ∧ (n = n ∧ p = p ∧ mk (isF p) = mk (isF p) ∧ True) ∧ True ∧ (lpK p (gr p lv) D l m k).snd.snd = (lpK p (gr p lv) D l m p.length).snd.snd ∧ (True ∧ True ∧ True ∧ True ∧ True ∧ True) ∧ True) ∨ ∃ (y : Unit), (lpK p (gr p lv) D l m p.length).fst = false ∧ ((D : Int) = (D : Int) ∧ True ∧ True ∧ True ∧ True ∧ True) ∧ False ∧ False ∧ True ∧ (n = n ∧ p = p ∧ mk (isF p) = mk (isF p) ∧ True) ∧ True ∧ (lpK p (gr p lv) D l m k).snd.snd = (lpK p (gr p lv) D l m p.length).snd.snd ∧ (True ∧ True ∧ True ∧ True ∧ True ∧ True) ∧ True)) (by kernel_rfl) ?_
   simp only [zz]
   obtain ⟨k1, k2⟩ := hk
   have hl := hp.l
   have hc := hp.h.2.1
   have hD := pre_D hp
   refine ⟨fun h => ?_, fun h => by rw [show p.length = k by omega]; exact ⟨k2, rfl⟩⟩
   have hkp : k < p.length := by omega
   have hb := or_pow10 hD (k := k) (by omega)
   have hst := lpK_go k2
   rw [bit_shr hD, hb.1, Int.toNat_natCast]
   have hskip : (D / 2 ^ k % 2 = 1 ∨ flw p D k = false) → inR .i64 ((k : Int) + 1) ∧ ∃ y : Nat, (inS p (gr p lv) D l m y ∧ p.length - y < p.length - k) ∧ (k : Int) + 1 = (y : Int) ∧ (lpK p (gr p lv) D l m k).2.2 = (lpK p (gr p lv) D l m y).2.2 := fun hh => by
     rw [if_pos hh] at hst
     exact ⟨by simp only [inR]; omega, k + 1, ⟨⟨by omega, by rw [hst]; exact k2⟩, by omega⟩, by omega, by rw [hst]⟩
   refine ⟨by simp only [inR]; omega, ⟨by omega, by simp only [bitsOf]; omega⟩, fun hx => hskip (.inl (by omega)), fun hx => ⟨⟨⟨hp.h, rfl⟩, ⟨by simp only; omega, by simp only; omega⟩, ⟨by simp only; omega, by simp only; omega⟩⟩, fun hx2 => hskip (.inr (by simpa using hx2)), fun hx2 => ?_⟩⟩
   have hx2 : flw p D k = true := by simpa using hx2
   rw [if_neg (by simp [hx2]; omega)] at hst
   have hlt : D ||| 2 ^ k < 2 ^ p.length := Nat.or_lt_two_pow hp.D (Nat.pow_lt_pow_right (by decide) hkp)
   have hpre : pre55 n p lv (D ||| 2 ^ k) (l ++ [(k : Int)]) := ⟨hp.h, hlt, by simp; omega⟩
   refine ⟨by unfold sumPre; simp; omega, by simp only [inR]; omega, ⟨⟨by omega, by simp only [bitsOf]; omega⟩, by omega, by omega⟩, ⟨⟨hp.h, rfl⟩, by simp only; omega, hpre⟩, fun hr => ?_, fun hr => ?_⟩
   · have hr : (gr p lv (D ||| 2 ^ k) (l ++ [(k : Int)]) (lpK p (gr p lv) D l m k).2.2).1 = true := hr
     rw [if_pos hr] at hst
     have hs := lpK_stop (k := k + 1) (by rw [hst]; exact hr) (p.length - (k + 1))
     rw [show k + 1 + (p.length - (k + 1)) = p.length by omega, hst] at hs
     have e : gr p (lv + 1) D l m = gr p lv (D ||| 2 ^ k) (l ++ [(k : Int)]) (lpK p (gr p lv) D l m k).2.2 := by rw [gr, if_neg hm, hs, if_pos hr]
     rw [e]
     exact ⟨hr.symm, rfl, rfl⟩
   · have hr : (gr p lv (D ||| 2 ^ k) (l ++ [(k : Int)]) (lpK p (gr p lv) D l m k).2.2).1 = false := hr
     rw [if_neg (by simp [hr])] at hst
     have h2 := gr_list hr
     have q1 : inR .i64 (((gr p lv (D ||| 2 ^ k) (l ++ [(k : Int)]) (lpK p (gr p lv) D l m k).2.2).2.1.length : Int) - 1) := by rw [h2]; simp only [inR]; simp; omega
     have q2 : 0 ≤ ((gr p lv (D ||| 2 ^ k) (l ++ [(k : Int)]) (lpK p (gr p lv) D l m k).2.2).2.1.length : Int) - 1 ∧ ((gr p lv (D ||| 2 ^ k) (l ++ [(k : Int)]) (lpK p (gr p lv) D l m k).2.2).2.1.length : Int) - 1 ≤ ((gr p lv (D ||| 2 ^ k) (l ++ [(k : Int)]) (lpK p (gr p lv) D l m k).2.2).2.1.length : Int) := by rw [h2]; simp; omega
     have q3 : (gr p lv (D ||| 2 ^ k) (l ++ [(k : Int)]) (lpK p (gr p lv) D l m k).2.2).2.1.take (((gr p lv (D ||| 2 ^ k) (l ++ [(k : Int)]) (lpK p (gr p lv) D l m k).2.2).2.1.length : Int) - 1).toNat = l := by rw [h2]; simp
     have q4 : (gr p lv (D ||| 2 ^ k) (l ++ [(k : Int)]) (lpK p (gr p lv) D l m k).2.2).2.2 = (lpK p (gr p lv) D l m (k + 1)).2.2 := by rw [hst]
     exact ⟨q1, q2, by simp only [inR]; omega, k + 1, ⟨⟨by omega, by rw [hst]⟩, by omega⟩, by omega, q3, q4⟩
 · refine of_eq (q := True ∧ ((k : Int) < (p.length : Int) → True ∧ True ∧ True ∧ True ∧ inR .u64 (k : Int) ∧ ((0 : Int) ≤ (k : Int) ∧ (k : Int) < bitsOf .i64) ∧ True ∧ True ∧ True ∧ (bAnd .i64 ((D : Int) / (2 : Int) ^ k) (1 : Int) = 1 → True ∧ inR .i64 ((k : Int) + 1) ∧ True ∧ ((∃ (y : Nat), (inS p (gr p lv) D l m y ∧ p.length - y < p.length - k) ∧ ((D : Int) = (D : Int) ∧ True ∧ True ∧ True ∧ True ∧ (p.length : Int) = (p.length : Int) ∧ (k : Int) + 1 = (y : Int) ∧ True) ∧ False ∧ False ∧ True ∧ (n = n ∧ p = p ∧ mk (isF p) = mk (isF p) ∧ True) ∧ True ∧ (lpK p (gr p lv) D l m k).snd.snd = (lpK p (gr p lv) D l m y).snd.snd ∧ (True ∧ True ∧ True ∧ True ∧ True ∧ True) ∧ True) ∨ ∃ (y : Nat), (inS p (gr p lv) D l m y ∧ p.length - y < p.length - k) ∧ ((D : Int) = (D : Int) ∧ True ∧ True ∧ True ∧ True ∧ (p.length : Int) = (p.length : Int) ∧ (k : Int) + 1 = (y : Int) ∧ True) ∧ True ∧ l = l ∧ True ∧ (n = n ∧ p = p ∧ mk (isF p) = mk (isF p) ∧ True) ∧ True ∧ (lpK p (gr p lv) D l m k).snd.snd = (lpK p (gr p lv) D l m y).snd.snd ∧ (True ∧ True ∧ True ∧ True ∧ True ∧ True) ∧ True)) ∧ (¬bAnd .i64 ((D : Int) / (2 : Int) ^ k) (1 : Int) = 1 → True ∧ True ∧ True ∧ ((ok56 ((D : Int), (k : Int), n, p, mk (isF p)) ∧ (True ∧ (D : Int) = (D : Int) ∧ (k : Int) = (k : Int) ∧ True) ∧ (n = n ∧ p = p ∧ mk (isF p) = mk (isF p) ∧ True) ∧ True) ∧ True ∧ True) ∧ True ∧ True ∧ ((!flw p D k) = true → inR .i64 ((k : Int) + 1) ∧ True ∧ ((∃ (y : Nat), (inS p (gr p lv) D l m y ∧ p.length - y < p.length - k) ∧ ((D : Int) = (D : Int) ∧ True ∧ True ∧ True ∧ True ∧ (p.length : Int) = (p.length : Int) ∧ (k : Int) + 1 = (y : Int) ∧ True) ∧ False ∧ False ∧ True ∧ (n = n ∧ p = p ∧ mk (isF p) = mk (isF p) ∧ True) ∧ True ∧ (lpK p (gr p lv) D l m k).snd.snd = (lpK p (gr p lv) D l m y).snd.snd ∧ (True ∧ True ∧ True ∧ True ∧ True ∧ True) ∧ True) ∨ ∃ (y : Nat), (inS p (gr p lv) D l m y ∧ p.length - y < p.length - k) ∧ ((D : Int) = (D : Int) ∧ True ∧ True ∧ True ∧ True ∧ (p.length : Int) = (p.length : Int) ∧ (k : Int) + 1 = (y : Int) ∧ True) ∧ True ∧ l = l ∧ True ∧ (n = n ∧ p = p ∧ mk (isF p) = mk (isF p) ∧ True) ∧ True ∧ (lpK p (gr p lv) D l m k).snd.snd = (lpK p (gr p lv) D l m y).snd.snd ∧ (True ∧ True ∧ True ∧ True ∧ True ∧ True) ∧ True)) ∧ ((!flw p D k) = false → True ∧ True ∧ True ∧ sumPre l.length [(k : Int)].length (nat_lit 8) ∧ True ∧ True ∧ True ∧ True ∧ inR .u64 (k : Int) ∧ (((0 : Int) ≤ (k : Int) ∧ (k : Int) < bitsOf .i64) ∧ (-9223372036854775808 : Int) ≤ 1 * 2 ^ k ∧ (1 : Int) * 2 ^ k ≤ 9223372036854775807) ∧ True ∧ ((ok55 lv (bOr .i64 (D : Int) ((1 : Int) * 2 ^ k), (n, p, mk (isF p)), l ++ [(k : Int)], (lpK p (gr p lv) D l m k).snd.snd) ∧ (bOr .i64 (D : Int) ((1 : Int) * 2 ^ k) = bOr .i64 (D : Int) ((1 : Int) * 2 ^ k) ∧ True ∧ True ∧ True ∧ True ∧ True) ∧ True ∧ l ++ [(k : Int)] = l ++ [(k : Int)] ∧ True ∧ (n = n ∧ p = p ∧ mk (isF p) = mk (isF p) ∧ True) ∧ True ∧ (lpK p (gr p lv) D l m k).snd.snd = (lpK p (gr p lv) D l m k).snd.snd ∧ (True ∧ True ∧ True ∧ True ∧ True ∧ True) ∧ True) ∧ True ∧ True ∧ True ∧ True ∧ True ∧ True ∧ True ∧ True) ∧ ((gr p lv (bOr .i64 (D : Int) ((1 : Int) * 2 ^ k)).toNat (l ++ [(k : Int)]) (lpK p (gr p lv) D l m k).snd.snd).fst = true → True ∧ True ∧ (true = (gr p (lv + 1) D l m).fst ∧ True) ∧ True ∧ (gr p lv (bOr .i64 (D : Int) ((1 : Int) * 2 ^ k)).toNat (l ++ [(k : Int)]) (lpK p (gr p lv) D l m k).snd.snd).snd.fst = (gr p (lv + 1) D l m).snd.fst ∧ True ∧ (n = n ∧ p = p ∧ mk (isF p) = mk (isF p) ∧ True) ∧ True ∧ (gr p lv (bOr .i64 (D : Int) ((1 : Int) * 2 ^ k)).toNat (l ++ [(k : Int)]) (lpK p (gr p lv) D l m k).snd.snd).snd.snd = (gr p (lv + 1) D l m).snd.snd ∧ (True ∧ True ∧ True ∧ True ∧ True ∧ True) ∧ True) ∧ ((gr p lv (bOr .i64 (D : Int) ((1 : Int) * 2 ^ k)).toNat (l ++ [(k : Int)]) (lpK p (gr p lv) D l m k).snd.snd).fst = false → True ∧ True ∧ True ∧ inR .i64 ((↑(gr p lv (bOr .i64 (D : Int) ((1 : Int) * 2 ^ k)).toNat (l ++ [(k : Int)]) (lpK p (gr p lv) D l m k).snd.snd).snd.fst.length : Int) - 1) ∧ ((0 : Int) ≤ (↑(gr p lv (bOr .i64 (D : Int) ((1 : Int) * 2 ^ k)).toNat (l ++ [(k : Int)]) (lpK p (gr p lv) D l m k).snd.snd).snd.fst.length : Int) - 1 ∧ (↑(gr p lv (bOr .i64 (D : Int) ((1 : Int) * 2 ^ k)).toNat (l ++ [(k : Int)]) (lpK p (gr p lv) D l m k).snd.snd).snd.fst.length : Int) - 1 ≤ (↑(gr p lv (bOr .i64 (D : Int) ((1 : Int) * 2 ^ k)).toNat (l ++ [(k : Int)]) (lpK p (gr p lv) D l m k).snd.snd).snd.fst.length : Int)) ∧ True ∧ inR .i64 ((k : Int) + 1) ∧ True ∧ ((∃ (y : Nat), (inS p (gr p lv) D l m y ∧ p.length - y < p.length - k) ∧ ((D : Int) = (D : Int) ∧ True ∧ True ∧ True ∧ True ∧ (p.length : Int) = (p.length : Int) ∧ (k : Int) + 1 = (y : Int) ∧ True) ∧ False ∧ False ∧ True ∧ (n = n ∧ p = p ∧ mk (isF p) = mk (isF p) ∧ True) ∧ True ∧ (gr p lv (bOr .i64 (D : Int) ((1 : Int) * 2 ^ k)).toNat (l ++ [(k : Int)]) (lpK p (gr p lv) D l m k).snd.snd).snd.snd = (lpK p (gr p lv) D l m y).snd.snd ∧ (True ∧ True ∧ True ∧ True ∧ True ∧ True) ∧ True) ∨ ∃ (y : Nat), (inS p (gr p lv) D l m y ∧ p.length - y < p.length - k) ∧ ((D : Int) = (D : Int) ∧ True ∧ True ∧ True ∧ True ∧ (p.length : Int) = (p.length : Int) ∧ (k : Int) + 1 = (y : Int) ∧ True) ∧ True ∧ List.take ((↑(gr p lv (bOr .i64 (D : Int) ((1 : Int) * 2 ^ k)).toNat (l ++ [(k : Int)]) (lpK p (gr p lv) D l m k).snd.snd).snd.fst.length : Int) - 1).toNat (gr p lv (bOr .i64 (D : Int) ((1 : Int) * 2 ^ k)).toNat (l ++ [(k : Int)]) (lpK p (gr p lv) D l m k).snd.snd).snd.fst = l ∧ True ∧ (n = n ∧ p = p ∧ mk (isF p) = mk (isF p) ∧ True) ∧ True ∧ (gr p lv (bOr .i64 (D : Int) ((1 : Int) * 2 ^ k)).toNat (l ++ [(k : Int)]) (lpK p (gr p lv) D l m k).snd.snd).snd.snd = (lpK p (gr p lv) D l m y).snd.snd ∧ (True ∧ True ∧ True ∧ True ∧ True ∧ True) ∧ True))))) ∧ (¬(k : Int) < (p.length : Int) → (∃ (y : Unit), (lpK p (gr p lv) D l m p.length).fst = false ∧ ((D : Int) = (D : Int) ∧ True ∧ True ∧ True ∧ True ∧ True) ∧ False ∧ False ∧ True ∧ (n = n ∧ p = p ∧ mk (isF p) = mk (isF p) ∧ True) ∧ True ∧ (lpK p (gr p lv) D l m k).snd.snd = (lpK p (gr p lv) D l m p.length).snd.snd ∧ (True ∧ True ∧ True ∧ True ∧ True ∧ True) ∧ True) ∨ ∃ (y : Unit), (lpK p (gr p lv) D l m p.length).fst = false ∧ ((D : Int) = (D : Int) ∧ True ∧ True ∧ True ∧ True ∧ True) ∧ True ∧ l = l ∧ True ∧ (n = n ∧ p = p ∧ mk (isF p) = mk (isF p) ∧ True) ∧ True ∧ (lpK p (gr p lv) D l m k).snd.snd = (lpK p (gr p lv) D l m p.length).snd.snd ∧ (True ∧ True ∧ True ∧ True ∧ True ∧ True) ∧ True)) (by kernel_rfl) ?_
   simp only [zz]
   obtain ⟨k1, k2⟩ := hk
   have hl := hp.l
   have hc := hp.h.2.1
   have hD := pre_D hp
   refine ⟨fun h => ?_, fun h => by rw [show p.length = k by omega]; exact ⟨k2, rfl⟩⟩
   have hkp : k < p.length := by omega
   have hb := or_pow10 hD (k := k) (by omega)
   have hst := lpK_go k2
   rw [bit_shr hD, hb.1, Int.toNat_natCast]
   have hskip : (D / 2 ^ k % 2 = 1 ∨ flw p D k = false) → inR .i64 ((k : Int) + 1) ∧ ∃ y : Nat, (inS p (gr p lv) D l m y ∧ p.length - y < p.length - k) ∧ (k : Int) + 1 = (y : Int) ∧ (lpK p (gr p lv) D l m k).2.2 = (lpK p (gr p lv) D l m y).2.2 := fun hh => by
     rw [if_pos hh] at hst
     exact ⟨by simp only [inR]; omega, k + 1, ⟨⟨by omega, by rw [hst]; exact k2⟩, by omega⟩, by omega, by rw [hst]⟩
   refine ⟨by simp only [inR]; omega, ⟨by omega, by simp only [bitsOf]; omega⟩, fun hx => hskip (.inl (by omega)), fun hx => ⟨⟨⟨hp.h, rfl⟩, ⟨by simp only; omega, by simp only; omega⟩, ⟨by simp only; omega, by simp only; omega⟩⟩, fun hx2 => hskip (.inr (by simpa using hx2)), fun hx2 => ?_⟩⟩
   have hx2 : flw p D k = true := by simpa using hx2
   rw [if_neg (by simp [hx2]; omega)] at hst
   have hlt : D ||| 2 ^ k < 2 ^ p.length := Nat.or_lt_two_pow hp.D (Nat.pow_lt_pow_right (by decide) hkp)
   have hpre : pre55 n p lv (D ||| 2 ^ k) (l ++ [(k : Int)]) := ⟨hp.h, hlt, by simp; omega⟩
   refine ⟨by unfold sumPre; simp; omega, by simp only [inR]; omega, ⟨⟨by omega, by simp only [bitsOf]; omega⟩, by omega, by omega⟩, ⟨⟨hp.h, rfl⟩, by simp only; omega, hpre⟩, fun hr => ?_, fun hr => ?_⟩
   · have hr : (gr p lv (D ||| 2 ^ k) (l ++ [(k : Int)]) (lpK p (gr p lv) D l m k).2.2).1 = true := hr
     rw [if_pos hr] at hst
     have hs := lpK_stop (k := k + 1) (by rw [hst]; exact hr) (p.length - (k + 1))
     rw [show k + 1 + (p.length - (k + 1)) = p.length by omega, hst] at hs
     have e : gr p (lv + 1) D l m = gr p lv (D ||| 2 ^ k) (l ++ [(k : Int)]) (lpK p (gr p lv) D l m k).2.2 := by rw [gr, if_neg hm, hs, if_pos hr]
     rw [e]
     exact ⟨hr.symm, rfl, rfl⟩
   · have hr : (gr p lv (D ||| 2 ^ k) (l ++ [(k : Int)]) (lpK p (gr p lv) D l m k).2.2).1 = false := hr
     rw [if_neg (by simp [hr])] at hst
     have h2 := gr_list hr
     have q1 : inR .i64 (((gr p lv (D ||| 2 ^ k) (l ++ [(k : Int)]) (lpK p (gr p lv) D l m k).2.2).2.1.length : Int) - 1) := by rw [h2]; simp only [inR]; simp; omega
     have q2 : 0 ≤ ((gr p lv (D ||| 2 ^ k) (l ++ [(k : Int)]) (lpK p (gr p lv) D l m k).2.2).2.1.length : Int) - 1 ∧ ((gr p lv (D ||| 2 ^ k) (l ++ [(k : Int)]) (lpK p (gr p lv) D l m k).2.2).2.1.length : Int) - 1 ≤ ((gr p lv (D ||| 2 ^ k) (l ++ [(k : Int)]) (lpK p (gr p lv) D l m k).2.2).2.1.length : Int) := by rw [h2]; simp; omega
     have q3 : (gr p lv (D ||| 2 ^ k) (l ++ [(k : Int)]) (lpK p (gr p lv) D l m k).2.2).2.1.take (((gr p lv (D ||| 2 ^ k) (l ++ [(k : Int)]) (lpK p (gr p lv) D l m k).2.2).2.1.length : Int) - 1).toNat = l := by rw [h2]; simp
     have q4 : (gr p lv (D ||| 2 ^ k) (l ++ [(k : Int)]) (lpK p (gr p lv) D l m k).2.2).2.2 = (lpK p (gr p lv) D l m (k + 1)).2.2 := by rw [hst]
     exact ⟨q1, q2, by simp only [inR]; omega, k + 1, ⟨⟨by omega, by rw [hst]⟩, by omega⟩, by omega, q3, q4⟩
theorem gS1 (lv : Nat) (h' : GS lv) : GS (lv + 1) := by
 intro n p D l m hp
 have hL := fun hm => loopS lv h' n p D l m hp hm
 refine gcall_of (X := (X55 [e56, e55S lv h'])) ((Xb_ok _ _ _ _)) (f := 55) (fn := Try.f55) (c := bodyOf Try.f55) (by kernel_rfl) (by kernel_rfl) (view := false) (rvs := [.tmp 6]) (by kernel_rfl) (H := (HS n p (gr p lv) D l m)) 80 (by kernel_rfl) ?_
 refine of_eq (q := True ∧ True ∧ True ∧ True ∧ True ∧ True ∧ True ∧ True ∧ True ∧ ((l.length : Int) = (p.length : Int) → True ∧ True ∧ (true = (gr p (lv + 1) D l m).fst ∧ True) ∧ True ∧ l = (gr p (lv + 1) D l m).snd.fst ∧ True ∧ (n = n ∧ p = p ∧ mk (isF p) = mk (isF p) ∧ True) ∧ True ∧ m = (gr p (lv + 1) D l m).snd.snd ∧ (True ∧ True ∧ True ∧ True ∧ True ∧ True) ∧ True) ∧ (¬(l.length : Int) = (p.length : Int) → True ∧ True ∧ True ∧ ((mGet I64 m (D : Int)).getD false = true → True ∧ True ∧ (false = (gr p (lv + 1) D l m).fst ∧ True) ∧ True ∧ l = (gr p (lv + 1) D l m).snd.fst ∧ True ∧ (n = n ∧ p = p ∧ mk (isF p) = mk (isF p) ∧ True) ∧ True ∧ m = (gr p (lv + 1) D l m).snd.snd ∧ (True ∧ True ∧ True ∧ True ∧ True ∧ True) ∧ True) ∧ ((mGet I64 m (D : Int)).getD false = false → True ∧ True ∧ True ∧ True ∧ True ∧ True ∧ LoopOK (X55 [e56, e55S lv h']) L55_0 (hS n p (gr p lv) D l m) (RetR (X55 [e56, e55S lv h']) false false [ResultVar.tmp (6 : Tmp)] [AV.bool (gr p (lv + 1) D l m).fst] (gS (1 : Nat) n p (gr p (lv + 1) D l m).snd.fst (gr p (lv + 1) D l m).snd.snd)) ∧ ((∃ (y : Nat), inS p (gr p lv) D l m y ∧ ((D : Int) = (D : Int) ∧ True ∧ True ∧ True ∧ True ∧ (p.length : Int) = (p.length : Int) ∧ (0 : Int) = (y : Int) ∧ True) ∧ True ∧ l = l ∧ True ∧ (n = n ∧ p = p ∧ mk (isF p) = mk (isF p) ∧ True) ∧ True ∧ m = (lpK p (gr p lv) D l m y).snd.snd ∧ (True ∧ True ∧ True ∧ True ∧ True ∧ True) ∧ True) ∨ ∃ (y : Nat), inS p (gr p lv) D l m y ∧ ((D : Int) = (D : Int) ∧ True ∧ True ∧ True ∧ True ∧ (p.length : Int) = (p.length : Int) ∧ (0 : Int) = (y : Int) ∧ True) ∧ False ∧ False ∧ True ∧ (n = n ∧ p = p ∧ mk (isF p) = mk (isF p) ∧ True) ∧ True ∧ m = (lpK p (gr p lv) D l m y).snd.snd ∧ (True ∧ True ∧ True ∧ True ∧ True ∧ True) ∧ True) ∧ (∀ (y : Unit), (lpK p (gr p lv) D l m p.length).fst = false → True ∧ True ∧ True ∧ True ∧ True ∧ (false = (gr p (lv + 1) D l m).fst ∧ True) ∧ True ∧ l = (gr p (lv + 1) D l m).snd.fst ∧ True ∧ (n = n ∧ p = p ∧ mk (isF p) = mk (isF p) ∧ True) ∧ True ∧ mPut I64 (lpK p (gr p lv) D l m p.length).snd.snd (D : Int) true = (gr p (lv + 1) D l m).snd.snd ∧ (True ∧ True ∧ True ∧ True ∧ True ∧ True) ∧ True) ∧ (∀ (y : Unit), (lpK p (gr p lv) D l m p.length).fst = false → True ∧ True ∧ True ∧ True ∧ True ∧ (false = (gr p (lv + 1) D l m).fst ∧ True) ∧ True ∧ l = (gr p (lv + 1) D l m).snd.fst ∧ True ∧ (n = n ∧ p = p ∧ mk (isF p) = mk (isF p) ∧ True) ∧ True ∧ mPut I64 (lpK p (gr p lv) D l m p.length).snd.snd (D : Int) true = (gr p (lv + 1) D l m).snd.snd ∧ (True ∧ True ∧ True ∧ True ∧ True ∧ True) ∧ True) ∧ True))) (by kernel_rfl) ?_
 simp only [zz]
 have hl := hp.l
 have hg : mg m D = (mGet I64 m D).getD false := rfl
 refine ⟨fun h => by omega, fun _ => ⟨fun h => ?_, fun h => ⟨hL (by rw [hg, h]; simp) , ⟨0, ⟨Nat.zero_le _, rfl⟩, rfl, rfl⟩, fun _ hf => ?_, fun _ hf => ?_⟩⟩⟩
 · rw [gr, hg, if_pos h]; exact ⟨rfl, rfl, rfl⟩
 · rw [gr, hg, if_neg (by simp [h]), if_neg (by simp [hf])]; exact ⟨rfl, rfl, rfl⟩
 · rw [gr, hg, if_neg (by simp [h]), if_neg (by simp [hf])]; exact ⟨rfl, rfl, rfl⟩
theorem gS_all : ∀ lv, GS lv
 | 0 => gS0
 | lv + 1 => gS1 lv (gS_all lv)
def gN (n : Int) (p : List Int) (m : Mm) : List Ob := [.bx nl, .bx (.ptr 2 0 []), cxO n p, .bx (.mp 4), mmO m, .bx (clo55 0 1 3 5)]
def gO (n : Int) (p l : List Int) (m : Mm) : List Ob := [.bx (.own 6 0), .bx (.ptr 2 0 []), cxO n p, .bx (.mp 4), mmO m, .bx (clo55 0 1 3 5), .sc 0 3 I64 l]
def aN (D : Int) : List AV := [.int .i64 D, .ptr 0 0 [], .ptr 1 0 [], .ptr 3 0 [], .ptr 5 0 []]
def sN (n : Int) (p : List Int) (D : Nat) (m : Mm) (k : Nat) : St := ⟨aN D ++ dd 18 ++ .int .i64 p.length :: .int .i64 k :: dd 34, gN n p m⟩
def sO (n : Int) (p : List Int) (f : Nat → List Int → Mm → Res) (D : Nat) (m : Mm) (k : Nat) : St := ⟨aN D ++ dd 18 ++ .int .i64 p.length :: .int .i64 k :: dd 34, gO n p [] (lpK p f D [] m k).2.2⟩
def fmN (n : Int) (p : List Int) (f : Nat → List Int → Mm → Res) (D : Nat) (m : Mm) : List Fam := [⟨Nat, fun k => k = 0, sN n p D m, fun k => p.length - k, fun _ _ => none⟩, ⟨Nat, inS p f D [] m, sO n p f D m, fun k => p.length - k, fun _ _ => none⟩]
def exN (n : Int) (p : List Int) (f : Nat → List Int → Mm → Res) (D : Nat) (m : Mm) : List (List Nat × Ex) := [([0, 1, 2, 3, 4], ⟨0, Unit, fun _ => (lpK p f D [] m p.length).1 = false, fun _ => ⟨aN D ++ dd 54, gO n p [] (lpK p f D [] m p.length).2.2⟩⟩)]
def hN (n : Int) (p : List Int) (f : Nat → List Int → Mm → Res) (D : Nat) (m : Mm) : Hint := ⟨chks 6 [0, 1, 2, 3, 4, 23, 24] (fmN n p f D m), (exN n p f D m).map (·.2)⟩
noncomputable def HN (n : Int) (p : List Int) (f : Nat → List Int → Mm → Res) (D : Nat) (m : Mm) : Nat → Option Hint := fun _ => some (hN n p f D m)
noncomputable abbrev XN (lv : Nat) : Cy := Xb [e56, e55S lv (gS_all lv)] 6 [] (fun _ => none)
theorem flw_zero (p : List Int) (k : Nat) : flw p 0 k = true := by
 refine decide_eq_true fun j _ h => ?_
 rw [Nat.zero_div] at h; cases h
theorem loopN (lv : Nat) (n : Int) (p : List Int) (D : Nat) (m : Mm) (hp : pre55 n p (lv + 1) D []) (hD0 : D = 0) (hm : ¬ mg m D = true) : LoopOK (XN lv) L55_0 (hN n p (gr p lv) D m)
   (RetR (XN lv) false false [.tmp 6] [.bool (gr p (lv + 1) D [] m).1] (gO n p (gr p (lv + 1) D [] m).2.1 (gr p (lv + 1) D [] m).2.2)) := by
 refine loop_fams (Xb_ok _ _ _ _) [0, 1, 2, 3, 4, 23, 24] (fmN n p (gr p lv) D m) (exN n p (gr p lv) D m) 150 ⟨fun (k : Nat) hk => ?_, fun (k : Nat) hk => ?_, trivial⟩
 · refine of_eq (q := True ∧ ((k : Int) < (p.length : Int) → True ∧ True ∧ True ∧ True ∧ inR .u64 (k : Int) ∧ ((0 : Int) ≤ (k : Int) ∧ (k : Int) < bitsOf .i64) ∧ True ∧ True ∧ True ∧ (bAnd .i64 ((D : Int) / (2 : Int) ^ k) (1 : Int) = 1 → True ∧ inR .i64 ((k : Int) + 1) ∧ True ∧ ((∃ (y : Nat), (y = 0 ∧ p.length - y < p.length - k) ∧ ((D : Int) = (D : Int) ∧ True ∧ True ∧ True ∧ True ∧ (p.length : Int) = (p.length : Int) ∧ (k : Int) + 1 = (y : Int) ∧ True) ∧ True ∧ True ∧ (n = n ∧ p = p ∧ mk (isF p) = mk (isF p) ∧ True) ∧ True ∧ m = m ∧ (True ∧ True ∧ True ∧ True ∧ True ∧ True) ∧ True) ∨ ∃ (y : Nat), (inS p (gr p lv) D [] m y ∧ p.length - y < p.length - k) ∧ ((D : Int) = (D : Int) ∧ True ∧ True ∧ True ∧ True ∧ (p.length : Int) = (p.length : Int) ∧ (k : Int) + 1 = (y : Int) ∧ True) ∧ False ∧ True ∧ (n = n ∧ p = p ∧ mk (isF p) = mk (isF p) ∧ True) ∧ True ∧ m = (lpK p (gr p lv) D [] m y).snd.snd ∧ (True ∧ True ∧ True ∧ True ∧ True ∧ True) ∧ False)) ∧ (¬bAnd .i64 ((D : Int) / (2 : Int) ^ k) (1 : Int) = 1 → True ∧ True ∧ True ∧ ((ok56 ((D : Int), (k : Int), n, p, mk (isF p)) ∧ (True ∧ (D : Int) = (D : Int) ∧ (k : Int) = (k : Int) ∧ True) ∧ (n = n ∧ p = p ∧ mk (isF p) = mk (isF p) ∧ True) ∧ True) ∧ True ∧ True) ∧ True ∧ True ∧ ((!flw p D k) = true → inR .i64 ((k : Int) + 1) ∧ True ∧ ((∃ (y : Nat), (y = 0 ∧ p.length - y < p.length - k) ∧ ((D : Int) = (D : Int) ∧ True ∧ True ∧ True ∧ True ∧ (p.length : Int) = (p.length : Int) ∧ (k : Int) + 1 = (y : Int) ∧ True) ∧ True ∧ True ∧ (n = n ∧ p = p ∧ mk (isF p) = mk (isF p) ∧ True) ∧ True ∧ m = m ∧ (True ∧ True ∧ True ∧ True ∧ True ∧ True) ∧ True) ∨ ∃ (y : Nat), (inS p (gr p lv) D [] m y ∧ p.length - y < p.length - k) ∧ ((D : Int) = (D : Int) ∧ True ∧ True ∧ True ∧ True ∧ (p.length : Int) = (p.length : Int) ∧ (k : Int) + 1 = (y : Int) ∧ True) ∧ False ∧ True ∧ (n = n ∧ p = p ∧ mk (isF p) = mk (isF p) ∧ True) ∧ True ∧ m = (lpK p (gr p lv) D [] m y).snd.snd ∧ (True ∧ True ∧ True ∧ True ∧ True ∧ True) ∧ False)) ∧ ((!flw p D k) = false → True ∧ True ∧ True ∧ sumPre (0 : Nat) [(k : Int)].length (nat_lit 8) ∧ True ∧ True ∧ True ∧ True ∧ inR .u64 (k : Int) ∧ (((0 : Int) ≤ (k : Int) ∧ (k : Int) < bitsOf .i64) ∧ (-9223372036854775808 : Int) ≤ 1 * 2 ^ k ∧ (1 : Int) * 2 ^ k ≤ 9223372036854775807) ∧ True ∧ ((ok55 lv (bOr .i64 (D : Int) ((1 : Int) * 2 ^ k), (n, p, mk (isF p)), [(k : Int)], m) ∧ (bOr .i64 (D : Int) ((1 : Int) * 2 ^ k) = bOr .i64 (D : Int) ((1 : Int) * 2 ^ k) ∧ True ∧ True ∧ True ∧ True ∧ True) ∧ True ∧ [(k : Int)] = [(k : Int)] ∧ True ∧ (n = n ∧ p = p ∧ mk (isF p) = mk (isF p) ∧ True) ∧ True ∧ m = m ∧ (True ∧ True ∧ True ∧ True ∧ True ∧ True) ∧ True) ∧ True ∧ True ∧ True ∧ True ∧ True ∧ True ∧ True ∧ True) ∧ ((gr p lv (bOr .i64 (D : Int) ((1 : Int) * 2 ^ k)).toNat [(k : Int)] m).fst = true → True ∧ True ∧ (true = (gr p (lv + 1) D [] m).fst ∧ True) ∧ True ∧ True ∧ (n = n ∧ p = p ∧ mk (isF p) = mk (isF p) ∧ True) ∧ True ∧ (gr p lv (bOr .i64 (D : Int) ((1 : Int) * 2 ^ k)).toNat [(k : Int)] m).snd.snd = (gr p (lv + 1) D [] m).snd.snd ∧ (True ∧ True ∧ True ∧ True ∧ True ∧ True) ∧ (gr p lv (bOr .i64 (D : Int) ((1 : Int) * 2 ^ k)).toNat [(k : Int)] m).snd.fst = (gr p (lv + 1) D [] m).snd.fst ∧ True) ∧ ((gr p lv (bOr .i64 (D : Int) ((1 : Int) * 2 ^ k)).toNat [(k : Int)] m).fst = false → True ∧ True ∧ True ∧ inR .i64 ((↑(gr p lv (bOr .i64 (D : Int) ((1 : Int) * 2 ^ k)).toNat [(k : Int)] m).snd.fst.length : Int) - 1) ∧ ((0 : Int) ≤ (↑(gr p lv (bOr .i64 (D : Int) ((1 : Int) * 2 ^ k)).toNat [(k : Int)] m).snd.fst.length : Int) - 1 ∧ (↑(gr p lv (bOr .i64 (D : Int) ((1 : Int) * 2 ^ k)).toNat [(k : Int)] m).snd.fst.length : Int) - 1 ≤ (↑(gr p lv (bOr .i64 (D : Int) ((1 : Int) * 2 ^ k)).toNat [(k : Int)] m).snd.fst.length : Int)) ∧ True ∧ inR .i64 ((k : Int) + 1) ∧ True ∧ ((∃ (y : Nat), (y = 0 ∧ p.length - y < p.length - k) ∧ ((D : Int) = (D : Int) ∧ True ∧ True ∧ True ∧ True ∧ (p.length : Int) = (p.length : Int) ∧ (k : Int) + 1 = (y : Int) ∧ True) ∧ False ∧ True ∧ (n = n ∧ p = p ∧ mk (isF p) = mk (isF p) ∧ True) ∧ True ∧ (gr p lv (bOr .i64 (D : Int) ((1 : Int) * 2 ^ k)).toNat [(k : Int)] m).snd.snd = m ∧ (True ∧ True ∧ True ∧ True ∧ True ∧ True) ∧ True) ∨ ∃ (y : Nat), (inS p (gr p lv) D [] m y ∧ p.length - y < p.length - k) ∧ ((D : Int) = (D : Int) ∧ True ∧ True ∧ True ∧ True ∧ (p.length : Int) = (p.length : Int) ∧ (k : Int) + 1 = (y : Int) ∧ True) ∧ True ∧ True ∧ (n = n ∧ p = p ∧ mk (isF p) = mk (isF p) ∧ True) ∧ True ∧ (gr p lv (bOr .i64 (D : Int) ((1 : Int) * 2 ^ k)).toNat [(k : Int)] m).snd.snd = (lpK p (gr p lv) D [] m y).snd.snd ∧ (True ∧ True ∧ True ∧ True ∧ True ∧ True) ∧ List.take ((↑(gr p lv (bOr .i64 (D : Int) ((1 : Int) * 2 ^ k)).toNat [(k : Int)] m).snd.fst.length : Int) - 1).toNat (gr p lv (bOr .i64 (D : Int) ((1 : Int) * 2 ^ k)).toNat [(k : Int)] m).snd.fst = [] ∧ True))))) ∧ (¬(k : Int) < (p.length : Int) → ∃ (y : Unit), (lpK p (gr p lv) D [] m p.length).fst = false ∧ ((D : Int) = (D : Int) ∧ True ∧ True ∧ True ∧ True ∧ True) ∧ False ∧ True ∧ (n = n ∧ p = p ∧ mk (isF p) = mk (isF p) ∧ True) ∧ True ∧ m = (lpK p (gr p lv) D [] m p.length).snd.snd ∧ (True ∧ True ∧ True ∧ True ∧ True ∧ True) ∧ False)) (by kernel_rfl) ?_
   simp only [zz]
   have hk : k = 0 := hk
   have hl : lv + 1 = p.length := by have := hp.l; simpa using this
   have hc := hp.h.2.1
   have hD := pre_D hp
   refine ⟨fun h => ?_, fun h => by omega⟩
   have hkp : k < p.length := by omega
   have hb := or_pow10 hD (k := k) (by omega)
   have e0 : lpK p (gr p lv) D [] m k = (false, [], m) := by rw [hk]; try rfl
   have hst := lpK_go (p := p) (f := gr p lv) (D := D) (l := []) (m := m) (k := k) (by rw [e0])
   have hf : flw p D k = true := by rw [hD0]; exact flw_zero p k
   have hz : D / 2 ^ k % 2 = 0 := by rw [hD0, Nat.zero_div]
   rw [if_neg (by rw [hz, hf]; simp), e0] at hst
   simp only [List.nil_append] at hst
   rw [bit_shr hD, hb.1, Int.toNat_natCast, hz, hf]
   have hlt : D ||| 2 ^ k < 2 ^ p.length := Nat.or_lt_two_pow hp.D (Nat.pow_lt_pow_right (by decide) hkp)
   have hpre : pre55 n p lv (D ||| 2 ^ k) [(k : Int)] := ⟨hp.h, hlt, by simp; omega⟩
   refine ⟨by simp only [inR]; omega, ⟨by omega, by simp only [bitsOf]; omega⟩, fun hx => absurd hx (by decide), fun hx => ⟨⟨⟨hp.h, rfl⟩, ⟨by simp only; omega, by simp only; omega⟩, ⟨by simp only; omega, by simp only; omega⟩⟩, fun hx2 => absurd hx2 (by decide), fun hx2 => ?_⟩⟩
   refine ⟨by unfold sumPre; simp, by simp only [inR]; omega, ⟨⟨by omega, by simp only [bitsOf]; omega⟩, by omega, by omega⟩, ⟨⟨hp.h, rfl⟩, by simp only; omega, hpre⟩, fun hr => ?_, fun hr => ?_⟩
   · have hr : (gr p lv (D ||| 2 ^ k) [(k : Int)] m).1 = true := hr
     rw [if_pos hr] at hst
     have hs := lpK_stop (k := k + 1) (by rw [hst]; exact hr) (p.length - (k + 1))
     rw [show k + 1 + (p.length - (k + 1)) = p.length by omega, hst] at hs
     have e : gr p (lv + 1) D [] m = gr p lv (D ||| 2 ^ k) [(k : Int)] m := by rw [gr, if_neg hm, hs, if_pos hr]
     rw [e]
     exact ⟨hr.symm, rfl, rfl⟩
   · have hr : (gr p lv (D ||| 2 ^ k) [(k : Int)] m).1 = false := hr
     rw [if_neg (by simp [hr])] at hst
     have h2 := gr_list hr
     have q1 : inR .i64 (((gr p lv (D ||| 2 ^ k) [(k : Int)] m).2.1.length : Int) - 1) := by rw [h2]; simp only [inR]; simp
     have q2 : 0 ≤ ((gr p lv (D ||| 2 ^ k) [(k : Int)] m).2.1.length : Int) - 1 ∧ ((gr p lv (D ||| 2 ^ k) [(k : Int)] m).2.1.length : Int) - 1 ≤ ((gr p lv (D ||| 2 ^ k) [(k : Int)] m).2.1.length : Int) := by rw [h2]; simp
     have q3 : (gr p lv (D ||| 2 ^ k) [(k : Int)] m).2.1.take (((gr p lv (D ||| 2 ^ k) [(k : Int)] m).2.1.length : Int) - 1).toNat = [] := by rw [h2]; simp
     have q4 : (gr p lv (D ||| 2 ^ k) [(k : Int)] m).2.2 = (lpK p (gr p lv) D [] m (k + 1)).2.2 := by rw [hst]
     exact ⟨q1, q2, by simp only [inR]; omega, k + 1, ⟨⟨by omega, by rw [hst]⟩, by omega⟩, by omega, q4, q3⟩
 · refine of_eq (q := True ∧ ((k : Int) < (p.length : Int) → True ∧ True ∧ True ∧ True ∧ inR .u64 (k : Int) ∧ ((0 : Int) ≤ (k : Int) ∧ (k : Int) < bitsOf .i64) ∧ True ∧ True ∧ True ∧ (bAnd .i64 ((D : Int) / (2 : Int) ^ k) (1 : Int) = 1 → True ∧ inR .i64 ((k : Int) + 1) ∧ True ∧ ((∃ (y : Nat), (y = 0 ∧ p.length - y < p.length - k) ∧ ((D : Int) = (D : Int) ∧ True ∧ True ∧ True ∧ True ∧ (p.length : Int) = (p.length : Int) ∧ (k : Int) + 1 = (y : Int) ∧ True) ∧ False ∧ True ∧ (n = n ∧ p = p ∧ mk (isF p) = mk (isF p) ∧ True) ∧ True ∧ (lpK p (gr p lv) D [] m k).snd.snd = m ∧ (True ∧ True ∧ True ∧ True ∧ True ∧ True) ∧ True) ∨ ∃ (y : Nat), (inS p (gr p lv) D [] m y ∧ p.length - y < p.length - k) ∧ ((D : Int) = (D : Int) ∧ True ∧ True ∧ True ∧ True ∧ (p.length : Int) = (p.length : Int) ∧ (k : Int) + 1 = (y : Int) ∧ True) ∧ True ∧ True ∧ (n = n ∧ p = p ∧ mk (isF p) = mk (isF p) ∧ True) ∧ True ∧ (lpK p (gr p lv) D [] m k).snd.snd = (lpK p (gr p lv) D [] m y).snd.snd ∧ (True ∧ True ∧ True ∧ True ∧ True ∧ True) ∧ ([] : List Int) = [] ∧ True)) ∧ (¬bAnd .i64 ((D : Int) / (2 : Int) ^ k) (1 : Int) = 1 → True ∧ True ∧ True ∧ ((ok56 ((D : Int), (k : Int), n, p, mk (isF p)) ∧ (True ∧ (D : Int) = (D : Int) ∧ (k : Int) = (k : Int) ∧ True) ∧ (n = n ∧ p = p ∧ mk (isF p) = mk (isF p) ∧ True) ∧ True) ∧ True ∧ True) ∧ True ∧ True ∧ ((!flw p D k) = true → inR .i64 ((k : Int) + 1) ∧ True ∧ ((∃ (y : Nat), (y = 0 ∧ p.length - y < p.length - k) ∧ ((D : Int) = (D : Int) ∧ True ∧ True ∧ True ∧ True ∧ (p.length : Int) = (p.length : Int) ∧ (k : Int) + 1 = (y : Int) ∧ True) ∧ False ∧ True ∧ (n = n ∧ p = p ∧ mk (isF p) = mk (isF p) ∧ True) ∧ True ∧ (lpK p (gr p lv) D [] m k).snd.snd = m ∧ (True ∧ True ∧ True ∧ True ∧ True ∧ True) ∧ True) ∨ ∃ (y : Nat), (inS p (gr p lv) D [] m y ∧ p.length - y < p.length - k) ∧ ((D : Int) = (D : Int) ∧ True ∧ True ∧ True ∧ True ∧ (p.length : Int) = (p.length : Int) ∧ (k : Int) + 1 = (y : Int) ∧ True) ∧ True ∧ True ∧ (n = n ∧ p = p ∧ mk (isF p) = mk (isF p) ∧ True) ∧ True ∧ (lpK p (gr p lv) D [] m k).snd.snd = (lpK p (gr p lv) D [] m y).snd.snd ∧ (True ∧ True ∧ True ∧ True ∧ True ∧ True) ∧ ([] : List Int) = [] ∧ True)) ∧ ((!flw p D k) = false → True ∧ True ∧ True ∧ sumPre ([] : List Int).length [(k : Int)].length (nat_lit 8) ∧ True ∧ True ∧ True ∧ True ∧ inR .u64 (k : Int) ∧ (((0 : Int) ≤ (k : Int) ∧ (k : Int) < bitsOf .i64) ∧ (-9223372036854775808 : Int) ≤ 1 * 2 ^ k ∧ (1 : Int) * 2 ^ k ≤ 9223372036854775807) ∧ True ∧ ((ok55 lv (bOr .i64 (D : Int) ((1 : Int) * 2 ^ k), (n, p, mk (isF p)), [] ++ [(k : Int)], (lpK p (gr p lv) D [] m k).snd.snd) ∧ (bOr .i64 (D : Int) ((1 : Int) * 2 ^ k) = bOr .i64 (D : Int) ((1 : Int) * 2 ^ k) ∧ True ∧ True ∧ True ∧ True ∧ True) ∧ True ∧ [] ++ [(k : Int)] = [] ++ [(k : Int)] ∧ True ∧ (n = n ∧ p = p ∧ mk (isF p) = mk (isF p) ∧ True) ∧ True ∧ (lpK p (gr p lv) D [] m k).snd.snd = (lpK p (gr p lv) D [] m k).snd.snd ∧ (True ∧ True ∧ True ∧ True ∧ True ∧ True) ∧ True) ∧ True ∧ True ∧ True ∧ True ∧ True ∧ True ∧ True ∧ True) ∧ ((gr p lv (bOr .i64 (D : Int) ((1 : Int) * 2 ^ k)).toNat ([] ++ [(k : Int)]) (lpK p (gr p lv) D [] m k).snd.snd).fst = true → True ∧ True ∧ (true = (gr p (lv + 1) D [] m).fst ∧ True) ∧ True ∧ True ∧ (n = n ∧ p = p ∧ mk (isF p) = mk (isF p) ∧ True) ∧ True ∧ (gr p lv (bOr .i64 (D : Int) ((1 : Int) * 2 ^ k)).toNat ([] ++ [(k : Int)]) (lpK p (gr p lv) D [] m k).snd.snd).snd.snd = (gr p (lv + 1) D [] m).snd.snd ∧ (True ∧ True ∧ True ∧ True ∧ True ∧ True) ∧ (gr p lv (bOr .i64 (D : Int) ((1 : Int) * 2 ^ k)).toNat ([] ++ [(k : Int)]) (lpK p (gr p lv) D [] m k).snd.snd).snd.fst = (gr p (lv + 1) D [] m).snd.fst ∧ True) ∧ ((gr p lv (bOr .i64 (D : Int) ((1 : Int) * 2 ^ k)).toNat ([] ++ [(k : Int)]) (lpK p (gr p lv) D [] m k).snd.snd).fst = false → True ∧ True ∧ True ∧ inR .i64 ((↑(gr p lv (bOr .i64 (D : Int) ((1 : Int) * 2 ^ k)).toNat ([] ++ [(k : Int)]) (lpK p (gr p lv) D [] m k).snd.snd).snd.fst.length : Int) - 1) ∧ ((0 : Int) ≤ (↑(gr p lv (bOr .i64 (D : Int) ((1 : Int) * 2 ^ k)).toNat ([] ++ [(k : Int)]) (lpK p (gr p lv) D [] m k).snd.snd).snd.fst.length : Int) - 1 ∧ (↑(gr p lv (bOr .i64 (D : Int) ((1 : Int) * 2 ^ k)).toNat ([] ++ [(k : Int)]) (lpK p (gr p lv) D [] m k).snd.snd).snd.fst.length : Int) - 1 ≤ (↑(gr p lv (bOr .i64 (D : Int) ((1 : Int) * 2 ^ k)).toNat ([] ++ [(k : Int)]) (lpK p (gr p lv) D [] m k).snd.snd).snd.fst.length : Int)) ∧ True ∧ inR .i64 ((k : Int) + 1) ∧ True ∧ ((∃ (y : Nat), (y = 0 ∧ p.length - y < p.length - k) ∧ ((D : Int) = (D : Int) ∧ True ∧ True ∧ True ∧ True ∧ (p.length : Int) = (p.length : Int) ∧ (k : Int) + 1 = (y : Int) ∧ True) ∧ False ∧ True ∧ (n = n ∧ p = p ∧ mk (isF p) = mk (isF p) ∧ True) ∧ True ∧ (gr p lv (bOr .i64 (D : Int) ((1 : Int) * 2 ^ k)).toNat ([] ++ [(k : Int)]) (lpK p (gr p lv) D [] m k).snd.snd).snd.snd = m ∧ (True ∧ True ∧ True ∧ True ∧ True ∧ True) ∧ True) ∨ ∃ (y : Nat), (inS p (gr p lv) D [] m y ∧ p.length - y < p.length - k) ∧ ((D : Int) = (D : Int) ∧ True ∧ True ∧ True ∧ True ∧ (p.length : Int) = (p.length : Int) ∧ (k : Int) + 1 = (y : Int) ∧ True) ∧ True ∧ True ∧ (n = n ∧ p = p ∧ mk (isF p) = mk (isF p) ∧ True) ∧ True ∧ (gr p lv (bOr .i64 (D : Int) ((1 : Int) * 2 ^ k)).toNat ([] ++ [(k : Int)]) (lpK p (gr p lv) D [] m k).snd.snd).snd.snd = (lpK p (gr p lv) D [] m y).snd.snd ∧ (True ∧ True ∧ True ∧ True ∧ True ∧ True) ∧ List.take ((↑(gr p lv (bOr .i64 (D : Int) ((1 : Int) * 2 ^ k)).toNat ([] ++ [(k : Int)]) (lpK p (gr p lv) D [] m k).snd.snd).snd.fst.length : Int) - 1).toNat (gr p lv (bOr .i64 (D : Int) ((1 : Int) * 2 ^ k)).toNat ([] ++ [(k : Int)]) (lpK p (gr p lv) D [] m k).snd.snd).snd.fst = [] ∧ True))))) ∧ (¬(k : Int) < (p.length : Int) → ∃ (y : Unit), (lpK p (gr p lv) D [] m p.length).fst = false ∧ ((D : Int) = (D : Int) ∧ True ∧ True ∧ True ∧ True ∧ True) ∧ True ∧ True ∧ (n = n ∧ p = p ∧ mk (isF p) = mk (isF p) ∧ True) ∧ True ∧ (lpK p (gr p lv) D [] m k).snd.snd = (lpK p (gr p lv) D [] m p.length).snd.snd ∧ (True ∧ True ∧ True ∧ True ∧ True ∧ True) ∧ ([] : List Int) = [] ∧ True)) (by kernel_rfl) ?_
   simp only [zz]
   obtain ⟨k1, k2⟩ := hk
   have hl : lv + 1 = p.length := by have := hp.l; simpa using this
   have hc := hp.h.2.1
   have hD := pre_D hp
   refine ⟨fun h => ?_, fun h => by rw [show p.length = k by omega]; exact ⟨k2, rfl⟩⟩
   have hkp : k < p.length := by omega
   have hb := or_pow10 hD (k := k) (by omega)
   have hst := lpK_go k2
   rw [bit_shr hD, hb.1, Int.toNat_natCast]
   have hskip : (D / 2 ^ k % 2 = 1 ∨ flw p D k = false) → inR .i64 ((k : Int) + 1) ∧ ∃ y : Nat, (inS p (gr p lv) D [] m y ∧ p.length - y < p.length - k) ∧ (k : Int) + 1 = (y : Int) ∧ (lpK p (gr p lv) D [] m k).2.2 = (lpK p (gr p lv) D [] m y).2.2 := fun hh => by
     rw [if_pos hh] at hst
     exact ⟨by simp only [inR]; omega, k + 1, ⟨⟨by omega, by rw [hst]; exact k2⟩, by omega⟩, by omega, by rw [hst]⟩
   refine ⟨by simp only [inR]; omega, ⟨by omega, by simp only [bitsOf]; omega⟩, fun hx => hskip (.inl (by omega)), fun hx => ⟨⟨⟨hp.h, rfl⟩, ⟨by simp only; omega, by simp only; omega⟩, ⟨by simp only; omega, by simp only; omega⟩⟩, fun hx2 => hskip (.inr (by simpa using hx2)), fun hx2 => ?_⟩⟩
   have hx2 : flw p D k = true := by simpa using hx2
   rw [if_neg (by simp [hx2]; omega)] at hst
   have hlt : D ||| 2 ^ k < 2 ^ p.length := Nat.or_lt_two_pow hp.D (Nat.pow_lt_pow_right (by decide) hkp)
   have hpre : pre55 n p lv (D ||| 2 ^ k) ([] ++ [(k : Int)]) := ⟨hp.h, hlt, by simp; omega⟩
   refine ⟨by unfold sumPre; simp, by simp only [inR]; omega, ⟨⟨by omega, by simp only [bitsOf]; omega⟩, by omega, by omega⟩, ⟨⟨hp.h, rfl⟩, by simp only; omega, hpre⟩, fun hr => ?_, fun hr => ?_⟩
   · have hr : (gr p lv (D ||| 2 ^ k) ([] ++ [(k : Int)]) (lpK p (gr p lv) D [] m k).2.2).1 = true := hr
     rw [if_pos hr] at hst
     have hs := lpK_stop (k := k + 1) (by rw [hst]; exact hr) (p.length - (k + 1))
     rw [show k + 1 + (p.length - (k + 1)) = p.length by omega, hst] at hs
     have e : gr p (lv + 1) D [] m = gr p lv (D ||| 2 ^ k) ([] ++ [(k : Int)]) (lpK p (gr p lv) D [] m k).2.2 := by rw [gr, if_neg hm, hs, if_pos hr]
     rw [e]
     exact ⟨hr.symm, rfl, rfl⟩
   · have hr : (gr p lv (D ||| 2 ^ k) ([] ++ [(k : Int)]) (lpK p (gr p lv) D [] m k).2.2).1 = false := hr
     rw [if_neg (by rw [hr]; simp)] at hst
     have h2 := gr_list hr
     have q1 : inR .i64 (((gr p lv (D ||| 2 ^ k) ([] ++ [(k : Int)]) (lpK p (gr p lv) D [] m k).2.2).2.1.length : Int) - 1) := by rw [h2]; simp only [inR]; simp
     have q2 : 0 ≤ ((gr p lv (D ||| 2 ^ k) ([] ++ [(k : Int)]) (lpK p (gr p lv) D [] m k).2.2).2.1.length : Int) - 1 ∧ ((gr p lv (D ||| 2 ^ k) ([] ++ [(k : Int)]) (lpK p (gr p lv) D [] m k).2.2).2.1.length : Int) - 1 ≤ ((gr p lv (D ||| 2 ^ k) ([] ++ [(k : Int)]) (lpK p (gr p lv) D [] m k).2.2).2.1.length : Int) := by rw [h2]; simp
     have q3 : (gr p lv (D ||| 2 ^ k) ([] ++ [(k : Int)]) (lpK p (gr p lv) D [] m k).2.2).2.1.take (((gr p lv (D ||| 2 ^ k) ([] ++ [(k : Int)]) (lpK p (gr p lv) D [] m k).2.2).2.1.length : Int) - 1).toNat = [] := by rw [h2]; simp
     have q4 : (gr p lv (D ||| 2 ^ k) ([] ++ [(k : Int)]) (lpK p (gr p lv) D [] m k).2.2).2.2 = (lpK p (gr p lv) D [] m (k + 1)).2.2 := by rw [hst]
     exact ⟨q1, q2, by simp only [inR]; omega, k + 1, ⟨⟨by omega, by rw [hst]⟩, by omega⟩, by omega, q4, q3⟩
theorem call55 (lv : Nat) (n : Int) (p : List Int) (D : Nat) (m : Mm) (hp : pre55 n p (lv + 1) D []) (hD0 : D = 0) (hm : ¬ mg m D = true) : GCall Try.prog gl 55 false (aN D) (gN n p m) [.bool (gr p (lv + 1) D [] m).1] (gO n p (gr p (lv + 1) D [] m).2.1 (gr p (lv + 1) D [] m).2.2) := by
 refine gcall_of (X := (XN lv)) ((Xb_ok _ _ _ _)) (f := 55) (fn := Try.f55) (c := bodyOf Try.f55) (by kernel_rfl) (by kernel_rfl) (view := false) (rvs := [.tmp 6]) (by kernel_rfl) (H := (HN n p (gr p lv) D m)) 80 (by kernel_rfl) ?_
 have hL := loopN lv n p D m hp hD0 hm
 refine of_eq (q := True ∧ True ∧ True ∧ True ∧ True ∧ True ∧ True ∧ True ∧ True ∧ ((0 : Int) = (p.length : Int) → True ∧ True ∧ (true = (gr p (lv + 1) D [] m).fst ∧ True) ∧ False ∧ True ∧ (n = n ∧ p = p ∧ mk (isF p) = mk (isF p) ∧ True) ∧ True ∧ m = (gr p (lv + 1) D [] m).snd.snd ∧ (True ∧ True ∧ True ∧ True ∧ True ∧ True) ∧ False) ∧ (¬(0 : Int) = (p.length : Int) → True ∧ True ∧ True ∧ ((mGet I64 m (D : Int)).getD false = true → True ∧ True ∧ (false = (gr p (lv + 1) D [] m).fst ∧ True) ∧ False ∧ True ∧ (n = n ∧ p = p ∧ mk (isF p) = mk (isF p) ∧ True) ∧ True ∧ m = (gr p (lv + 1) D [] m).snd.snd ∧ (True ∧ True ∧ True ∧ True ∧ True ∧ True) ∧ False) ∧ ((mGet I64 m (D : Int)).getD false = false → True ∧ True ∧ True ∧ True ∧ True ∧ True ∧ LoopOK (XN lv) L55_0 (hN n p (gr p lv) D m) (RetR (XN lv) false false [ResultVar.tmp (6 : Tmp)] [AV.bool (gr p (lv + 1) D [] m).fst] (gO n p (gr p (lv + 1) D [] m).snd.fst (gr p (lv + 1) D [] m).snd.snd)) ∧ ((∃ (y : Nat), y = 0 ∧ ((D : Int) = (D : Int) ∧ True ∧ True ∧ True ∧ True ∧ (p.length : Int) = (p.length : Int) ∧ (0 : Int) = (y : Int) ∧ True) ∧ True ∧ True ∧ (n = n ∧ p = p ∧ mk (isF p) = mk (isF p) ∧ True) ∧ True ∧ m = m ∧ (True ∧ True ∧ True ∧ True ∧ True ∧ True) ∧ True) ∨ ∃ (y : Nat), inS p (gr p lv) D [] m y ∧ ((D : Int) = (D : Int) ∧ True ∧ True ∧ True ∧ True ∧ (p.length : Int) = (p.length : Int) ∧ (0 : Int) = (y : Int) ∧ True) ∧ False ∧ True ∧ (n = n ∧ p = p ∧ mk (isF p) = mk (isF p) ∧ True) ∧ True ∧ m = (lpK p (gr p lv) D [] m y).snd.snd ∧ (True ∧ True ∧ True ∧ True ∧ True ∧ True) ∧ False) ∧ (∀ (y : Unit), (lpK p (gr p lv) D [] m p.length).fst = false → True ∧ True ∧ True ∧ True ∧ True ∧ (false = (gr p (lv + 1) D [] m).fst ∧ True) ∧ True ∧ True ∧ (n = n ∧ p = p ∧ mk (isF p) = mk (isF p) ∧ True) ∧ True ∧ mPut I64 (lpK p (gr p lv) D [] m p.length).snd.snd (D : Int) true = (gr p (lv + 1) D [] m).snd.snd ∧ (True ∧ True ∧ True ∧ True ∧ True ∧ True) ∧ ([] : List Int) = (gr p (lv + 1) D [] m).snd.fst ∧ True) ∧ True))) (by kernel_rfl) ?_
 simp only [zz]
 have hl : lv + 1 = p.length := by have := hp.l; simpa using this
 have hg : mg m D = (mGet I64 m D).getD false := rfl
 refine ⟨fun h => by omega, fun _ => ⟨fun h => hm (by rw [hg]; exact h), fun h => ⟨hL, ⟨0, rfl, rfl⟩, fun _ hf => ?_⟩⟩⟩
 rw [gr, if_neg hm, if_neg (by simp [hf])]; exact ⟨rfl, rfl, rfl⟩
end Go.Am.Sh

/- Shells: Shell. -/
namespace Go.Am.Sh
open Go Go.Am Go.Proofs
def isNl : Ob → Bool
 | .bx (.vv _) => true
 | _ => false
abbrev G5n := Int × Cx3 × Mm
def get55n (xs : List AV) (obs : List Ob) : Option G5n :=
 match xs with
 | .int .i64 d :: _ => (match isNl (obs.getD 0 .gone), unCx (obs.getD 2 .gone), unMm (obs.getD 4 .gone) with
   | true, some x, some m => some (d, x, m)
   | _, _, _ => none)
 | _ => none
structure ok55n (x : G5n) : Prop where
 h : okC x.2.1
 d : x.1 = 0
 m : x.2.2 = []
def gNq (x : Cx3) (m : Mm) : List Ob := [.bx nl, .bx (.ptr 2 0 []), cxQ x, .bx (.mp 4), mmO m, .bx (clo55 0 1 3 5)]
def gOq (x : Cx3) (l : List Int) (m : Mm) : List Ob := [.bx (.own 6 0), .bx (.ptr 2 0 []), cxQ x, .bx (.mp 4), mmO m, .bx (clo55 0 1 3 5), .sc 0 3 I64 l]
def grow (p : List Int) : Res := gr p p.length 0 [] []
theorem call55N (n : Int) (p : List Int) (h : cxOk n p) : GCall Try.prog gl 55 false (aN 0) (gN n p []) [.bool (grow p).1] (gO n p (grow p).2.1 (grow p).2.2) := by
 have hl := h.2.1.1
 obtain ⟨lv, hlv⟩ : ∃ lv, p.length = lv + 1 := ⟨p.length - 1, by omega⟩
 have := call55 lv n p 0 [] ⟨h, by have := Nat.pow_le_pow_right (show 0 < 2 by decide) hl; omega, by simp; omega⟩ rfl (by simp [mg, mGet])
 rw [← hlv] at this
 exact this
def e55N : Entry Try.prog gl := entryW 55 ⟨Try.f55, by kernel_rfl, by kernel_rfl, by kernel_rfl⟩ true get55n ok55n false (fun x => aN x.1) (fun x => gNq x.2.1 x.2.2) (fun x => [.bool (grow x.2.1.2.1).1])
 (fun x => gOq x.2.1 (grow x.2.1.2.1).2.1 (grow x.2.1.2.1).2.2) (fun x hx => by
   have := call55N _ _ hx.h.h
   have e : gNq x.2.1 [] = gN x.2.1.1 x.2.1.2.1 [] := by unfold gNq gN; rw [cxQ_ok hx.h]
   have e2 : ∀ l m, gOq x.2.1 l m = gO x.2.1.1 x.2.1.2.1 l m := fun l m => by unfold gOq gO; rw [cxQ_ok hx.h]
   rw [hx.d, hx.m, e, e2]; exact this)
def shB (p : List Int) : Bool := pure p && (grow p).1
def shL (p : List Int) : List Int := if pure p = true then (grow p).2.1 else []
theorem call15 (n : Int) (p : List Int) (h : cxOk n p) : GCall Try.prog gl 15 true [.int .i64 n, .sl I64 p] [] [.sl I64 (shL p), .bool (shB p), .int .i64 0] [] := by
 refine gcall_of (X := X [e53, e54, e55N]) (X_ok [e53, e54, e55N]) (f := 15) (fn := Try.f15) (c := bodyOf Try.f15) (by kernel_rfl) (by kernel_rfl) (view := true) (rvs := [.tmp 4, .tmp 5, .tmp 6]) (by kernel_rfl) (H := fun _ => none) 80 (by kernel_rfl) ?_
 refine of_eq (q := True ∧ True ∧ True ∧ True ∧ True ∧ (CxP n p ∧ True) ∧ True ∧ True ∧ True ∧ True ∧ True ∧ True ∧ True ∧ True ∧ (¬(0 : Int) = 0 → True ∧ True ∧ True ∧ True ∧ True ∧ (([] : List Int) = shL p ∧ false = shB p ∧ (0 : Int) = 0 ∧ True) ∧ True) ∧ (¬¬(0 : Int) = 0 → True ∧ ((okC (n, p, mk (isF p)) ∧ (True ∧ True) ∧ (n = n ∧ p = p ∧ mk (isF p) = mk (isF p) ∧ True) ∧ True) ∧ True ∧ True) ∧ True ∧ ((!pure p) = true → True ∧ True ∧ True ∧ True ∧ (([] : List Int) = shL p ∧ false = shB p ∧ (0 : Int) = 0 ∧ True) ∧ True) ∧ ((!pure p) = false → True ∧ True ∧ True ∧ True ∧ True ∧ True ∧ True ∧ True ∧ ((ok55n ((0 : Int), (n, p, mk (isF p)), []) ∧ ((0 : Int) = 0 ∧ True ∧ True ∧ True ∧ True ∧ True) ∧ True ∧ True ∧ (n = n ∧ p = p ∧ mk (isF p) = mk (isF p) ∧ True) ∧ True ∧ ([] : List (Int × Bool)) = [] ∧ (True ∧ True ∧ True ∧ True ∧ True ∧ True) ∧ True) ∧ True ∧ True ∧ True ∧ True ∧ True ∧ True ∧ True) ∧ True ∧ True ∧ True ∧ True ∧ True ∧ True ∧ True ∧ ((grow p).snd.fst = shL p ∧ (grow p).fst = shB p ∧ (0 : Int) = 0 ∧ True) ∧ True))) (by kernel_rfl) ?_
 simp only [zz]
 refine ⟨⟨h⟩, fun h => absurd trivial h, fun _ => ⟨⟨h, rfl⟩, fun hp => ?_, fun hp => ⟨⟨⟨h, rfl⟩, rfl, rfl⟩, ?_⟩⟩⟩
 · have hp : pure p = false := by simpa using hp
   simp [shL, shB, hp]
 · have hp : pure p = true := by simpa using hp
   simp [shL, shB, hp]
theorem call15x (n : Int) (p : List Int) (h : ¬ cxOk n p ∧ p.length < 1000000000000000) : GCall Try.prog gl 15 true [.int .i64 n, .sl I64 p] [] [nl, .ff, .int .i64 (errN n)] [] := by
 refine gcall_of (X := X [x53]) (X_ok [x53]) (f := 15) (fn := Try.f15) (c := bodyOf Try.f15) (by kernel_rfl) (by kernel_rfl) (view := false) (rvs := [.tmp 4, .tmp 5, .tmp 6]) (by kernel_rfl) (H := fun _ => none) 80 (by kernel_rfl) ?_
 refine of_eq (q := True ∧ True ∧ True ∧ True ∧ True ∧ ((¬cxOk n p ∧ p.length < 1000000000000000) ∧ True) ∧ True ∧ True ∧ True ∧ True ∧ True ∧ True ∧ True ∧ True ∧ (¬errN n = 0 → True ∧ True ∧ True ∧ True ∧ True ∧ (True ∧ false = false ∧ errN n = errN n ∧ True) ∧ True) ∧ (¬¬errN n = 0 → True ∧ False)) (by kernel_rfl) ?_
 simp only [zz]
 exact ⟨h, fun _ => trivial, fun h2 => h2 (errN_ne n)⟩
end Go.Am.Sh

/- Shells: awake. -/
namespace Go.Am.Sh
open Go Go.Am Go.Proofs
def e15 : Entry Try.prog gl := entry2 15 ⟨Try.f15, by kernel_rfl, by kernel_rfl, by kernel_rfl⟩ I64 SI (fun (n : Int) p => cxOk n p) true (fun _ p => [.sl I64 (shL p), .bool (shB p), .int .i64 0]) (fun _ _ => []) (fun (n : Int) p h => call15 n p h)
def e38 : Entry Try.prog gl := entry2 38 ⟨Try.f38, by kernel_rfl, by kernel_rfl, by kernel_rfl⟩ I64 SI (fun (n : Int) p => cxOk n p) false (fun _ p => [.sl I64 (cnts p), .int .i64 0]) (fun _ _ => []) (fun (n : Int) p h => call38 n p h)
def e27 : Entry Try.prog gl := entry2 27 ⟨Try.f27, by kernel_rfl, by kernel_rfl, by kernel_rfl⟩ I64 SI (fun (n : Int) p => cxOk n p) false (fun _ p => [.sl I64 (hsL p), .int .i64 0]) (fun _ _ => []) (fun (n : Int) p h => call27 n p h)
def e30 : Entry Try.prog gl := entry2 30 ⟨Try.f30, by kernel_rfl, by kernel_rfl, by kernel_rfl⟩ I64 SI (fun (n : Int) p => cxOk n p) false (fun _ p => [.sl I64 (hoL p), .int .i64 0]) (fun _ _ => []) (fun (n : Int) p h => call30 n p h)
def e36 : Entry Try.prog gl := entry2 36 ⟨Try.f36, by kernel_rfl, by kernel_rfl, by kernel_rfl⟩ I64 SI (fun (n : Int) p => cxOk n p) false (fun (n : Int) p => [.sl I64 (fewR (grL (duaG n p))), .int .i64 (fewE (grL (duaG n p)))]) (fun _ _ => []) (fun (n : Int) p h => call36 n p h)
def e24 : Entry Try.prog gl := entry2 24 ⟨Try.f24, by kernel_rfl, by kernel_rfl, by kernel_rfl⟩ I64 I64 (fun (n d : Int) => momOk n d) true (fun (n d : Int) => [.sl I64 (momL n d), .int .i64 0]) (fun _ _ => []) (fun (n d : Int) h => call24 n d h)
def e28 : Entry Try.prog gl := entry2 28 ⟨Try.f28, by kernel_rfl, by kernel_rfl, by kernel_rfl⟩ I64 SI (fun (n : Int) p => cxOk n p) false (fun _ p => [.sl I64 (fcs p), .int .i64 0]) (fun _ _ => []) (fun (n : Int) p h => call28 n p h)
def e39 : Entry Try.prog gl := entry2 39 ⟨Try.f39, by kernel_rfl, by kernel_rfl, by kernel_rfl⟩ I64 SI (fun (n : Int) p => cxOk n p) true (fun _ p => [.int .i64 (eulN (isF p) 64), .int .i64 0]) (fun _ _ => []) (fun (n : Int) p h => call39 n p h)
instance (n : Int) (p : List Int) (k : Nat) : Decidable (goodAt n p k) := by unfold goodAt; infer_instance
instance (n : Int) (p : List Int) : Decidable (cxOk n p) := by unfold cxOk numOk; infer_instance
theorem call19 : GCall Try.prog gl 19 true [] [] [.tt] [] := by
 have f1 : cxOk 3 [3, 5, 6] := by decide +kernel
 have f2 : cxOk 3 [7] := by decide +kernel
 have f3 : cxOk 4 [3, 12] := by decide +kernel
 have f4 : cnts [3, 5, 6] = [1, 3, 3] := by kernel_rfl
 have f5 : hsL [3, 5, 6] = [1, 1, 1] := by kernel_rfl
 have f6 : hoL [3, 5, 6] = [0, 1] := by kernel_rfl
 have f7 : shL [7] = [0] := by kernel_rfl
 have f8 : fewR (grL (duaG 4 [3, 12])) = [5, 6, 9, 10] := by kernel_rfl
 have f9 : fewE (grL (duaG 4 [3, 12])) = 0 := by kernel_rfl
 refine gcall_of (X := X [e38, e27, e30, e15, e36, e24, e23]) (X_ok [e38, e27, e30, e15, e36, e24, e23]) (f := 19) (fn := Try.f19) (c := bodyOf Try.f19) (by kernel_rfl) (by kernel_rfl) (view := false) (rvs := [.tmp 0]) (by kernel_rfl) (H := fun _ => none) 200 (by kernel_rfl) ?_
 refine of_eq (q := True ∧ True ∧ ((numOk (3 : Int) ∧ ((1 : Nat) ≤ [(3 : Int), (5 : Int), (6 : Int)].length ∧ [(3 : Int), (5 : Int), (6 : Int)].length ≤ 10) ∧ ∀ (k : Nat), k < [(3 : Int), (5 : Int), (6 : Int)].length → goodAt (3 : Int) [(3 : Int), (5 : Int), (6 : Int)] k) ∧ True) ∧ True ∧ True ∧ True ∧ True ∧ True ∧ True ∧ ((numOk (3 : Int) ∧ ((1 : Nat) ≤ [(3 : Int), (5 : Int), (6 : Int)].length ∧ [(3 : Int), (5 : Int), (6 : Int)].length ≤ 10) ∧ ∀ (k : Nat), k < [(3 : Int), (5 : Int), (6 : Int)].length → goodAt (3 : Int) [(3 : Int), (5 : Int), (6 : Int)] k) ∧ True) ∧ True ∧ True ∧ True ∧ True ∧ True ∧ True ∧ ((numOk (3 : Int) ∧ ((1 : Nat) ≤ [(3 : Int), (5 : Int), (6 : Int)].length ∧ [(3 : Int), (5 : Int), (6 : Int)].length ≤ 10) ∧ ∀ (k : Nat), k < [(3 : Int), (5 : Int), (6 : Int)].length → goodAt (3 : Int) [(3 : Int), (5 : Int), (6 : Int)] k) ∧ True) ∧ True ∧ True ∧ True ∧ True ∧ True ∧ True ∧ ((numOk (3 : Int) ∧ ((1 : Nat) ≤ [(7 : Int)].length ∧ [(7 : Int)].length ≤ 10) ∧ ∀ (k : Nat), k < [(7 : Int)].length → goodAt (3 : Int) [(7 : Int)] k) ∧ True) ∧ True ∧ True ∧ True ∧ True ∧ True ∧ True ∧ True ∧ True ∧ ((numOk (4 : Int) ∧ ((1 : Nat) ≤ [(3 : Int), (12 : Int)].length ∧ [(3 : Int), (12 : Int)].length ≤ 10) ∧ ∀ (k : Nat), k < [(3 : Int), (12 : Int)].length → goodAt (4 : Int) [(3 : Int), (12 : Int)] k) ∧ True) ∧ True ∧ True ∧ True ∧ True ∧ True ∧ (((2 : Int) ≤ 3 ∧ (3 : Int) < 5 ∧ (5 : Int) ≤ 6) ∧ True) ∧ True ∧ True ∧ True ∧ True ∧ True ∧ True ∧ True ∧ True ∧ ((0 : Int) = 0 → True ∧ True ∧ ((cnts [(3 : Int), (5 : Int), (6 : Int)]).length + 1 ≤ 1000000000000000 ∧ True) ∧ True ∧ True ∧ (true = true → True ∧ True ∧ True ∧ True ∧ ((0 : Int) = 0 → True ∧ True ∧ ((hsL [(3 : Int), (5 : Int), (6 : Int)]).length + 1 ≤ 1000000000000000 ∧ True) ∧ True ∧ True ∧ (true = true → True ∧ True ∧ True ∧ True ∧ ((0 : Int) = 0 → True ∧ True ∧ ((hoL [(3 : Int), (5 : Int), (6 : Int)]).length + 1 ≤ 1000000000000000 ∧ True) ∧ True ∧ True ∧ (true = true → True ∧ True ∧ True ∧ True ∧ ((0 : Int) = 0 → True ∧ True ∧ True ∧ (true = true → True ∧ True ∧ ((shL [(7 : Int)]).length + 1 ≤ 1000000000000000 ∧ True) ∧ True ∧ True ∧ (true = true → True ∧ True ∧ True ∧ True ∧ (fewE (grL (duaG (4 : Int) [(3 : Int), (12 : Int)])) = 0 → True ∧ True ∧ ((fewR (grL (duaG (4 : Int) [(3 : Int), (12 : Int)]))).length + 1 ≤ 1000000000000000 ∧ True) ∧ True ∧ True ∧ (true = true → True ∧ True ∧ True ∧ True ∧ ((0 : Int) = 0 → True ∧ True ∧ True ∧ True ∧ True ∧ True ∧ (true = true ∧ True) ∧ True) ∧ (¬(0 : Int) = 0 → True ∧ True ∧ True ∧ (false = true ∧ True) ∧ True)) ∧ (true = false → True ∧ True ∧ True ∧ True ∧ True ∧ (false = true ∧ True) ∧ True)) ∧ (¬fewE (grL (duaG (4 : Int) [(3 : Int), (12 : Int)])) = 0 → True ∧ True ∧ True ∧ True ∧ True ∧ True ∧ True ∧ (false = true ∧ True) ∧ True)) ∧ (true = false → True ∧ True ∧ True ∧ True ∧ True ∧ True ∧ True ∧ True ∧ True ∧ (false = true ∧ True) ∧ True)) ∧ (true = false → True ∧ True ∧ True ∧ True ∧ True ∧ True ∧ True ∧ True ∧ True ∧ True ∧ True ∧ (false = true ∧ True) ∧ True)) ∧ (¬(0 : Int) = 0 → True ∧ True ∧ True ∧ True ∧ True ∧ True ∧ True ∧ True ∧ True ∧ True ∧ True ∧ True ∧ True ∧ (false = true ∧ True) ∧ True)) ∧ (true = false → True ∧ True ∧ True ∧ True ∧ True ∧ True ∧ True ∧ True ∧ True ∧ True ∧ True ∧ True ∧ True ∧ True ∧ True ∧ (false = true ∧ True) ∧ True)) ∧ (¬(0 : Int) = 0 → True ∧ True ∧ True ∧ True ∧ True ∧ True ∧ True ∧ True ∧ True ∧ True ∧ True ∧ True ∧ True ∧ True ∧ True ∧ True ∧ True ∧ (false = true ∧ True) ∧ True)) ∧ (true = false → True ∧ True ∧ True ∧ True ∧ True ∧ True ∧ True ∧ True ∧ True ∧ True ∧ True ∧ True ∧ True ∧ True ∧ True ∧ True ∧ True ∧ True ∧ True ∧ (false = true ∧ True) ∧ True)) ∧ (¬(0 : Int) = 0 → True ∧ True ∧ True ∧ True ∧ True ∧ True ∧ True ∧ True ∧ True ∧ True ∧ True ∧ True ∧ True ∧ True ∧ True ∧ True ∧ True ∧ True ∧ True ∧ True ∧ True ∧ (false = true ∧ True) ∧ True)) ∧ (true = false → True ∧ True ∧ True ∧ True ∧ True ∧ True ∧ True ∧ True ∧ True ∧ True ∧ True ∧ True ∧ True ∧ True ∧ True ∧ True ∧ True ∧ True ∧ True ∧ True ∧ True ∧ True ∧ True ∧ (false = true ∧ True) ∧ True)) ∧ (¬(0 : Int) = 0 → True ∧ True ∧ True ∧ True ∧ True ∧ True ∧ True ∧ True ∧ True ∧ True ∧ True ∧ True ∧ True ∧ True ∧ True ∧ True ∧ True ∧ True ∧ True ∧ True ∧ True ∧ True ∧ True ∧ True ∧ True ∧ (false = true ∧ True) ∧ True)) (by kernel_rfl) ?_
 rw [f4, f5, f6, f7, f8, f9]
 simp
 exact ⟨⟨f1.1, f1.2.2⟩, ⟨f2.1, f2.2.2 0 (by decide)⟩, f3.1, f3.2.2⟩
def e19 : Entry Try.prog gl where
 f := 19
 lend := false
 en := ⟨Try.f19, by kernel_rfl, by kernel_rfl, by kernel_rfl⟩
 go := fun args ob0 => match args, ob0 with
   | [], [] => some (True, true, [.tt], [])
   | _, _ => none
 ok := by
   intro args ob0 p s r o h hp
   split at h <;> try (cases h; done)
   injection h with h; injection h with h1 h2; injection h2 with h2 h3; injection h3 with h3 h4
   subst h1 h2 h3 h4
   exact call19
end Go.Am.Sh

/- Shells: the reference's shellings. -/
namespace Go.Am.Sh
open Go Go.Am Go.Proofs
def puN (p : List Int) (k : Nat) : Prop := ∀ i, i < k → pc (p.getD i 0).toNat = pc (p.getD 0 0).toNat
instance (p k) : Decidable (puN p k) := by unfold puN; infer_instance
def puB (p : List Int) : Bool := decide (puN p p.length)
structure ok10 (p : List Int) : Prop where
 h : okL p
 l : p.length ≤ 10
def fnd (p : List Int) (D s e : Nat) : Nat → Bool
 | 0 => false
 | g + 1 => fnd p D s e g || (decide (D / 2 ^ g % 2 = 1) && decide (pc (mns s (p.getD g 0).toNat) = 1) && decide (mns s (p.getD g 0).toNat &&& e = 0))
def nxN (p : List Int) (D i k : Nat) : Prop := ∀ e, e < k → D / 2 ^ e % 2 = 1 → fnd p D (p.getD i 0).toNat (p.getD e 0).toNat p.length = true
instance (p D i k) : Decidable (nxN p D i k) := by unfold nxN; infer_instance
def nxB (p : List Int) (D i : Nat) : Bool := decide (nxN p D i p.length)
structure ok57 (p : List Int) (D i : Int) : Prop where
 h : ok10 p
 D : 0 ≤ D ∧ D < 1024
 i : 0 ≤ i ∧ i < p.length
def sgB (p : List Int) (i : Int) : Bool := decide (0 ≤ i ∧ i < p.length)
/-- The set of the first k pieces of an order, if they are a shelling so far. -/
def sgK (p o : List Int) : Nat → Option Nat
 | 0 => some 0
 | k + 1 => (sgK p o k).bind fun D => if sgB p (o.getD k 0) = true ∧ D / 2 ^ (o.getD k 0).toNat % 2 = 0 ∧ nxB p D (o.getD k 0).toNat = true then some (D ||| 2 ^ (o.getD k 0).toNat) else none
def sgD (p o : List Int) (k : Nat) : Nat := (sgK p o k).getD 0
def sgR (p o : List Int) : Bool := (sgK p o o.length).isSome && decide (o.length = p.length) && puB p
theorem sg_some {p o : List Int} {k : Nat} (h : (sgK p o k).isSome = true) : sgK p o k = some (sgD p o k) := by
 unfold sgD
 cases hm : sgK p o k with
 | none => rw [hm] at h; cases h
 | some q => rfl
theorem sg_none {p o : List Int} {k : Nat} (h : sgK p o k = none) : ∀ j, sgK p o (k + j) = none
 | 0 => h
 | j + 1 => by rw [show k + (j + 1) = k + j + 1 by omega, sgK, sg_none h j]; try rfl
theorem sg_bad {p o : List Int} {k : Nat} (hk : k < o.length) (h : sgK p o (k + 1) = none) : sgR p o = false := by
 have := sg_none h (o.length - (k + 1))
 rw [show k + 1 + (o.length - (k + 1)) = o.length by omega] at this
 unfold sgR; rw [this]; try rfl
theorem sg_lt {p o : List Int} (hl : p.length ≤ 10) : ∀ {k : Nat} {D : Nat}, sgK p o k = some D → D < 1024
 | 0, D, h => by injection h with h; omega
 | k + 1, D, h => by
   rw [sgK] at h
   cases hm : sgK p o k with
   | none => rw [hm] at h; cases h
   | some q =>
     rw [hm] at h
     simp only [Option.bind_some] at h
     split at h
     · rename_i hc
       injection h with h; subst h
       have hb : 0 ≤ o.getD k 0 ∧ o.getD k 0 < p.length := of_decide_eq_true hc.1
       exact Nat.or_lt_two_pow (n := 10) (sg_lt hl hm) (Nat.pow_lt_pow_right (by decide) (by omega))
     · cases h
def in17 (p o : List Int) (k : Nat) : Prop := k ≤ o.length ∧ (sgK p o k).isSome = true
end Go.Am.Sh

/- Shells: the reference's Check. -/
namespace Go.Am.Sh
open Go Go.Am Go.Proofs
def chkE (n : Int) (p : List Int) : Int := if cxOk n p then 0 else errN n
/-- Piece k is in its place. -/
def plc (n : Int) (p : List Int) (k : Nat) : Prop := 1 ≤ p.getD k 0 ∧ p.getD k 0 < 2 ^ n.toNat ∧ (0 < k → p.getD (k - 1) 0 < p.getD k 0)
/-- Pieces j and k are no parts of one another. -/
def prt (p : List Int) (j k : Nat) : Prop := sub (p.getD j 0).toNat (p.getD k 0).toNat = false ∧ sub (p.getD k 0).toNat (p.getD j 0).toNat = false
def plcK (n : Int) (p : List Int) (k : Nat) : Prop := ∀ i, i < k → plc n p i ∧ ∀ j, j < i → prt p j i
theorem pow_le6 {n : Int} (h : numOk n) : (2 ^ n.toNat : Int) ≤ 64 := by
 obtain ⟨e1, e2, e3⟩ := numOk_pow h
 omega
theorem plc_rng {n : Int} {p : List Int} {k : Nat} (h : numOk n) (hp : plc n p k) : 0 ≤ p.getD k 0 ∧ p.getD k 0 < 64 := by
 have := pow_le6 h
 have h1 := hp.1
 have h2 := hp.2.1
 omega
theorem sub_and {a b : Int} (ha : 0 ≤ a ∧ a < 64) (hb : 0 ≤ b ∧ b < 64) : (bAnd .i64 a b = a) ↔ sub a.toNat b.toNat = true := by
 have : bAnd .i64 a b = ((a.toNat &&& b.toNat : Nat) : Int) := by rw [← bAnd_nat (by omega) (by omega), Int.toNat_of_nonneg ha.1, Int.toNat_of_nonneg hb.1]
 rw [this]
 unfold sub
 constructor
 · intro h
   have : a.toNat &&& b.toNat = a.toNat := by omega
   rw [this]; exact Nat.beq_refl _
 · intro h
   have := Nat.eq_of_beq_eq_true h
   omega
theorem cx_of {n : Int} {p : List Int} (h : numOk n) (hl : 1 ≤ p.length ∧ p.length ≤ 10) (hp : plcK n p p.length) : cxOk n p := by
 refine ⟨h, hl, fun k hk => ?_⟩
 obtain ⟨⟨h1, h2, h3⟩, h4⟩ := hp k hk
 refine ⟨h1, h2, h3, fun j hj hne e => ?_⟩
 have r1 := plc_rng h (hp k hk).1
 have r2 := plc_rng h (hp j hj).1
 rw [sub_and r1 r2] at e
 rcases Nat.lt_or_ge j k with hlt | hge
 · rw [(h4 j hlt).2] at e; cases e
 · rw [((hp j hj).2 k (by omega)).1] at e; cases e
theorem cx_plc {n : Int} {p : List Int} (h : cxOk n p) {k : Nat} (hk : k < p.length) : plc n p k := ⟨(h.2.2 k hk).1, (h.2.2 k hk).2.1, (h.2.2 k hk).2.2.1⟩
theorem cx_prt {n : Int} {p : List Int} (h : cxOk n p) {j k : Nat} (hk : k < p.length) (hj : j < k) : prt p j k := by
 have r1 := okL_get h.ok k
 have r2 := okL_get h.ok j
 have a1 := (h.2.2 k hk).2.2.2 j (by omega) (by omega)
 have a2 := (h.2.2 j (by omega)).2.2.2 k hk (by omega)
 rw [Ne, sub_and r1 r2] at a1
 rw [Ne, sub_and r2 r1] at a2
 exact ⟨by simpa using a2, by simpa using a1⟩
theorem chk10 {n : Int} {p : List Int} (h : numOk n) (hb : ¬ cxOk n p) : 10 = chkE n p := by
 unfold chkE errN
 rw [if_neg hb, if_pos (show 1 ≤ n ∧ n ≤ 6 from h)]
noncomputable def L26_0 : Code := lp (bodyOf Try.f26) 0
noncomputable def L26_2 : Code := lp (bodyOf Try.f26) 2
def st26 (n : Int) (p : List Int) (k : Nat) : St := ⟨.int .i64 n :: .sl I64 p :: dd 3 ++ .int .i64 k :: dd 76, []⟩
def in26 (n : Int) (p : List Int) (k : Nat) : Prop := k ≤ p.length ∧ plcK n p k
def ex26 (n : Int) (p : List Int) : List (List Nat × Ex) := [([1], ⟨0, Unit, fun _ => plcK n p p.length, fun _ => ⟨.dead :: .sl I64 p :: dd 80, []⟩⟩)]
def sj26 (n : Int) (p : List Int) (k j : Nat) : St := ⟨.int .i64 n :: .sl I64 p :: dd 3 ++ .int .i64 k :: .int .i64 j :: dd 75, []⟩
def ij26 (p : List Int) (k j : Nat) : Prop := j ≤ k ∧ ∀ i, i < j → prt p i k
def ej26 (n : Int) (p : List Int) (k : Nat) : List (List Nat × Ex) := [([0, 1, 5], ⟨2, Unit, fun _ => ij26 p k k, fun _ => st26 n p k⟩)]
def hj26 (n : Int) (p : List Int) (k : Nat) : Hint := ⟨chk 0 [0, 1, 5, 6] (ij26 p k) (sj26 n p k), (ej26 n p k).map (·.2)⟩
noncomputable def H26 (n : Int) (p : List Int) : Nat → Option Hint := fun _ => some ⟨chk 0 [0, 1, 5] (in26 n p) (st26 n p), (ex26 n p).map (·.2)⟩
noncomputable def R26 (n : Int) (p : List Int) : Exit → St → Prop := RetR (X [e63]) true false [.tmp 4] [.int .i64 (chkE n p)] []
theorem loop26b (n : Int) (p : List Int) (k : Nat) (hn : numOk n) (hl : p.length < 1000000000000000) (hk : k < p.length) (hi : plcK n p k) (hg : plc n p k) : LoopOK (X [e63]) L26_2 (hj26 n p k) (bodyR (X [e63]).m0 (ex26 n p) (R26 n p)) := by
 refine loop_ok (X_ok _) (H := fun _ _ => none) [0, 1, 5, 6] (ij26 p k) (sj26 n p k) (fun j => k - j) (ej26 n p k) 150 fun (j : Nat) hj => ?_
 refine of_eq (q := True ∧ True ∧ True ∧ ((j : Int) < (k : Int) → True ∧ True ∧ idxPre (j : Int) p.length ∧ True ∧ True ∧ True ∧ idxPre (k : Int) p.length ∧ True ∧ (((0 : Int) ≤ p.getD j (0 : Int) ∧ p.getD j (0 : Int) < 64) ∧ (0 : Int) ≤ p.getD k (0 : Int) ∧ p.getD k (0 : Int) < 64) ∧ True ∧ (sub (Int.toNat (p.getD j (0 : Int))) (Int.toNat (p.getD k (0 : Int))) = true → True ∧ True ∧ True ∧ ((10 : Int) = chkE n p ∧ True) ∧ True) ∧ (sub (Int.toNat (p.getD j (0 : Int))) (Int.toNat (p.getD k (0 : Int))) = false → True ∧ True ∧ idxPre (k : Int) p.length ∧ True ∧ True ∧ True ∧ idxPre (j : Int) p.length ∧ True ∧ (((0 : Int) ≤ p.getD k (0 : Int) ∧ p.getD k (0 : Int) < 64) ∧ (0 : Int) ≤ p.getD j (0 : Int) ∧ p.getD j (0 : Int) < 64) ∧ True ∧ (sub (Int.toNat (p.getD k (0 : Int))) (Int.toNat (p.getD j (0 : Int))) = true → True ∧ True ∧ ((10 : Int) = chkE n p ∧ True) ∧ True) ∧ (sub (Int.toNat (p.getD k (0 : Int))) (Int.toNat (p.getD j (0 : Int))) = false → True ∧ inR .i64 ((j : Int) + 1) ∧ True ∧ ∃ (y : Nat), (ij26 p k y ∧ k - y < k - j) ∧ (n = n ∧ p = p ∧ (k : Int) = (k : Int) ∧ (j : Int) + 1 = (y : Int) ∧ True) ∧ True))) ∧ (¬(j : Int) < (k : Int) → ∃ (y : Unit), ij26 p k k ∧ (n = n ∧ p = p ∧ (k : Int) = (k : Int) ∧ True) ∧ True)) (by kernel_rfl) ?_
 simp only [zz]
 obtain ⟨j1, j2⟩ := hj
 have rk := plc_rng hn hg
 refine ⟨fun hlt => ?_, fun hlt => by rw [show k = j by omega] at j2 ⊢; exact ⟨Nat.le_refl _, j2⟩⟩
 have rj := plc_rng hn (hi j (by omega)).1
 refine ⟨idx_nat (by omega), idx_nat hk, ⟨rj, rk⟩, fun hx => chk10 hn fun hc => ?_, fun hx => ⟨idx_nat hk, idx_nat (by omega), ⟨rk, rj⟩, fun hy => chk10 hn fun hc => ?_, fun hy => ⟨by simp only [inR]; omega, j + 1, ⟨⟨by omega, fun i hi2 => ?_⟩, by omega⟩, by omega⟩⟩⟩
 · rw [(cx_prt hc hk (show j < k by omega)).1] at hx; cases hx
 · rw [(cx_prt hc hk (show j < k by omega)).2] at hy; cases hy
 · rcases Nat.lt_or_ge i j with h1 | h1
   · exact j2 i h1
   · rw [show i = j by omega]; exact ⟨hx, hy⟩
theorem loop26 (n : Int) (p : List Int) (hn : numOk n) (hl : p.length < 1000000000000000) : LoopOK (X [e63]) L26_0 ⟨chk 0 [0, 1, 5] (in26 n p) (st26 n p), (ex26 n p).map (·.2)⟩ (R26 n p) := by
 refine loop_ok (X_ok _) (H := fun k _ => some (hj26 n p k)) [0, 1, 5] (in26 n p) (st26 n p) (fun k => p.length - k) (ex26 n p) 150 fun (k : Nat) hk => ?_
 have hL := fun h1 h2 h3 => loop26b n p k hn hl h1 h2 h3
 refine of_eq (q := True ∧ True ∧ True ∧ True ∧ ((k : Int) < (p.length : Int) → True ∧ True ∧ idxPre (k : Int) p.length ∧ True ∧ True ∧ True ∧ (p.getD k (0 : Int) < 1 → True ∧ True ∧ True ∧ True ∧ True ∧ ((10 : Int) = chkE n p ∧ True) ∧ True) ∧ (¬p.getD k (0 : Int) < 1 → True ∧ True ∧ idxPre (k : Int) p.length ∧ True ∧ True ∧ (((0 : Int) ≤ n ∧ n < bitsOf .i64) ∧ (-9223372036854775808 : Int) ≤ 1 * 2 ^ n.toNat ∧ (1 : Int) * 2 ^ n.toNat ≤ 9223372036854775807) ∧ True ∧ True ∧ True ∧ ((1 : Int) * 2 ^ n.toNat ≤ p.getD k (0 : Int) → True ∧ True ∧ True ∧ ((10 : Int) = chkE n p ∧ True) ∧ True) ∧ (¬(1 : Int) * 2 ^ n.toNat ≤ p.getD k (0 : Int) → True ∧ True ∧ True ∧ ((0 : Int) < (k : Int) → True ∧ True ∧ inR .i64 ((k : Int) - 1) ∧ idxPre ((k : Int) - 1) p.length ∧ True ∧ True ∧ True ∧ idxPre (k : Int) p.length ∧ True ∧ True ∧ True ∧ True ∧ (p.getD k (0 : Int) ≤ p.getD ((k : Int) - 1).toNat (0 : Int) → True ∧ True ∧ ((10 : Int) = chkE n p ∧ True) ∧ True) ∧ (¬p.getD k (0 : Int) ≤ p.getD ((k : Int) - 1).toNat (0 : Int) → True ∧ LoopOK (X [e63]) L26_2 (hj26 n p k) (bodyR (X [e63]).m0 (ex26 n p) (R26 n p)) ∧ (∃ (y : Nat), ij26 p k y ∧ (n = n ∧ p = p ∧ (k : Int) = (k : Int) ∧ (0 : Int) = (y : Int) ∧ True) ∧ True) ∧ (∀ (y : Unit), ij26 p k k → True ∧ inR .i64 ((k : Int) + 1) ∧ True ∧ ∃ (y : Nat), (in26 n p y ∧ p.length - y < p.length - k) ∧ (n = n ∧ p = p ∧ (k : Int) + 1 = (y : Int) ∧ True) ∧ True) ∧ True)) ∧ (¬(0 : Int) < (k : Int) → True ∧ True ∧ True ∧ LoopOK (X [e63]) L26_2 (hj26 n p k) (bodyR (X [e63]).m0 (ex26 n p) (R26 n p)) ∧ (∃ (y : Nat), ij26 p k y ∧ (n = n ∧ p = p ∧ (k : Int) = (k : Int) ∧ (0 : Int) = (y : Int) ∧ True) ∧ True) ∧ (∀ (y : Unit), ij26 p k k → True ∧ inR .i64 ((k : Int) + 1) ∧ True ∧ ∃ (y : Nat), (in26 n p y ∧ p.length - y < p.length - k) ∧ (n = n ∧ p = p ∧ (k : Int) + 1 = (y : Int) ∧ True) ∧ True) ∧ True)))) ∧ (¬(k : Int) < (p.length : Int) → ∃ (y : Unit), plcK n p p.length ∧ (p = p ∧ True) ∧ True)) (by kernel_rfl) ?_
 simp only [zz]
 obtain ⟨k1, k2⟩ := hk
 have hp6 := pow_le6 hn
 obtain ⟨n1, n2⟩ := hn
 have hp0 : (0 : Int) < 2 ^ n.toNat := Int.pow_pos (by decide)
 rw [Int.one_mul]
 refine ⟨fun hlt => ?_, fun hlt => by rw [show p.length = k by omega]; exact k2⟩
 have hkl : k < p.length := by omega
 have hin : ∃ y : Nat, ij26 p k y ∧ (0 : Int) = (y : Int) := ⟨0, ⟨Nat.zero_le _, fun i hi => absurd hi (Nat.not_lt_zero i)⟩, rfl⟩
 have hnx : plc n p k → ij26 p k k → inR .i64 ((k : Int) + 1) ∧ ∃ y : Nat, (in26 n p y ∧ p.length - y < p.length - k) ∧ (k : Int) + 1 = (y : Int) := fun hg hj => ⟨by simp only [inR]; omega, k + 1, ⟨⟨by omega, fun i hi => by
   rcases Nat.lt_or_ge i k with h1 | h1
   · exact k2 i h1
   · rw [show i = k by omega]; exact ⟨hg, hj.2⟩⟩, by omega⟩, by omega⟩
 refine ⟨idx_nat hkl, fun hx => chk10 ⟨n1, n2⟩ fun hc => ?_, fun hx => ⟨idx_nat hkl, ⟨⟨by omega, by simp only [bitsOf]; omega⟩, by omega, by omega⟩, fun hy => chk10 ⟨n1, n2⟩ fun hc => ?_, fun hy => ⟨fun h0 => ?_, fun h0 => ?_⟩⟩⟩
 · have := (cx_plc hc hkl).1; omega
 · have := (cx_plc hc hkl).2.1; omega
 · rw [show ((k : Int) - 1).toNat = k - 1 by omega]
   refine ⟨by simp only [inR]; omega, by unfold idxPre; omega, idx_nat hkl, fun hz => chk10 ⟨n1, n2⟩ fun hc => ?_, fun hz => ?_⟩
   · have := (cx_plc hc hkl).2.2 (by omega); omega
   · have hg : plc n p k := ⟨by omega, by omega, fun _ => by omega⟩
     exact ⟨hL hkl k2 hg, hin, fun _ hj => hnx hg hj⟩
 · have hg : plc n p k := ⟨by omega, by omega, fun _ => by omega⟩
   exact ⟨hL hkl k2 hg, hin, fun _ hj => hnx hg hj⟩
theorem call26 (n : Int) (p : List Int) (hl : p.length < 1000000000000000) : GCall Try.prog gl 26 true [.int .i64 n, .sl I64 p] [] [.int .i64 (chkE n p)] [] := by
 refine gcall_of (X := X [e63]) (X_ok [e63]) (f := 26) (fn := Try.f26) (c := bodyOf Try.f26) (by kernel_rfl) (by kernel_rfl) (view := false) (rvs := [.tmp 4]) (by kernel_rfl) (H := (H26 n p)) 80 (by kernel_rfl) ?_
 have hL := fun h => loop26 n p h hl
 refine of_eq (q := True ∧ True ∧ True ∧ True ∧ (n < 1 → True ∧ True ∧ True ∧ ((1 : Int) = chkE n p ∧ True) ∧ True) ∧ (¬n < 1 → True ∧ True ∧ True ∧ ((6 : Int) < n → True ∧ True ∧ ((1 : Int) = chkE n p ∧ True) ∧ True) ∧ (¬(6 : Int) < n → True ∧ LoopOK (X [e63]) L26_0 { J := chk (0 : Nat) [(0 : Nat), (1 : Nat), (5 : Nat)] (in26 n p) (st26 n p), exits := List.map (fun (x : List Nat × Ex) => x.snd) (ex26 n p) } (R26 n p) ∧ (∃ (y : Nat), in26 n p y ∧ (n = n ∧ p = p ∧ (0 : Int) = (y : Int) ∧ True) ∧ True) ∧ (∀ (y : Unit), plcK n p p.length → True ∧ True ∧ True ∧ True ∧ ((p.length : Int) < 1 → True ∧ True ∧ True ∧ ((10 : Int) = chkE n p ∧ True) ∧ True) ∧ (¬(p.length : Int) < 1 → True ∧ True ∧ True ∧ True ∧ ((10 : Int) < (p.length : Int) → True ∧ True ∧ ((10 : Int) = chkE n p ∧ True) ∧ True) ∧ (¬(10 : Int) < (p.length : Int) → True ∧ True ∧ ((0 : Int) = chkE n p ∧ True) ∧ True))) ∧ True))) (by kernel_rfl) ?_
 simp only [zz]
 have h1 : ¬ numOk n → 1 = chkE n p := fun h => by
   unfold chkE errN
   rw [if_neg fun hc => h hc.1, if_neg (show ¬ (1 ≤ n ∧ n ≤ 6) from h)]
 refine ⟨fun h => h1 fun hc => by have := hc.1; omega, fun h => ⟨fun h2 => h1 fun hc => by have := hc.2; omega, fun h2 => ⟨hL ⟨by omega, by omega⟩, ⟨0, ⟨Nat.zero_le _, fun i hi => absurd hi (Nat.not_lt_zero i)⟩, rfl⟩, fun _ hp => ⟨fun h3 => ?_, fun h3 => ⟨fun h4 => ?_, fun h4 => ?_⟩⟩⟩⟩⟩
 · exact chk10 ⟨by omega, by omega⟩ fun hc => by have := hc.2.1.1; omega
 · exact chk10 ⟨by omega, by omega⟩ fun hc => by have := hc.2.1.2; omega
 · unfold chkE; rw [if_pos (cx_of ⟨by omega, by omega⟩ ⟨by omega, by omega⟩ hp)]
end Go.Am.Sh

/- Shells: the law of the moment complexes. -/
namespace Go.Am.Sh
open Go Go.Am Go.Proofs
/-- How many of a list have all of a set. -/
def cntM (x : Nat) (p : List Int) (j : Nat) : Nat := ((p.take j).filter fun s => decide (mns x s.toNat = 0)).length
structure mf (n d : Int) : Prop where
 m : momOk n d
 len : 1 ≤ (momL n d).length ∧ (momL n d).length ≤ 10
 hl : ((hsL (momL n d)).length : Int) = d + 1
 hs : ∀ k, k < d.toNat + 1 → (hsL (momL n d)).getD k 0 = (hsL (momL n d)).getD (d.toNat - k) 0
 sh : shB (momL n d) = true
 sg : sgR (momL n d) (shL (momL n d)) = true
 sl : (shL (momL n d)).length ≤ 10
 two : ∀ k, k < (fcs (momL n d)).length → (pc ((fcs (momL n d)).getD k 0).toNat : Int) = d - 1 → cntM ((fcs (momL n d)).getD k 0).toNat (momL n d) (momL n d).length = 2
instance (n d : Int) : Decidable (momOk n d) := by unfold momOk; infer_instance
end Go.Am.Sh

/- Shells: the reference's Pieces. -/
namespace Go.Am.Sh
open Go Go.Am Go.Proofs
structure ok22 (s : List Int) : Prop where
 h : okL s
 l : s.length < 1000000
end Go.Am.Sh

/- Shells: tame. -/
namespace Go.Am.Sh
open Go Go.Am Go.Proofs
end Go.Am.Sh

/- Shells: the reference's Counts, choose, Hs, Euler. -/
namespace Go.Am.Sh
open Go Go.Am Go.Proofs
def chK (n : Int) : Nat → Int
 | 0 => 1
 | k + 1 => (chK n k * (n - (k + 1) + 1)).tdiv (k + 1)
end Go.Am.Sh

/- Shells: the reference's Hs and Euler. -/
namespace Go.Am.Sh
open Go Go.Am Go.Proofs
def sg (j : Nat) : Int := 1 - 2 * ((j % 2 : Nat) : Int)
def htm (f : List Int) (k i : Nat) : Int := f.getD i 0 * chK ((f.length - 1 - i : Nat) : Int) (k - i) * sg (k - i)
def hsum (f : List Int) (k : Nat) : Nat → Int
 | 0 => 0
 | i + 1 => hsum f k i + htm f k i
def rhL (f : List Int) : List Int := (List.range f.length).map fun j => hsum f j (j + 1)
structure okF (f : List Int) : Prop where
 b : bdd 64 f
 l : 1 ≤ f.length ∧ f.length ≤ 7
end Go.Am.Sh

/- Shells: the law of the counts. -/
namespace Go.Am.Sh
open Go Go.Am Go.Proofs
theorem hq1 (a : Int) : hsK [a] 1 = rhL [a] := by
 simp [hsK, rhL, hsum, htm, sg, chK]
theorem hq2 (a b : Int) : hsK [a, b] 2 = rhL [a, b] := by
 simp [hsK, rhL, hsum, htm, sg, chK, triJ, List.range_succ]
 try omega
theorem hq3 (a b c : Int) : hsK [a, b, c] 3 = rhL [a, b, c] := by
 simp [hsK, rhL, hsum, htm, sg, chK, triJ, List.range_succ]
 try omega
end Go.Am.Sh

/- Shells: Made. -/
namespace Go.Am.Sh
open Go Go.Am Go.Proofs
def obN (n : Int) : List Ob := [.bx (.int .i64 n)]
def badB (n s : Int) : Bool := decide (s < 0 ∨ 2 ^ n.toNat ≤ s)
structure ok83m (x : List Int × Int) : Prop where
 n : numOk x.2
 l : x.1.length ≤ 64
def badL (n : Int) (p : List Int) : Bool := p.any (badB n)
def madOk (n : Int) (p : List Int) : Prop := numOk n ∧ p.length ≤ 64 ∧ badL n p = false
instance (n p) : Decidable (madOk n p) := by unfold madOk numOk; infer_instance
def madE (n : Int) (p : List Int) : Int := if madOk n p then fewE (grL (isF p)) else 1
def madR (n : Int) (p : List Int) : List Int := if madOk n p then fewR (grL (isF p)) else []
theorem isF_iff {s : List Int} {x : Nat} : isF s x = true ↔ ∃ i, i < s.length ∧ sub x (s.getD i 0).toNat = true := by
 unfold isF
 rw [List.any_eq_true]
 constructor
 · rintro ⟨a, ha, h⟩
   obtain ⟨i, hi, e⟩ := List.getElem_of_mem ha
   exact ⟨i, hi, by rw [getD_lt hi, e]; exact h⟩
 · rintro ⟨i, hi, h⟩
   exact ⟨_, mem_getD hi, h⟩
end Go.Am.Sh

/- Shells: the reference's Moment. -/
namespace Go.Am.Sh
open Go Go.Am Go.Proofs
def gapB (k a b : Nat) : Bool := decide (k / 2 ^ a % 2 = 0) && decide (k / 2 ^ b % 2 = 0) && decide (pc (k / 2 ^ (a + 1) % 2 ^ (b - a - 1)) % 2 = 1)
def inB (k a : Nat) : Nat → Bool
 | 0 => true
 | j + 1 => inB k a j && !gapB k a (a + 1 + j)
theorem pow_cast (j : Nat) : (2 ^ j : Int) = ((2 ^ j : Nat) : Int) := by rw [Int.natCast_pow]; try rfl
theorem kt {k a j : Nat} : ((k : Int) / 2 ^ (a + 1)).tmod (1 * 2 ^ j) = ((k / 2 ^ (a + 1) % 2 ^ j : Nat) : Int) := by
 rw [Int.one_mul, pow_cast, pow_cast]
 generalize 2 ^ (a + 1) = P
 generalize 2 ^ j = Q
 have e1 : (k : Int) / (P : Int) = ((k / P : Nat) : Int) := by rw [Int.natCast_ediv]
 rw [e1, Int.tmod_eq_emod_of_nonneg (Int.natCast_nonneg _), Int.natCast_emod]
theorem pt {x : Nat} : ((pc x : Nat) : Int).tmod 2 = ((pc x % 2 : Nat) : Int) := by
 rw [Int.tmod_eq_emod_of_nonneg (Int.natCast_nonneg _)]; omega
end Go.Am.Sh

/- Shells: the law's pure. -/
namespace Go.Am.Sh
open Go Go.Am Go.Proofs
structure cxS (n : Int) (p : List Int) : Prop where
end Go.Am.Sh

/- Shells: what follows, in the program and in the reference; IsShelling. -/
namespace Go.Am.Sh
open Go Go.Am Go.Proofs
theorem mns_bit (a e v : Nat) : (mns a e).testBit v = (a.testBit v && !e.testBit v) := by
 unfold mns
 rw [Nat.testBit_xor, Nat.testBit_and]
 cases a.testBit v <;> cases e.testBit v <;> rfl
theorem mns_or (a b e : Nat) : mns (a ||| b) e = mns a e ||| mns b e := by
 apply Nat.eq_of_testBit_eq
 intro v
 rw [mns_bit, Nat.testBit_or, Nat.testBit_or, mns_bit, mns_bit]
 cases a.testBit v <;> cases b.testBit v <;> cases e.testBit v <;> rfl
theorem or_ne (x y : Nat) : x ||| y ≠ 0 ↔ x ≠ 0 ∨ y ≠ 0 := by
 rw [Ne, Nat.or_eq_zero_iff]; omega
theorem one_and : ∀ m e : Fin 64, pc m.val = 1 → ((m.val &&& e.val = 0) ↔ mns m.val e.val ≠ 0) := by decide +kernel
theorem low_fnd {n : Int} {p : List Int} (hp : cxOk n p) {D s e : Nat} (hs : s < 64) (he : e < 64) : ∀ k, (mns (lowK p D s k) e ≠ 0) ↔ fnd p D s e k = true
 | 0 => by
   have : mns 0 e = 0 := by unfold mns; rw [Nat.zero_and]; try rfl
   simp [lowK, fnd, this]
 | k + 1 => by
   have ih := low_fnd hp (D := D) hs he k
   have h1 := okL_get hp.ok k
   have hm := mns_lt ⟨s, hs⟩ ⟨(p.getD k 0).toNat, by omega⟩
   simp only at hm
   have ho := one_and ⟨mns s (p.getD k 0).toNat, hm⟩ ⟨e, he⟩
   simp only at ho
   rw [lowK, fnd, Bool.or_eq_true, Bool.and_eq_true, Bool.and_eq_true, decide_eq_true_eq, decide_eq_true_eq, decide_eq_true_eq, ← ih]
   by_cases hc : D / 2 ^ k % 2 = 1 ∧ pc (mns s (p.getD k 0).toNat) = 1
   · rw [if_pos hc, mns_or, or_ne]
     constructor
     · rintro (h | h)
       · exact .inl h
       · exact .inr ⟨hc, (ho hc.2).mpr h⟩
     · rintro (h | h)
       · exact .inl h
       · exact .inr ((ho hc.2).mp h.2)
   · rw [if_neg hc]
     constructor
     · exact .inl
     · rintro (h | h)
       · exact h
       · exact absurd h.1 hc
theorem flw_nx {n : Int} {p : List Int} (hp : cxOk n p) (D i : Nat) : flw p D i = nxB p D i := by
 have hs := okL_get hp.ok i
 unfold flw nxB
 rw [decide_eq_decide]
 unfold flwN nxN low
 constructor
 · intro h e he hb
   have hr := okL_get hp.ok e
   exact (low_fnd hp (by omega) (by omega) _).mp (h e he hb)
 · intro h e he hb
   have hr := okL_get hp.ok e
   exact (low_fnd hp (by omega) (by omega) _).mpr (h e he hb)
theorem pure_pu {n : Int} {p : List Int} (hp : cxOk n p) : pure p = puB p := by
 have h1 := hp.2.1.1
 have hmx : ∃ j, j < p.length ∧ ((pc (p.getD j 0).toNat : Nat) : Int) = mxL p := by
   have key : ∀ k, 1 ≤ k → k ≤ p.length → ∃ j, j < k ∧ ((pc (p.getD j 0).toNat : Nat) : Int) = mxK p k := by
     intro k
     induction k with
     | zero => intro h; omega
     | succ k ih =>
       intro _ hk
       rw [mxK_step (by omega)]
       unfold maxI
       by_cases hlt : mxK p k < ((pc (p.getD k 0).toNat : Nat) : Int)
       · rw [if_pos hlt]; exact ⟨k, by omega, rfl⟩
       · rw [if_neg hlt]
         rcases Nat.eq_zero_or_pos k with h0 | h0
         · subst h0
           refine ⟨0, by omega, ?_⟩
           have : mxK p 0 = 0 := rfl
           omega
         · obtain ⟨j, h2, h3⟩ := ih h0 (by omega)
           exact ⟨j, by omega, h3⟩
   exact key p.length h1 (Nat.le_refl _)
 obtain ⟨j, hj, hj2⟩ := hmx
 rw [Bool.eq_iff_iff]
 unfold pure puB
 rw [List.all_eq_true, decide_eq_true_eq]
 constructor
 · intro h i hi
   have a := of_decide_eq_true (h _ (mem_getD (d := 0) hi))
   have b := of_decide_eq_true (h _ (mem_getD (d := 0) (show 0 < p.length by omega)))
   omega
 · intro h s hs
   obtain ⟨k, hk, e⟩ := List.getElem_of_mem hs
   have a := h k hk
   have b := h j hj
   rw [getD_lt hk, e] at a
   exact decide_eq_true (by omega)
end Go.Am.Sh

/- Shells: the reference's Shellable. -/
namespace Go.Am.Sh
open Go Go.Am Go.Proofs
/-- The sets that are reached: one row, the first k of its pieces. -/
def rowC (p : List Int) (D : Nat) (xs : List Bool) : Nat → List Bool
 | 0 => xs
 | k + 1 => if D / 2 ^ k % 2 = 0 ∧ nxB p D k = true then (rowC p D xs k).set (D ||| 2 ^ k) true else rowC p D xs k
/-- ... the first rows. -/
def canC (p : List Int) : Nat → List Bool
 | 0 => (List.replicate (2 ^ p.length) false).set 0 true
 | D + 1 => if (canC p D).getD D false = true then rowC p D (canC p D) p.length else canC p D
def shR (p : List Int) : Bool := puB p && (canC p (2 ^ p.length)).getD (2 ^ p.length - 1) false
end Go.Am.Sh

/- Shells: what the search finds is what the reference reaches. -/
namespace Go.Am.Sh
open Go Go.Am Go.Proofs
structure rOk (p : List Int) (r : Res) : Prop where
 s : (sgK p r.2.1 r.2.1.length).isSome = true
 l : r.2.1.length = p.length
end Go.Am.Sh

/- Shells: the law of the shellings. -/
namespace Go.Am.Sh
open Go Go.Am Go.Proofs
structure shF (p : List Int) : Prop where
 e : shB p = shR p
 s : shB p = true → sgR p (shL p) = true
 z : shB p = false → shL p = []
 l : (shL p).length ≤ 10
end Go.Am.Sh

/- Shells: the walk of the law of the shellings. -/
namespace Go.Am.Sh
open Go Go.Am Go.Proofs
end Go.Am.Sh

/- Shells: Made, as the law says it; IsShelling. -/
namespace Go.Am.Sh
open Go Go.Am Go.Proofs
noncomputable def L73_0 : Code := lp (bodyOf Try.f73) 0
def st73 (n : Int) (p o : List Int) (k : Nat) : St := ⟨.ptr 0 0 [] :: dd 4 ++ .int .i64 (sgD p o k) :: dd 15 ++ .sl I64 o :: .int .i64 o.length :: .int .i64 k :: dd 35, [cxO n p]⟩
def ex73 (n : Int) (p o : List Int) : List (List Nat × Ex) := [([], ⟨0, Unit, fun _ => (sgK p o o.length).isSome = true, fun _ => ⟨dd 59, [cxO n p]⟩⟩)]
noncomputable def H73 (n : Int) (p o : List Int) : Nat → Option Hint := fun _ => some ⟨chk 1 [0, 5, 21, 22, 23] (in17 p o) (st73 n p o), (ex73 n p o).map (·.2)⟩
noncomputable abbrev X73 : Cy := X1 [e54, e56]
theorem loop73 (n : Int) (p o : List Int) (h : cxOk n p) (hl : o.length = p.length) (hp : pure p = true) : LoopOK X73 L73_0 ⟨chk 1 [0, 5, 21, 22, 23] (in17 p o) (st73 n p o), (ex73 n p o).map (·.2)⟩ (RetR X73 false false [.tmp 4] [.bool (sgR p o)] [cxO n p]) := by
 refine loop_ok (X1_ok _) (H := fun _ _ => none) [0, 5, 21, 22, 23] (in17 p o) (st73 n p o) (fun k => o.length - k) (ex73 n p o) 150 fun (k : Nat) hk => ?_
 refine of_eq (q := True ∧ ((k : Int) < (o.length : Int) → idxPre (k : Int) o.length ∧ True ∧ True ∧ True ∧ True ∧ True ∧ (o.getD k (0 : Int) < 0 → True ∧ True ∧ True ∧ True ∧ True ∧ True ∧ True ∧ (false = sgR p o ∧ True) ∧ (n = n ∧ p = p ∧ mk (isF p) = mk (isF p) ∧ True) ∧ True) ∧ (¬o.getD k (0 : Int) < 0 → True ∧ True ∧ True ∧ True ∧ True ∧ True ∧ True ∧ True ∧ True ∧ ((p.length : Int) ≤ o.getD k (0 : Int) → True ∧ True ∧ True ∧ True ∧ True ∧ (false = sgR p o ∧ True) ∧ (n = n ∧ p = p ∧ mk (isF p) = mk (isF p) ∧ True) ∧ True) ∧ (¬(p.length : Int) ≤ o.getD k (0 : Int) → True ∧ True ∧ inR .u64 (o.getD k (0 : Int)) ∧ ((0 : Int) ≤ o.getD k (0 : Int) ∧ o.getD k (0 : Int) < bitsOf .i64) ∧ True ∧ True ∧ True ∧ True ∧ (bAnd .i64 ((↑(sgD p o k) : Int) / (2 : Int) ^ Int.toNat (o.getD k (0 : Int))) (1 : Int) = 1 → True ∧ True ∧ True ∧ (false = sgR p o ∧ True) ∧ (n = n ∧ p = p ∧ mk (isF p) = mk (isF p) ∧ True) ∧ True) ∧ (¬bAnd .i64 ((↑(sgD p o k) : Int) / (2 : Int) ^ Int.toNat (o.getD k (0 : Int))) (1 : Int) = 1 → True ∧ True ∧ True ∧ ((ok56 ((↑(sgD p o k) : Int), o.getD k (0 : Int), n, p, mk (isF p)) ∧ (True ∧ (↑(sgD p o k) : Int) = (↑(sgD p o k) : Int) ∧ o.getD k (0 : Int) = o.getD k (0 : Int) ∧ True) ∧ (n = n ∧ p = p ∧ mk (isF p) = mk (isF p) ∧ True) ∧ True) ∧ True ∧ True) ∧ True ∧ True ∧ ((!flw p (sgD p o k) (Int.toNat (o.getD k (0 : Int)))) = true → True ∧ True ∧ (false = sgR p o ∧ True) ∧ (n = n ∧ p = p ∧ mk (isF p) = mk (isF p) ∧ True) ∧ True) ∧ ((!flw p (sgD p o k) (Int.toNat (o.getD k (0 : Int)))) = false → True ∧ True ∧ inR .u64 (o.getD k (0 : Int)) ∧ (((0 : Int) ≤ o.getD k (0 : Int) ∧ o.getD k (0 : Int) < bitsOf .i64) ∧ (-9223372036854775808 : Int) ≤ 1 * 2 ^ Int.toNat (o.getD k (0 : Int)) ∧ (1 : Int) * 2 ^ Int.toNat (o.getD k (0 : Int)) ≤ 9223372036854775807) ∧ True ∧ True ∧ inR .i64 ((k : Int) + 1) ∧ True ∧ ∃ (y : Nat), (in17 p o y ∧ o.length - y < o.length - k) ∧ (True ∧ bOr .i64 (↑(sgD p o k) : Int) ((1 : Int) * 2 ^ Int.toNat (o.getD k (0 : Int))) = (↑(sgD p o y) : Int) ∧ o = o ∧ (o.length : Int) = (o.length : Int) ∧ (k : Int) + 1 = (y : Int) ∧ True) ∧ (n = n ∧ p = p ∧ mk (isF p) = mk (isF p) ∧ True) ∧ True))))) ∧ (¬(k : Int) < (o.length : Int) → ∃ (y : Unit), (sgK p o o.length).isSome = true ∧ True ∧ (n = n ∧ p = p ∧ mk (isF p) = mk (isF p) ∧ True) ∧ True)) (by kernel_rfl) ?_
 simp only [zz]
 obtain ⟨k1, k2⟩ := hk
 have hl2 := h.2.1
 have hs := sg_some k2
 have hD := sg_lt hl2.2 hs
 refine ⟨fun hlt => ?_, fun hlt => by rw [show o.length = k by omega]; exact k2⟩
 have hst : sgK p o (k + 1) = if sgB p (o.getD k 0) = true ∧ sgD p o k / 2 ^ (o.getD k 0).toNat % 2 = 0 ∧ nxB p (sgD p o k) (o.getD k 0).toNat = true then some (sgD p o k ||| 2 ^ (o.getD k 0).toNat) else none := by rw [sgK, hs]; try rfl
 have hbad : ¬ (sgB p (o.getD k 0) = true ∧ sgD p o k / 2 ^ (o.getD k 0).toNat % 2 = 0 ∧ nxB p (sgD p o k) (o.getD k 0).toNat = true) → false = sgR p o := fun hc => by
   rw [if_neg hc] at hst
   exact (sg_bad (by omega) hst).symm
 rw [bit_shr hD, flw_nx h]
 refine ⟨idx_nat (by omega), fun hx => hbad fun hc => ?_, fun hx => ⟨fun hx2 => hbad fun hc => ?_, fun hx2 => ⟨by simp only [inR]; omega, ⟨by omega, by simp only [bitsOf]; omega⟩, fun hb => hbad fun hc => ?_, fun hb => ⟨⟨⟨h, rfl⟩, ⟨by simp only; omega, by simp only; omega⟩, ⟨by simp only; omega, by simp only; omega⟩⟩, fun hn => hbad fun hc => ?_, fun hn => ?_⟩⟩⟩⟩
 · have : 0 ≤ o.getD k 0 ∧ o.getD k 0 < p.length := of_decide_eq_true hc.1
   omega
 · have : 0 ≤ o.getD k 0 ∧ o.getD k 0 < p.length := of_decide_eq_true hc.1
   omega
 · have := hc.2.1
   omega
 · rw [hc.2.2] at hn; cases hn
 · have hb2 := or_pow10 hD (k := (o.getD k 0).toNat) (by omega)
   rw [if_pos ⟨decide_eq_true ⟨by omega, by omega⟩, by omega, by simpa using hn⟩] at hst
   exact ⟨by simp only [inR]; omega, ⟨⟨by omega, by simp only [bitsOf]; omega⟩, by omega, by omega⟩, by simp only [inR]; omega, k + 1, ⟨⟨by omega, by rw [hst]; rfl⟩, by omega⟩, by rw [hb2.1]; unfold sgD; rw [hst]; rfl, by omega⟩
theorem call73 (n : Int) (p o : List Int) (h : cxOk n p) (ho : o.length < 1000000000000000) : GCall Try.prog gl 73 false [.ptr 0 0 [], .sl I64 o] [cxO n p] [.bool (sgR p o)] [cxO n p] := by
 refine gcall_of (X := X73) ((X1_ok _)) (f := 73) (fn := Try.f73) (c := bodyOf Try.f73) (by kernel_rfl) (by kernel_rfl) (view := false) (rvs := [.tmp 4]) (by kernel_rfl) (H := (H73 n p o)) 150 (by kernel_rfl) ?_
 have hL := fun h1 h2 => loop73 n p o h h1 h2
 refine of_eq (q := True ∧ True ∧ ((okC (n, p, mk (isF p)) ∧ (True ∧ True) ∧ (n = n ∧ p = p ∧ mk (isF p) = mk (isF p) ∧ True) ∧ True) ∧ True ∧ True) ∧ True ∧ True ∧ ((!pure p) = true → True ∧ True ∧ True ∧ (false = sgR p o ∧ True) ∧ (n = n ∧ p = p ∧ mk (isF p) = mk (isF p) ∧ True) ∧ True) ∧ ((!pure p) = false → True ∧ True ∧ True ∧ True ∧ True ∧ True ∧ True ∧ True ∧ True ∧ (¬(o.length : Int) = (p.length : Int) → True ∧ True ∧ (false = sgR p o ∧ True) ∧ (n = n ∧ p = p ∧ mk (isF p) = mk (isF p) ∧ True) ∧ True) ∧ (¬¬(o.length : Int) = (p.length : Int) → True ∧ True ∧ True ∧ True ∧ LoopOK X73 L73_0 { J := chk (1 : Nat) [(0 : Nat), (5 : Nat), (21 : Nat), (22 : Nat), (23 : Nat)] (in17 p o) (st73 n p o), exits := List.map (fun (x : List Nat × Ex) => x.snd) (ex73 n p o) } (RetR X73 false false [ResultVar.tmp (4 : Tmp)] [AV.bool (sgR p o)] [cxO n p]) ∧ (∃ (y : Nat), in17 p o y ∧ (True ∧ (0 : Int) = (↑(sgD p o y) : Int) ∧ o = o ∧ (o.length : Int) = (o.length : Int) ∧ (0 : Int) = (y : Int) ∧ True) ∧ (n = n ∧ p = p ∧ mk (isF p) = mk (isF p) ∧ True) ∧ True) ∧ (∀ (y : Unit), (sgK p o o.length).isSome = true → True ∧ True ∧ (true = sgR p o ∧ True) ∧ (n = n ∧ p = p ∧ mk (isF p) = mk (isF p) ∧ True) ∧ True) ∧ True))) (by kernel_rfl) ?_
 simp only [zz]
 refine ⟨⟨h, rfl⟩, fun hx => ?_, fun hx => ⟨fun hy => ?_, fun hy => ⟨hL (by omega) (by simpa using hx), ⟨0, ⟨Nat.zero_le _, rfl⟩, rfl, rfl⟩, fun _ hz => ?_⟩⟩⟩
 · have hx : pure p = false := by simpa using hx
   unfold sgR; rw [← pure_pu h, hx]; simp
 · unfold sgR; rw [decide_eq_false (show ¬ o.length = p.length by omega)]; simp
 · have hx : pure p = true := by simpa using hx
   unfold sgR; rw [hz, decide_eq_true (show o.length = p.length by omega), ← pure_pu h, hx]; try rfl
def get73 (xs : List AV) (obs : List Ob) : Option (List Int × Cx3) :=
 match xs with
 | [_, .sl e l] => (match castL e I64 l with
   | some l => (unCx (obs.getD 0 .gone)).map fun x => (l, x)
   | none => none)
 | _ => none
structure ok73 (x : List Int × Cx3) : Prop where
 h : okC x.2
 l : x.1.length < 1000000000000000
def e73 : Entry Try.prog gl := entryW 73 ⟨Try.f73, by kernel_rfl, by kernel_rfl, by kernel_rfl⟩ true get73 ok73 false (fun x => [.ptr 0 0 [], .sl I64 x.1]) (fun x => [cxQ x.2]) (fun x => [.bool (sgR x.2.2.1 x.1)]) (fun x => [cxQ x.2]) (fun x h => by rw [cxQ_ok h.h]; exact call73 _ _ _ h.h.h h.l)
theorem call44 (n : Int) (p o : List Int) (h : cxOk n p ∧ o.length < 1000000000000000) : GCall Try.prog gl 44 true [.int .i64 n, .sl I64 p, .sl I64 o] [] [.bool (sgR p o), .int .i64 0] [] := by
 refine gcall_of (X := X [e53, e73]) (X_ok [e53, e73]) (f := 44) (fn := Try.f44) (c := bodyOf Try.f44) (by kernel_rfl) (by kernel_rfl) (view := false) (rvs := [.tmp 6, .tmp 7]) (by kernel_rfl) (H := fun _ => none) 80 (by kernel_rfl) ?_
 refine of_eq (q := True ∧ True ∧ True ∧ True ∧ (CxP n p ∧ True) ∧ True ∧ True ∧ True ∧ True ∧ True ∧ True ∧ True ∧ (¬(0 : Int) = 0 → True ∧ True ∧ True ∧ True ∧ (false = sgR p o ∧ (0 : Int) = 0 ∧ True) ∧ True) ∧ (¬¬(0 : Int) = 0 → True ∧ True ∧ ((ok73 (o, n, p, mk (isF p)) ∧ (True ∧ o = o ∧ True) ∧ (n = n ∧ p = p ∧ mk (isF p) = mk (isF p) ∧ True) ∧ True) ∧ True ∧ True) ∧ True ∧ True ∧ True ∧ (sgR p o = sgR p o ∧ (0 : Int) = 0 ∧ True) ∧ True)) (by kernel_rfl) ?_
 simp only [zz]
 exact ⟨⟨h.1⟩, fun hx => absurd trivial hx, fun _ => ⟨⟨h.1, rfl⟩, h.2⟩⟩
def e44 : Entry Try.prog gl := entry3 44 ⟨Try.f44, by kernel_rfl, by kernel_rfl, by kernel_rfl⟩ I64 SI SI (fun (n : Int) p o => cxOk n p ∧ (o : List Int).length < 1000000000000000) true (fun _ p o => [.bool (sgR p o), .int .i64 0]) (fun _ _ _ => []) (fun (n : Int) p o h => call44 n p o h)
theorem call44x (n : Int) (p o : List Int) (h : ¬ cxOk n p ∧ p.length < 1000000000000000) : GCall Try.prog gl 44 true [.int .i64 n, .sl I64 p, .sl I64 o] [] [.ff, .int .i64 (errN n)] [] := by
 refine gcall_of (X := X [x53]) (X_ok [x53]) (f := 44) (fn := Try.f44) (c := bodyOf Try.f44) (by kernel_rfl) (by kernel_rfl) (view := false) (rvs := [.tmp 6, .tmp 7]) (by kernel_rfl) (H := fun _ => none) 80 (by kernel_rfl) ?_
 refine of_eq (q := True ∧ True ∧ True ∧ True ∧ ((¬cxOk n p ∧ p.length < 1000000000000000) ∧ True) ∧ True ∧ True ∧ True ∧ True ∧ True ∧ True ∧ True ∧ (¬errN n = 0 → True ∧ True ∧ True ∧ True ∧ (false = false ∧ errN n = errN n ∧ True) ∧ True) ∧ (¬¬errN n = 0 → True ∧ True ∧ False)) (by kernel_rfl) ?_
 simp only [zz]
 exact ⟨h, fun _ => trivial, fun h2 => h2 (errN_ne n)⟩
theorem call38x (n : Int) (p : List Int) (h : ¬ cxOk n p ∧ p.length < 1000000000000000) : GCall Try.prog gl 38 true [.int .i64 n, .sl I64 p] [] [nl, .int .i64 (errN n)] [] := by
 refine gcall_of (X := X [x53]) (X_ok [x53]) (f := 38) (fn := Try.f38) (c := bodyOf Try.f38) (by kernel_rfl) (by kernel_rfl) (view := false) (rvs := [.tmp 4, .tmp 5]) (by kernel_rfl) (H := fun _ => none) 80 (by kernel_rfl) ?_
 refine of_eq (q := True ∧ True ∧ True ∧ True ∧ ((¬cxOk n p ∧ p.length < 1000000000000000) ∧ True) ∧ True ∧ True ∧ True ∧ True ∧ True ∧ True ∧ True ∧ (¬errN n = 0 → True ∧ True ∧ True ∧ True ∧ (True ∧ errN n = errN n ∧ True) ∧ True) ∧ (¬¬errN n = 0 → True ∧ False)) (by kernel_rfl) ?_
 simp only [zz]
 exact ⟨h, fun _ => trivial, fun h2 => h2 (errN_ne n)⟩
theorem call39x (n : Int) (p : List Int) (h : ¬ cxOk n p ∧ p.length < 1000000000000000) : GCall Try.prog gl 39 true [.int .i64 n, .sl I64 p] [] [.int .i64 0, .int .i64 (errN n)] [] := by
 refine gcall_of (X := X [x53]) (X_ok [x53]) (f := 39) (fn := Try.f39) (c := bodyOf Try.f39) (by kernel_rfl) (by kernel_rfl) (view := false) (rvs := [.tmp 4, .tmp 5]) (by kernel_rfl) (H := fun _ => none) 80 (by kernel_rfl) ?_
 refine of_eq (q := True ∧ True ∧ True ∧ True ∧ ((¬cxOk n p ∧ p.length < 1000000000000000) ∧ True) ∧ True ∧ True ∧ True ∧ True ∧ True ∧ True ∧ True ∧ (¬errN n = 0 → True ∧ True ∧ True ∧ True ∧ ((0 : Int) = 0 ∧ errN n = errN n ∧ True) ∧ True) ∧ (¬¬errN n = 0 → True ∧ False)) (by kernel_rfl) ?_
 simp only [zz]
 exact ⟨h, fun _ => trivial, fun h2 => h2 (errN_ne n)⟩
end Go.Am.Sh

/- Shells: the law of the makers. -/
namespace Go.Am.Sh
open Go Go.Am Go.Proofs
instance (n d : Int) : Decidable (momOk n d) := by unfold momOk; infer_instance
def bdK (n : Int) (s : List Int) : Nat → Bool
 | 0 => decide (n < 1 ∨ 6 < n ∨ 64 < s.length)
 | i + 1 => badB n (s.getD i 0)
def smK (s : List Int) : Nat → Bool
 | 0 => false
 | i + 1 => smK s i || decide (0 < s.getD i 0)
def sb4 (n d : Int) (s : List Int) (k i : Nat) : St := ⟨.int .i64 n :: .dead :: .int .i64 d :: dd 4 ++ .sl I64 s :: .int .i64 k :: .sl I64 (madR n s) :: .int .i64 (madE n s) :: .bool (bdK n s i) :: .bool (smK s i) :: .int .i64 i :: dd 164, []⟩
def ib4 (n : Int) (s : List Int) (i : Nat) : Prop := i ≤ s.length ∧ ∀ j, j < i → bdK n s j = false
def eb4 (n d : Int) (s : List Int) (k : Nat) : List (List Nat × Ex) := [([0, 2, 7, 8, 9, 10, 11, 12], ⟨2, Nat, fun i => ib4 n s i ∧ (i = s.length ∨ bdK n s i = true), fun i => ⟨.int .i64 n :: .dead :: .int .i64 d :: dd 4 ++ .sl I64 s :: .int .i64 k :: .sl I64 (madR n s) :: .int .i64 (madE n s) :: .bool (bdK n s i) :: .bool (smK s i) :: dd 165, []⟩⟩)]
def hb4 (n d : Int) (s : List Int) (k : Nat) : Hint := ⟨chk 0 [0, 2, 7, 8, 9, 10, 11, 12, 13] (ib4 n s) (sb4 n d s k), (eb4 n d s k).map (·.2)⟩
def n4 (n : Int) : Int := 3 + (modU .u64 n).tmod 4
def d4 (n d : Int) : Int := 2 + (modU .u64 d).tmod (n4 n - 2)
end Go.Am.Sh

/- Shells: the law of the makers, the outer loop. -/
namespace Go.Am.Sh
open Go Go.Am Go.Proofs
def nH : Nat → Option Hint := fun _ => none
end Go.Am.Sh

/- Shells: News. -/
namespace Go.Am.Sh
open Go Go.Am Go.Proofs
def obW (w : Int) (p : List Int) : List Ob := [.bx (.int .i64 w), .bx (.sl I64 p)]
def inB74 (w : Int) (p : List Int) (j : Int) : Bool := sub w.toNat (p.getD j.toNat 0).toNat
def pre74 (w : Int) (p : List Int) (j : Int) : Prop := okL p ∧ (0 ≤ w ∧ w < 64) ∧ 0 ≤ j ∧ j < p.length
theorem call74 (w : Int) (p : List Int) (j : Int) (h : pre74 w p j) : GCall Try.prog gl 74 false [.int .i64 j, .ptr 0 0 [], .ptr 1 0 []] (obW w p) [.bool (inB74 w p j)] (obW w p) := by
 refine gcall_of (X := (Xm [] 2 (fun _ => none))) ((Xm_ok _ _ _)) (f := 74) (fn := Try.f74) (c := bodyOf Try.f74) (by kernel_rfl) (by kernel_rfl) (view := false) (rvs := [.tmp 4]) (by kernel_rfl) (H := fun _ => none) 80 (by kernel_rfl) ?_
 refine of_eq (q := True ∧ True ∧ True ∧ True ∧ idxPre j p.length ∧ True ∧ True ∧ True ∧ True ∧ True ∧ (decide (bNot .i64 w (p.getD j.toNat (0 : Int)) = 0) = inB74 w p j ∧ True) ∧ w = w ∧ p = p ∧ True) (by kernel_rfl) ?_
 simp only [zz]
 obtain ⟨h1, h2, h3⟩ := h
 have hp := okL_get h1 j.toNat
 obtain ⟨a, rfl⟩ : ∃ a : Nat, w = a := ⟨w.toNat, by omega⟩
 obtain ⟨i, rfl⟩ : ∃ i : Nat, j = i := ⟨j.toNat, by omega⟩
 simp only [Int.toNat_natCast] at *
 unfold inB74
 obtain ⟨b, hq⟩ : ∃ b : Nat, p.getD i 0 = b := ⟨(p.getD i 0).toNat, by omega⟩
 simp only [Int.toNat_natCast, hq]
 rw [hq] at hp
 have := sub_mns ⟨a, by omega⟩ ⟨b, by omega⟩
 simp only at this
 rw [bNot_nat (by omega) (by omega)]
 refine ⟨idx_nat (by omega), ?_⟩
 rw [Bool.eq_iff_iff, decide_eq_true_eq, ← this]; omega
def get74 (xs : List AV) (obs : List Ob) : Option (Int × List Int × Int) :=
 match xs, obs with
 | [.int .i64 j, _, _], [.bx (.int .i64 w), .bx (.sl e l)] => (castL e I64 l).map fun l => (w, l, j)
 | _, _ => none
def e74 : Entry Try.prog gl := entryW 74 ⟨Try.f74, by kernel_rfl, by kernel_rfl, by kernel_rfl⟩ true get74 (fun x => pre74 x.1 x.2.1 x.2.2) false (fun x => [.int .i64 x.2.2, .ptr 0 0 [], .ptr 1 0 []]) (fun x => obW x.1 x.2.1) (fun x => [.bool (inB74 x.1 x.2.1 x.2.2)]) (fun x => obW x.1 x.2.1) (fun x h => call74 _ _ _ h)
def clo74 : AV := .clo 74 [] [.ptr 0 0 [], .ptr 1 0 []]
def nwX (w : Int) (p l : List Int) : Int := if ∃ s ∈ l, inB74 w p s = true then ((l.findIdx (inB74 w p) : Nat) : Int) else -1
def okO (p l : List Int) : Prop := ∀ j ∈ l, 0 ≤ j ∧ j < p.length
structure pre59n (w : Int) (p l : List Int) : Prop where
 hp : okL p
 hw : 0 ≤ w ∧ w < 64
 ho : okO p l
 hl : l.length ≤ 64
def iw83 (w : Int) (p l : List Int) (k : Nat) : Prop := k ≤ l.length ∧ ∀ q ∈ l.take k, inB74 w p q = false
def sw83 (w : Int) (p l : List Int) (k : Nat) : St := ⟨.sl I64 l :: clo74 :: dd 5 ++ .int .i64 l.length :: .int .i64 k :: dd 10, obW w p⟩
def ew83 (w : Int) (p l : List Int) : List (List Nat × Ex) := [([], ⟨0, Unit, fun _ => ∀ q ∈ l, inB74 w p q = false, fun _ => ⟨dd 19, obW w p⟩⟩)]
noncomputable def Hw83 (w : Int) (p l : List Int) : Nat → Option Hint := fun _ => some ⟨chk 2 [0, 1, 7, 8] (iw83 w p l) (sw83 w p l), (ew83 w p l).map (·.2)⟩
noncomputable abbrev Xw83 : Cy := Xm [e74] 2 (fun _ => none)
theorem loop83w (w : Int) (p l : List Int) (h : pre59n w p l) : LoopOK Xw83 L83_0 ⟨chk 2 [0, 1, 7, 8] (iw83 w p l) (sw83 w p l), (ew83 w p l).map (·.2)⟩ (RetR Xw83 false false [.tmp 4] [.int .i64 (nwX w p l)] (obW w p)) := by
 refine loop_ok (Xm_ok _ _ _) (H := fun _ _ => none) [0, 1, 7, 8] (iw83 w p l) (sw83 w p l) (fun k => l.length - k) (ew83 w p l) 90 fun (k : Nat) hk => ?_
 refine of_eq (q := True ∧ ((k : Int) < (l.length : Int) → True ∧ True ∧ True ∧ True ∧ True ∧ idxPre (k : Int) l.length ∧ True ∧ ((pre74 w p (l.getD k (0 : Int)) ∧ (l.getD k (0 : Int) = l.getD k (0 : Int) ∧ True ∧ True ∧ True) ∧ w = w ∧ p = p ∧ True) ∧ True ∧ True ∧ True) ∧ (inB74 w p (l.getD k (0 : Int)) = true → True ∧ True ∧ True ∧ ((k : Int) = nwX w p l ∧ True) ∧ w = w ∧ p = p ∧ True) ∧ (inB74 w p (l.getD k (0 : Int)) = false → inR .i64 ((k : Int) + 1) ∧ True ∧ ∃ (y : Nat), (iw83 w p l y ∧ l.length - y < l.length - k) ∧ (l = l ∧ (True ∧ True ∧ True ∧ True) ∧ (l.length : Int) = (l.length : Int) ∧ (k : Int) + 1 = (y : Int) ∧ True) ∧ w = w ∧ p = p ∧ True)) ∧ (¬(k : Int) < (l.length : Int) → ∃ (y : Unit), (∀ (q : Int), q ∈ l → inB74 w p q = false) ∧ True ∧ w = w ∧ p = p ∧ True)) (by kernel_rfl) ?_
 simp only [zz]
 obtain ⟨h1, h2⟩ := hk
 have hl := h.hl
 refine ⟨fun hk => ?_, fun hk => ?_⟩
 · have hk : k < l.length := by omega
   refine ⟨idx_nat hk, ⟨h.hp, h.hw, h.ho _ (mem_getD hk)⟩, fun hx => ?_, fun hx => ⟨by simp only [inR]; omega, k + 1, ⟨⟨by omega, (all_take (d := 0) hk).mpr ⟨h2, hx⟩⟩, by omega⟩, by omega⟩⟩
   unfold nwX
   rw [if_pos ⟨_, mem_getD hk, hx⟩, find_at hk h2 hx]
 · rwa [List.take_of_length_le (by omega)] at h2
theorem call83w (w : Int) (p l : List Int) (h : pre59n w p l) : GCall Try.prog gl 83 false [.sl I64 l, clo74] (obW w p) [.int .i64 (nwX w p l)] (obW w p) := by
 refine gcall_of (X := Xw83) ((Xm_ok _ _ _)) (f := 83) (fn := Try.f83) (c := bodyOf Try.f83) (by kernel_rfl) (by kernel_rfl) (view := false) (rvs := [.tmp 4]) (by kernel_rfl) (H := (Hw83 w p l)) 80 (by kernel_rfl) ?_
 have hL := loop83w w p l h
 refine of_eq (q := True ∧ True ∧ True ∧ True ∧ LoopOK Xw83 L83_0 { J := chk (2 : Nat) [(0 : Nat), (1 : Nat), (7 : Nat), (8 : Nat)] (iw83 w p l) (sw83 w p l), exits := List.map (fun (x : List Nat × Ex) => x.snd) (ew83 w p l) } (RetR Xw83 false false [ResultVar.tmp (4 : Tmp)] [AV.int .i64 (nwX w p l)] (obW w p)) ∧ (∃ (y : Nat), iw83 w p l y ∧ (l = l ∧ (True ∧ True ∧ True ∧ True) ∧ (l.length : Int) = (l.length : Int) ∧ (0 : Int) = (y : Int) ∧ True) ∧ w = w ∧ p = p ∧ True) ∧ (∀ (y : Unit), (∀ (q : Int), q ∈ l → inB74 w p q = false) → True ∧ True ∧ ((-1 : Int) = nwX w p l ∧ True) ∧ w = w ∧ p = p ∧ True) ∧ True) (by kernel_rfl) ?_
 simp only [zz]
 refine ⟨hL, ⟨0, ⟨by omega, by simp⟩, rfl⟩, fun _ h => ?_⟩
 unfold nwX; rw [if_neg]
 rintro ⟨q, h1, h2⟩
 rw [h q h1] at h2; cases h2
def get83w (xs : List AV) (obs : List Ob) : Option (Int × List Int × List Int) :=
 match xs, obs with
 | [.sl e l, _], [.bx (.int .i64 w), .bx (.sl e2 p)] => (match castL e I64 l, castL e2 I64 p with
   | some l, some p => some (w, p, l)
   | _, _ => none)
 | _, _ => none
def e83w : Entry Try.prog gl := entryW 83 ⟨Try.f83, by kernel_rfl, by kernel_rfl, by kernel_rfl⟩ true get83w (fun x => pre59n x.1 x.2.1 x.2.2) false (fun x => [.sl I64 x.2.2, clo74]) (fun x => obW x.1 x.2.1) (fun x => [.int .i64 (nwX x.1 x.2.1 x.2.2)]) (fun x => obW x.1 x.2.1) (fun x h => call83w _ _ _ h)
def nwA (w : Int) (p l : List Int) : Bool := l.any (inB74 w p)
theorem nwX_iff {w : Int} {p l : List Int} : 0 ≤ nwX w p l ↔ nwA w p l = true := by
 unfold nwX nwA
 rw [List.any_eq_true]
 constructor
 · intro h
   refine Classical.byContradiction fun h2 => ?_
   rw [if_neg h2] at h
   omega
 · intro h
   rw [if_pos h]; omega
theorem call59w (w : Int) (p l : List Int) (h : pre59n w p l) : GCall Try.prog gl 59 false [.sl I64 l, clo74] (obW w p) [.bool (nwA w p l)] (obW w p) := by
 refine gcall_of (X := (Xm [e83w] 2 (fun _ => none))) ((Xm_ok _ _ _)) (f := 59) (fn := Try.f59) (c := bodyOf Try.f59) (by kernel_rfl) (by kernel_rfl) (view := false) (rvs := [.tmp 4]) (by kernel_rfl) (H := fun _ => none) 80 (by kernel_rfl) ?_
 refine of_eq (q := True ∧ True ∧ True ∧ ((pre59n w p l ∧ (l = l ∧ (True ∧ True ∧ True ∧ True) ∧ True) ∧ w = w ∧ p = p ∧ True) ∧ True ∧ True ∧ True) ∧ True ∧ True ∧ True ∧ (decide ((0 : Int) ≤ nwX w p l) = nwA w p l ∧ True) ∧ w = w ∧ p = p ∧ True) (by kernel_rfl) ?_
 simp only [zz]
 refine ⟨h, ?_⟩
 have := nwX_iff (w := w) (p := p) (l := l)
 cases h : nwA w p l <;> simp [h] at this ⊢ <;> omega
def e59w : Entry Try.prog gl := entryW 59 ⟨Try.f59, by kernel_rfl, by kernel_rfl, by kernel_rfl⟩ true get83w (fun x => pre59n x.1 x.2.1 x.2.2) false (fun x => [.sl I64 x.2.2, clo74]) (fun x => obW x.1 x.2.1) (fun x => [.bool (nwA x.1 x.2.1 x.2.2)]) (fun x => obW x.1 x.2.1) (fun x h => call59w _ _ _ h)
def nwF (p o : List Int) (k v : Nat) : Bool := decide ((p.getD (o.getD k 0).toNat 0).toNat / 2 ^ v % 2 = 1) && nwA ((mns (p.getD (o.getD k 0).toNat 0).toNat (2 ^ v) : Nat) : Int) p (o.take k)
def nwN (p o : List Int) (k : Nat) : Nat → Nat
 | 0 => 0
 | v + 1 => if nwF p o k v = true then nwN p o k v ||| 2 ^ v else nwN p o k v
def nwL (n : Int) (p o : List Int) (k : Nat) : List Int := (List.range k).map fun k => ((nwN p o k n.toNat : Nat) : Int)
noncomputable abbrev X43 : Cy := Xd [e53, x53, e73, e59w] (drOf [(15, 12013)])
structure ok43 (n : Int) (p o : List Int) : Prop where
 hc : cxOk n p
 ho : okO p o
 hl : o.length ≤ 10
noncomputable def L43_0 : Code := lp (bodyOf Try.f43) 0
noncomputable def L43_2 : Code := lp (bodyOf Try.f43) 2
def hd43 (n : Int) (o : List Int) (x : AV) : List AV := .int .i64 n :: .dead :: .sl I64 o :: .dead :: .ptr 0 0 [] :: dd 5 ++ [x]
theorem nw_bit : ∀ s : Fin 64, ∀ v : Fin 6, (mns s.val (2 ^ v.val) = s.val) = (s.val / 2 ^ v.val % 2 = 0) := by decide +kernel
theorem nwN_lt (p o : List Int) (k : Nat) : ∀ v, nwN p o k v < 2 ^ v
 | 0 => by rw [nwN]; decide
 | v + 1 => by
   have := nwN_lt p o k v
   rw [nwN]
   split
   · exact Nat.or_lt_two_pow (Nat.lt_of_lt_of_le this (Nat.pow_le_pow_right (by decide) (by omega))) (Nat.pow_lt_pow_right (by decide) (by omega))
   · exact Nat.lt_of_lt_of_le this (Nat.pow_le_pow_right (by decide) (by omega))
def jz43 (n : Int) (p o : List Int) (k v : Nat) : St := ⟨hd43 n o (nl) ++ .int .i64 k :: .int .i64 (o.getD k 0) :: .int .i64 (nwN p o k v : Nat) :: dd 15 ++ .sl I64 o :: .int .i64 o.length :: .int .i64 k :: dd 4 ++ .int .i64 n :: .int .i64 v :: dd 35, [.bx (.sl I64 p)]⟩
def ejz43 (n : Int) (p o : List Int) (k : Nat) : List (List Nat × Ex) := [([0, 2, 4, 10, 13, 29, 30, 31], ⟨2, Unit, fun _ => True, fun _ => ⟨hd43 n o (nl) ++ dd 2 ++ .int .i64 (nwN p o k n.toNat : Nat) :: dd 15 ++ .sl I64 o :: .int .i64 o.length :: .int .i64 k :: dd 41, [.bx (.sl I64 p)]⟩⟩)]
def hz43 (n : Int) (p o : List Int) (k : Nat) : Hint := ⟨chk 0 [0, 2, 4, 10, 11, 12, 13, 29, 30, 31, 36, 37] (fun v => v ≤ n.toNat) (jz43 n p o k), (ejz43 n p o k).map (·.2)⟩
theorem loop43z (n : Int) (p o : List Int) (k : Nat) (h : ok43 n p o) (hk : k < o.length) (R : Exit → St → Prop) : LoopOK X43 L43_2 (hz43 n p o k) R := by
 refine loop_ok (Xd_ok _ _) (H := fun _ _ => none) [0, 2, 4, 10, 11, 12, 13, 29, 30, 31, 36, 37] (fun v => v ≤ n.toNat) (jz43 n p o k) (fun v => n.toNat - v) (ejz43 n p o k) 150 fun (v : Nat) hv => ?_
 refine of_eq (q := True ∧ ((v : Int) < n → True ∧ True ∧ True ∧ True ∧ idxPre (o.getD k (0 : Int)) p.length ∧ True ∧ True ∧ inR .u64 (v : Int) ∧ (((0 : Int) ≤ (v : Int) ∧ (v : Int) < bitsOf .i64) ∧ (-9223372036854775808 : Int) ≤ 1 * 2 ^ v ∧ (1 : Int) * 2 ^ v ≤ 9223372036854775807) ∧ True ∧ True ∧ True ∧ True ∧ true = true ∧ True ∧ true = true ∧ True ∧ true = true ∧ idxPre (o.getD k (0 : Int)) p.length ∧ true = true ∧ True ∧ true = true ∧ True ∧ true = true ∧ True ∧ true = true ∧ (¬bNot .i64 (p.getD (o.getD k (0 : Int)).toNat (0 : Int)) ((1 : Int) * 2 ^ v) = p.getD (o.getD k (0 : Int)).toNat (0 : Int) → True ∧ true = true ∧ True ∧ true = true ∧ slPre o.length o.length none (some (k : Int)) none ∧ true = true ∧ True ∧ true = true ∧ ((pre59n (bNot .i64 (p.getD (o.getD k (0 : Int)).toNat (0 : Int)) ((1 : Int) * 2 ^ v)) p (cutL o none (some (k : Int))) ∧ (cutL o none (some (k : Int)) = cutL o none (some (k : Int)) ∧ (True ∧ True ∧ True ∧ True) ∧ True) ∧ bNot .i64 (p.getD (o.getD k (0 : Int)).toNat (0 : Int)) ((1 : Int) * 2 ^ v) = bNot .i64 (p.getD (o.getD k (0 : Int)).toNat (0 : Int)) ((1 : Int) * 2 ^ v) ∧ p = p ∧ True) ∧ True ∧ True ∧ True) ∧ True ∧ True ∧ True ∧ (nwA (bNot .i64 (p.getD (o.getD k (0 : Int)).toNat (0 : Int)) ((1 : Int) * 2 ^ v)) p (cutL o none (some (k : Int))) = true → True ∧ True ∧ inR .u64 (v : Int) ∧ (((0 : Int) ≤ (v : Int) ∧ (v : Int) < bitsOf .i64) ∧ (-9223372036854775808 : Int) ≤ 1 * 2 ^ v ∧ (1 : Int) * 2 ^ v ≤ 9223372036854775807) ∧ True ∧ True ∧ inR .i64 ((v : Int) + 1) ∧ True ∧ ∃ (y : Nat), (y ≤ n.toNat ∧ n.toNat - y < n.toNat - v) ∧ (n = n ∧ o = o ∧ True ∧ True ∧ (k : Int) = (k : Int) ∧ o.getD k (0 : Int) = o.getD k (0 : Int) ∧ bOr .i64 (↑(nwN p o k v) : Int) ((1 : Int) * 2 ^ v) = (↑(nwN p o k y) : Int) ∧ o = o ∧ (o.length : Int) = (o.length : Int) ∧ (k : Int) = (k : Int) ∧ n = n ∧ (v : Int) + 1 = (y : Int) ∧ True) ∧ p = p ∧ True) ∧ (nwA (bNot .i64 (p.getD (o.getD k (0 : Int)).toNat (0 : Int)) ((1 : Int) * 2 ^ v)) p (cutL o none (some (k : Int))) = false → inR .i64 ((v : Int) + 1) ∧ True ∧ ∃ (y : Nat), (y ≤ n.toNat ∧ n.toNat - y < n.toNat - v) ∧ (n = n ∧ o = o ∧ True ∧ True ∧ (k : Int) = (k : Int) ∧ o.getD k (0 : Int) = o.getD k (0 : Int) ∧ (↑(nwN p o k v) : Int) = (↑(nwN p o k y) : Int) ∧ o = o ∧ (o.length : Int) = (o.length : Int) ∧ (k : Int) = (k : Int) ∧ n = n ∧ (v : Int) + 1 = (y : Int) ∧ True) ∧ p = p ∧ True)) ∧ (¬¬bNot .i64 (p.getD (o.getD k (0 : Int)).toNat (0 : Int)) ((1 : Int) * 2 ^ v) = p.getD (o.getD k (0 : Int)).toNat (0 : Int) → True ∧ True ∧ True ∧ inR .i64 ((v : Int) + 1) ∧ True ∧ ∃ (y : Nat), (y ≤ n.toNat ∧ n.toNat - y < n.toNat - v) ∧ (n = n ∧ o = o ∧ True ∧ True ∧ (k : Int) = (k : Int) ∧ o.getD k (0 : Int) = o.getD k (0 : Int) ∧ (↑(nwN p o k v) : Int) = (↑(nwN p o k y) : Int) ∧ o = o ∧ (o.length : Int) = (o.length : Int) ∧ (k : Int) = (k : Int) ∧ n = n ∧ (v : Int) + 1 = (y : Int) ∧ True) ∧ p = p ∧ True)) ∧ (¬(v : Int) < n → ∃ (y : Unit), True ∧ (n = n ∧ o = o ∧ True ∧ True ∧ (↑(nwN p o k v) : Int) = (↑(nwN p o k n.toNat) : Int) ∧ o = o ∧ (o.length : Int) = (o.length : Int) ∧ (k : Int) = (k : Int) ∧ True) ∧ p = p ∧ True)) (by kernel_rfl) ?_
 simp only [zz]
 have hv : v ≤ n.toNat := hv
 obtain ⟨n1, n2⟩ := h.hc.1
 have hok := h.hc.ok
 have hj := h.ho _ (mem_getD (d := 0) hk)
 have hF : nwF p o k v = (decide ((p.getD (o.getD k 0).toNat 0).toNat / 2 ^ v % 2 = 1) && nwA ((mns (p.getD (o.getD k 0).toNat 0).toNat (2 ^ v) : Nat) : Int) p (o.take k)) := rfl
 have hN : nwN p o k (v + 1) = if nwF p o k v = true then nwN p o k v ||| 2 ^ v else nwN p o k v := rfl
 have hlt := nwN_lt p o k v
 have hf := okL_get hok (o.getD k 0).toNat
 have hle := h.hl
 refine ⟨fun h3 => ?_, fun h3 => by rw [show v = n.toNat by omega]⟩
 have hv6 : v < 6 := by omega
 obtain ⟨s, hs⟩ : ∃ s : Nat, p.getD (o.getD k 0).toNat 0 = s := ⟨(p.getD (o.getD k 0).toNat 0).toNat, by omega⟩
 rw [hs] at hf hF ⊢
 have hs64 : s < 64 := by omega
 have hb := nw_bit ⟨s, hs64⟩ ⟨v, hv6⟩
 have hm := mns_lt ⟨s, hs64⟩ ⟨2 ^ v, Nat.pow_lt_pow_right (a := 2) (m := v) (n := 6) (by decide) hv6⟩
 simp only [Int.toNat_natCast] at hb hm hF ⊢
 have h2 : 2 ^ v < 64 := Nat.pow_lt_pow_right (a := 2) (by decide) hv6
 have e : (2 ^ v : Int) = ((2 ^ v : Nat) : Int) := by rw [Int.natCast_pow]; try rfl
 have hlt2 : nwN p o k v < 64 := by omega
 rw [e]
 generalize hP : 2 ^ v = P at *
 have e3 : bNot .i64 (s : Int) (1 * (P : Int)) = ((mns s P : Nat) : Int) := by
   rw [Int.one_mul, bNot_nat (by omega) (by omega)]
 have e4 : bOr .i64 (nwN p o k v : Nat) (1 * (P : Int)) = ((nwN p o k v ||| P : Nat) : Int) := by
   rw [Int.one_mul, bOr_nat (by omega) (by omega)]
 have hsh : (0 ≤ (v : Int) ∧ (v : Int) < bitsOf .i64) ∧ -9223372036854775808 ≤ 1 * (P : Int) ∧ 1 * (P : Int) ≤ 9223372036854775807 := ⟨⟨by omega, by simp only [bitsOf]; omega⟩, by omega, by omega⟩
 have hu : inR .u64 (v : Int) := by simp only [inR]; omega
 have hx : idxPre (o.getD k 0) p.length := by unfold idxPre; omega
 have hnx : ∀ z : Int, z = (nwN p o k (v + 1) : Nat) → inR .i64 ((v : Int) + 1) ∧ ∃ y, (y ≤ n.toNat ∧ n.toNat - y < n.toNat - v) ∧ z = ((nwN p o k y : Nat) : Int) ∧ (v : Int) + 1 = (y : Int) := fun z hz => ⟨by simp only [inR]; omega, v + 1, ⟨by omega, by omega⟩, hz, by omega⟩
 have hcut : cutL o none (some (k : Int)) = o.take k := by simp [cutL]
 rw [e3, e4, hcut]
 have hpre : pre59n ((mns s P : Nat) : Int) p (o.take k) := ⟨hok, ⟨by omega, by omega⟩, fun j hj => h.ho j (List.mem_of_mem_take hj), by simp; omega⟩
 have hF2 : nwF p o k v = true ↔ (s / P % 2 = 1 ∧ nwA ((mns s P : Nat) : Int) p (o.take k) = true) := by rw [hF, Bool.and_eq_true, decide_eq_true_eq]
 refine ⟨hx, hu, hsh, hx, fun h5 => ⟨by unfold slPre; omega, hpre, fun h6 => ⟨hu, hsh, hnx _ ?_⟩, fun h6 => hnx _ ?_⟩, fun h5 => hnx _ ?_⟩
 · have : s / P % 2 = 1 := by
     have : ¬ mns s P = s := by omega
     rw [hb] at this; omega
   rw [hN, if_pos (hF2.mpr ⟨this, h6⟩)]
 · rw [hN, if_neg (fun h => by rw [(hF2.mp h).2] at h6; cases h6)]
 · have : mns s P = s := by omega
   rw [hb] at this
   rw [hN, if_neg (fun h => by have := (hF2.mp h).1; omega)]
def jt43 (n : Int) (p o : List Int) (k v : Nat) : St := ⟨hd43 n o (.own 1 0) ++ .int .i64 k :: .int .i64 (o.getD k 0) :: .int .i64 (nwN p o k v : Nat) :: dd 15 ++ .sl I64 o :: .int .i64 o.length :: .int .i64 k :: dd 4 ++ .int .i64 n :: .int .i64 v :: dd 35, [.bx (.sl I64 p), .sc 0 3 I64 (nwL n p o k)]⟩
def ejt43 (n : Int) (p o : List Int) (k : Nat) : List (List Nat × Ex) := [([0, 2, 4, 10, 13, 29, 30, 31], ⟨2, Unit, fun _ => True, fun _ => ⟨hd43 n o (.own 1 0) ++ dd 2 ++ .int .i64 (nwN p o k n.toNat : Nat) :: dd 15 ++ .sl I64 o :: .int .i64 o.length :: .int .i64 k :: dd 41, [.bx (.sl I64 p), .sc 0 3 I64 (nwL n p o k)]⟩⟩)]
def ht43 (n : Int) (p o : List Int) (k : Nat) : Hint := ⟨chk 0 [0, 2, 4, 10, 11, 12, 13, 29, 30, 31, 36, 37] (fun v => v ≤ n.toNat) (jt43 n p o k), (ejt43 n p o k).map (·.2)⟩
theorem loop43t (n : Int) (p o : List Int) (k : Nat) (h : ok43 n p o) (hk : k < o.length) (R : Exit → St → Prop) : LoopOK X43 L43_2 (ht43 n p o k) R := by
 refine loop_ok (Xd_ok _ _) (H := fun _ _ => none) [0, 2, 4, 10, 11, 12, 13, 29, 30, 31, 36, 37] (fun v => v ≤ n.toNat) (jt43 n p o k) (fun v => n.toNat - v) (ejt43 n p o k) 150 fun (v : Nat) hv => ?_
 refine of_eq (q := True ∧ ((v : Int) < n → True ∧ True ∧ True ∧ True ∧ idxPre (o.getD k (0 : Int)) p.length ∧ True ∧ True ∧ inR .u64 (v : Int) ∧ (((0 : Int) ≤ (v : Int) ∧ (v : Int) < bitsOf .i64) ∧ (-9223372036854775808 : Int) ≤ 1 * 2 ^ v ∧ (1 : Int) * 2 ^ v ≤ 9223372036854775807) ∧ True ∧ True ∧ True ∧ True ∧ true = true ∧ True ∧ true = true ∧ True ∧ true = true ∧ idxPre (o.getD k (0 : Int)) p.length ∧ true = true ∧ True ∧ true = true ∧ True ∧ true = true ∧ True ∧ true = true ∧ (¬bNot .i64 (p.getD (o.getD k (0 : Int)).toNat (0 : Int)) ((1 : Int) * 2 ^ v) = p.getD (o.getD k (0 : Int)).toNat (0 : Int) → True ∧ true = true ∧ True ∧ true = true ∧ slPre o.length o.length none (some (k : Int)) none ∧ true = true ∧ True ∧ true = true ∧ ((pre59n (bNot .i64 (p.getD (o.getD k (0 : Int)).toNat (0 : Int)) ((1 : Int) * 2 ^ v)) p (cutL o none (some (k : Int))) ∧ (cutL o none (some (k : Int)) = cutL o none (some (k : Int)) ∧ (True ∧ True ∧ True ∧ True) ∧ True) ∧ bNot .i64 (p.getD (o.getD k (0 : Int)).toNat (0 : Int)) ((1 : Int) * 2 ^ v) = bNot .i64 (p.getD (o.getD k (0 : Int)).toNat (0 : Int)) ((1 : Int) * 2 ^ v) ∧ p = p ∧ True) ∧ True ∧ True ∧ True) ∧ True ∧ True ∧ True ∧ (nwA (bNot .i64 (p.getD (o.getD k (0 : Int)).toNat (0 : Int)) ((1 : Int) * 2 ^ v)) p (cutL o none (some (k : Int))) = true → True ∧ True ∧ inR .u64 (v : Int) ∧ (((0 : Int) ≤ (v : Int) ∧ (v : Int) < bitsOf .i64) ∧ (-9223372036854775808 : Int) ≤ 1 * 2 ^ v ∧ (1 : Int) * 2 ^ v ≤ 9223372036854775807) ∧ True ∧ True ∧ inR .i64 ((v : Int) + 1) ∧ True ∧ ∃ (y : Nat), (y ≤ n.toNat ∧ n.toNat - y < n.toNat - v) ∧ (n = n ∧ o = o ∧ True ∧ True ∧ (k : Int) = (k : Int) ∧ o.getD k (0 : Int) = o.getD k (0 : Int) ∧ bOr .i64 (↑(nwN p o k v) : Int) ((1 : Int) * 2 ^ v) = (↑(nwN p o k y) : Int) ∧ o = o ∧ (o.length : Int) = (o.length : Int) ∧ (k : Int) = (k : Int) ∧ n = n ∧ (v : Int) + 1 = (y : Int) ∧ True) ∧ p = p ∧ nwL n p o k = nwL n p o k ∧ True) ∧ (nwA (bNot .i64 (p.getD (o.getD k (0 : Int)).toNat (0 : Int)) ((1 : Int) * 2 ^ v)) p (cutL o none (some (k : Int))) = false → inR .i64 ((v : Int) + 1) ∧ True ∧ ∃ (y : Nat), (y ≤ n.toNat ∧ n.toNat - y < n.toNat - v) ∧ (n = n ∧ o = o ∧ True ∧ True ∧ (k : Int) = (k : Int) ∧ o.getD k (0 : Int) = o.getD k (0 : Int) ∧ (↑(nwN p o k v) : Int) = (↑(nwN p o k y) : Int) ∧ o = o ∧ (o.length : Int) = (o.length : Int) ∧ (k : Int) = (k : Int) ∧ n = n ∧ (v : Int) + 1 = (y : Int) ∧ True) ∧ p = p ∧ nwL n p o k = nwL n p o k ∧ True)) ∧ (¬¬bNot .i64 (p.getD (o.getD k (0 : Int)).toNat (0 : Int)) ((1 : Int) * 2 ^ v) = p.getD (o.getD k (0 : Int)).toNat (0 : Int) → True ∧ True ∧ True ∧ inR .i64 ((v : Int) + 1) ∧ True ∧ ∃ (y : Nat), (y ≤ n.toNat ∧ n.toNat - y < n.toNat - v) ∧ (n = n ∧ o = o ∧ True ∧ True ∧ (k : Int) = (k : Int) ∧ o.getD k (0 : Int) = o.getD k (0 : Int) ∧ (↑(nwN p o k v) : Int) = (↑(nwN p o k y) : Int) ∧ o = o ∧ (o.length : Int) = (o.length : Int) ∧ (k : Int) = (k : Int) ∧ n = n ∧ (v : Int) + 1 = (y : Int) ∧ True) ∧ p = p ∧ nwL n p o k = nwL n p o k ∧ True)) ∧ (¬(v : Int) < n → ∃ (y : Unit), True ∧ (n = n ∧ o = o ∧ True ∧ True ∧ (↑(nwN p o k v) : Int) = (↑(nwN p o k n.toNat) : Int) ∧ o = o ∧ (o.length : Int) = (o.length : Int) ∧ (k : Int) = (k : Int) ∧ True) ∧ p = p ∧ nwL n p o k = nwL n p o k ∧ True)) (by kernel_rfl) ?_
 simp only [zz]
 have hv : v ≤ n.toNat := hv
 obtain ⟨n1, n2⟩ := h.hc.1
 have hok := h.hc.ok
 have hj := h.ho _ (mem_getD (d := 0) hk)
 have hF : nwF p o k v = (decide ((p.getD (o.getD k 0).toNat 0).toNat / 2 ^ v % 2 = 1) && nwA ((mns (p.getD (o.getD k 0).toNat 0).toNat (2 ^ v) : Nat) : Int) p (o.take k)) := rfl
 have hN : nwN p o k (v + 1) = if nwF p o k v = true then nwN p o k v ||| 2 ^ v else nwN p o k v := rfl
 have hlt := nwN_lt p o k v
 have hf := okL_get hok (o.getD k 0).toNat
 have hle := h.hl
 refine ⟨fun h3 => ?_, fun h3 => by rw [show v = n.toNat by omega]⟩
 have hv6 : v < 6 := by omega
 obtain ⟨s, hs⟩ : ∃ s : Nat, p.getD (o.getD k 0).toNat 0 = s := ⟨(p.getD (o.getD k 0).toNat 0).toNat, by omega⟩
 rw [hs] at hf hF ⊢
 have hs64 : s < 64 := by omega
 have hb := nw_bit ⟨s, hs64⟩ ⟨v, hv6⟩
 have hm := mns_lt ⟨s, hs64⟩ ⟨2 ^ v, Nat.pow_lt_pow_right (a := 2) (m := v) (n := 6) (by decide) hv6⟩
 simp only [Int.toNat_natCast] at hb hm hF ⊢
 have h2 : 2 ^ v < 64 := Nat.pow_lt_pow_right (a := 2) (by decide) hv6
 have e : (2 ^ v : Int) = ((2 ^ v : Nat) : Int) := by rw [Int.natCast_pow]; try rfl
 have hlt2 : nwN p o k v < 64 := by omega
 rw [e]
 generalize hP : 2 ^ v = P at *
 have e3 : bNot .i64 (s : Int) (1 * (P : Int)) = ((mns s P : Nat) : Int) := by
   rw [Int.one_mul, bNot_nat (by omega) (by omega)]
 have e4 : bOr .i64 (nwN p o k v : Nat) (1 * (P : Int)) = ((nwN p o k v ||| P : Nat) : Int) := by
   rw [Int.one_mul, bOr_nat (by omega) (by omega)]
 have hsh : (0 ≤ (v : Int) ∧ (v : Int) < bitsOf .i64) ∧ -9223372036854775808 ≤ 1 * (P : Int) ∧ 1 * (P : Int) ≤ 9223372036854775807 := ⟨⟨by omega, by simp only [bitsOf]; omega⟩, by omega, by omega⟩
 have hu : inR .u64 (v : Int) := by simp only [inR]; omega
 have hx : idxPre (o.getD k 0) p.length := by unfold idxPre; omega
 have hnx : ∀ z : Int, z = (nwN p o k (v + 1) : Nat) → inR .i64 ((v : Int) + 1) ∧ ∃ y, (y ≤ n.toNat ∧ n.toNat - y < n.toNat - v) ∧ z = ((nwN p o k y : Nat) : Int) ∧ (v : Int) + 1 = (y : Int) := fun z hz => ⟨by simp only [inR]; omega, v + 1, ⟨by omega, by omega⟩, hz, by omega⟩
 have hcut : cutL o none (some (k : Int)) = o.take k := by simp [cutL]
 rw [e3, e4, hcut]
 have hpre : pre59n ((mns s P : Nat) : Int) p (o.take k) := ⟨hok, ⟨by omega, by omega⟩, fun j hj => h.ho j (List.mem_of_mem_take hj), by simp; omega⟩
 have hF2 : nwF p o k v = true ↔ (s / P % 2 = 1 ∧ nwA ((mns s P : Nat) : Int) p (o.take k) = true) := by rw [hF, Bool.and_eq_true, decide_eq_true_eq]
 have hF2 : nwF p o k v = true ↔ (s / P % 2 = 1 ∧ nwA ((mns s P : Nat) : Int) p (o.take k) = true) := by rw [hF, Bool.and_eq_true, decide_eq_true_eq]
 refine ⟨hx, hu, hsh, hx, fun h5 => ⟨by unfold slPre; omega, hpre, fun h6 => ⟨hu, hsh, hnx _ ?_⟩, fun h6 => hnx _ ?_⟩, fun h5 => hnx _ ?_⟩
 · have : s / P % 2 = 1 := by
     have : ¬ mns s P = s := by omega
     rw [hb] at this; omega
   rw [hN, if_pos (hF2.mpr ⟨this, h6⟩)]
 · rw [hN, if_neg (fun h => by rw [(hF2.mp h).2] at h6; cases h6)]
 · have : mns s P = s := by omega
   rw [hb] at this
   rw [hN, if_neg (fun h => by have := (hF2.mp h).1; omega)]
def sz43 (n : Int) (p o : List Int) (_ : Unit) : St := ⟨hd43 n o nl ++ dd 18 ++ .sl I64 o :: .int .i64 o.length :: .int .i64 0 :: dd 41, [.bx (.sl I64 p)]⟩
def st43 (n : Int) (p o : List Int) (k : Nat) : St := ⟨hd43 n o (.own 1 0) ++ dd 18 ++ .sl I64 o :: .int .i64 o.length :: .int .i64 k :: dd 41, [.bx (.sl I64 p), .sc 0 3 I64 (nwL n p o k)]⟩
def fm43 (n : Int) (p o : List Int) : List Fam := [⟨Unit, fun _ => True, sz43 n p o, fun _ => 20, fun _ _ => some (hz43 n p o 0)⟩, ⟨Nat, fun k => k ≤ o.length, st43 n p o, fun k => o.length - k, fun k _ => some (ht43 n p o k)⟩]
def ex43 (n : Int) (p o : List Int) : List (List Nat × Ex) := [([10], ⟨0, Unit, fun _ => o.length = 0, fun _ => ⟨dd 10 ++ nl :: dd 62, []⟩⟩), ([10], ⟨0, Unit, fun _ => True, fun _ => ⟨dd 10 ++ .own 0 0 :: dd 62, [.sc 0 3 I64 (nwL n p o o.length)]⟩⟩)]
def h43 (n : Int) (p o : List Int) : Hint := ⟨chks 0 [0, 2, 4, 10, 29, 30, 31] (fm43 n p o), (ex43 n p o).map (·.2)⟩
theorem nwL_step (n : Int) (p o : List Int) (k : Nat) : nwL n p o (k + 1) = nwL n p o k ++ [((nwN p o k n.toNat : Nat) : Int)] := by
 unfold nwL
 rw [List.range_succ, List.map_append]; try rfl
theorem nwL_len (n : Int) (p o : List Int) (k : Nat) : (nwL n p o k).length = k := by unfold nwL; simp
theorem loop43 (n : Int) (p o : List Int) (h : ok43 n p o) (R : Exit → St → Prop) : LoopOK X43 L43_0 (h43 n p o) R := by
 have hle := h.hl
 refine loop_fams (Xd_ok _ _) [0, 2, 4, 10, 29, 30, 31] (fm43 n p o) (ex43 n p o) 150 ⟨fun _ _ => ?_, fun (k : Nat) hk => ?_, trivial⟩
 · have hL := fun hh => loop43z n p o 0 h hh (bodyR 0 (ex43 n p o) R)
   refine of_eq (q := True ∧ ((0 : Int) < (o.length : Int) → True ∧ idxPre (0 : Int) o.length ∧ True ∧ True ∧ True ∧ True ∧ True ∧ True ∧ LoopOK X43 L43_2 (hz43 n p o (0 : Nat)) (bodyR (0 : Nat) (ex43 n p o) R) ∧ (∃ (y : Nat), y ≤ n.toNat ∧ (n = n ∧ o = o ∧ True ∧ True ∧ (0 : Int) = 0 ∧ o.getD (0 : Nat) (0 : Int) = o.getD (0 : Nat) (0 : Int) ∧ (0 : Int) = (↑(nwN p o (0 : Nat) y) : Int) ∧ o = o ∧ (o.length : Int) = (o.length : Int) ∧ (0 : Int) = 0 ∧ n = n ∧ (0 : Int) = (y : Int) ∧ True) ∧ p = p ∧ True) ∧ (∀ (y : Unit), True → True ∧ True ∧ True ∧ sumPre (0 : Nat) [(↑(nwN p o (0 : Nat) n.toNat) : Int)].length (nat_lit 8) ∧ True ∧ inR .i64 (1 : Int) ∧ True ∧ ((∃ (y : Unit), (True ∧ (20 : Nat) < 20) ∧ (n = n ∧ o = o ∧ True ∧ False ∧ o = o ∧ (o.length : Int) = (o.length : Int) ∧ (1 : Int) = 0 ∧ True) ∧ p = p ∧ True) ∨ ∃ (y : Nat), (y ≤ o.length ∧ o.length - y < 20) ∧ (n = n ∧ o = o ∧ True ∧ True ∧ o = o ∧ (o.length : Int) = (o.length : Int) ∧ (1 : Int) = (y : Int) ∧ True) ∧ p = p ∧ [(↑(nwN p o (0 : Nat) n.toNat) : Int)] = nwL n p o y ∧ True)) ∧ True) ∧ (¬(0 : Int) < (o.length : Int) → (∃ (y : Unit), o.length = 0 ∧ (True ∧ True) ∧ True) ∨ ∃ (y : Unit), True ∧ (False ∧ True) ∧ False)) (by kernel_rfl) ?_
   simp only [zz]
   exact ⟨fun h => ⟨by unfold idxPre; omega, hL (by omega), ⟨0, by omega, rfl, rfl⟩, fun _ _ => ⟨by unfold sumPre; simp, by simp only [inR]; omega, 1, ⟨by omega, by omega⟩, rfl, rfl⟩⟩, fun h => by omega⟩
 · have hL := fun hh => loop43t n p o k h hh (bodyR 0 (ex43 n p o) R)
   refine of_eq (q := True ∧ ((k : Int) < (o.length : Int) → True ∧ idxPre (k : Int) o.length ∧ True ∧ True ∧ True ∧ True ∧ True ∧ True ∧ LoopOK X43 L43_2 (ht43 n p o k) (bodyR (0 : Nat) (ex43 n p o) R) ∧ (∃ (y : Nat), y ≤ n.toNat ∧ (n = n ∧ o = o ∧ True ∧ True ∧ (k : Int) = (k : Int) ∧ o.getD k (0 : Int) = o.getD k (0 : Int) ∧ (0 : Int) = (↑(nwN p o k y) : Int) ∧ o = o ∧ (o.length : Int) = (o.length : Int) ∧ (k : Int) = (k : Int) ∧ n = n ∧ (0 : Int) = (y : Int) ∧ True) ∧ p = p ∧ nwL n p o k = nwL n p o k ∧ True) ∧ (∀ (y : Unit), True → True ∧ True ∧ True ∧ sumPre (nwL n p o k).length [(↑(nwN p o k n.toNat) : Int)].length (nat_lit 8) ∧ True ∧ inR .i64 ((k : Int) + 1) ∧ True ∧ ((∃ (y : Unit), (True ∧ (20 : Nat) < o.length - k) ∧ (n = n ∧ o = o ∧ True ∧ False ∧ o = o ∧ (o.length : Int) = (o.length : Int) ∧ (k : Int) + 1 = 0 ∧ True) ∧ p = p ∧ True) ∨ ∃ (y : Nat), (y ≤ o.length ∧ o.length - y < o.length - k) ∧ (n = n ∧ o = o ∧ True ∧ True ∧ o = o ∧ (o.length : Int) = (o.length : Int) ∧ (k : Int) + 1 = (y : Int) ∧ True) ∧ p = p ∧ nwL n p o k ++ [(↑(nwN p o k n.toNat) : Int)] = nwL n p o y ∧ True)) ∧ True) ∧ (¬(k : Int) < (o.length : Int) → (∃ (y : Unit), o.length = 0 ∧ (False ∧ True) ∧ True) ∨ ∃ (y : Unit), True ∧ (True ∧ True) ∧ nwL n p o k = nwL n p o o.length ∧ True)) (by kernel_rfl) ?_
   simp only [zz]
   have hk : k ≤ o.length := hk
   have hl := nwL_len n p o k
   exact ⟨fun h => ⟨idx_nat (by omega), hL (by omega), ⟨0, by omega, rfl, rfl⟩, fun _ _ => ⟨by unfold sumPre; simp; omega, by simp only [inR]; omega, k + 1, ⟨by omega, by omega⟩, by omega, (nwL_step _ _ _ _).symm⟩⟩, fun h => by rw [show k = o.length by omega]⟩
theorem call43 (n : Int) (p o : List Int) (h : ok43 n p o) (hs : sgR p o = true) : GCall Try.prog gl 43 false [.int .i64 n, .sl I64 p, .sl I64 o] [] [.sl I64 (nwL n p o o.length), .int .i64 0] [] := by
 have hL := loop43 n p o h
 refine gcall_of (X := X43) ((Xd_ok _ _)) (f := 43) (fn := Try.f43) (c := bodyOf Try.f43) (by kernel_rfl) (by kernel_rfl) (view := true) (rvs := [.tmp 6, .tmp 7]) (by kernel_rfl) (H := (fun _ => some (h43 n p o))) 150 (by kernel_rfl) ?_
 refine of_eq (q := True ∧ True ∧ True ∧ True ∧ True ∧ (CxP n p ∧ True) ∧ True ∧ True ∧ True ∧ True ∧ True ∧ True ∧ True ∧ (¬(0 : Int) = 0 → True ∧ True ∧ True ∧ True ∧ (([] : List Int) = nwL n p o o.length ∧ (0 : Int) = 0 ∧ True) ∧ True) ∧ (¬¬(0 : Int) = 0 → True ∧ True ∧ ((ok73 (o, n, p, mk (isF p)) ∧ (True ∧ o = o ∧ True) ∧ (n = n ∧ p = p ∧ mk (isF p) = mk (isF p) ∧ True) ∧ True) ∧ True ∧ True) ∧ True ∧ ((!sgR p o) = true → True ∧ True ∧ True ∧ (([] : List Int) = nwL n p o o.length ∧ (1 : Int) = 0 ∧ True) ∧ True) ∧ ((!sgR p o) = false → True ∧ True ∧ True ∧ True ∧ LoopOK X43 L43_0 (h43 n p o) (RetR X43 false true [ResultVar.tmp (6 : Tmp), ResultVar.tmp (7 : Tmp)] [AV.sl I64 (nwL n p o o.length), AV.int .i64 (0 : Int)] []) ∧ ((∃ (y : Unit), True ∧ (n = n ∧ o = o ∧ True ∧ True ∧ o = o ∧ (o.length : Int) = (o.length : Int) ∧ (0 : Int) = 0 ∧ True) ∧ p = p ∧ True) ∨ ∃ (y : Nat), y ≤ o.length ∧ (n = n ∧ o = o ∧ True ∧ False ∧ o = o ∧ (o.length : Int) = (o.length : Int) ∧ (0 : Int) = (y : Int) ∧ True) ∧ p = p ∧ False) ∧ (∀ (y : Unit), o.length = 0 → True ∧ True ∧ True ∧ True ∧ (([] : List Int) = nwL n p o o.length ∧ (0 : Int) = 0 ∧ True) ∧ True) ∧ (∀ (y : Unit), True → True ∧ True ∧ True ∧ True ∧ (nwL n p o o.length = nwL n p o o.length ∧ (0 : Int) = 0 ∧ True) ∧ True) ∧ True))) (by kernel_rfl) ?_
 simp only [zz]
 refine ⟨⟨h.hc⟩, fun hx => absurd trivial hx, fun _ => ⟨⟨⟨h.hc, rfl⟩, by have := h.hl; simp only; omega⟩, fun hx => (by rw [hs] at hx; cases hx), fun _ => ⟨hL _, fun _ h0 => ?_, fun _ _ => trivial⟩⟩⟩
 rw [h0]; try rfl
theorem sg_okO {p o : List Int} (h : sgR p o = true) : okO p o ∧ o.length = p.length := by
 have h' := h
 unfold sgR at h
 rw [Bool.and_eq_true, Bool.and_eq_true, decide_eq_true_eq] at h
 refine ⟨fun j hj => ?_, h.1.2⟩
 obtain ⟨k, hk, rfl⟩ := List.getElem_of_mem hj
 have hb : sgB p (o.getD k 0) = true := by
   cases hb : sgB p (o.getD k 0) with
   | true => rfl
   | false =>
     have hn : sgK p o (k + 1) = none := by
       cases hD : sgK p o k with
       | none => rw [sgK, hD]; try rfl
       | some D =>
         have : sgK p o (k + 1) = if sgB p (o.getD k 0) = true ∧ D / 2 ^ (o.getD k 0).toNat % 2 = 0 ∧ nxB p D (o.getD k 0).toNat = true then some (D ||| 2 ^ (o.getD k 0).toNat) else none := by rw [sgK, hD]; try rfl
         rw [this, if_neg (fun hc => by rw [hb] at hc; cases hc.1)]
     rw [sg_bad hk hn] at h'; cases h'
 unfold sgB at hb
 rw [getD_lt hk] at hb
 exact of_decide_eq_true hb
theorem call43y (n : Int) (p o : List Int) (h : cxOk n p ∧ o.length < 1000000000000000) (hs : sgR p o = false) : GCall Try.prog gl 43 false [.int .i64 n, .sl I64 p, .sl I64 o] [] [.sl I64 [], .int .i64 1] [] := by
 have hL := fun (hh : ok43 n p o) R => loop43 n p o hh R
 refine gcall_of (X := X43) ((Xd_ok _ _)) (f := 43) (fn := Try.f43) (c := bodyOf Try.f43) (by kernel_rfl) (by kernel_rfl) (view := true) (rvs := [.tmp 6, .tmp 7]) (by kernel_rfl) (H := (fun _ => some (h43 n p o))) 150 (by kernel_rfl) ?_
 refine of_eq (q := True ∧ True ∧ True ∧ True ∧ True ∧ (CxP n p ∧ True) ∧ True ∧ True ∧ True ∧ True ∧ True ∧ True ∧ True ∧ (¬(0 : Int) = 0 → True ∧ True ∧ True ∧ True ∧ (([] : List Int) = [] ∧ (0 : Int) = 1 ∧ True) ∧ True) ∧ (¬¬(0 : Int) = 0 → True ∧ True ∧ ((ok73 (o, n, p, mk (isF p)) ∧ (True ∧ o = o ∧ True) ∧ (n = n ∧ p = p ∧ mk (isF p) = mk (isF p) ∧ True) ∧ True) ∧ True ∧ True) ∧ True ∧ ((!sgR p o) = true → True ∧ True ∧ True ∧ (([] : List Int) = [] ∧ (1 : Int) = 1 ∧ True) ∧ True) ∧ ((!sgR p o) = false → True ∧ True ∧ True ∧ True ∧ LoopOK X43 L43_0 (h43 n p o) (RetR X43 false true [ResultVar.tmp (6 : Tmp), ResultVar.tmp (7 : Tmp)] [AV.sl I64 [], AV.int .i64 (1 : Int)] []) ∧ ((∃ (y : Unit), True ∧ (n = n ∧ o = o ∧ True ∧ True ∧ o = o ∧ (o.length : Int) = (o.length : Int) ∧ (0 : Int) = 0 ∧ True) ∧ p = p ∧ True) ∨ ∃ (y : Nat), y ≤ o.length ∧ (n = n ∧ o = o ∧ True ∧ False ∧ o = o ∧ (o.length : Int) = (o.length : Int) ∧ (0 : Int) = (y : Int) ∧ True) ∧ p = p ∧ False) ∧ (∀ (y : Unit), o.length = 0 → True ∧ True ∧ True ∧ True ∧ (([] : List Int) = [] ∧ (0 : Int) = 1 ∧ True) ∧ True) ∧ (∀ (y : Unit), True → True ∧ True ∧ True ∧ True ∧ (nwL n p o o.length = [] ∧ (0 : Int) = 1 ∧ True) ∧ True) ∧ True))) (by kernel_rfl) ?_
 simp only [zz]
 exact ⟨⟨h.1⟩, fun hx => absurd trivial hx, fun _ => ⟨⟨⟨h.1, rfl⟩, h.2⟩, fun _ => trivial, fun hx => (by rw [hs] at hx; cases hx)⟩⟩
def nsR (n : Int) (p o : List Int) : List Int := if sgR p o = true then nwL n p o o.length else []
def nsE (p o : List Int) : Int := if sgR p o = true then 0 else 1
theorem call43g (n : Int) (p o : List Int) (h : cxOk n p ∧ o.length < 1000000000000000) : GCall Try.prog gl 43 false [.int .i64 n, .sl I64 p, .sl I64 o] [] [.sl I64 (nsR n p o), .int .i64 (nsE p o)] [] := by
 unfold nsR nsE
 cases hs : sgR p o with
 | true =>
   obtain ⟨h1, h2⟩ := sg_okO hs
   exact call43 n p o ⟨h.1, h1, by have := h.1.2.1; omega⟩ hs
 | false => exact call43y n p o h hs
def e43 : Entry Try.prog gl := entry3 43 ⟨Try.f43, by kernel_rfl, by kernel_rfl, by kernel_rfl⟩ I64 SI SI (fun (n : Int) p o => cxOk n p ∧ (o : List Int).length < 1000000000000000) false (fun (n : Int) p o => [.sl I64 (nsR n p o), .int .i64 (nsE p o)]) (fun _ _ _ => []) (fun (n : Int) p o h => call43g n p o h)
end Go.Am.Sh

/- Shells: News, as the reference finds them. -/
namespace Go.Am.Sh
open Go Go.Am Go.Proofs
end Go.Am.Sh

/- Shells: the law of the orders. -/
namespace Go.Am.Sh
open Go Go.Am Go.Proofs
end Go.Am.Sh

/- Shells: the rank of rows, as the reference finds it. -/
namespace Go.Am.Sh
open Go Go.Am Go.Proofs
end Go.Am.Sh

/- Shells: the borders, as the reference finds them. -/
namespace Go.Am.Sh
open Go Go.Am Go.Proofs
end Go.Am.Sh

/- Shells: the hollow numbers, as the reference finds them. -/
namespace Go.Am.Sh
open Go Go.Am Go.Proofs
end Go.Am.Sh

/- Shells: Link. -/
namespace Go.Am.Sh
open Go Go.Am Go.Proofs
def lnkG (p : List Int) (f x : Nat) : Bool := decide (x &&& f = 0) && isF p (x ||| f)
def lnkK (p : List Int) (f k : Nat) : List Bool := mk fun x => decide (x < k) && lnkG p f x
theorem lnkK_step {p : List Int} {f k : Nat} : (lnkK p f k).set k (lnkG p f k) = lnkK p f (k + 1) := by
 unfold lnkK
 rw [mk_set]
 refine mk_ext fun x _ => ?_
 by_cases e : x = k
 · subst e; rw [if_pos rfl]; simp
 · rw [if_neg e]
   have : (x < k) ↔ (x < k + 1) := by omega
   simp only [this]
noncomputable def L32_0 : Code := lp (bodyOf Try.f32) 0
def st32 (n : Int) (p : List Int) (f k : Nat) : St := ⟨dd 2 ++ .int .i64 f :: dd 5 ++ .ptr 0 0 [] :: .dead :: .ptr 1 0 [] :: dd 25 ++ .int .i64 k :: dd 21, [cxO n p, .bx (.ar .bool 64 (lnkK p f k))]⟩
def ex32 (p : List Int) (f : Nat) : List (List Nat × Ex) := [([10], ⟨0, Unit, fun _ => True, fun _ => ⟨dd 10 ++ .ptr 0 0 [] :: dd 47, [.bx (.ar .bool 64 (mk (lnkG p f)))]⟩⟩)]
noncomputable def H32 (n : Int) (p : List Int) (f : Nat) : Nat → Option Hint := fun _ => some ⟨chk 0 [2, 8, 10, 36] (fun k => k ≤ 64) (st32 n p f), (ex32 p f).map (·.2)⟩
theorem loop32 (n : Int) (p : List Int) (f : Nat) (h : cxOk n p) (hf : f < 64) (R : Exit → St → Prop) : LoopOK (X [e53, e70]) L32_0 ⟨chk 0 [2, 8, 10, 36] (fun k => k ≤ 64) (st32 n p f), (ex32 p f).map (·.2)⟩ R := by
 refine loop_ok (X_ok _) (H := fun _ _ => none) [2, 8, 10, 36] (fun k => k ≤ 64) (st32 n p f) (fun k => 64 - k) (ex32 p f) 100 fun (k : Nat) hk => ?_
 refine of_eq (q := True ∧ ((k : Int) < 64 → True ∧ True ∧ True ∧ True ∧ True ∧ True ∧ True ∧ True ∧ (bAnd .i64 (k : Int) (f : Int) = 0 → True ∧ True ∧ True ∧ True ∧ True ∧ True ∧ idxPre (bOr .i64 (k : Int) (f : Int)) (64 : Nat) ∧ True ∧ True ∧ idxPre (k : Int) (64 : Nat) ∧ True ∧ inR .i64 ((k : Int) + 1) ∧ True ∧ ∃ (y : Nat), (y ≤ 64 ∧ (64 : Nat) - y < 64 - k) ∧ ((f : Int) = (f : Int) ∧ True ∧ True ∧ (k : Int) + 1 = (y : Int) ∧ True) ∧ (n = n ∧ p = p ∧ mk (isF p) = mk (isF p) ∧ True) ∧ (lnkK p f k).set k ((mk (isF p)).getD (bOr .i64 (k : Int) (f : Int)).toNat false) = lnkK p f y ∧ True) ∧ (¬bAnd .i64 (k : Int) (f : Int) = 0 → True ∧ idxPre (k : Int) (64 : Nat) ∧ True ∧ inR .i64 ((k : Int) + 1) ∧ True ∧ ∃ (y : Nat), (y ≤ 64 ∧ (64 : Nat) - y < 64 - k) ∧ ((f : Int) = (f : Int) ∧ True ∧ True ∧ (k : Int) + 1 = (y : Int) ∧ True) ∧ (n = n ∧ p = p ∧ mk (isF p) = mk (isF p) ∧ True) ∧ (lnkK p f k).set k false = lnkK p f y ∧ True)) ∧ (¬(k : Int) < 64 → ∃ (y : Unit), True ∧ (True ∧ True) ∧ lnkK p f k = mk (lnkG p f) ∧ True)) (by kernel_rfl) ?_
 simp only [zz]
 have hk : k ≤ 64 := hk
 refine ⟨fun h3 => ?_, fun h3 => by rw [show k = 64 by omega]; exact mk_ext fun x hx => by rw [decide_eq_true hx]; rfl⟩
 have hk2 : k < 64 := by omega
 have ho : k ||| f < 64 := Nat.or_lt_two_pow (n := 6) hk2 hf
 rw [bAnd_nat (by omega) (by omega), bOr_nat (by omega) (by omega), Int.toNat_natCast, mk_getD ho]
 refine ⟨fun hb => ⟨by unfold idxPre; omega, by unfold idxPre; omega, by simp only [inR]; omega, k + 1, by omega, by omega, ?_⟩, fun hb => ⟨by unfold idxPre; omega, by simp only [inR]; omega, k + 1, by omega, by omega, ?_⟩⟩
 · have e : isF p (k ||| f) = lnkG p f k := by unfold lnkG; rw [decide_eq_true (show k &&& f = 0 by omega)]; try rfl
   rw [e]; exact lnkK_step
 · have e : false = lnkG p f k := by unfold lnkG; rw [decide_eq_false (show ¬ k &&& f = 0 by omega)]; try rfl
   rw [e]; exact lnkK_step
theorem call32 (n : Int) (p : List Int) (f : Nat) (h : cxOk n p) (hf : f < 64) (hi : isF p f = true) : GCall Try.prog gl 32 false [.int .i64 n, .sl I64 p, .int .i64 f] [] [.sl I64 (grL (lnkG p f)), .int .i64 0] [] := by
 refine gcall_of (X := X [e53, e70]) (X_ok [e53, e70]) (f := 32) (fn := Try.f32) (c := bodyOf Try.f32) (by kernel_rfl) (by kernel_rfl) (view := false) (rvs := [.tmp 6, .tmp 7]) (by kernel_rfl) (H := (H32 n p f)) 80 (by kernel_rfl) ?_
 have hL := loop32 n p f h hf
 refine of_eq (q := True ∧ True ∧ True ∧ True ∧ (CxP n p ∧ True) ∧ True ∧ True ∧ True ∧ True ∧ True ∧ True ∧ True ∧ (¬(0 : Int) = 0 → True ∧ True ∧ True ∧ True ∧ (([] : List Int) = grL (lnkG p f) ∧ (0 : Int) = 0 ∧ True) ∧ True) ∧ (¬¬(0 : Int) = 0 → True ∧ True ∧ True ∧ ((f : Int) < 0 → True ∧ True ∧ True ∧ True ∧ True ∧ True ∧ (([] : List Int) = grL (lnkG p f) ∧ (1 : Int) = 0 ∧ True) ∧ True) ∧ (¬(f : Int) < 0 → True ∧ True ∧ True ∧ True ∧ ((64 : Int) ≤ (f : Int) → True ∧ True ∧ True ∧ True ∧ (([] : List Int) = grL (lnkG p f) ∧ (1 : Int) = 0 ∧ True) ∧ True) ∧ (¬(64 : Int) ≤ (f : Int) → True ∧ True ∧ True ∧ True ∧ idxPre (f : Int) (64 : Nat) ∧ True ∧ True ∧ True ∧ ((!(mk (isF p)).getD f false) = true → True ∧ True ∧ True ∧ (([] : List Int) = grL (lnkG p f) ∧ (1 : Int) = 0 ∧ True) ∧ True) ∧ ((!(mk (isF p)).getD f false) = false → True ∧ True ∧ LoopOK (X [e53, e70]) L32_0 { J := chk (0 : Nat) [(2 : Nat), (8 : Nat), (10 : Nat), (36 : Nat)] (fun (k : Nat) => k ≤ 64) (st32 n p f), exits := List.map (fun (x : List Nat × Ex) => x.snd) (ex32 p f) } (RetR (X [e53, e70]) false false [ResultVar.tmp (6 : Tmp), ResultVar.tmp (7 : Tmp)] [AV.sl I64 (grL (lnkG p f)), AV.int .i64 (0 : Int)] []) ∧ (∃ (y : Nat), y ≤ 64 ∧ ((f : Int) = (f : Int) ∧ True ∧ True ∧ (0 : Int) = (y : Int) ∧ True) ∧ (n = n ∧ p = p ∧ mk (isF p) = mk (isF p) ∧ True) ∧ [false, false, false, false, false, false, false, false, false, false, false, false, false, false, false, false, false, false, false, false, false, false, false, false, false, false, false, false, false, false, false, false, false, false, false, false, false, false, false, false, false, false, false, false, false, false, false, false, false, false, false, false, false, false, false, false, false, false, false, false, false, false, false, false] = lnkK p f y ∧ True) ∧ (∀ (y : Unit), True → True ∧ ((mk (lnkG p f)).length = 64 ∧ True) ∧ True ∧ True ∧ True ∧ (trueN (grtB (gB (mk (lnkG p f)))) (64 : Nat) = grL (lnkG p f) ∧ (0 : Int) = 0 ∧ True) ∧ True) ∧ True))))) (by kernel_rfl) ?_
 simp only [zz]
 refine ⟨⟨h⟩, fun h => absurd trivial h, fun _ => ⟨fun hx => by omega, fun _ => ⟨fun hx => by omega, fun _ => ⟨by unfold idxPre; omega, fun hx => ?_, fun _ => ⟨hL _, ⟨0, Nat.zero_le _, rfl, ?_⟩, fun _ _ => ⟨mk_length _, grL_mk _⟩⟩⟩⟩⟩⟩
 · rw [mk_getD hf, hi] at hx; cases hx
 · rfl
theorem call32x (n : Int) (p : List Int) (f : Int) (h : ¬ cxOk n p ∧ p.length < 1000000000000000) : GCall Try.prog gl 32 true [.int .i64 n, .sl I64 p, .int .i64 f] [] [nl, .int .i64 (errN n)] [] := by
 refine gcall_of (X := X [x53]) (X_ok [x53]) (f := 32) (fn := Try.f32) (c := bodyOf Try.f32) (by kernel_rfl) (by kernel_rfl) (view := false) (rvs := [.tmp 6, .tmp 7]) (by kernel_rfl) (H := fun _ => none) 80 (by kernel_rfl) ?_
 refine of_eq (q := True ∧ True ∧ True ∧ True ∧ ((¬cxOk n p ∧ p.length < 1000000000000000) ∧ True) ∧ True ∧ True ∧ True ∧ True ∧ True ∧ True ∧ True ∧ (¬errN n = 0 → True ∧ True ∧ True ∧ True ∧ (True ∧ errN n = errN n ∧ True) ∧ True) ∧ (¬¬errN n = 0 → True ∧ True ∧ True ∧ (f < 0 → True ∧ True ∧ True ∧ True ∧ True ∧ True ∧ (True ∧ (1 : Int) = errN n ∧ True) ∧ True) ∧ (¬f < 0 → True ∧ True ∧ True ∧ True ∧ ((64 : Int) ≤ f → True ∧ True ∧ True ∧ True ∧ (True ∧ (1 : Int) = errN n ∧ True) ∧ True) ∧ (¬(64 : Int) ≤ f → True ∧ True ∧ False)))) (by kernel_rfl) ?_
 simp only [zz]
 exact ⟨h, fun _ => trivial, fun h2 => absurd (errN_ne n) h2⟩
end Go.Am.Sh

/- Shells: the reference's Link. -/
namespace Go.Am.Sh
open Go Go.Am Go.Proofs
end Go.Am.Sh

/- Shells: the reference's Dual. -/
namespace Go.Am.Sh
open Go Go.Am Go.Proofs
end Go.Am.Sh

/- Shells: links and duals, plain facts. -/
namespace Go.Am.Sh
open Go Go.Am Go.Proofs
end Go.Am.Sh

/- Shells: the new parts of a shelling and the h-list, plain facts. -/
namespace Go.Am.Sh
open Go Go.Am Go.Proofs
end Go.Am.Sh

/- Shells: the new parts of a shelling count as the h-list does. -/
namespace Go.Am.Sh
open Go Go.Am Go.Proofs
def cN (g : Nat → Bool) : Nat → Nat
 | 0 => 0
 | k + 1 => cN g k + if g k = true then 1 else 0
theorem cN_ext {f g : Nat → Bool} : ∀ {m : Nat}, (∀ x, x < m → f x = g x) → cN f m = cN g m
 | 0, _ => rfl
 | m + 1, h => by rw [cN, cN, cN_ext fun x hx => h x (by omega), h m (by omega)]
end Go.Am.Sh

/- Shells: McMullen's law. -/
namespace Go.Am.Sh
open Go Go.Am Go.Proofs
def s9 (p t : List Int) (i : Nat) : St := ⟨dd 10 ++ .sl I64 (hsL p) :: .dead :: .sl I64 t :: .dead :: .own 0 0 :: .int .i64 i :: dd 92, [.sc 0 3 I64 (cntL t (mxL p).toNat i)]⟩
def ex9 (p t : List Int) : List (List Nat × Ex) := [([10, 14], ⟨0, Unit, fun _ => True, fun _ => ⟨dd 10 ++ .sl I64 (hsL p) :: dd 3 ++ .own 0 0 :: dd 93, [.sc 0 3 I64 (cntL t (mxL p).toNat t.length)]⟩⟩)]
def h9 (p t : List Int) : Hint := ⟨chk 0 [10, 12, 14, 15] (fun i => i ≤ t.length) (s9 p t), (ex9 p t).map (·.2)⟩
structure ok9 (p t : List Int) : Prop where
 hl : t.length ≤ 10
 hh : (hsL p).length = (mxL p).toNat + 1
 ht : ∀ i, i < t.length → (0 ≤ t.getD i 0 ∧ t.getD i 0 < 64) ∧ pc (t.getD i 0).toNat ≤ (mxL p).toNat
end Go.Am.Sh

/- Shells: the law of the hollows. -/
namespace Go.Am.Sh
open Go Go.Am Go.Proofs
def lnOk (p : List Int) (f : Int) : Prop := 0 ≤ f ∧ f < 64 ∧ isF p f.toNat = true
instance (p : List Int) (f : Int) : Decidable (lnOk p f) := by unfold lnOk; infer_instance
def lnR (p : List Int) (f : Int) : List Int := if lnOk p f then grL (lnkG p f.toNat) else []
def lnE (p : List Int) (f : Int) : Int := if lnOk p f then 0 else 1
theorem call32v (n : Int) (p : List Int) (f : Int) (h : cxOk n p) (hi : ¬ lnOk p f) : GCall Try.prog gl 32 false [.int .i64 n, .sl I64 p, .int .i64 f] [] [.sl I64 [], .int .i64 1] [] := by
 refine gcall_of (X := X [e53, e70]) (X_ok [e53, e70]) (f := 32) (fn := Try.f32) (c := bodyOf Try.f32) (by kernel_rfl) (by kernel_rfl) (view := true) (rvs := [.tmp 6, .tmp 7]) (by kernel_rfl) (H := fun _ => none) 80 (by kernel_rfl) ?_
 refine of_eq (q := True ∧ True ∧ True ∧ True ∧ (CxP n p ∧ True) ∧ True ∧ True ∧ True ∧ True ∧ True ∧ True ∧ True ∧ (¬(0 : Int) = 0 → True ∧ True ∧ True ∧ True ∧ (([] : List Int) = [] ∧ (0 : Int) = 1 ∧ True) ∧ True) ∧ (¬¬(0 : Int) = 0 → True ∧ True ∧ True ∧ (f < 0 → True ∧ True ∧ True ∧ True ∧ True ∧ True ∧ (([] : List Int) = [] ∧ (1 : Int) = 1 ∧ True) ∧ True) ∧ (¬f < 0 → True ∧ True ∧ True ∧ True ∧ ((64 : Int) ≤ f → True ∧ True ∧ True ∧ True ∧ (([] : List Int) = [] ∧ (1 : Int) = 1 ∧ True) ∧ True) ∧ (¬(64 : Int) ≤ f → True ∧ True ∧ True ∧ True ∧ idxPre f (64 : Nat) ∧ True ∧ True ∧ True ∧ ((!(mk (isF p)).getD f.toNat false) = true → True ∧ True ∧ True ∧ (([] : List Int) = [] ∧ (1 : Int) = 1 ∧ True) ∧ True) ∧ ((!(mk (isF p)).getD f.toNat false) = false → True ∧ True ∧ False))))) (by kernel_rfl) ?_
 simp only [zz]
 unfold lnOk at hi
 refine ⟨⟨h⟩, fun h => absurd trivial h, fun _ => ⟨fun _ => trivial, fun h1 => ⟨fun _ => trivial, fun h2 => ⟨by unfold idxPre; omega, fun _ => trivial, fun h3 => hi ⟨by omega, by omega, ?_⟩⟩⟩⟩⟩
 rw [mk_getD (by omega)] at h3
 simpa using h3
theorem call32g (n : Int) (p : List Int) (f : Int) (h : cxOk n p) : GCall Try.prog gl 32 false [.int .i64 n, .sl I64 p, .int .i64 f] [] [.sl I64 (lnR p f), .int .i64 (lnE p f)] [] := by
 unfold lnR lnE
 by_cases hi : lnOk p f
 · rw [if_pos hi, if_pos hi]
   obtain ⟨h1, h2, h3⟩ := hi
   obtain ⟨k, rfl⟩ : ∃ k : Nat, f = k := ⟨f.toNat, by omega⟩
   exact call32 n p k h (by omega) h3
 · rw [if_neg hi, if_neg hi]; exact call32v n p f h hi
def e32 : Entry Try.prog gl := entry3 32 ⟨Try.f32, by kernel_rfl, by kernel_rfl, by kernel_rfl⟩ I64 SI I64 (fun (n : Int) p (_ : Int) => cxOk n p) false (fun _ p (f : Int) => [.sl I64 (lnR p f), .int .i64 (lnE p f)]) (fun _ _ _ => []) (fun (n : Int) p (f : Int) h => call32g n p f h)
def s6 (n : Int) (p : List Int) (x : Int × Nat) : St := ⟨dd 2 ++ .int .i64 x.1 :: dd 4 ++ .int .i64 n :: .sl I64 p :: dd 2 ++ .int .i64 x.2 :: dd 140, []⟩
def in6 (x : Int × Nat) : Prop := x.2 ≤ 2
def ex6 (n : Int) (p : List Int) : List (List Nat × Ex) := [([7, 8], ⟨0, Unit, fun _ => True, fun _ => ⟨dd 7 ++ .int .i64 n :: .sl I64 p :: dd 143, []⟩⟩)]
def fm6 (n : Int) (p : List Int) : List Fam := [⟨Int × Nat, in6, s6 n p, fun x => 2 - x.2, fun _ _ => none⟩]
def h6 (n : Int) (p : List Int) : Hint := ⟨chks 0 [2, 7, 8, 11] (fm6 n p), (ex6 n p).map (·.2)⟩
end Go.Am.Sh

/- Shells: functions whose results are new memory. -/
namespace Go.Am.Sh
open Go Go.Am Go.Proofs
end Go.Am.Sh

/- Shells: own results are written over. -/
namespace Go.Am.Sh
open Go Go.Am Go.Proofs
end Go.Am.Sh

/- Shells: the law of the own results. -/
namespace Go.Am.Sh
open Go Go.Am Go.Proofs
end Go.Am.Sh

/- Shells: what can be taken away; Left. -/
namespace Go.Am.Sh
open Go Go.Am Go.Proofs
/-- Two faces can be taken away. -/
def canN (g : Nat → Bool) (a b k : Nat) : Prop := ∀ x, x < k → g x = true → sub a x = true → x = a ∨ x = b
instance (g a b k) : Decidable (canN g a b k) := by unfold canN; infer_instance
def canP (g : Nat → Bool) (a b : Int) : Prop := (1 ≤ a ∧ a < 64) ∧ (1 ≤ b ∧ b < 64) ∧ g a.toNat = true ∧ g b.toNat = true ∧ sub a.toNat b.toNat = true ∧ pc b.toNat = pc a.toNat + 1 ∧ canN g a.toNat b.toNat 64
instance (g a b) : Decidable (canP g a b) := by unfold canP; infer_instance
def canR (g : Nat → Bool) (a b : Int) : Bool := decide (canP g a b)
theorem pc_le6 : ∀ x : Fin 64, pc x.val ≤ 6 := by decide +kernel
noncomputable def L79_0 : Code := lp (bodyOf Try.f79) 0
def pr (a b : Int) : AV := .agg [.int .i64 a, .int .i64 b]
def st79 (xs : List Bool) (a b : Int) (k : Nat) : St := ⟨dd 3 ++ .ptr 0 0 [] :: dd 53 ++ .ar .bool 64 xs :: .int .i64 k :: dd 24, [.bx (pr a b)]⟩
def in79 (xs : List Bool) (a b : Int) (k : Nat) : Prop := k ≤ 64 ∧ canN (gB xs) a.toNat b.toNat k
def ex79 (xs : List Bool) (a b : Int) : List (List Nat × Ex) := [([], ⟨0, Unit, fun _ => canN (gB xs) a.toNat b.toNat 64, fun _ => ⟨dd 83, []⟩⟩)]
def h79 (xs : List Bool) (a b : Int) : Hint := ⟨chk 0 [3, 57, 58] (in79 xs a b) (st79 xs a b), (ex79 xs a b).map (·.2)⟩
noncomputable abbrev X79 : Cy := X [e64]
noncomputable def R79 (xs : List Bool) (a b : Int) : Exit → St → Prop := RetR X79 true false [.tmp 4] [.bool (canR (gB xs) a b)] []
structure ok79 (xs : List Bool) (a b : Int) : Prop where
 hl : xs.length = 64
 ha : 1 ≤ a ∧ a < 64
 hb : 1 ≤ b ∧ b < 64
 hga : gB xs a.toNat = true
 hgb : gB xs b.toNat = true
 hs : sub a.toNat b.toNat = true
 hp : pc b.toNat = pc a.toNat + 1
theorem loop79 (xs : List Bool) (a b : Int) (h : ok79 xs a b) : LoopOK X79 L79_0 (h79 xs a b) (R79 xs a b) := by
 refine loop_ok (X_ok _) (H := fun _ _ => none) [3, 57, 58] (in79 xs a b) (st79 xs a b) (fun k => 64 - k) (ex79 xs a b) 150 fun (k : Nat) hk => ?_
 refine of_eq (q := True ∧ ((k : Int) < 64 → True ∧ idxPre (k : Int) (64 : Nat) ∧ True ∧ True ∧ True ∧ True ∧ (xs.getD k false = true → True ∧ True ∧ True ∧ True ∧ True ∧ True ∧ (¬(k : Int) = a → True ∧ True ∧ True ∧ True ∧ True ∧ True ∧ (¬(k : Int) = b → True ∧ True ∧ True ∧ True ∧ True ∧ True ∧ (bNot .i64 a (k : Int) = 0 → True ∧ True ∧ (false = canR (gB xs) a b ∧ True) ∧ True) ∧ (¬bNot .i64 a (k : Int) = 0 → inR .i64 ((k : Int) + 1) ∧ True ∧ ∃ (y : Nat), (in79 xs a b y ∧ (64 : Nat) - y < 64 - k) ∧ (True ∧ xs = xs ∧ (k : Int) + 1 = (y : Int) ∧ True) ∧ (a = a ∧ b = b ∧ True) ∧ True)) ∧ (¬¬(k : Int) = b → True ∧ inR .i64 ((k : Int) + 1) ∧ True ∧ ∃ (y : Nat), (in79 xs a b y ∧ (64 : Nat) - y < 64 - k) ∧ (True ∧ xs = xs ∧ (k : Int) + 1 = (y : Int) ∧ True) ∧ (a = a ∧ b = b ∧ True) ∧ True)) ∧ (¬¬(k : Int) = a → True ∧ True ∧ True ∧ inR .i64 ((k : Int) + 1) ∧ True ∧ ∃ (y : Nat), (in79 xs a b y ∧ (64 : Nat) - y < 64 - k) ∧ (True ∧ xs = xs ∧ (k : Int) + 1 = (y : Int) ∧ True) ∧ (a = a ∧ b = b ∧ True) ∧ True)) ∧ (xs.getD k false = false → True ∧ True ∧ True ∧ True ∧ True ∧ inR .i64 ((k : Int) + 1) ∧ True ∧ ∃ (y : Nat), (in79 xs a b y ∧ (64 : Nat) - y < 64 - k) ∧ (True ∧ xs = xs ∧ (k : Int) + 1 = (y : Int) ∧ True) ∧ (a = a ∧ b = b ∧ True) ∧ True)) ∧ (¬(k : Int) < 64 → ∃ (y : Unit), canN (gB xs) a.toNat b.toNat (64 : Nat) ∧ True ∧ True)) (by kernel_rfl) ?_
 simp only [zz]
 obtain ⟨k1, k2⟩ := hk
 have hla := h.ha
 have hlb := h.hb
 have hF : ∀ x : Nat, x < 64 → (bNot .i64 a x = 0 ↔ sub a.toNat x = true) := fun x hx => by
   have h1 := sub_mns ⟨a.toNat, by omega⟩ ⟨x, hx⟩
   simp only at h1
   have h2 := bNot_nat (a := a.toNat) (b := x) (by omega) (by omega)
   rw [Int.toNat_of_nonneg (by omega)] at h2
   rw [h2, ← h1]; omega
 have hn : k < 64 → (gB xs k = true → sub a.toNat k = true → k = a.toNat ∨ k = b.toNat) → inR .i64 ((k : Int) + 1) ∧ ∃ y : Nat, (in79 xs a b y ∧ 64 - y < 64 - k) ∧ (k : Int) + 1 = (y : Int) := fun hk hh => ⟨by simp only [inR]; omega, k + 1, ⟨⟨by omega, fun x hx => by
   by_cases e : x = k
   · subst e; exact hh
   · exact k2 x (by omega)⟩, by omega⟩, by omega⟩
 refine ⟨fun hk => ⟨by unfold idxPre; omega, fun hg => ⟨fun h1 => ⟨fun h2 => ⟨fun h3 => ?_, fun h3 => hn (by omega) fun _ hs => absurd ((hF k (by omega)).mpr hs) h3⟩, fun h2 => hn (by omega) fun _ _ => .inr (by omega)⟩, fun h1 => hn (by omega) fun _ _ => .inl (by omega)⟩, fun hg => hn (by omega) fun hg2 => ?_⟩, fun hk => by rwa [show k = 64 by omega] at k2⟩
 · refine (decide_eq_false fun hc => ?_).symm
   obtain ⟨_, _, _, _, _, _, h6⟩ := hc
   rcases h6 k (by omega) hg ((hF k (by omega)).mp h3) with h7 | h7 <;> omega
 · unfold gB at hg2; rw [hg] at hg2; cases hg2
theorem call79 (xs : List Bool) (a b : Int) (hl : xs.length = 64) : GCall Try.prog gl 79 true [.ar .bool 64 xs, pr a b] [] [.bool (canR (gB xs) a b)] [] := by
 have hL := fun h => loop79 xs a b h
 refine gcall_of (X := X79) ((X_ok _)) (f := 79) (fn := Try.f79) (c := bodyOf Try.f79) (by kernel_rfl) (by kernel_rfl) (view := false) (rvs := [.tmp 4]) (by kernel_rfl) (H := (fun _ => some (h79 xs a b))) 250 (by kernel_rfl) ?_
 refine of_eq (q := True ∧ True ∧ True ∧ True ∧ True ∧ True ∧ True ∧ (a < 1 → True ∧ True ∧ True ∧ True ∧ True ∧ True ∧ True ∧ True ∧ True ∧ True ∧ True ∧ True ∧ True ∧ True ∧ True ∧ (false = canR (gB xs) a b ∧ True) ∧ True) ∧ (¬a < 1 → True ∧ True ∧ True ∧ True ∧ True ∧ ((64 : Int) ≤ a → True ∧ True ∧ True ∧ True ∧ True ∧ True ∧ True ∧ True ∧ True ∧ True ∧ True ∧ True ∧ True ∧ (false = canR (gB xs) a b ∧ True) ∧ True) ∧ (¬(64 : Int) ≤ a → True ∧ True ∧ True ∧ True ∧ True ∧ ((64 : Int) ≤ b → True ∧ True ∧ True ∧ True ∧ True ∧ True ∧ True ∧ True ∧ True ∧ True ∧ True ∧ (false = canR (gB xs) a b ∧ True) ∧ True) ∧ (¬(64 : Int) ≤ b → True ∧ True ∧ True ∧ True ∧ True ∧ (b < 1 → True ∧ True ∧ True ∧ True ∧ True ∧ True ∧ True ∧ True ∧ True ∧ (false = canR (gB xs) a b ∧ True) ∧ True) ∧ (¬b < 1 → True ∧ True ∧ idxPre a (64 : Nat) ∧ True ∧ True ∧ True ∧ True ∧ ((!xs.getD a.toNat false) = true → True ∧ True ∧ True ∧ True ∧ True ∧ True ∧ True ∧ (false = canR (gB xs) a b ∧ True) ∧ True) ∧ ((!xs.getD a.toNat false) = false → True ∧ True ∧ idxPre b (64 : Nat) ∧ True ∧ True ∧ True ∧ True ∧ ((!xs.getD b.toNat false) = true → True ∧ True ∧ True ∧ True ∧ True ∧ (false = canR (gB xs) a b ∧ True) ∧ True) ∧ ((!xs.getD b.toNat false) = false → True ∧ True ∧ True ∧ True ∧ True ∧ True ∧ True ∧ True ∧ (¬bNot .i64 a b = 0 → True ∧ True ∧ True ∧ (false = canR (gB xs) a b ∧ True) ∧ True) ∧ (¬¬bNot .i64 a b = 0 → True ∧ True ∧ ((0 : Int) ≤ b ∧ b < 64) ∧ True ∧ True ∧ ((0 : Int) ≤ a ∧ a < 64) ∧ inR .i64 ((↑(pc a.toNat) : Int) + 1) ∧ True ∧ True ∧ (¬(↑(pc b.toNat) : Int) = (↑(pc a.toNat) : Int) + 1 → True ∧ True ∧ (false = canR (gB xs) a b ∧ True) ∧ True) ∧ (¬¬(↑(pc b.toNat) : Int) = (↑(pc a.toNat) : Int) + 1 → True ∧ True ∧ LoopOK X79 L79_0 (h79 xs a b) (R79 xs a b) ∧ (∃ (y : Nat), in79 xs a b y ∧ (True ∧ xs = xs ∧ (0 : Int) = (y : Int) ∧ True) ∧ (a = a ∧ b = b ∧ True) ∧ True) ∧ (∀ (y : Unit), canN (gB xs) a.toNat b.toNat (64 : Nat) → True ∧ True ∧ (true = canR (gB xs) a b ∧ True) ∧ True) ∧ True))))))))) (by kernel_rfl) ?_
 simp only [zz]
 have hno : ¬ canP (gB xs) a b → false = canR (gB xs) a b := fun h => (decide_eq_false h).symm
 have hF : 1 ≤ a ∧ a < 64 → 1 ≤ b ∧ b < 64 → (bNot .i64 a b = 0 ↔ sub a.toNat b.toNat = true) := fun ha hb => by
   have h1 := sub_mns ⟨a.toNat, by omega⟩ ⟨b.toNat, by omega⟩
   simp only at h1
   have h2 := bNot_nat (a := a.toNat) (b := b.toNat) (by omega) (by omega)
   rw [Int.toNat_of_nonneg (by omega), Int.toNat_of_nonneg (by omega)] at h2
   rw [h2, ← h1]; omega
 have hg : ∀ x : Nat, gB xs x = xs.getD x false := fun _ => rfl
 refine ⟨fun h => hno fun hc => by have := hc.1; omega, fun h1 => ⟨fun h => hno fun hc => by have := hc.1; omega, fun h2 => ⟨fun h => hno fun hc => by have := hc.2.1; omega, fun h3 => ⟨fun h => hno fun hc => by have := hc.2.1; omega, fun h4 => ?_⟩⟩⟩⟩
 have hF := hF ⟨by omega, by omega⟩ ⟨by omega, by omega⟩
 refine ⟨by unfold idxPre; omega, fun h => hno fun hc => ?_, fun h5 => ⟨by unfold idxPre; omega, fun h => hno fun hc => ?_, fun h6 => ⟨fun h => hno fun hc => h (hF.mpr hc.2.2.2.2.1), fun h7 => ⟨by omega, by omega, ?_, fun h => hno fun hc => h (by have := hc.2.2.2.2.2.1; omega), fun h8 => ?_⟩⟩⟩⟩
 · have := hc.2.2.1; rw [hg] at this; rw [this] at h; cases h
 · have := hc.2.2.2.1; rw [hg] at this; rw [this] at h; cases h
 · have := pc_le6 ⟨a.toNat, by omega⟩
   simp only at this
   simp only [inR]; omega
 · have hok : ok79 xs a b := ⟨hl, ⟨by omega, by omega⟩, ⟨by omega, by omega⟩, by rw [hg]; simpa using h5, by rw [hg]; simpa using h6, hF.mp (Classical.not_not.mp h7), by have := Classical.not_not.mp h8; omega⟩
   exact ⟨hL hok, ⟨0, ⟨by omega, fun x hx => absurd hx (Nat.not_lt_zero _)⟩, rfl⟩, fun _ hc => (decide_eq_true ⟨hok.ha, hok.hb, hok.hga, hok.hgb, hok.hs, hok.hp, hc⟩).symm⟩
def get79 (xs : List AV) (_ : List Ob) : Option (List Bool × Int × Int) :=
 match xs with
 | [.ar e _ ys, .agg [.int .i64 a, .int .i64 b]] => (castL e .bool ys).map fun ys => (ys, a, b)
 | _ => none
def e79 : Entry Try.prog gl := entryW 79 ⟨Try.f79, by kernel_rfl, by kernel_rfl, by kernel_rfl⟩ false get79 (fun x => x.1.length = 64) true (fun x => [.ar .bool 64 x.1, pr x.2.1 x.2.2]) (fun _ => []) (fun x => [.bool (canR (gB x.1) x.2.1 x.2.2)]) (fun _ => []) (fun x h => call79 _ _ _ h)
end Go.Am.Sh

/- Shells: the search for collapses, as it lies. -/
namespace Go.Am.Sh
open Go Go.Am Go.Proofs
abbrev Fs := List Bool
abbrev LP := List (Int × Int)
abbrev MF := List (List Bool × Bool)
abbrev RC := Bool × Fs × LP × MF
def mgF (m : MF) (xs : Fs) : Bool := (mGet FA m xs).getD false
def mpF (m : MF) (xs : Fs) : MF := mPut FA m xs true
def tk (xs : Fs) (a b : Nat) : Fs := (xs.set a false).set b false
def pA (i : Nat) : Nat := i / 6
def pB (i : Nat) : Nat := i / 6 ||| 2 ^ (i % 6)
/-- Candidate i is a pair that can be taken away. -/
def cnd (xs : Fs) (i : Nat) : Bool := gB xs (pA i) && !decide (pB i = pA i) && canR (gB xs) (pA i) (pB i)
def prI (a b : Nat) : Int × Int := ((a : Int), (b : Int))
/-- The first candidates, until one comes to an end. -/
def lpC (xs : Fs) (f : Fs → LP → MF → RC) (l : LP) (m : MF) : Nat → RC
 | 0 => (false, xs, l, m)
 | i + 1 => if (lpC xs f l m i).1 = true ∨ cnd xs i = false then lpC xs f l m i else
     if (f (tk xs (pA i) (pB i)) (l ++ [prI (pA i) (pB i)]) (lpC xs f l m i).2.2.2).1 = true then f (tk xs (pA i) (pB i)) (l ++ [prI (pA i) (pB i)]) (lpC xs f l m i).2.2.2
     else (false, xs, l, (f (tk xs (pA i) (pB i)) (l ++ [prI (pA i) (pB i)]) (lpC xs f l m i).2.2.2).2.2.2)
def nC : Nat := 384
/-- The search, with fewer than 2 n faces. -/
def flK (K : Nat) : Nat → Fs → LP → MF → RC
 | 0, xs, l, m => (false, xs, l, m)
 | n + 1, xs, l, m => if (trueN (gB xs) 64).length = 2 then (true, xs, l, m) else if mgF m xs = true then (false, xs, l, m) else
     if (lpC xs (flK K n) l m K).1 = true then lpC xs (flK K n) l m K else (false, xs, l, mpF (lpC xs (flK K n) l m K).2.2.2 xs)
def fl : Nat → Fs → LP → MF → RC := flK nC
theorem lpC_stop {xs : Fs} {f : Fs → LP → MF → RC} {l : LP} {m : MF} {k : Nat} (h : (lpC xs f l m k).1 = true) : ∀ j, lpC xs f l m (k + j) = lpC xs f l m k
 | 0 => rfl
 | j + 1 => by rw [show k + (j + 1) = k + j + 1 by omega, lpC, lpC_stop h j, if_pos (.inl h)]
theorem flK_list {K n : Nat} {xs : Fs} {l : LP} {m : MF} (h : (flK K n xs l m).1 = false) : (flK K n xs l m).2.1 = xs ∧ (flK K n xs l m).2.2.1 = l := by
 cases n with
 | zero => exact ⟨rfl, rfl⟩
 | succ n =>
   rw [flK] at h ⊢
   split
   · exact ⟨rfl, rfl⟩
   · rename_i h1; rw [if_neg h1] at h
     split
     · exact ⟨rfl, rfl⟩
     · rename_i h2; rw [if_neg h2] at h
       split
       · rename_i h3; rw [if_pos h3, h3] at h; cases h
       · exact ⟨rfl, rfl⟩
theorem fl_list {n : Nat} {xs : Fs} {l : LP} {m : MF} (h : (fl n xs l m).1 = false) : (fl n xs l m).2.1 = xs ∧ (fl n xs l m).2.2.1 = l := flK_list h
def clo75 (a b c d : Nat) : AV := .clo 75 [] [.ptr a 0 [], .ptr b 0 [], .ptr c 0 [], .ptr d 0 []]
def mF (m : MF) : Ob := .mo FA .bool m
def gC (v : Nat) (xs : Fs) (l : LP) (m : MF) : List Ob := [.bx (.ar .bool 64 xs), .bx (.mp 2), mF m, .bx (.own 4 v), .sc v 62 P2 l, .bx (clo75 0 1 3 5)]
def aC : List AV := [.ptr 0 0 [], .ptr 1 0 [], .ptr 3 0 [], .ptr 5 0 []]
structure pre75 (n : Nat) (xs : Fs) (l : LP) : Prop where
 hl : xs.length = 64
 hc : cN (gB xs) 64 < 2 * n
 hn : l.length + n ≤ 40
def GC (n : Nat) : Prop := ∀ (xs : Fs) (l : LP) (m : MF), pre75 n xs l → GCall Try.prog gl 75 false aC (gC 0 xs l m) [.bool (fl n xs l m).1] (gC 1 (fl n xs l m).2.1 (fl n xs l m).2.2.1 (fl n xs l m).2.2.2)
def unMF : Ob → Option MF
 | .mo k v m => (if h : k = FA ∧ v = .bool then some (by obtain ⟨rfl, rfl⟩ := h; exact m) else none)
 | _ => none
def unLP : Ob → Option LP
 | .sc _ _ e xs => castL e P2 xs
 | _ => none
abbrev G3 := Fs × LP × MF
def get75 (_ : List AV) (obs : List Ob) : Option G3 :=
 match unFa (obs.getD 0 .gone), unLP (obs.getD 4 .gone), unMF (obs.getD 2 .gone) with
 | some xs, some l, some m => some (xs, l, m)
 | _, _, _ => none
def e75S (n : Nat) (h : GC n) : Entry Try.prog gl := entryW 75 ⟨Try.f75, by kernel_rfl, by kernel_rfl, by kernel_rfl⟩ true get75 (fun x => pre75 n x.1 x.2.1) false (fun _ => aC) (fun x => gC 0 x.1 x.2.1 x.2.2) (fun x => [.bool (fl n x.1 x.2.1 x.2.2).1])
 (fun x => gC 1 (fl n x.1 x.2.1 x.2.2).2.1 (fl n x.1 x.2.1 x.2.2).2.2.1 (fl n x.1 x.2.1 x.2.2).2.2.2) (fun x hx => h _ _ x.2.2 hx)
noncomputable def C75 : RcC := rcC [0, 2, 3, 4] Try.f75
def rc75 : AV := .clo 0 [.ptr 1 0 [], .ptr 2 0 [], .ptr 4 0 [], .ptr 7 0 []] []
noncomputable def yC (v : Nat) (s : LoopState) (j : Option Code) (xs : Fs) (l : LP) (m : MF) (b : Bool) : List Ob := [.lp C75 s j rc75, .bx (.ar .bool 64 xs), .bx (.own 3 v), .sc v 62 P2 l, .bx (clo75 1 5 2 4), .bx (.mp 6), mF m, .bx (.bool b)]
def sC (b : Bool) : LoopState := if b then .done else .ready
def jC (b : Bool) : Option Code := if b then some .ret else none
def pC (b : Bool) {α : Type} (x y : α) : α := if b then x else y
structure preY (n : Nat) (xs : Fs) (l : LP) (a b : Nat) : Prop where
 hl : xs.length = 64
 hc : cN (gB xs) 64 < 2 * (n + 1)
 hn : l.length + (n + 1) ≤ 40
 hk : canR (gB xs) a b = true
def rY (n : Nat) (xs : Fs) (l : LP) (m : MF) (a b : Nat) : RC := fl n (tk xs a b) (l ++ [prI a b]) m
def YC (n : Nat) : Prop := ∀ (xs : Fs) (l : LP) (m : MF) (a b : Nat), preY n xs l a b → GYield Try.prog gl false [.yld 0, pr a b] (yC 0 .ready none xs l m false) [.bool (!(rY n xs l m a b).1)]
 (yC 1 (sC (rY n xs l m a b).1) (jC (rY n xs l m a b).1) (pC (rY n xs l m a b).1 (rY n xs l m a b).2.1 xs) (pC (rY n xs l m a b).1 (rY n xs l m a b).2.2.1 l) (rY n xs l m a b).2.2.2 (rY n xs l m a b).1)
noncomputable def Xyb (l : EL) (yl : List (YEntry Try.prog gl)) (ro : Option Nat) (m0 : Nat) (bs : List Nat) (dr : Nat → Option Nat) : Cy := { mkY Try.prog tt gl l yl ro m0 dr with bs := bs }
theorem Xyb_ok (l : EL) (yl : List (YEntry Try.prog gl)) (ro : Option Nat) (m0 : Nat) (bs : List Nat) (dr : Nat → Option Nat) : (Xyb l yl ro m0 bs dr).Ok := (mkY_ok tt_ok l yl ro m0 dr).bump bs
theorem cN_off {g g' : Nat → Bool} {a : Nat} (h : ∀ x, g' x = if x = a then false else g x) (hg : g a = true) : ∀ {m : Nat}, a < m → cN g' m + 1 = cN g m
 | 0, ha => absurd ha (Nat.not_lt_zero _)
 | m + 1, ha => by
   rw [cN, cN]
   by_cases e : a = m
   · subst e
     rw [cN_ext (f := g') (g := g) fun x hx => by rw [h, if_neg (by omega)], h, if_pos rfl, hg]
     simp
   · have ih := cN_off h hg (m := m) (by omega)
     have hm : g' m = g m := by rw [h, if_neg (fun e2 => e e2.symm)]
     rw [hm, ← ih]
     omega
theorem gB_set {xs : Fs} {a x : Nat} (ha : a < xs.length) : gB (xs.set a false) x = if x = a then false else gB xs x := by
 unfold gB
 rw [List.getD_eq_getElem?_getD, List.getElem?_set]
 by_cases e : a = x
 · subst e; simp [ha]
 · rw [if_neg e, if_neg (fun e2 => e e2.symm)]; try rfl
theorem tk_cN {xs : Fs} {a b : Nat} (hl : xs.length = 64) (h : canR (gB xs) a b = true) : cN (gB (tk xs a b)) 64 + 2 = cN (gB xs) 64 ∧ (a < 64 ∧ b < 64) ∧ (tk xs a b).length = 64 := by
 have hP : canP (gB xs) a b := of_decide_eq_true h
 obtain ⟨h1, h2, h3, h4, h5, h6, _⟩ := hP
 rw [Int.toNat_natCast] at h3 h5 h6
 rw [Int.toNat_natCast] at h4 h5 h6
 have hab : b ≠ a := fun e => by rw [e] at h6; omega
 have e1 := cN_off (fun x => gB_set (xs := xs) (a := a) (x := x) (by omega)) h3 (m := 64) (by omega)
 have e2 := cN_off (fun x => gB_set (xs := xs.set a false) (a := b) (x := x) (by rw [List.length_set]; omega)) (by rw [gB_set (by omega), if_neg hab]; exact h4) (m := 64) (by omega)
 refine ⟨by unfold tk; omega, ⟨by omega, by omega⟩, by unfold tk; rw [List.length_set, List.length_set]; exact hl⟩
noncomputable abbrev XyC (n : Nat) (h : GC n) : Cy := Xyb [e75S n h] [] (some 0) 8 [3] (drOf [(8, 1000000)])
theorem yC_of (n : Nat) (h : GC n) : YC n := by
 intro xs l m a b hp
 refine gyield_of (X := XyC n h) (Xyb_ok _ _ _ _ _ _) (C := C75) (j := none) (vs := [.ptr 1 0 [], .ptr 2 0 [], .ptr 4 0 [], .ptr 7 0 []]) (xs := [pr a b]) (view := false) (by kernel_rfl) (by kernel_rfl) (by kernel_rfl) (H := fun _ => none) 120 120 ?_
 refine of_eq (q := True ∧ True ∧ True ∧ True ∧ True ∧ ((True ∧ (True ∧ (True ∧ (True ∧ (idxPre (a : Int) (64 : Nat) ∧ (True ∧ (idxPre (b : Int) (64 : Nat) ∧ (True ∧ (True ∧ True ∧ True ∧ True ∧ True ∧ True ∧ ((a : Int) = (a : Int) ∧ (b : Int) = (b : Int) ∧ True) ∧ xs = xs ∧ (a : Int) = (a : Int) ∧ (b : Int) = (b : Int) ∧ True) ∧ (C75 = C75 ∧ LoopState.busy = LoopState.busy ∧ (none : Option Code) = none ∧ (True ∧ True ∧ True ∧ True ∧ True) ∧ True) ∧ (List.set xs a false).set b false = (List.set xs a false).set b false ∧ True ∧ l = l ∧ (True ∧ True ∧ True ∧ True ∧ True ∧ True) ∧ True ∧ m = m ∧ false = false ∧ ((a : Int) = (a : Int) ∧ (b : Int) = (b : Int) ∧ True) ∧ xs = xs ∧ True) ∧ True) ∧ True) ∧ True) ∧ True) ∧ (idxPre (a : Int) (64 : Nat) ∧ (True ∧ (True ∧ (idxPre (b : Int) (64 : Nat) ∧ (True ∧ (True ∧ True ∧ True ∧ True ∧ True ∧ True ∧ ((a : Int) = (a : Int) ∧ (b : Int) = (b : Int) ∧ True) ∧ xs = xs ∧ (a : Int) = (a : Int) ∧ (b : Int) = (b : Int) ∧ True) ∧ (C75 = C75 ∧ LoopState.busy = LoopState.busy ∧ (none : Option Code) = none ∧ (True ∧ True ∧ True ∧ True ∧ True) ∧ True) ∧ (List.set xs a false).set b false = (List.set xs a false).set b false ∧ True ∧ l = l ∧ (True ∧ True ∧ True ∧ True ∧ True ∧ True) ∧ True ∧ m = m ∧ false = false ∧ ((a : Int) = (a : Int) ∧ (b : Int) = (b : Int) ∧ True) ∧ xs = xs ∧ True) ∧ True) ∧ True) ∧ True) ∧ (True ∧ (True ∧ (idxPre (b : Int) (64 : Nat) ∧ (True ∧ (True ∧ True ∧ True ∧ True ∧ True ∧ True ∧ ((a : Int) = (a : Int) ∧ (b : Int) = (b : Int) ∧ True) ∧ xs = xs ∧ (a : Int) = (a : Int) ∧ (b : Int) = (b : Int) ∧ True) ∧ (C75 = C75 ∧ LoopState.busy = LoopState.busy ∧ (none : Option Code) = none ∧ (True ∧ True ∧ True ∧ True ∧ True) ∧ True) ∧ (List.set xs a false).set b false = (List.set xs a false).set b false ∧ True ∧ l = l ∧ (True ∧ True ∧ True ∧ True ∧ True ∧ True) ∧ True ∧ m = m ∧ false = false ∧ ((a : Int) = (a : Int) ∧ (b : Int) = (b : Int) ∧ True) ∧ xs = xs ∧ True) ∧ True) ∧ True) ∧ True) ∧ True) ∧ True) ∧ (idxPre (a : Int) (64 : Nat) ∧ (True ∧ (True ∧ (True ∧ (idxPre (b : Int) (64 : Nat) ∧ (True ∧ (True ∧ True ∧ True ∧ True ∧ True ∧ True ∧ ((a : Int) = (a : Int) ∧ (b : Int) = (b : Int) ∧ True) ∧ xs = xs ∧ (a : Int) = (a : Int) ∧ (b : Int) = (b : Int) ∧ True) ∧ (C75 = C75 ∧ LoopState.busy = LoopState.busy ∧ (none : Option Code) = none ∧ (True ∧ True ∧ True ∧ True ∧ True) ∧ True) ∧ (List.set xs a false).set b false = (List.set xs a false).set b false ∧ True ∧ l = l ∧ (True ∧ True ∧ True ∧ True ∧ True ∧ True) ∧ True ∧ m = m ∧ false = false ∧ ((a : Int) = (a : Int) ∧ (b : Int) = (b : Int) ∧ True) ∧ xs = xs ∧ True) ∧ True) ∧ True) ∧ True) ∧ (True ∧ (True ∧ (idxPre (b : Int) (64 : Nat) ∧ (True ∧ (True ∧ True ∧ True ∧ True ∧ True ∧ True ∧ ((a : Int) = (a : Int) ∧ (b : Int) = (b : Int) ∧ True) ∧ xs = xs ∧ (a : Int) = (a : Int) ∧ (b : Int) = (b : Int) ∧ True) ∧ (C75 = C75 ∧ LoopState.busy = LoopState.busy ∧ (none : Option Code) = none ∧ (True ∧ True ∧ True ∧ True ∧ True) ∧ True) ∧ (List.set xs a false).set b false = (List.set xs a false).set b false ∧ True ∧ l = l ∧ (True ∧ True ∧ True ∧ True ∧ True ∧ True) ∧ True ∧ m = m ∧ false = false ∧ ((a : Int) = (a : Int) ∧ (b : Int) = (b : Int) ∧ True) ∧ xs = xs ∧ True) ∧ True) ∧ True) ∧ True) ∧ True) ∧ (True ∧ (True ∧ (True ∧ (idxPre (b : Int) (64 : Nat) ∧ (True ∧ (True ∧ True ∧ True ∧ True ∧ True ∧ True ∧ ((a : Int) = (a : Int) ∧ (b : Int) = (b : Int) ∧ True) ∧ xs = xs ∧ (a : Int) = (a : Int) ∧ (b : Int) = (b : Int) ∧ True) ∧ (C75 = C75 ∧ LoopState.busy = LoopState.busy ∧ (none : Option Code) = none ∧ (True ∧ True ∧ True ∧ True ∧ True) ∧ True) ∧ (List.set xs a false).set b false = (List.set xs a false).set b false ∧ True ∧ l = l ∧ (True ∧ True ∧ True ∧ True ∧ True ∧ True) ∧ True ∧ m = m ∧ false = false ∧ ((a : Int) = (a : Int) ∧ (b : Int) = (b : Int) ∧ True) ∧ xs = xs ∧ True) ∧ True) ∧ True) ∧ True) ∧ True) ∧ True) ∧ True) ∧ (True ∧ (True ∧ (True ∧ (idxPre (a : Int) (64 : Nat) ∧ (True ∧ (idxPre (b : Int) (64 : Nat) ∧ (True ∧ (True ∧ True ∧ True ∧ True ∧ True ∧ True ∧ ((a : Int) = (a : Int) ∧ (b : Int) = (b : Int) ∧ True) ∧ xs = xs ∧ (a : Int) = (a : Int) ∧ (b : Int) = (b : Int) ∧ True) ∧ (C75 = C75 ∧ LoopState.busy = LoopState.busy ∧ (none : Option Code) = none ∧ (True ∧ True ∧ True ∧ True ∧ True) ∧ True) ∧ (List.set xs a false).set b false = (List.set xs a false).set b false ∧ True ∧ l = l ∧ (True ∧ True ∧ True ∧ True ∧ True ∧ True) ∧ True ∧ m = m ∧ false = false ∧ ((a : Int) = (a : Int) ∧ (b : Int) = (b : Int) ∧ True) ∧ xs = xs ∧ True) ∧ True) ∧ True) ∧ True) ∧ True) ∧ (idxPre (a : Int) (64 : Nat) ∧ (True ∧ (True ∧ (idxPre (b : Int) (64 : Nat) ∧ (True ∧ (True ∧ True ∧ True ∧ True ∧ True ∧ True ∧ ((a : Int) = (a : Int) ∧ (b : Int) = (b : Int) ∧ True) ∧ xs = xs ∧ (a : Int) = (a : Int) ∧ (b : Int) = (b : Int) ∧ True) ∧ (C75 = C75 ∧ LoopState.busy = LoopState.busy ∧ (none : Option Code) = none ∧ (True ∧ True ∧ True ∧ True ∧ True) ∧ True) ∧ (List.set xs a false).set b false = (List.set xs a false).set b false ∧ True ∧ l = l ∧ (True ∧ True ∧ True ∧ True ∧ True ∧ True) ∧ True ∧ m = m ∧ false = false ∧ ((a : Int) = (a : Int) ∧ (b : Int) = (b : Int) ∧ True) ∧ xs = xs ∧ True) ∧ True) ∧ True) ∧ True) ∧ (True ∧ (True ∧ (idxPre (b : Int) (64 : Nat) ∧ (True ∧ (True ∧ True ∧ True ∧ True ∧ True ∧ True ∧ ((a : Int) = (a : Int) ∧ (b : Int) = (b : Int) ∧ True) ∧ xs = xs ∧ (a : Int) = (a : Int) ∧ (b : Int) = (b : Int) ∧ True) ∧ (C75 = C75 ∧ LoopState.busy = LoopState.busy ∧ (none : Option Code) = none ∧ (True ∧ True ∧ True ∧ True ∧ True) ∧ True) ∧ (List.set xs a false).set b false = (List.set xs a false).set b false ∧ True ∧ l = l ∧ (True ∧ True ∧ True ∧ True ∧ True ∧ True) ∧ True ∧ m = m ∧ false = false ∧ ((a : Int) = (a : Int) ∧ (b : Int) = (b : Int) ∧ True) ∧ xs = xs ∧ True) ∧ True) ∧ True) ∧ True) ∧ True) ∧ True) ∧ (True ∧ (True ∧ (idxPre (a : Int) (64 : Nat) ∧ (True ∧ (idxPre (b : Int) (64 : Nat) ∧ (True ∧ (True ∧ True ∧ True ∧ True ∧ True ∧ True ∧ ((a : Int) = (a : Int) ∧ (b : Int) = (b : Int) ∧ True) ∧ xs = xs ∧ (a : Int) = (a : Int) ∧ (b : Int) = (b : Int) ∧ True) ∧ (C75 = C75 ∧ LoopState.busy = LoopState.busy ∧ (none : Option Code) = none ∧ (True ∧ True ∧ True ∧ True ∧ True) ∧ True) ∧ (List.set xs a false).set b false = (List.set xs a false).set b false ∧ True ∧ l = l ∧ (True ∧ True ∧ True ∧ True ∧ True ∧ True) ∧ True ∧ m = m ∧ false = false ∧ ((a : Int) = (a : Int) ∧ (b : Int) = (b : Int) ∧ True) ∧ xs = xs ∧ True) ∧ True) ∧ True) ∧ True) ∧ True) ∧ True) ∧ True) ∧ True) ∧ (True ∧ (True ∧ (True ∧ (True ∧ (idxPre (a : Int) (64 : Nat) ∧ (True ∧ (idxPre (b : Int) (64 : Nat) ∧ (True ∧ (True ∧ True ∧ True ∧ True ∧ True ∧ True ∧ ((a : Int) = (a : Int) ∧ (b : Int) = (b : Int) ∧ True) ∧ xs = xs ∧ (a : Int) = (a : Int) ∧ (b : Int) = (b : Int) ∧ True) ∧ (C75 = C75 ∧ LoopState.busy = LoopState.busy ∧ (none : Option Code) = none ∧ (True ∧ True ∧ True ∧ True ∧ True) ∧ True) ∧ (List.set xs a false).set b false = (List.set xs a false).set b false ∧ True ∧ l = l ∧ (True ∧ True ∧ True ∧ True ∧ True ∧ True) ∧ True ∧ m = m ∧ false = false ∧ ((a : Int) = (a : Int) ∧ (b : Int) = (b : Int) ∧ True) ∧ xs = xs ∧ True) ∧ True) ∧ True) ∧ True) ∧ True) ∧ (idxPre (a : Int) (64 : Nat) ∧ (True ∧ (True ∧ (idxPre (b : Int) (64 : Nat) ∧ (True ∧ (True ∧ True ∧ True ∧ True ∧ True ∧ True ∧ ((a : Int) = (a : Int) ∧ (b : Int) = (b : Int) ∧ True) ∧ xs = xs ∧ (a : Int) = (a : Int) ∧ (b : Int) = (b : Int) ∧ True) ∧ (C75 = C75 ∧ LoopState.busy = LoopState.busy ∧ (none : Option Code) = none ∧ (True ∧ True ∧ True ∧ True ∧ True) ∧ True) ∧ (List.set xs a false).set b false = (List.set xs a false).set b false ∧ True ∧ l = l ∧ (True ∧ True ∧ True ∧ True ∧ True ∧ True) ∧ True ∧ m = m ∧ false = false ∧ ((a : Int) = (a : Int) ∧ (b : Int) = (b : Int) ∧ True) ∧ xs = xs ∧ True) ∧ True) ∧ True) ∧ True) ∧ (True ∧ (True ∧ (idxPre (b : Int) (64 : Nat) ∧ (True ∧ (True ∧ True ∧ True ∧ True ∧ True ∧ True ∧ ((a : Int) = (a : Int) ∧ (b : Int) = (b : Int) ∧ True) ∧ xs = xs ∧ (a : Int) = (a : Int) ∧ (b : Int) = (b : Int) ∧ True) ∧ (C75 = C75 ∧ LoopState.busy = LoopState.busy ∧ (none : Option Code) = none ∧ (True ∧ True ∧ True ∧ True ∧ True) ∧ True) ∧ (List.set xs a false).set b false = (List.set xs a false).set b false ∧ True ∧ l = l ∧ (True ∧ True ∧ True ∧ True ∧ True ∧ True) ∧ True ∧ m = m ∧ false = false ∧ ((a : Int) = (a : Int) ∧ (b : Int) = (b : Int) ∧ True) ∧ xs = xs ∧ True) ∧ True) ∧ True) ∧ True) ∧ True) ∧ True) ∧ (True ∧ (True ∧ (idxPre (a : Int) (64 : Nat) ∧ (True ∧ (idxPre (b : Int) (64 : Nat) ∧ (True ∧ (True ∧ True ∧ True ∧ True ∧ True ∧ True ∧ ((a : Int) = (a : Int) ∧ (b : Int) = (b : Int) ∧ True) ∧ xs = xs ∧ (a : Int) = (a : Int) ∧ (b : Int) = (b : Int) ∧ True) ∧ (C75 = C75 ∧ LoopState.busy = LoopState.busy ∧ (none : Option Code) = none ∧ (True ∧ True ∧ True ∧ True ∧ True) ∧ True) ∧ (List.set xs a false).set b false = (List.set xs a false).set b false ∧ True ∧ l = l ∧ (True ∧ True ∧ True ∧ True ∧ True ∧ True) ∧ True ∧ m = m ∧ false = false ∧ ((a : Int) = (a : Int) ∧ (b : Int) = (b : Int) ∧ True) ∧ xs = xs ∧ True) ∧ True) ∧ True) ∧ True) ∧ True) ∧ True) ∧ True) ∧ (True ∧ (True ∧ (True ∧ (idxPre (a : Int) (64 : Nat) ∧ (True ∧ (idxPre (b : Int) (64 : Nat) ∧ (True ∧ (True ∧ True ∧ True ∧ True ∧ True ∧ True ∧ ((a : Int) = (a : Int) ∧ (b : Int) = (b : Int) ∧ True) ∧ xs = xs ∧ (a : Int) = (a : Int) ∧ (b : Int) = (b : Int) ∧ True) ∧ (C75 = C75 ∧ LoopState.busy = LoopState.busy ∧ (none : Option Code) = none ∧ (True ∧ True ∧ True ∧ True ∧ True) ∧ True) ∧ (List.set xs a false).set b false = (List.set xs a false).set b false ∧ True ∧ l = l ∧ (True ∧ True ∧ True ∧ True ∧ True ∧ True) ∧ True ∧ m = m ∧ false = false ∧ ((a : Int) = (a : Int) ∧ (b : Int) = (b : Int) ∧ True) ∧ xs = xs ∧ True) ∧ True) ∧ True) ∧ True) ∧ True) ∧ True) ∧ True) ∧ True) ∧ True) ∧ True ∧ True ∧ True ∧ True ∧ True ∧ True ∧ True ∧ sumPre (List.length l) [((a : Int), (b : Int))].length (nat_lit 16) ∧ True ∧ True ∧ ((pre75 n ((List.set xs a false).set b false) (l ++ [((a : Int), (b : Int))]) ∧ (True ∧ True ∧ True ∧ True ∧ True) ∧ (List.set xs a false).set b false = (List.set xs a false).set b false ∧ True ∧ m = m ∧ True ∧ l ++ [((a : Int), (b : Int))] = l ++ [((a : Int), (b : Int))] ∧ (True ∧ True ∧ True ∧ True ∧ True ∧ True) ∧ True) ∧ True ∧ True ∧ True ∧ True ∧ True ∧ True ∧ True) ∧ ((fl n ((List.set xs a false).set b false) (l ++ [((a : Int), (b : Int))]) m).fst = true → True ∧ (false = !(rY n xs l m a b).fst ∧ True) ∧ (C75 = C75 ∧ sC (rY n xs l m a b).fst = LoopState.done ∧ jC (rY n xs l m a b).fst = some Code.ret ∧ (True ∧ True ∧ True ∧ True ∧ True) ∧ True) ∧ (fl n ((List.set xs a false).set b false) (l ++ [((a : Int), (b : Int))]) m).snd.fst = pC (rY n xs l m a b).fst (rY n xs l m a b).snd.fst xs ∧ True ∧ (fl n ((List.set xs a false).set b false) (l ++ [((a : Int), (b : Int))]) m).snd.snd.fst = pC (rY n xs l m a b).fst (rY n xs l m a b).snd.snd.fst l ∧ (True ∧ True ∧ True ∧ True ∧ True ∧ True) ∧ True ∧ (fl n ((List.set xs a false).set b false) (l ++ [((a : Int), (b : Int))]) m).snd.snd.snd = (rY n xs l m a b).snd.snd.snd ∧ true = (rY n xs l m a b).fst ∧ True) ∧ ((fl n ((List.set xs a false).set b false) (l ++ [((a : Int), (b : Int))]) m).fst = false → True ∧ True ∧ True ∧ True ∧ True ∧ inR .i64 ((↑(List.length (fl n ((List.set xs a false).set b false) (l ++ [((a : Int), (b : Int))]) m).snd.snd.fst) : Int) - 1) ∧ ((0 : Int) ≤ (↑(List.length (fl n ((List.set xs a false).set b false) (l ++ [((a : Int), (b : Int))]) m).snd.snd.fst) : Int) - 1 ∧ (↑(List.length (fl n ((List.set xs a false).set b false) (l ++ [((a : Int), (b : Int))]) m).snd.snd.fst) : Int) - 1 ≤ (↑(List.length (fl n ((List.set xs a false).set b false) (l ++ [((a : Int), (b : Int))]) m).snd.snd.fst) : Int)) ∧ True ∧ (true = !(rY n xs l m a b).fst ∧ True) ∧ (C75 = C75 ∧ sC (rY n xs l m a b).fst = LoopState.ready ∧ jC (rY n xs l m a b).fst = none ∧ (True ∧ True ∧ True ∧ True ∧ True) ∧ True) ∧ xs = pC (rY n xs l m a b).fst (rY n xs l m a b).snd.fst xs ∧ True ∧ List.take ((↑(List.length (fl n ((List.set xs a false).set b false) (l ++ [((a : Int), (b : Int))]) m).snd.snd.fst) : Int) - 1).toNat (fl n ((List.set xs a false).set b false) (l ++ [((a : Int), (b : Int))]) m).snd.snd.fst = pC (rY n xs l m a b).fst (rY n xs l m a b).snd.snd.fst l ∧ (True ∧ True ∧ True ∧ True ∧ True ∧ True) ∧ True ∧ (fl n ((List.set xs a false).set b false) (l ++ [((a : Int), (b : Int))]) m).snd.snd.snd = (rY n xs l m a b).snd.snd.snd ∧ false = (rY n xs l m a b).fst ∧ True)) (by kernel_rfl) ?_
 simp only [zz]
 obtain ⟨hc, hab, hln⟩ := tk_cN hp.hl hp.hk
 have hn := hp.hn
 have hc2 := hp.hc
 have ha : idxPre (a : Int) 64 := by unfold idxPre; omega
 have hb : idxPre (b : Int) 64 := by unfold idxPre; omega
 have hpre : pre75 n (tk xs a b) (l ++ [prI a b]) := ⟨hln, by omega, by rw [List.length_append]; simp; omega⟩
 have hlist := fun h0 => fl_list (n := n) (xs := tk xs a b) (l := l ++ [prI a b]) (m := m) h0
 simp only [ha, hb, and_self, true_and]
 have key : ∀ r : RC, (r.1 = false → r.2.2.1 = l ++ [prI a b]) → (r.1 = true → false = !r.1 ∧ (sC r.1 = .done ∧ jC r.1 = some .ret) ∧ r.2.1 = pC r.1 r.2.1 xs ∧ r.2.2.1 = pC r.1 r.2.2.1 l ∧ r.2.2.2 = r.2.2.2 ∧ true = r.1) ∧
     (r.1 = false → inR .i64 ((r.2.2.1.length : Int) - 1) ∧ (0 ≤ (r.2.2.1.length : Int) - 1 ∧ (r.2.2.1.length : Int) - 1 ≤ (r.2.2.1.length : Int)) ∧ true = !r.1 ∧ (sC r.1 = .ready ∧ jC r.1 = none) ∧ xs = pC r.1 r.2.1 xs ∧ r.2.2.1.take ((r.2.2.1.length : Int) - 1).toNat = pC r.1 r.2.2.1 l ∧ r.2.2.2 = r.2.2.2 ∧ false = r.1) := fun r hr => by
   constructor
   · intro h0
     rw [h0]; simp [sC, jC, pC]
   · intro h0
     rw [h0, hr h0]
     refine ⟨by simp only [inR]; simp; omega, by simp; omega, ?_⟩
     simp [sC, jC, pC]
 exact ⟨by unfold sumPre; simp; omega, hpre, key _ fun h0 => (hlist h0).2⟩
end Go.Am.Sh

/- Shells: the pairs, one after the other. -/
namespace Go.Am.Sh
open Go Go.Am Go.Proofs
def getY75 (xs : List AV) (obs : List Ob) : Option (Int × Int × G3) :=
 match xs with
 | [_, .agg [.int .i64 a, .int .i64 b]] => (match unFa (obs.getD 1 .gone), unLP (obs.getD 3 .gone), unMF (obs.getD 6 .gone) with
   | some ys, some l, some m => some (a, b, ys, l, m)
   | _, _, _ => none)
 | _ => none
structure okY (n : Nat) (x : Int × Int × G3) : Prop where
 h : preY n x.2.2.1 x.2.2.2.1 x.1.toNat x.2.1.toNat
 a : 0 ≤ x.1
 b : 0 ≤ x.2.1
noncomputable def EYC (n : Nat) (h : YC n) : YEntry Try.prog gl := yentryW getY75 (okY n) false (fun x => [.yld 0, pr x.1 x.2.1]) (fun x => yC 0 .ready none x.2.2.1 x.2.2.2.1 x.2.2.2.2 false)
 (fun x => [.bool (!(rY n x.2.2.1 x.2.2.2.1 x.2.2.2.2 x.1.toNat x.2.1.toNat).1)])
 (fun x => yC 1 (sC (rY n x.2.2.1 x.2.2.2.1 x.2.2.2.2 x.1.toNat x.2.1.toNat).1) (jC (rY n x.2.2.1 x.2.2.2.1 x.2.2.2.2 x.1.toNat x.2.1.toNat).1) (pC (rY n x.2.2.1 x.2.2.2.1 x.2.2.2.2 x.1.toNat x.2.1.toNat).1 (rY n x.2.2.1 x.2.2.2.1 x.2.2.2.2 x.1.toNat x.2.1.toNat).2.1 x.2.2.1)
   (pC (rY n x.2.2.1 x.2.2.2.1 x.2.2.2.2 x.1.toNat x.2.1.toNat).1 (rY n x.2.2.1 x.2.2.2.1 x.2.2.2.2 x.1.toNat x.2.1.toNat).2.2.1 x.2.2.2.1) (rY n x.2.2.1 x.2.2.2.1 x.2.2.2.2 x.1.toNat x.2.1.toNat).2.2.2 (rY n x.2.2.1 x.2.2.2.1 x.2.2.2.2 x.1.toNat x.2.1.toNat).1) (by
   rintro ⟨a, b, xs, l, m⟩ ⟨h1, h2, h3⟩
   have := h xs l m a.toNat b.toNat h1
   simp only at h2 h3
   rw [Int.toNat_of_nonneg h2, Int.toNat_of_nonneg h3] at this
   exact this)
noncomputable abbrev X88 (n : Nat) (h : YC n) : Cy := Xyb [e79] [EYC n h] none 9 [3] (fun _ => none)
noncomputable def L88_0 : Code := lp (bodyOf Try.f88) 0
noncomputable def L88_2 : Code := lp (bodyOf Try.f88) 2
noncomputable def ob88 (w : Nat) (xs : Fs) (l : LP) (m : MF) : List Ob := yC w .ready none xs l m false ++ [.bx (.ar .bool 64 xs)]
def mI (n : Nat) (xs : Fs) (l : LP) (m : MF) (i : Nat) : MF := (lpC xs (fl n) l m i).2.2.2
noncomputable def si88 (w n : Nat) (xs : Fs) (l : LP) (m : MF) (s v : Nat) : St := ⟨.yld 0 :: .ptr 8 0 [] :: .dead :: .int .i64 s :: .bool (gB xs s) :: dd 2 ++ .ar .bool 64 xs :: .int .i64 s :: dd 3 ++ .int .i64 v :: dd 30, ob88 w xs l (mI n xs l m (6 * s + v))⟩
noncomputable def so88 (w n : Nat) (xs : Fs) (l : LP) (m : MF) (s : Nat) : St := ⟨.yld 0 :: .ptr 8 0 [] :: dd 5 ++ .ar .bool 64 xs :: .int .i64 s :: dd 34, ob88 w xs l (mI n xs l m (6 * s))⟩
def ii88 (n : Nat) (xs : Fs) (l : LP) (m : MF) (s v : Nat) : Prop := v ≤ 6 ∧ (lpC xs (fl n) l m (6 * s + v)).1 = false
def io88 (n : Nat) (xs : Fs) (l : LP) (m : MF) (s : Nat) : Prop := s ≤ 64 ∧ (lpC xs (fl n) l m (6 * s)).1 = false
noncomputable def fi88 (n : Nat) (xs : Fs) (l : LP) (m : MF) (s : Nat) : List Fam := [⟨Nat, ii88 n xs l m s, si88 0 n xs l m s, fun v => 6 - v, fun _ => nH⟩, ⟨Nat, ii88 n xs l m s, si88 1 n xs l m s, fun v => 6 - v, fun _ => nH⟩]
noncomputable def xi88 (n : Nat) (xs : Fs) (l : LP) (m : MF) (s : Nat) : List (List Nat × Ex) := [([0, 1, 7, 8], ⟨2, Unit, fun _ => (lpC xs (fl n) l m (6 * (s + 1))).1 = false, fun _ => ⟨.yld 0 :: .ptr 8 0 [] :: dd 5 ++ .ar .bool 64 xs :: .int .i64 s :: dd 34, ob88 0 xs l (mI n xs l m (6 * (s + 1)))⟩⟩), ([0, 1, 7, 8], ⟨2, Unit, fun _ => (lpC xs (fl n) l m (6 * (s + 1))).1 = false, fun _ => ⟨.yld 0 :: .ptr 8 0 [] :: dd 5 ++ .ar .bool 64 xs :: .int .i64 s :: dd 34, ob88 1 xs l (mI n xs l m (6 * (s + 1)))⟩⟩)]
noncomputable def hi88 (n : Nat) (xs : Fs) (l : LP) (m : MF) (s : Nat) : Hint := ⟨chks 9 [0, 1, 3, 4, 7, 8, 12] (fi88 n xs l m s), (xi88 n xs l m s).map (·.2)⟩
noncomputable def fo88 (n : Nat) (xs : Fs) (l : LP) (m : MF) : List Fam := [⟨Nat, io88 n xs l m, so88 0 n xs l m, fun s => 64 - s, fun s _ => some (hi88 n xs l m s)⟩, ⟨Nat, io88 n xs l m, so88 1 n xs l m, fun s => 64 - s, fun s _ => some (hi88 n xs l m s)⟩]
noncomputable def xo88 (n : Nat) (xs : Fs) (l : LP) (m : MF) : List (List Nat × Ex) := [([], ⟨0, Unit, fun _ => (lpC xs (fl n) l m nC).1 = false, fun _ => ⟨dd 43, ob88 0 xs l (mI n xs l m nC)⟩⟩), ([], ⟨0, Unit, fun _ => (lpC xs (fl n) l m nC).1 = false, fun _ => ⟨dd 43, ob88 1 xs l (mI n xs l m nC)⟩⟩)]
noncomputable def ho88 (n : Nat) (xs : Fs) (l : LP) (m : MF) : Hint := ⟨chks 9 [0, 1, 7, 8] (fo88 n xs l m), (xo88 n xs l m).map (·.2)⟩
/-- What is left behind the last candidate. -/
noncomputable def obZ (xs : Fs) (l : LP) (r : RC) : List Ob := yC 1 (sC r.1) (jC r.1) (pC r.1 r.2.1 xs) (pC r.1 r.2.2.1 l) r.2.2.2 r.1 ++ [.bx (.ar .bool 64 xs)]
noncomputable def R88 (n : Nat) (h : YC n) (xs : Fs) (l : LP) (m : MF) : Exit → St → Prop := RetR (X88 n h) false false [] [] (obZ xs l (lpC xs (fl n) l m nC))
structure pre88 (n : Nat) (xs : Fs) (l : LP) : Prop where
 hl : xs.length = 64
 hc : cN (gB xs) 64 < 2 * (n + 1)
 hn : l.length + (n + 1) ≤ 40
theorem lp_step {n : Nat} {xs : Fs} {l : LP} {m : MF} {s v : Nat} (hv : v < 6) (h0 : (lpC xs (fl n) l m (6 * s + v)).1 = false) : lpC xs (fl n) l m (6 * s + (v + 1)) = if gB xs s = true ∧ ¬ s ||| 2 ^ v = s ∧ canR (gB xs) s (s ||| 2 ^ v : Nat) = true then
   if (rY n xs l (mI n xs l m (6 * s + v)) s (s ||| 2 ^ v)).1 = true then rY n xs l (mI n xs l m (6 * s + v)) s (s ||| 2 ^ v) else (false, xs, l, (rY n xs l (mI n xs l m (6 * s + v)) s (s ||| 2 ^ v)).2.2.2) else lpC xs (fl n) l m (6 * s + v) := by
 have e1 : pA (6 * s + v) = s := by unfold pA; omega
 have e2 : pB (6 * s + v) = s ||| 2 ^ v := by unfold pB; rw [show (6 * s + v) / 6 = s by omega, show (6 * s + v) % 6 = v by omega]
 have ec : cnd xs (6 * s + v) = true ↔ gB xs s = true ∧ ¬ s ||| 2 ^ v = s ∧ canR (gB xs) s (s ||| 2 ^ v : Nat) = true := by
   unfold cnd
   rw [e1, e2, Bool.and_eq_true, Bool.and_eq_true, Bool.not_eq_true', decide_eq_false_iff_not, and_assoc]
 rw [← Nat.add_assoc, lpC, h0]
 by_cases hc : gB xs s = true ∧ ¬ s ||| 2 ^ v = s ∧ canR (gB xs) s (s ||| 2 ^ v : Nat) = true
 · rw [if_pos hc, if_neg (by rw [ec.mpr hc]; simp), e1, e2]; try rfl
 · rw [if_neg hc, if_pos (.inr (by cases hq : cnd xs (6 * s + v); rfl; exact absurd (ec.mp hq) hc))]
theorem lp_end {n : Nat} {xs : Fs} {l : LP} {m : MF} {s v : Nat} (hs : s < 64) (hv : v < 6) (h : (lpC xs (fl n) l m (6 * s + (v + 1))).1 = true) : lpC xs (fl n) l m nC = lpC xs (fl n) l m (6 * s + (v + 1)) := by
 have := lpC_stop h (384 - (6 * s + (v + 1)))
 rw [show 6 * s + (v + 1) + (384 - (6 * s + (v + 1))) = 384 by omega] at this
 exact this
theorem loop88i (n : Nat) (h : YC n) (xs : Fs) (l : LP) (m : MF) (s : Nat) (hp : pre88 n xs l) (hs : s < 64) : LoopOK (X88 n h) L88_2 (hi88 n xs l m s) (bodyR 9 (xo88 n xs l m) (R88 n h xs l m)) := by
 refine loop_fams (Xyb_ok _ _ _ _ _ _) [0, 1, 3, 4, 7, 8, 12] (fi88 n xs l m s) (xi88 n xs l m s) 150 ⟨fun (v : Nat) hv => ?_, fun (v : Nat) hv => ?_, trivial⟩
 · refine of_eq (q := True ∧ ((v : Int) < 6 → True ∧ True ∧ True ∧ True ∧ True ∧ inR .u64 (v : Int) ∧ (((0 : Int) ≤ (v : Int) ∧ (v : Int) < bitsOf .i64) ∧ (-9223372036854775808 : Int) ≤ 1 * 2 ^ v ∧ (1 : Int) * 2 ^ v ≤ 9223372036854775807) ∧ True ∧ True ∧ True ∧ True ∧ True ∧ True ∧ (gB xs s = true → True ∧ True ∧ True ∧ True ∧ True ∧ True ∧ True ∧ (¬((s : Int), bOr .i64 (s : Int) ((1 : Int) * 2 ^ v)) = ((s : Int), (s : Int)) → True ∧ True ∧ ((List.length xs = 64 ∧ (xs = xs ∧ ((s : Int) = (s : Int) ∧ bOr .i64 (s : Int) ((1 : Int) * 2 ^ v) = bOr .i64 (s : Int) ((1 : Int) * 2 ^ v) ∧ True) ∧ True) ∧ True) ∧ True) ∧ True ∧ True ∧ (canR (gB xs) (s : Int) (bOr .i64 (s : Int) ((1 : Int) * 2 ^ v)) = true → True ∧ True ∧ ((okY n ((s : Int), bOr .i64 (s : Int) ((1 : Int) * 2 ^ v), xs, l, mI n xs l m ((6 : Nat) * s + v)) ∧ (True ∧ ((s : Int) = (s : Int) ∧ bOr .i64 (s : Int) ((1 : Int) * 2 ^ v) = bOr .i64 (s : Int) ((1 : Int) * 2 ^ v) ∧ True) ∧ True) ∧ (C75 = C75 ∧ LoopState.ready = LoopState.ready ∧ (none : Option Code) = none ∧ (True ∧ True ∧ True ∧ True ∧ True) ∧ True) ∧ xs = xs ∧ True ∧ l = l ∧ (True ∧ True ∧ True ∧ True ∧ True ∧ True) ∧ True ∧ mI n xs l m ((6 : Nat) * s + v) = mI n xs l m ((6 : Nat) * s + v) ∧ false = false ∧ True) ∧ True ∧ True ∧ True ∧ True ∧ True ∧ True ∧ True ∧ True ∧ True) ∧ True ∧ True ∧ ((!!(rY n xs l (mI n xs l m ((6 : Nat) * s + v)) s (bOr .i64 (s : Int) ((1 : Int) * 2 ^ v)).toNat).fst) = true → True ∧ True ∧ (C75 = C75 ∧ sC (lpC xs (fl n) l m nC).fst = sC (rY n xs l (mI n xs l m ((6 : Nat) * s + v)) s (bOr .i64 (s : Int) ((1 : Int) * 2 ^ v)).toNat).fst ∧ jC (lpC xs (fl n) l m nC).fst = jC (rY n xs l (mI n xs l m ((6 : Nat) * s + v)) s (bOr .i64 (s : Int) ((1 : Int) * 2 ^ v)).toNat).fst ∧ (True ∧ True ∧ True ∧ True ∧ True) ∧ True) ∧ pC (rY n xs l (mI n xs l m ((6 : Nat) * s + v)) s (bOr .i64 (s : Int) ((1 : Int) * 2 ^ v)).toNat).fst (rY n xs l (mI n xs l m ((6 : Nat) * s + v)) s (bOr .i64 (s : Int) ((1 : Int) * 2 ^ v)).toNat).snd.fst xs = pC (lpC xs (fl n) l m nC).fst (lpC xs (fl n) l m nC).snd.fst xs ∧ True ∧ pC (rY n xs l (mI n xs l m ((6 : Nat) * s + v)) s (bOr .i64 (s : Int) ((1 : Int) * 2 ^ v)).toNat).fst (rY n xs l (mI n xs l m ((6 : Nat) * s + v)) s (bOr .i64 (s : Int) ((1 : Int) * 2 ^ v)).toNat).snd.snd.fst l = pC (lpC xs (fl n) l m nC).fst (lpC xs (fl n) l m nC).snd.snd.fst l ∧ (True ∧ True ∧ True ∧ True ∧ True ∧ True) ∧ True ∧ (rY n xs l (mI n xs l m ((6 : Nat) * s + v)) s (bOr .i64 (s : Int) ((1 : Int) * 2 ^ v)).toNat).snd.snd.snd = (lpC xs (fl n) l m nC).snd.snd.snd ∧ (rY n xs l (mI n xs l m ((6 : Nat) * s + v)) s (bOr .i64 (s : Int) ((1 : Int) * 2 ^ v)).toNat).fst = (lpC xs (fl n) l m nC).fst ∧ xs = xs ∧ True) ∧ ((!!(rY n xs l (mI n xs l m ((6 : Nat) * s + v)) s (bOr .i64 (s : Int) ((1 : Int) * 2 ^ v)).toNat).fst) = false → inR .i64 ((v : Int) + 1) ∧ True ∧ ((∃ (y : Nat), (ii88 n xs l m s y ∧ (6 : Nat) - y < 6 - v) ∧ (True ∧ True ∧ (s : Int) = (s : Int) ∧ gB xs s = gB xs s ∧ xs = xs ∧ (s : Int) = (s : Int) ∧ (v : Int) + 1 = (y : Int) ∧ True) ∧ (C75 = C75 ∧ LoopState.ready = sC (rY n xs l (mI n xs l m ((6 : Nat) * s + v)) s (bOr .i64 (s : Int) ((1 : Int) * 2 ^ v)).toNat).fst ∧ (none : Option Code) = jC (rY n xs l (mI n xs l m ((6 : Nat) * s + v)) s (bOr .i64 (s : Int) ((1 : Int) * 2 ^ v)).toNat).fst ∧ (True ∧ True ∧ True ∧ True ∧ True) ∧ True) ∧ pC (rY n xs l (mI n xs l m ((6 : Nat) * s + v)) s (bOr .i64 (s : Int) ((1 : Int) * 2 ^ v)).toNat).fst (rY n xs l (mI n xs l m ((6 : Nat) * s + v)) s (bOr .i64 (s : Int) ((1 : Int) * 2 ^ v)).toNat).snd.fst xs = xs ∧ False ∧ False ∧ (True ∧ True ∧ True ∧ True ∧ True ∧ True) ∧ True ∧ (rY n xs l (mI n xs l m ((6 : Nat) * s + v)) s (bOr .i64 (s : Int) ((1 : Int) * 2 ^ v)).toNat).snd.snd.snd = mI n xs l m ((6 : Nat) * s + y) ∧ (rY n xs l (mI n xs l m ((6 : Nat) * s + v)) s (bOr .i64 (s : Int) ((1 : Int) * 2 ^ v)).toNat).fst = false ∧ xs = xs ∧ True) ∨ ∃ (y : Nat), (ii88 n xs l m s y ∧ (6 : Nat) - y < 6 - v) ∧ (True ∧ True ∧ (s : Int) = (s : Int) ∧ gB xs s = gB xs s ∧ xs = xs ∧ (s : Int) = (s : Int) ∧ (v : Int) + 1 = (y : Int) ∧ True) ∧ (C75 = C75 ∧ LoopState.ready = sC (rY n xs l (mI n xs l m ((6 : Nat) * s + v)) s (bOr .i64 (s : Int) ((1 : Int) * 2 ^ v)).toNat).fst ∧ (none : Option Code) = jC (rY n xs l (mI n xs l m ((6 : Nat) * s + v)) s (bOr .i64 (s : Int) ((1 : Int) * 2 ^ v)).toNat).fst ∧ (True ∧ True ∧ True ∧ True ∧ True) ∧ True) ∧ pC (rY n xs l (mI n xs l m ((6 : Nat) * s + v)) s (bOr .i64 (s : Int) ((1 : Int) * 2 ^ v)).toNat).fst (rY n xs l (mI n xs l m ((6 : Nat) * s + v)) s (bOr .i64 (s : Int) ((1 : Int) * 2 ^ v)).toNat).snd.fst xs = xs ∧ True ∧ pC (rY n xs l (mI n xs l m ((6 : Nat) * s + v)) s (bOr .i64 (s : Int) ((1 : Int) * 2 ^ v)).toNat).fst (rY n xs l (mI n xs l m ((6 : Nat) * s + v)) s (bOr .i64 (s : Int) ((1 : Int) * 2 ^ v)).toNat).snd.snd.fst l = l ∧ (True ∧ True ∧ True ∧ True ∧ True ∧ True) ∧ True ∧ (rY n xs l (mI n xs l m ((6 : Nat) * s + v)) s (bOr .i64 (s : Int) ((1 : Int) * 2 ^ v)).toNat).snd.snd.snd = mI n xs l m ((6 : Nat) * s + y) ∧ (rY n xs l (mI n xs l m ((6 : Nat) * s + v)) s (bOr .i64 (s : Int) ((1 : Int) * 2 ^ v)).toNat).fst = false ∧ xs = xs ∧ True))) ∧ (canR (gB xs) (s : Int) (bOr .i64 (s : Int) ((1 : Int) * 2 ^ v)) = false → True ∧ inR .i64 ((v : Int) + 1) ∧ True ∧ ((∃ (y : Nat), (ii88 n xs l m s y ∧ (6 : Nat) - y < 6 - v) ∧ (True ∧ True ∧ (s : Int) = (s : Int) ∧ gB xs s = gB xs s ∧ xs = xs ∧ (s : Int) = (s : Int) ∧ (v : Int) + 1 = (y : Int) ∧ True) ∧ (C75 = C75 ∧ LoopState.ready = LoopState.ready ∧ (none : Option Code) = none ∧ (True ∧ True ∧ True ∧ True ∧ True) ∧ True) ∧ xs = xs ∧ True ∧ l = l ∧ (True ∧ True ∧ True ∧ True ∧ True ∧ True) ∧ True ∧ mI n xs l m ((6 : Nat) * s + v) = mI n xs l m ((6 : Nat) * s + y) ∧ false = false ∧ xs = xs ∧ True) ∨ ∃ (y : Nat), (ii88 n xs l m s y ∧ (6 : Nat) - y < 6 - v) ∧ (True ∧ True ∧ (s : Int) = (s : Int) ∧ gB xs s = gB xs s ∧ xs = xs ∧ (s : Int) = (s : Int) ∧ (v : Int) + 1 = (y : Int) ∧ True) ∧ (C75 = C75 ∧ LoopState.ready = LoopState.ready ∧ (none : Option Code) = none ∧ (True ∧ True ∧ True ∧ True ∧ True) ∧ True) ∧ xs = xs ∧ False ∧ False ∧ (True ∧ True ∧ True ∧ True ∧ True ∧ True) ∧ True ∧ mI n xs l m ((6 : Nat) * s + v) = mI n xs l m ((6 : Nat) * s + y) ∧ false = false ∧ xs = xs ∧ True))) ∧ (¬¬((s : Int), bOr .i64 (s : Int) ((1 : Int) * 2 ^ v)) = ((s : Int), (s : Int)) → True ∧ True ∧ True ∧ inR .i64 ((v : Int) + 1) ∧ True ∧ ((∃ (y : Nat), (ii88 n xs l m s y ∧ (6 : Nat) - y < 6 - v) ∧ (True ∧ True ∧ (s : Int) = (s : Int) ∧ gB xs s = gB xs s ∧ xs = xs ∧ (s : Int) = (s : Int) ∧ (v : Int) + 1 = (y : Int) ∧ True) ∧ (C75 = C75 ∧ LoopState.ready = LoopState.ready ∧ (none : Option Code) = none ∧ (True ∧ True ∧ True ∧ True ∧ True) ∧ True) ∧ xs = xs ∧ True ∧ l = l ∧ (True ∧ True ∧ True ∧ True ∧ True ∧ True) ∧ True ∧ mI n xs l m ((6 : Nat) * s + v) = mI n xs l m ((6 : Nat) * s + y) ∧ false = false ∧ xs = xs ∧ True) ∨ ∃ (y : Nat), (ii88 n xs l m s y ∧ (6 : Nat) - y < 6 - v) ∧ (True ∧ True ∧ (s : Int) = (s : Int) ∧ gB xs s = gB xs s ∧ xs = xs ∧ (s : Int) = (s : Int) ∧ (v : Int) + 1 = (y : Int) ∧ True) ∧ (C75 = C75 ∧ LoopState.ready = LoopState.ready ∧ (none : Option Code) = none ∧ (True ∧ True ∧ True ∧ True ∧ True) ∧ True) ∧ xs = xs ∧ False ∧ False ∧ (True ∧ True ∧ True ∧ True ∧ True ∧ True) ∧ True ∧ mI n xs l m ((6 : Nat) * s + v) = mI n xs l m ((6 : Nat) * s + y) ∧ false = false ∧ xs = xs ∧ True))) ∧ (gB xs s = false → True ∧ True ∧ True ∧ True ∧ True ∧ inR .i64 ((v : Int) + 1) ∧ True ∧ ((∃ (y : Nat), (ii88 n xs l m s y ∧ (6 : Nat) - y < 6 - v) ∧ (True ∧ True ∧ (s : Int) = (s : Int) ∧ gB xs s = gB xs s ∧ xs = xs ∧ (s : Int) = (s : Int) ∧ (v : Int) + 1 = (y : Int) ∧ True) ∧ (C75 = C75 ∧ LoopState.ready = LoopState.ready ∧ (none : Option Code) = none ∧ (True ∧ True ∧ True ∧ True ∧ True) ∧ True) ∧ xs = xs ∧ True ∧ l = l ∧ (True ∧ True ∧ True ∧ True ∧ True ∧ True) ∧ True ∧ mI n xs l m ((6 : Nat) * s + v) = mI n xs l m ((6 : Nat) * s + y) ∧ false = false ∧ xs = xs ∧ True) ∨ ∃ (y : Nat), (ii88 n xs l m s y ∧ (6 : Nat) - y < 6 - v) ∧ (True ∧ True ∧ (s : Int) = (s : Int) ∧ gB xs s = gB xs s ∧ xs = xs ∧ (s : Int) = (s : Int) ∧ (v : Int) + 1 = (y : Int) ∧ True) ∧ (C75 = C75 ∧ LoopState.ready = LoopState.ready ∧ (none : Option Code) = none ∧ (True ∧ True ∧ True ∧ True ∧ True) ∧ True) ∧ xs = xs ∧ False ∧ False ∧ (True ∧ True ∧ True ∧ True ∧ True ∧ True) ∧ True ∧ mI n xs l m ((6 : Nat) * s + v) = mI n xs l m ((6 : Nat) * s + y) ∧ false = false ∧ xs = xs ∧ True))) ∧ (¬(v : Int) < 6 → (∃ (y : Unit), (lpC xs (fl n) l m ((6 : Nat) * (s + 1))).fst = false ∧ (True ∧ True ∧ xs = xs ∧ (s : Int) = (s : Int) ∧ True) ∧ (C75 = C75 ∧ LoopState.ready = LoopState.ready ∧ (none : Option Code) = none ∧ (True ∧ True ∧ True ∧ True ∧ True) ∧ True) ∧ xs = xs ∧ True ∧ l = l ∧ (True ∧ True ∧ True ∧ True ∧ True ∧ True) ∧ True ∧ mI n xs l m ((6 : Nat) * s + v) = mI n xs l m ((6 : Nat) * (s + 1)) ∧ false = false ∧ xs = xs ∧ True) ∨ ∃ (y : Unit), (lpC xs (fl n) l m ((6 : Nat) * (s + 1))).fst = false ∧ (True ∧ True ∧ xs = xs ∧ (s : Int) = (s : Int) ∧ True) ∧ (C75 = C75 ∧ LoopState.ready = LoopState.ready ∧ (none : Option Code) = none ∧ (True ∧ True ∧ True ∧ True ∧ True) ∧ True) ∧ xs = xs ∧ False ∧ False ∧ (True ∧ True ∧ True ∧ True ∧ True ∧ True) ∧ True ∧ mI n xs l m ((6 : Nat) * s + v) = mI n xs l m ((6 : Nat) * (s + 1)) ∧ false = false ∧ xs = xs ∧ True)) (by kernel_rfl) ?_
   simp only [zz]
   obtain ⟨v1, v2⟩ := hv
   refine ⟨fun hv6 => ?_, fun hv6 => by rw [show v = 6 by omega] at v2 ⊢; exact ⟨v2, rfl⟩⟩
   have hv6 : v < 6 := by omega
   have hb := or_pow hs hv6
   have hst := lp_step hv6 v2
   have hend := lp_end (n := n) (xs := xs) (l := l) (m := m) hs hv6
   have h2 : 2 ^ v < 64 := Nat.pow_lt_pow_right (a := 2) (by decide) hv6
   have e : (2 ^ v : Int) = ((2 ^ v : Nat) : Int) := by rw [Int.natCast_pow]; try rfl
   have eb : ∀ P : Nat, P < 64 → -9223372036854775808 ≤ 1 * (P : Int) ∧ 1 * (P : Int) ≤ 9223372036854775807 := fun P h => by omega
   have hsh : (0 ≤ (v : Int) ∧ (v : Int) < bitsOf .i64) ∧ -9223372036854775808 ≤ 1 * (2 ^ v : Int) ∧ 1 * (2 ^ v : Int) ≤ 9223372036854775807 := ⟨⟨by omega, by simp only [bitsOf]; omega⟩, by rw [e]; exact eb _ h2⟩
   simp only [hb.1, Int.toNat_natCast]
   have hskip : ¬ (gB xs s = true ∧ ¬ s ||| 2 ^ v = s ∧ canR (gB xs) s (s ||| 2 ^ v : Nat) = true) → inR .i64 ((v : Int) + 1) ∧ ∃ y : Nat, (ii88 n xs l m s y ∧ 6 - y < 6 - v) ∧ (v : Int) + 1 = (y : Int) ∧ mI n xs l m (6 * s + v) = mI n xs l m (6 * s + y) := fun hc => by
     rw [if_neg hc] at hst
     exact ⟨by simp only [inR]; omega, v + 1, ⟨⟨by omega, by rw [hst]; exact v2⟩, by omega⟩, by omega, by unfold mI; rw [hst]⟩
   refine ⟨by simp only [inR]; omega, hsh, fun hg => ⟨fun hne => ⟨hp.hl, fun hcan => ?_, fun hcan => hskip fun hc => by rw [hc.2.2] at hcan; cases hcan⟩, fun he => hskip fun hc => he fun h3 => hc.2.1 (by injection h3 with _ h3; omega)⟩, fun hg => hskip fun hc => by rw [hc.1] at hg; cases hg⟩
   have hc : gB xs s = true ∧ ¬ s ||| 2 ^ v = s ∧ canR (gB xs) s (s ||| 2 ^ v : Nat) = true := ⟨hg, fun h3 => hne (by rw [h3]), hcan⟩
   rw [if_pos hc] at hst
   refine ⟨⟨⟨hp.hl, hp.hc, hp.hn, hcan⟩, Int.natCast_nonneg _, Int.natCast_nonneg _⟩, fun hr => ?_, fun hr => ?_⟩
   · have hr : (rY n xs l (mI n xs l m (6 * s + v)) s (s ||| 2 ^ v)).1 = true := by simpa using hr
     rw [if_pos hr] at hst
     have hz := hend (by rw [hst]; exact hr)
     rw [hst] at hz
     rw [hz]
     exact ⟨⟨rfl, rfl⟩, rfl, rfl, rfl, rfl⟩
   · have hr : (rY n xs l (mI n xs l m (6 * s + v)) s (s ||| 2 ^ v)).1 = false := by simpa using hr
     rw [if_neg (by rw [hr]; simp)] at hst
     refine ⟨by simp only [inR]; omega, v + 1, ⟨⟨by omega, by rw [hst]⟩, by omega⟩, by omega, ?_⟩
     rw [hr]
     exact ⟨⟨rfl, rfl⟩, rfl, rfl, by show _ = (lpC xs (fl n) l m (6 * s + (v + 1))).2.2.2; rw [hst], rfl⟩
 · refine of_eq (q := True ∧ ((v : Int) < 6 → True ∧ True ∧ True ∧ True ∧ True ∧ inR .u64 (v : Int) ∧ (((0 : Int) ≤ (v : Int) ∧ (v : Int) < bitsOf .i64) ∧ (-9223372036854775808 : Int) ≤ 1 * 2 ^ v ∧ (1 : Int) * 2 ^ v ≤ 9223372036854775807) ∧ True ∧ True ∧ True ∧ True ∧ True ∧ True ∧ (gB xs s = true → True ∧ True ∧ True ∧ True ∧ True ∧ True ∧ True ∧ (¬((s : Int), bOr .i64 (s : Int) ((1 : Int) * 2 ^ v)) = ((s : Int), (s : Int)) → True ∧ True ∧ ((List.length xs = 64 ∧ (xs = xs ∧ ((s : Int) = (s : Int) ∧ bOr .i64 (s : Int) ((1 : Int) * 2 ^ v) = bOr .i64 (s : Int) ((1 : Int) * 2 ^ v) ∧ True) ∧ True) ∧ True) ∧ True) ∧ True ∧ True ∧ (canR (gB xs) (s : Int) (bOr .i64 (s : Int) ((1 : Int) * 2 ^ v)) = true → True ∧ True ∧ ((okY n ((s : Int), bOr .i64 (s : Int) ((1 : Int) * 2 ^ v), xs, l, mI n xs l m ((6 : Nat) * s + v)) ∧ (True ∧ ((s : Int) = (s : Int) ∧ bOr .i64 (s : Int) ((1 : Int) * 2 ^ v) = bOr .i64 (s : Int) ((1 : Int) * 2 ^ v) ∧ True) ∧ True) ∧ (C75 = C75 ∧ LoopState.ready = LoopState.ready ∧ (none : Option Code) = none ∧ (True ∧ True ∧ True ∧ True ∧ True) ∧ True) ∧ xs = xs ∧ True ∧ l = l ∧ (True ∧ True ∧ True ∧ True ∧ True ∧ True) ∧ True ∧ mI n xs l m ((6 : Nat) * s + v) = mI n xs l m ((6 : Nat) * s + v) ∧ false = false ∧ True) ∧ True ∧ True ∧ True ∧ True ∧ True ∧ True ∧ True ∧ True ∧ True) ∧ True ∧ True ∧ ((!!(rY n xs l (mI n xs l m ((6 : Nat) * s + v)) s (bOr .i64 (s : Int) ((1 : Int) * 2 ^ v)).toNat).fst) = true → True ∧ True ∧ (C75 = C75 ∧ sC (lpC xs (fl n) l m nC).fst = sC (rY n xs l (mI n xs l m ((6 : Nat) * s + v)) s (bOr .i64 (s : Int) ((1 : Int) * 2 ^ v)).toNat).fst ∧ jC (lpC xs (fl n) l m nC).fst = jC (rY n xs l (mI n xs l m ((6 : Nat) * s + v)) s (bOr .i64 (s : Int) ((1 : Int) * 2 ^ v)).toNat).fst ∧ (True ∧ True ∧ True ∧ True ∧ True) ∧ True) ∧ pC (rY n xs l (mI n xs l m ((6 : Nat) * s + v)) s (bOr .i64 (s : Int) ((1 : Int) * 2 ^ v)).toNat).fst (rY n xs l (mI n xs l m ((6 : Nat) * s + v)) s (bOr .i64 (s : Int) ((1 : Int) * 2 ^ v)).toNat).snd.fst xs = pC (lpC xs (fl n) l m nC).fst (lpC xs (fl n) l m nC).snd.fst xs ∧ True ∧ pC (rY n xs l (mI n xs l m ((6 : Nat) * s + v)) s (bOr .i64 (s : Int) ((1 : Int) * 2 ^ v)).toNat).fst (rY n xs l (mI n xs l m ((6 : Nat) * s + v)) s (bOr .i64 (s : Int) ((1 : Int) * 2 ^ v)).toNat).snd.snd.fst l = pC (lpC xs (fl n) l m nC).fst (lpC xs (fl n) l m nC).snd.snd.fst l ∧ (True ∧ True ∧ True ∧ True ∧ True ∧ True) ∧ True ∧ (rY n xs l (mI n xs l m ((6 : Nat) * s + v)) s (bOr .i64 (s : Int) ((1 : Int) * 2 ^ v)).toNat).snd.snd.snd = (lpC xs (fl n) l m nC).snd.snd.snd ∧ (rY n xs l (mI n xs l m ((6 : Nat) * s + v)) s (bOr .i64 (s : Int) ((1 : Int) * 2 ^ v)).toNat).fst = (lpC xs (fl n) l m nC).fst ∧ xs = xs ∧ True) ∧ ((!!(rY n xs l (mI n xs l m ((6 : Nat) * s + v)) s (bOr .i64 (s : Int) ((1 : Int) * 2 ^ v)).toNat).fst) = false → inR .i64 ((v : Int) + 1) ∧ True ∧ ((∃ (y : Nat), (ii88 n xs l m s y ∧ (6 : Nat) - y < 6 - v) ∧ (True ∧ True ∧ (s : Int) = (s : Int) ∧ gB xs s = gB xs s ∧ xs = xs ∧ (s : Int) = (s : Int) ∧ (v : Int) + 1 = (y : Int) ∧ True) ∧ (C75 = C75 ∧ LoopState.ready = sC (rY n xs l (mI n xs l m ((6 : Nat) * s + v)) s (bOr .i64 (s : Int) ((1 : Int) * 2 ^ v)).toNat).fst ∧ (none : Option Code) = jC (rY n xs l (mI n xs l m ((6 : Nat) * s + v)) s (bOr .i64 (s : Int) ((1 : Int) * 2 ^ v)).toNat).fst ∧ (True ∧ True ∧ True ∧ True ∧ True) ∧ True) ∧ pC (rY n xs l (mI n xs l m ((6 : Nat) * s + v)) s (bOr .i64 (s : Int) ((1 : Int) * 2 ^ v)).toNat).fst (rY n xs l (mI n xs l m ((6 : Nat) * s + v)) s (bOr .i64 (s : Int) ((1 : Int) * 2 ^ v)).toNat).snd.fst xs = xs ∧ False ∧ False ∧ (True ∧ True ∧ True ∧ True ∧ True ∧ True) ∧ True ∧ (rY n xs l (mI n xs l m ((6 : Nat) * s + v)) s (bOr .i64 (s : Int) ((1 : Int) * 2 ^ v)).toNat).snd.snd.snd = mI n xs l m ((6 : Nat) * s + y) ∧ (rY n xs l (mI n xs l m ((6 : Nat) * s + v)) s (bOr .i64 (s : Int) ((1 : Int) * 2 ^ v)).toNat).fst = false ∧ xs = xs ∧ True) ∨ ∃ (y : Nat), (ii88 n xs l m s y ∧ (6 : Nat) - y < 6 - v) ∧ (True ∧ True ∧ (s : Int) = (s : Int) ∧ gB xs s = gB xs s ∧ xs = xs ∧ (s : Int) = (s : Int) ∧ (v : Int) + 1 = (y : Int) ∧ True) ∧ (C75 = C75 ∧ LoopState.ready = sC (rY n xs l (mI n xs l m ((6 : Nat) * s + v)) s (bOr .i64 (s : Int) ((1 : Int) * 2 ^ v)).toNat).fst ∧ (none : Option Code) = jC (rY n xs l (mI n xs l m ((6 : Nat) * s + v)) s (bOr .i64 (s : Int) ((1 : Int) * 2 ^ v)).toNat).fst ∧ (True ∧ True ∧ True ∧ True ∧ True) ∧ True) ∧ pC (rY n xs l (mI n xs l m ((6 : Nat) * s + v)) s (bOr .i64 (s : Int) ((1 : Int) * 2 ^ v)).toNat).fst (rY n xs l (mI n xs l m ((6 : Nat) * s + v)) s (bOr .i64 (s : Int) ((1 : Int) * 2 ^ v)).toNat).snd.fst xs = xs ∧ True ∧ pC (rY n xs l (mI n xs l m ((6 : Nat) * s + v)) s (bOr .i64 (s : Int) ((1 : Int) * 2 ^ v)).toNat).fst (rY n xs l (mI n xs l m ((6 : Nat) * s + v)) s (bOr .i64 (s : Int) ((1 : Int) * 2 ^ v)).toNat).snd.snd.fst l = l ∧ (True ∧ True ∧ True ∧ True ∧ True ∧ True) ∧ True ∧ (rY n xs l (mI n xs l m ((6 : Nat) * s + v)) s (bOr .i64 (s : Int) ((1 : Int) * 2 ^ v)).toNat).snd.snd.snd = mI n xs l m ((6 : Nat) * s + y) ∧ (rY n xs l (mI n xs l m ((6 : Nat) * s + v)) s (bOr .i64 (s : Int) ((1 : Int) * 2 ^ v)).toNat).fst = false ∧ xs = xs ∧ True))) ∧ (canR (gB xs) (s : Int) (bOr .i64 (s : Int) ((1 : Int) * 2 ^ v)) = false → True ∧ inR .i64 ((v : Int) + 1) ∧ True ∧ ((∃ (y : Nat), (ii88 n xs l m s y ∧ (6 : Nat) - y < 6 - v) ∧ (True ∧ True ∧ (s : Int) = (s : Int) ∧ gB xs s = gB xs s ∧ xs = xs ∧ (s : Int) = (s : Int) ∧ (v : Int) + 1 = (y : Int) ∧ True) ∧ (C75 = C75 ∧ LoopState.ready = LoopState.ready ∧ (none : Option Code) = none ∧ (True ∧ True ∧ True ∧ True ∧ True) ∧ True) ∧ xs = xs ∧ False ∧ False ∧ (True ∧ True ∧ True ∧ True ∧ True ∧ True) ∧ True ∧ mI n xs l m ((6 : Nat) * s + v) = mI n xs l m ((6 : Nat) * s + y) ∧ false = false ∧ xs = xs ∧ True) ∨ ∃ (y : Nat), (ii88 n xs l m s y ∧ (6 : Nat) - y < 6 - v) ∧ (True ∧ True ∧ (s : Int) = (s : Int) ∧ gB xs s = gB xs s ∧ xs = xs ∧ (s : Int) = (s : Int) ∧ (v : Int) + 1 = (y : Int) ∧ True) ∧ (C75 = C75 ∧ LoopState.ready = LoopState.ready ∧ (none : Option Code) = none ∧ (True ∧ True ∧ True ∧ True ∧ True) ∧ True) ∧ xs = xs ∧ True ∧ l = l ∧ (True ∧ True ∧ True ∧ True ∧ True ∧ True) ∧ True ∧ mI n xs l m ((6 : Nat) * s + v) = mI n xs l m ((6 : Nat) * s + y) ∧ false = false ∧ xs = xs ∧ True))) ∧ (¬¬((s : Int), bOr .i64 (s : Int) ((1 : Int) * 2 ^ v)) = ((s : Int), (s : Int)) → True ∧ True ∧ True ∧ inR .i64 ((v : Int) + 1) ∧ True ∧ ((∃ (y : Nat), (ii88 n xs l m s y ∧ (6 : Nat) - y < 6 - v) ∧ (True ∧ True ∧ (s : Int) = (s : Int) ∧ gB xs s = gB xs s ∧ xs = xs ∧ (s : Int) = (s : Int) ∧ (v : Int) + 1 = (y : Int) ∧ True) ∧ (C75 = C75 ∧ LoopState.ready = LoopState.ready ∧ (none : Option Code) = none ∧ (True ∧ True ∧ True ∧ True ∧ True) ∧ True) ∧ xs = xs ∧ False ∧ False ∧ (True ∧ True ∧ True ∧ True ∧ True ∧ True) ∧ True ∧ mI n xs l m ((6 : Nat) * s + v) = mI n xs l m ((6 : Nat) * s + y) ∧ false = false ∧ xs = xs ∧ True) ∨ ∃ (y : Nat), (ii88 n xs l m s y ∧ (6 : Nat) - y < 6 - v) ∧ (True ∧ True ∧ (s : Int) = (s : Int) ∧ gB xs s = gB xs s ∧ xs = xs ∧ (s : Int) = (s : Int) ∧ (v : Int) + 1 = (y : Int) ∧ True) ∧ (C75 = C75 ∧ LoopState.ready = LoopState.ready ∧ (none : Option Code) = none ∧ (True ∧ True ∧ True ∧ True ∧ True) ∧ True) ∧ xs = xs ∧ True ∧ l = l ∧ (True ∧ True ∧ True ∧ True ∧ True ∧ True) ∧ True ∧ mI n xs l m ((6 : Nat) * s + v) = mI n xs l m ((6 : Nat) * s + y) ∧ false = false ∧ xs = xs ∧ True))) ∧ (gB xs s = false → True ∧ True ∧ True ∧ True ∧ True ∧ inR .i64 ((v : Int) + 1) ∧ True ∧ ((∃ (y : Nat), (ii88 n xs l m s y ∧ (6 : Nat) - y < 6 - v) ∧ (True ∧ True ∧ (s : Int) = (s : Int) ∧ gB xs s = gB xs s ∧ xs = xs ∧ (s : Int) = (s : Int) ∧ (v : Int) + 1 = (y : Int) ∧ True) ∧ (C75 = C75 ∧ LoopState.ready = LoopState.ready ∧ (none : Option Code) = none ∧ (True ∧ True ∧ True ∧ True ∧ True) ∧ True) ∧ xs = xs ∧ False ∧ False ∧ (True ∧ True ∧ True ∧ True ∧ True ∧ True) ∧ True ∧ mI n xs l m ((6 : Nat) * s + v) = mI n xs l m ((6 : Nat) * s + y) ∧ false = false ∧ xs = xs ∧ True) ∨ ∃ (y : Nat), (ii88 n xs l m s y ∧ (6 : Nat) - y < 6 - v) ∧ (True ∧ True ∧ (s : Int) = (s : Int) ∧ gB xs s = gB xs s ∧ xs = xs ∧ (s : Int) = (s : Int) ∧ (v : Int) + 1 = (y : Int) ∧ True) ∧ (C75 = C75 ∧ LoopState.ready = LoopState.ready ∧ (none : Option Code) = none ∧ (True ∧ True ∧ True ∧ True ∧ True) ∧ True) ∧ xs = xs ∧ True ∧ l = l ∧ (True ∧ True ∧ True ∧ True ∧ True ∧ True) ∧ True ∧ mI n xs l m ((6 : Nat) * s + v) = mI n xs l m ((6 : Nat) * s + y) ∧ false = false ∧ xs = xs ∧ True))) ∧ (¬(v : Int) < 6 → (∃ (y : Unit), (lpC xs (fl n) l m ((6 : Nat) * (s + 1))).fst = false ∧ (True ∧ True ∧ xs = xs ∧ (s : Int) = (s : Int) ∧ True) ∧ (C75 = C75 ∧ LoopState.ready = LoopState.ready ∧ (none : Option Code) = none ∧ (True ∧ True ∧ True ∧ True ∧ True) ∧ True) ∧ xs = xs ∧ False ∧ False ∧ (True ∧ True ∧ True ∧ True ∧ True ∧ True) ∧ True ∧ mI n xs l m ((6 : Nat) * s + v) = mI n xs l m ((6 : Nat) * (s + 1)) ∧ false = false ∧ xs = xs ∧ True) ∨ ∃ (y : Unit), (lpC xs (fl n) l m ((6 : Nat) * (s + 1))).fst = false ∧ (True ∧ True ∧ xs = xs ∧ (s : Int) = (s : Int) ∧ True) ∧ (C75 = C75 ∧ LoopState.ready = LoopState.ready ∧ (none : Option Code) = none ∧ (True ∧ True ∧ True ∧ True ∧ True) ∧ True) ∧ xs = xs ∧ True ∧ l = l ∧ (True ∧ True ∧ True ∧ True ∧ True ∧ True) ∧ True ∧ mI n xs l m ((6 : Nat) * s + v) = mI n xs l m ((6 : Nat) * (s + 1)) ∧ false = false ∧ xs = xs ∧ True)) (by kernel_rfl) ?_
   simp only [zz]
   obtain ⟨v1, v2⟩ := hv
   refine ⟨fun hv6 => ?_, fun hv6 => by rw [show v = 6 by omega] at v2 ⊢; exact ⟨v2, rfl⟩⟩
   have hv6 : v < 6 := by omega
   have hb := or_pow hs hv6
   have hst := lp_step hv6 v2
   have hend := lp_end (n := n) (xs := xs) (l := l) (m := m) hs hv6
   have h2 : 2 ^ v < 64 := Nat.pow_lt_pow_right (a := 2) (by decide) hv6
   have e : (2 ^ v : Int) = ((2 ^ v : Nat) : Int) := by rw [Int.natCast_pow]; try rfl
   have eb : ∀ P : Nat, P < 64 → -9223372036854775808 ≤ 1 * (P : Int) ∧ 1 * (P : Int) ≤ 9223372036854775807 := fun P h => by omega
   have hsh : (0 ≤ (v : Int) ∧ (v : Int) < bitsOf .i64) ∧ -9223372036854775808 ≤ 1 * (2 ^ v : Int) ∧ 1 * (2 ^ v : Int) ≤ 9223372036854775807 := ⟨⟨by omega, by simp only [bitsOf]; omega⟩, by rw [e]; exact eb _ h2⟩
   simp only [hb.1, Int.toNat_natCast]
   have hskip : ¬ (gB xs s = true ∧ ¬ s ||| 2 ^ v = s ∧ canR (gB xs) s (s ||| 2 ^ v : Nat) = true) → inR .i64 ((v : Int) + 1) ∧ ∃ y : Nat, (ii88 n xs l m s y ∧ 6 - y < 6 - v) ∧ (v : Int) + 1 = (y : Int) ∧ mI n xs l m (6 * s + v) = mI n xs l m (6 * s + y) := fun hc => by
     rw [if_neg hc] at hst
     exact ⟨by simp only [inR]; omega, v + 1, ⟨⟨by omega, by rw [hst]; exact v2⟩, by omega⟩, by omega, by unfold mI; rw [hst]⟩
   refine ⟨by simp only [inR]; omega, hsh, fun hg => ⟨fun hne => ⟨hp.hl, fun hcan => ?_, fun hcan => hskip fun hc => by rw [hc.2.2] at hcan; cases hcan⟩, fun he => hskip fun hc => he fun h3 => hc.2.1 (by injection h3 with _ h3; omega)⟩, fun hg => hskip fun hc => by rw [hc.1] at hg; cases hg⟩
   have hc : gB xs s = true ∧ ¬ s ||| 2 ^ v = s ∧ canR (gB xs) s (s ||| 2 ^ v : Nat) = true := ⟨hg, fun h3 => hne (by rw [h3]), hcan⟩
   rw [if_pos hc] at hst
   refine ⟨⟨⟨hp.hl, hp.hc, hp.hn, hcan⟩, Int.natCast_nonneg _, Int.natCast_nonneg _⟩, fun hr => ?_, fun hr => ?_⟩
   · have hr : (rY n xs l (mI n xs l m (6 * s + v)) s (s ||| 2 ^ v)).1 = true := by simpa using hr
     rw [if_pos hr] at hst
     have hz := hend (by rw [hst]; exact hr)
     rw [hst] at hz
     rw [hz]
     exact ⟨⟨rfl, rfl⟩, rfl, rfl, rfl, rfl⟩
   · have hr : (rY n xs l (mI n xs l m (6 * s + v)) s (s ||| 2 ^ v)).1 = false := by simpa using hr
     rw [if_neg (by rw [hr]; simp)] at hst
     refine ⟨by simp only [inR]; omega, v + 1, ⟨⟨by omega, by rw [hst]⟩, by omega⟩, by omega, ?_⟩
     rw [hr]
     exact ⟨⟨rfl, rfl⟩, rfl, rfl, by show _ = (lpC xs (fl n) l m (6 * s + (v + 1))).2.2.2; rw [hst], rfl⟩
theorem loop88o (n : Nat) (h : YC n) (xs : Fs) (l : LP) (m : MF) (hp : pre88 n xs l) : LoopOK (X88 n h) L88_0 (ho88 n xs l m) (R88 n h xs l m) := by
 refine loop_fams (Xyb_ok _ _ _ _ _ _) [0, 1, 7, 8] (fo88 n xs l m) (xo88 n xs l m) 150 ⟨fun (s : Nat) hs => ?_, fun (s : Nat) hs => ?_, trivial⟩
 · have hL := fun hh => loop88i n h xs l m s hp hh
   refine of_eq (q := True ∧ ((s : Int) < 64 → True ∧ idxPre (s : Int) (64 : Nat) ∧ True ∧ True ∧ True ∧ LoopOK (X88 n h) L88_2 (hi88 n xs l m s) (bodyR (9 : Nat) (xo88 n xs l m) (R88 n h xs l m)) ∧ ((∃ (y : Nat), ii88 n xs l m s y ∧ (True ∧ True ∧ (s : Int) = (s : Int) ∧ List.getD xs s false = gB xs s ∧ xs = xs ∧ (s : Int) = (s : Int) ∧ (0 : Int) = (y : Int) ∧ True) ∧ (C75 = C75 ∧ LoopState.ready = LoopState.ready ∧ (none : Option Code) = none ∧ (True ∧ True ∧ True ∧ True ∧ True) ∧ True) ∧ xs = xs ∧ True ∧ l = l ∧ (True ∧ True ∧ True ∧ True ∧ True ∧ True) ∧ True ∧ mI n xs l m ((6 : Nat) * s) = mI n xs l m ((6 : Nat) * s + y) ∧ false = false ∧ xs = xs ∧ True) ∨ ∃ (y : Nat), ii88 n xs l m s y ∧ (True ∧ True ∧ (s : Int) = (s : Int) ∧ List.getD xs s false = gB xs s ∧ xs = xs ∧ (s : Int) = (s : Int) ∧ (0 : Int) = (y : Int) ∧ True) ∧ (C75 = C75 ∧ LoopState.ready = LoopState.ready ∧ (none : Option Code) = none ∧ (True ∧ True ∧ True ∧ True ∧ True) ∧ True) ∧ xs = xs ∧ False ∧ False ∧ (True ∧ True ∧ True ∧ True ∧ True ∧ True) ∧ True ∧ mI n xs l m ((6 : Nat) * s) = mI n xs l m ((6 : Nat) * s + y) ∧ false = false ∧ xs = xs ∧ True) ∧ (∀ (y : Unit), (lpC xs (fl n) l m ((6 : Nat) * (s + 1))).fst = false → inR .i64 ((s : Int) + 1) ∧ True ∧ ((∃ (y : Nat), (io88 n xs l m y ∧ (64 : Nat) - y < 64 - s) ∧ (True ∧ True ∧ xs = xs ∧ (s : Int) + 1 = (y : Int) ∧ True) ∧ (C75 = C75 ∧ LoopState.ready = LoopState.ready ∧ (none : Option Code) = none ∧ (True ∧ True ∧ True ∧ True ∧ True) ∧ True) ∧ xs = xs ∧ True ∧ l = l ∧ (True ∧ True ∧ True ∧ True ∧ True ∧ True) ∧ True ∧ mI n xs l m ((6 : Nat) * (s + 1)) = mI n xs l m ((6 : Nat) * y) ∧ false = false ∧ xs = xs ∧ True) ∨ ∃ (y : Nat), (io88 n xs l m y ∧ (64 : Nat) - y < 64 - s) ∧ (True ∧ True ∧ xs = xs ∧ (s : Int) + 1 = (y : Int) ∧ True) ∧ (C75 = C75 ∧ LoopState.ready = LoopState.ready ∧ (none : Option Code) = none ∧ (True ∧ True ∧ True ∧ True ∧ True) ∧ True) ∧ xs = xs ∧ False ∧ False ∧ (True ∧ True ∧ True ∧ True ∧ True ∧ True) ∧ True ∧ mI n xs l m ((6 : Nat) * (s + 1)) = mI n xs l m ((6 : Nat) * y) ∧ false = false ∧ xs = xs ∧ True)) ∧ (∀ (y : Unit), (lpC xs (fl n) l m ((6 : Nat) * (s + 1))).fst = false → inR .i64 ((s : Int) + 1) ∧ True ∧ ((∃ (y : Nat), (io88 n xs l m y ∧ (64 : Nat) - y < 64 - s) ∧ (True ∧ True ∧ xs = xs ∧ (s : Int) + 1 = (y : Int) ∧ True) ∧ (C75 = C75 ∧ LoopState.ready = LoopState.ready ∧ (none : Option Code) = none ∧ (True ∧ True ∧ True ∧ True ∧ True) ∧ True) ∧ xs = xs ∧ False ∧ False ∧ (True ∧ True ∧ True ∧ True ∧ True ∧ True) ∧ True ∧ mI n xs l m ((6 : Nat) * (s + 1)) = mI n xs l m ((6 : Nat) * y) ∧ false = false ∧ xs = xs ∧ True) ∨ ∃ (y : Nat), (io88 n xs l m y ∧ (64 : Nat) - y < 64 - s) ∧ (True ∧ True ∧ xs = xs ∧ (s : Int) + 1 = (y : Int) ∧ True) ∧ (C75 = C75 ∧ LoopState.ready = LoopState.ready ∧ (none : Option Code) = none ∧ (True ∧ True ∧ True ∧ True ∧ True) ∧ True) ∧ xs = xs ∧ True ∧ l = l ∧ (True ∧ True ∧ True ∧ True ∧ True ∧ True) ∧ True ∧ mI n xs l m ((6 : Nat) * (s + 1)) = mI n xs l m ((6 : Nat) * y) ∧ false = false ∧ xs = xs ∧ True)) ∧ True) ∧ (¬(s : Int) < 64 → (∃ (y : Unit), (lpC xs (fl n) l m nC).fst = false ∧ True ∧ (C75 = C75 ∧ LoopState.ready = LoopState.ready ∧ (none : Option Code) = none ∧ (True ∧ True ∧ True ∧ True ∧ True) ∧ True) ∧ xs = xs ∧ True ∧ l = l ∧ (True ∧ True ∧ True ∧ True ∧ True ∧ True) ∧ True ∧ mI n xs l m ((6 : Nat) * s) = mI n xs l m nC ∧ false = false ∧ xs = xs ∧ True) ∨ ∃ (y : Unit), (lpC xs (fl n) l m nC).fst = false ∧ True ∧ (C75 = C75 ∧ LoopState.ready = LoopState.ready ∧ (none : Option Code) = none ∧ (True ∧ True ∧ True ∧ True ∧ True) ∧ True) ∧ xs = xs ∧ False ∧ False ∧ (True ∧ True ∧ True ∧ True ∧ True ∧ True) ∧ True ∧ mI n xs l m ((6 : Nat) * s) = mI n xs l m nC ∧ false = false ∧ xs = xs ∧ True)) (by kernel_rfl) ?_
   simp only [zz]
   obtain ⟨s1, s2⟩ := hs
   have hn : ∀ _ : PUnit, (lpC xs (fl n) l m (6 * (s + 1))).1 = false → s < 64 → inR .i64 ((s : Int) + 1) ∧ ∃ y : Nat, (io88 n xs l m y ∧ 64 - y < 64 - s) ∧ (s : Int) + 1 = (y : Int) ∧ mI n xs l m (6 * (s + 1)) = mI n xs l m (6 * y) := fun _ h1 h2 => ⟨by simp only [inR]; omega, s + 1, ⟨⟨by omega, h1⟩, by omega⟩, by omega, rfl⟩
   refine ⟨fun h => ⟨by unfold idxPre; omega, hL (by omega), ⟨0, ⟨by omega, s2⟩, ⟨rfl, rfl⟩, rfl⟩, fun u h1 => hn u h1 (by omega), fun u h1 => hn u h1 (by omega)⟩, fun h => ?_⟩
   have e : s = 64 := by omega
   subst e
   exact ⟨s2, rfl⟩
 · have hL := fun hh => loop88i n h xs l m s hp hh
   refine of_eq (q := True ∧ ((s : Int) < 64 → True ∧ idxPre (s : Int) (64 : Nat) ∧ True ∧ True ∧ True ∧ LoopOK (X88 n h) L88_2 (hi88 n xs l m s) (bodyR (9 : Nat) (xo88 n xs l m) (R88 n h xs l m)) ∧ ((∃ (y : Nat), ii88 n xs l m s y ∧ (True ∧ True ∧ (s : Int) = (s : Int) ∧ List.getD xs s false = gB xs s ∧ xs = xs ∧ (s : Int) = (s : Int) ∧ (0 : Int) = (y : Int) ∧ True) ∧ (C75 = C75 ∧ LoopState.ready = LoopState.ready ∧ (none : Option Code) = none ∧ (True ∧ True ∧ True ∧ True ∧ True) ∧ True) ∧ xs = xs ∧ False ∧ False ∧ (True ∧ True ∧ True ∧ True ∧ True ∧ True) ∧ True ∧ mI n xs l m ((6 : Nat) * s) = mI n xs l m ((6 : Nat) * s + y) ∧ false = false ∧ xs = xs ∧ True) ∨ ∃ (y : Nat), ii88 n xs l m s y ∧ (True ∧ True ∧ (s : Int) = (s : Int) ∧ List.getD xs s false = gB xs s ∧ xs = xs ∧ (s : Int) = (s : Int) ∧ (0 : Int) = (y : Int) ∧ True) ∧ (C75 = C75 ∧ LoopState.ready = LoopState.ready ∧ (none : Option Code) = none ∧ (True ∧ True ∧ True ∧ True ∧ True) ∧ True) ∧ xs = xs ∧ True ∧ l = l ∧ (True ∧ True ∧ True ∧ True ∧ True ∧ True) ∧ True ∧ mI n xs l m ((6 : Nat) * s) = mI n xs l m ((6 : Nat) * s + y) ∧ false = false ∧ xs = xs ∧ True) ∧ (∀ (y : Unit), (lpC xs (fl n) l m ((6 : Nat) * (s + 1))).fst = false → inR .i64 ((s : Int) + 1) ∧ True ∧ ((∃ (y : Nat), (io88 n xs l m y ∧ (64 : Nat) - y < 64 - s) ∧ (True ∧ True ∧ xs = xs ∧ (s : Int) + 1 = (y : Int) ∧ True) ∧ (C75 = C75 ∧ LoopState.ready = LoopState.ready ∧ (none : Option Code) = none ∧ (True ∧ True ∧ True ∧ True ∧ True) ∧ True) ∧ xs = xs ∧ True ∧ l = l ∧ (True ∧ True ∧ True ∧ True ∧ True ∧ True) ∧ True ∧ mI n xs l m ((6 : Nat) * (s + 1)) = mI n xs l m ((6 : Nat) * y) ∧ false = false ∧ xs = xs ∧ True) ∨ ∃ (y : Nat), (io88 n xs l m y ∧ (64 : Nat) - y < 64 - s) ∧ (True ∧ True ∧ xs = xs ∧ (s : Int) + 1 = (y : Int) ∧ True) ∧ (C75 = C75 ∧ LoopState.ready = LoopState.ready ∧ (none : Option Code) = none ∧ (True ∧ True ∧ True ∧ True ∧ True) ∧ True) ∧ xs = xs ∧ False ∧ False ∧ (True ∧ True ∧ True ∧ True ∧ True ∧ True) ∧ True ∧ mI n xs l m ((6 : Nat) * (s + 1)) = mI n xs l m ((6 : Nat) * y) ∧ false = false ∧ xs = xs ∧ True)) ∧ (∀ (y : Unit), (lpC xs (fl n) l m ((6 : Nat) * (s + 1))).fst = false → inR .i64 ((s : Int) + 1) ∧ True ∧ ((∃ (y : Nat), (io88 n xs l m y ∧ (64 : Nat) - y < 64 - s) ∧ (True ∧ True ∧ xs = xs ∧ (s : Int) + 1 = (y : Int) ∧ True) ∧ (C75 = C75 ∧ LoopState.ready = LoopState.ready ∧ (none : Option Code) = none ∧ (True ∧ True ∧ True ∧ True ∧ True) ∧ True) ∧ xs = xs ∧ False ∧ False ∧ (True ∧ True ∧ True ∧ True ∧ True ∧ True) ∧ True ∧ mI n xs l m ((6 : Nat) * (s + 1)) = mI n xs l m ((6 : Nat) * y) ∧ false = false ∧ xs = xs ∧ True) ∨ ∃ (y : Nat), (io88 n xs l m y ∧ (64 : Nat) - y < 64 - s) ∧ (True ∧ True ∧ xs = xs ∧ (s : Int) + 1 = (y : Int) ∧ True) ∧ (C75 = C75 ∧ LoopState.ready = LoopState.ready ∧ (none : Option Code) = none ∧ (True ∧ True ∧ True ∧ True ∧ True) ∧ True) ∧ xs = xs ∧ True ∧ l = l ∧ (True ∧ True ∧ True ∧ True ∧ True ∧ True) ∧ True ∧ mI n xs l m ((6 : Nat) * (s + 1)) = mI n xs l m ((6 : Nat) * y) ∧ false = false ∧ xs = xs ∧ True)) ∧ True) ∧ (¬(s : Int) < 64 → (∃ (y : Unit), (lpC xs (fl n) l m nC).fst = false ∧ True ∧ (C75 = C75 ∧ LoopState.ready = LoopState.ready ∧ (none : Option Code) = none ∧ (True ∧ True ∧ True ∧ True ∧ True) ∧ True) ∧ xs = xs ∧ False ∧ False ∧ (True ∧ True ∧ True ∧ True ∧ True ∧ True) ∧ True ∧ mI n xs l m ((6 : Nat) * s) = mI n xs l m nC ∧ false = false ∧ xs = xs ∧ True) ∨ ∃ (y : Unit), (lpC xs (fl n) l m nC).fst = false ∧ True ∧ (C75 = C75 ∧ LoopState.ready = LoopState.ready ∧ (none : Option Code) = none ∧ (True ∧ True ∧ True ∧ True ∧ True) ∧ True) ∧ xs = xs ∧ True ∧ l = l ∧ (True ∧ True ∧ True ∧ True ∧ True ∧ True) ∧ True ∧ mI n xs l m ((6 : Nat) * s) = mI n xs l m nC ∧ false = false ∧ xs = xs ∧ True)) (by kernel_rfl) ?_
   simp only [zz]
   obtain ⟨s1, s2⟩ := hs
   have hn : ∀ _ : PUnit, (lpC xs (fl n) l m (6 * (s + 1))).1 = false → s < 64 → inR .i64 ((s : Int) + 1) ∧ ∃ y : Nat, (io88 n xs l m y ∧ 64 - y < 64 - s) ∧ (s : Int) + 1 = (y : Int) ∧ mI n xs l m (6 * (s + 1)) = mI n xs l m (6 * y) := fun _ h1 h2 => ⟨by simp only [inR]; omega, s + 1, ⟨⟨by omega, h1⟩, by omega⟩, by omega, rfl⟩
   refine ⟨fun h => ⟨by unfold idxPre; omega, hL (by omega), ⟨0, ⟨by omega, s2⟩, ⟨rfl, rfl⟩, rfl⟩, fun u h1 => hn u h1 (by omega), fun u h1 => hn u h1 (by omega)⟩, fun h => ?_⟩
   have e : s = 64 := by omega
   subst e
   exact ⟨s2, rfl⟩
theorem call88 (n : Nat) (h : YC n) (xs : Fs) (l : LP) (m : MF) (hp : pre88 n xs l) : GCall Try.prog gl 88 false [.yld 0, .ptr 8 0 []] (ob88 0 xs l m) [] (obZ xs l (lpC xs (fl n) l m nC)) := by
 have hL := loop88o n h xs l m hp
 refine gcall_of (X := (X88 n h)) ((Xyb_ok _ _ _ _ _ _)) (f := 88) (fn := Try.f88) (c := bodyOf Try.f88) (by kernel_rfl) (by kernel_rfl) (view := false) (rvs := []) (by kernel_rfl) (H := (fun _ => some (ho88 n xs l m))) 150 (by kernel_rfl) ?_
 refine of_eq (q := True ∧ True ∧ LoopOK (X88 n h) L88_0 (ho88 n xs l m) (R88 n h xs l m) ∧ ((∃ (y : Nat), io88 n xs l m y ∧ (True ∧ True ∧ xs = xs ∧ (0 : Int) = (y : Int) ∧ True) ∧ (C75 = C75 ∧ LoopState.ready = LoopState.ready ∧ (none : Option Code) = none ∧ (True ∧ True ∧ True ∧ True ∧ True) ∧ True) ∧ xs = xs ∧ True ∧ l = l ∧ (True ∧ True ∧ True ∧ True ∧ True ∧ True) ∧ True ∧ m = mI n xs l m ((6 : Nat) * y) ∧ false = false ∧ xs = xs ∧ True) ∨ ∃ (y : Nat), io88 n xs l m y ∧ (True ∧ True ∧ xs = xs ∧ (0 : Int) = (y : Int) ∧ True) ∧ (C75 = C75 ∧ LoopState.ready = LoopState.ready ∧ (none : Option Code) = none ∧ (True ∧ True ∧ True ∧ True ∧ True) ∧ True) ∧ xs = xs ∧ False ∧ False ∧ (True ∧ True ∧ True ∧ True ∧ True ∧ True) ∧ True ∧ m = mI n xs l m ((6 : Nat) * y) ∧ false = false ∧ xs = xs ∧ True) ∧ (∀ (y : Unit), (lpC xs (fl n) l m nC).fst = false → True ∧ True ∧ (C75 = C75 ∧ sC (lpC xs (fl n) l m nC).fst = LoopState.ready ∧ jC (lpC xs (fl n) l m nC).fst = none ∧ (True ∧ True ∧ True ∧ True ∧ True) ∧ True) ∧ xs = pC (lpC xs (fl n) l m nC).fst (lpC xs (fl n) l m nC).snd.fst xs ∧ True ∧ l = pC (lpC xs (fl n) l m nC).fst (lpC xs (fl n) l m nC).snd.snd.fst l ∧ (True ∧ True ∧ True ∧ True ∧ True ∧ True) ∧ True ∧ mI n xs l m nC = (lpC xs (fl n) l m nC).snd.snd.snd ∧ false = (lpC xs (fl n) l m nC).fst ∧ xs = xs ∧ True) ∧ (∀ (y : Unit), (lpC xs (fl n) l m nC).fst = false → True ∧ True ∧ (C75 = C75 ∧ sC (lpC xs (fl n) l m nC).fst = LoopState.ready ∧ jC (lpC xs (fl n) l m nC).fst = none ∧ (True ∧ True ∧ True ∧ True ∧ True) ∧ True) ∧ xs = pC (lpC xs (fl n) l m nC).fst (lpC xs (fl n) l m nC).snd.fst xs ∧ True ∧ l = pC (lpC xs (fl n) l m nC).fst (lpC xs (fl n) l m nC).snd.snd.fst l ∧ (True ∧ True ∧ True ∧ True ∧ True ∧ True) ∧ True ∧ mI n xs l m nC = (lpC xs (fl n) l m nC).snd.snd.snd ∧ false = (lpC xs (fl n) l m nC).fst ∧ xs = xs ∧ True) ∧ True) (by kernel_rfl) ?_
 simp only [zz]
 have hz : (lpC xs (fl n) l m nC).1 = false → (sC (lpC xs (fl n) l m nC).1 = .ready ∧ jC (lpC xs (fl n) l m nC).1 = none) ∧ xs = pC (lpC xs (fl n) l m nC).1 (lpC xs (fl n) l m nC).2.1 xs ∧ l = pC (lpC xs (fl n) l m nC).1 (lpC xs (fl n) l m nC).2.2.1 l ∧ mI n xs l m nC = (lpC xs (fl n) l m nC).2.2.2 ∧ false = (lpC xs (fl n) l m nC).1 := fun h0 => by
   rw [h0]; exact ⟨⟨rfl, rfl⟩, rfl, rfl, rfl, rfl⟩
 exact ⟨hL, ⟨0, ⟨Nat.zero_le _, rfl⟩, rfl, rfl⟩, fun _ h0 => hz h0, fun _ h0 => hz h0⟩
def get88 (_ : List AV) (obs : List Ob) : Option G3 :=
 match unFa (obs.getD 1 .gone), unLP (obs.getD 3 .gone), unMF (obs.getD 6 .gone) with
 | some ys, some l, some m => some (ys, l, m)
 | _, _, _ => none
noncomputable def e88S (n : Nat) (h : YC n) : Entry Try.prog gl := entryW 88 ⟨Try.f88, by kernel_rfl, by kernel_rfl, by kernel_rfl⟩ true get88 (fun x => pre88 n x.1 x.2.1) false (fun _ => [.yld 0, .ptr 8 0 []]) (fun x => ob88 0 x.1 x.2.1 x.2.2) (fun _ => []) (fun x => obZ x.1 x.2.1 (lpC x.1 (fl n) x.2.1 x.2.2 nC)) (fun x hx => call88 n h _ _ x.2.2 hx)
theorem call76 (xs : List Bool) (_ : True) : GCall Try.prog gl 76 true [.ar .bool 64 xs] [] [.clo 88 [] [.ptr 0 0 []]] [.bx (.ar .bool 64 xs)] := by
 refine gcall_of (X := X []) (X_ok []) (f := 76) (fn := Try.f76) (c := bodyOf Try.f76) (by kernel_rfl) (by kernel_rfl) (view := false) (rvs := [.tmp 2]) (by kernel_rfl) (H := fun _ => none) 80 (by kernel_rfl) ?_
 refine of_eq (q := True ∧ True ∧ True ∧ True ∧ True ∧ ((True ∧ True ∧ True) ∧ True) ∧ xs = xs ∧ True) (by kernel_rfl) ?_
 simp only [zz]
def e76 : Entry Try.prog gl := entry1 76 ⟨Try.f76, by kernel_rfl, by kernel_rfl, by kernel_rfl⟩ FA (fun _ => True) true (fun _ => [.clo 88 [] [.ptr 0 0 []]]) (fun xs => [.bx (.ar .bool 64 xs)]) call76
end Go.Am.Sh

/- Shells: the search for collapses. -/
namespace Go.Am.Sh
open Go Go.Am Go.Proofs
theorem fl_unf (n : Nat) (xs : Fs) (l : LP) (m : MF) : ∃ K, K = nC ∧ fl (n + 1) xs l m = if (trueN (gB xs) 64).length = 2 then (true, xs, l, m) else if mgF m xs = true then (false, xs, l, m) else
   if (lpC xs (fl n) l m K).1 = true then lpC xs (fl n) l m K else (false, xs, l, mpF (lpC xs (fl n) l m K).2.2.2 xs) := by
 unfold fl
 generalize nC = K
 exact ⟨K, rfl, by rw [flK]⟩
noncomputable abbrev X75 (n : Nat) (h : YC n) : Cy := Xyb [e66, e76, e88S n h] [] none 6 [4] (fun _ => none)
theorem gC_zero : GC 0 := fun _ _ _ hp => absurd hp.hc (by omega)
theorem gC_step (n : Nat) (h : GC n) : GC (n + 1) := by
 intro xs l m hp
 refine gcall_of (X := (X75 n (yC_of n h))) ((Xyb_ok _ _ _ _ _ _)) (f := 75) (fn := Try.f75) (c := bodyOf Try.f75) (by kernel_rfl) (by kernel_rfl) (view := false) (rvs := [.cell 4 4]) (by kernel_rfl) (H := fun _ => none) 200 (by kernel_rfl) ?_
 have hK : fl (n + 1) xs l m = if (trueN (gB xs) 64).length = 2 then (true, xs, l, m) else if mgF m xs = true then (false, xs, l, m) else
   if (lpC xs (fl n) l m nC).1 = true then lpC xs (fl n) l m nC else (false, xs, l, mpF (lpC xs (fl n) l m nC).2.2.2 xs) := by
   obtain ⟨K, rfl, h⟩ := fl_unf n xs l m
   exact h
 refine of_eq (q := True ∧ True ∧ (List.length xs = 64 ∧ True) ∧ True ∧ True ∧ ((↑(trueN (gB xs) (64 : Nat)).length : Int) = 2 → True ∧ (True ∧ True) ∧ (true = (fl (n + 1) xs l m).fst ∧ True) ∧ xs = (fl (n + 1) xs l m).snd.fst ∧ True ∧ m = (fl (n + 1) xs l m).snd.snd.snd ∧ True ∧ l = (fl (n + 1) xs l m).snd.snd.fst ∧ (True ∧ True ∧ True ∧ True ∧ True ∧ True) ∧ True) ∧ (¬(↑(trueN (gB xs) (64 : Nat)).length : Int) = 2 → True ∧ True ∧ True ∧ ((mGet FA m xs).getD false = true → True ∧ (True ∧ True) ∧ (false = (fl (n + 1) xs l m).fst ∧ True) ∧ xs = (fl (n + 1) xs l m).snd.fst ∧ True ∧ m = (fl (n + 1) xs l m).snd.snd.snd ∧ True ∧ l = (fl (n + 1) xs l m).snd.snd.fst ∧ (True ∧ True ∧ True ∧ True ∧ True ∧ True) ∧ True) ∧ ((mGet FA m xs).getD false = false → True ∧ (True ∧ True) ∧ (((pre88 n xs l ∧ (True ∧ True ∧ True) ∧ (C75 = C75 ∧ LoopState.ready = LoopState.ready ∧ (none : Option Code) = none ∧ (True ∧ True ∧ True ∧ True ∧ True) ∧ True) ∧ xs = xs ∧ True ∧ l = l ∧ (True ∧ True ∧ True ∧ True ∧ True ∧ True) ∧ True ∧ m = m ∧ false = false ∧ xs = xs ∧ True) ∧ True ∧ True ∧ True ∧ True ∧ True ∧ True ∧ True ∧ True ∧ True ∧ True) ∧ ¬sC (lpC xs (fl n) l m nC).fst = LoopState.busy) ∧ (jC (lpC xs (fl n) l m nC).fst = none → True ∧ True ∧ True ∧ True ∧ (True ∧ True) ∧ (false = (fl (n + 1) xs l m).fst ∧ True) ∧ pC (lpC xs (fl n) l m nC).fst (lpC xs (fl n) l m nC).snd.fst xs = (fl (n + 1) xs l m).snd.fst ∧ True ∧ mPut FA (lpC xs (fl n) l m nC).snd.snd.snd (pC (lpC xs (fl n) l m nC).fst (lpC xs (fl n) l m nC).snd.fst xs) true = (fl (n + 1) xs l m).snd.snd.snd ∧ True ∧ pC (lpC xs (fl n) l m nC).fst (lpC xs (fl n) l m nC).snd.snd.fst l = (fl (n + 1) xs l m).snd.snd.fst ∧ (True ∧ True ∧ True ∧ True ∧ True ∧ True) ∧ True) ∧ (jC (lpC xs (fl n) l m nC).fst = some Code.ret ∨ jC (lpC xs (fl n) l m nC).fst = none) ∧ (jC (lpC xs (fl n) l m nC).fst = some Code.ret → (True ∧ True) ∧ ((lpC xs (fl n) l m nC).fst = (fl (n + 1) xs l m).fst ∧ True) ∧ pC (lpC xs (fl n) l m nC).fst (lpC xs (fl n) l m nC).snd.fst xs = (fl (n + 1) xs l m).snd.fst ∧ True ∧ (lpC xs (fl n) l m nC).snd.snd.snd = (fl (n + 1) xs l m).snd.snd.snd ∧ True ∧ pC (lpC xs (fl n) l m nC).fst (lpC xs (fl n) l m nC).snd.snd.fst l = (fl (n + 1) xs l m).snd.snd.fst ∧ (True ∧ True ∧ True ∧ True ∧ True ∧ True) ∧ True) ∧ True))) (by kernel_rfl) ?_
 generalize lpC xs (fl n) l m nC = r at hK ⊢
 generalize fl (n + 1) xs l m = q at hK ⊢
 simp only [zz]
 refine ⟨hp.hl, fun h2 => ?_, fun h2 => ⟨fun hm => ?_, fun hm => ?_⟩⟩
 · rw [if_pos (by omega)] at hK
   rw [hK]
   exact ⟨rfl, rfl, rfl, rfl⟩
 · rw [if_neg (by omega), if_pos (show mgF m xs = true from hm)] at hK
   rw [hK]
   exact ⟨rfl, rfl, rfl, rfl⟩
 · have hm' : ¬ mgF m xs = true := by unfold mgF; rw [hm]; simp
   rw [if_neg (by omega), if_neg hm'] at hK
   have hpre : pre88 n xs l := ⟨hp.hl, by have := hp.hc; omega, hp.hn⟩
   have hb : ∀ b : Bool, ¬ sC b = .busy := fun b => by cases b <;> (intro h; cases h)
   refine ⟨⟨hpre, hb _⟩, ?_⟩
   cases hr : r.1
   · rw [if_neg (by rw [hr]; simp)] at hK
     rw [hK]
     exact ⟨fun _ => ⟨rfl, rfl, rfl, rfl⟩, .inr rfl, (fun h => by cases h)⟩
   · rw [if_pos hr] at hK
     rw [hK]
     exact ⟨(fun h => by cases h), .inl rfl, fun _ => ⟨hr.symm, rfl, rfl, rfl⟩⟩
theorem gC_all : ∀ n : Nat, GC n
 | 0 => gC_zero
 | n + 1 => gC_step n (gC_all n)
end Go.Am.Sh
