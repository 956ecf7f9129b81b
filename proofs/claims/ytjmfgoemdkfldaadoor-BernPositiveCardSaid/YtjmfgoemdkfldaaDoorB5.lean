/- Part B5 of the proof that the law named in the last file returns true at every input and leaves its arguments as they were; no condition of its own. -/
import Derived.Test.YtjmfgoemdkfldaaDoorB4
import Derived.Test.YtjmfgoemdkfldaaDoorA2
import Derived.Test.YtjmfgoemdkfldaaDoorB3
import Derived.Test.YtjmfgoemdkfldaaDoorRows
import Derived.WalkKit
import Derived.ProofKit
import Derived.OpenShut
import Derived.LaidMore
import Derived.ChangeOld
import Derived.Below
import Derived.SevenTiedAt
import Derived.Stop.Joined
set_option linter.unusedSimpArgs false
set_option linter.unusedVariables false
/- Bern: Positive, Roots, Count. -/
namespace Go.Am.Bern
open Go Go.Am Go.Proofs
def get63 (_ : List AV) (obs : List Ob) : Option (List Int × Memo) :=
 match obs with
 | [c, m] => (match unCv c, unMm m with
   | some p, some m => some (p, m)
   | _, _ => none)
 | _ => none
theorem en63 : Enters Tryd.prog 63 := ⟨Tryd.f63, by kernel_rfl, by kernel_rfl, by kernel_rfl⟩
noncomputable def e63N : Entry Tryd.prog gl := entryW 63 en63 true get63 (fun x => isPoly x.1 ∧ memoOk x.1 x.2 ∧ P71.coverB x.1 = false) false (fun _ => P71.a63) (fun x => [cvO x.1, mmO x.2]) (fun _ => [nl]) (fun x => [cvO x.1, mmO (P71.coverM x.1 x.2)]) (fun x h => P71.call63N x.1 x.2 h.1 h.2.1 h.2.2)
noncomputable def e63O : Entry Tryd.prog gl := entryW 63 en63 true get63 (fun x => isPoly x.1 ∧ memoOk x.1 x.2 ∧ P71.coverB x.1 = true) false (fun _ => P71.a63) (fun x => [cvO x.1, mmO x.2]) (fun _ => [.own 2 0]) (fun x => [cvO x.1, mmO (P71.coverM x.1 x.2), pieO 0 (P71.coverL x.1)]) (fun x h => P71.call63O x.1 x.2 h.1 h.2.1 h.2.2)
noncomputable def e63n : Entry Tryd.prog gl := entryW 63 en63 true get63 (fun x => isPoly x.1 ∧ memoOk x.1 x.2 ∧ P64.coverB x.1 = false) false (fun _ => P64.a63) (fun x => [cvO x.1, mmO x.2]) (fun _ => [nl]) (fun x => [cvO x.1, mmO (P64.coverM x.1 x.2)]) (fun x h => P64.call63N x.1 x.2 h.1 h.2.1 h.2.2)
noncomputable def e63o : Entry Tryd.prog gl := entryW 63 en63 true get63 (fun x => isPoly x.1 ∧ memoOk x.1 x.2 ∧ P64.coverB x.1 = true) false (fun _ => P64.a63) (fun x => [cvO x.1, mmO x.2]) (fun _ => [.own 2 0]) (fun x => [cvO x.1, mmO (P64.coverM x.1 x.2), pieO 0 (P64.coverL x.1)]) (fun x h => P64.call63O x.1 x.2 h.1 h.2.1 h.2.2)
def posB (p : List Int) : Bool := decide (isPoly p) && P71.coverB p
def posK (p : List Int) : List PQ := if posB p then P71.coverL p else []
theorem errOf_pos {p : List Int} (h : ¬ errOf p = 0) : ¬ isPoly p := fun hp => h (by simp [errOf, hp])
theorem errOf_zero {p : List Int} (h : ¬¬ errOf p = 0) : isPoly p := by
 false_or_by_contra; rename_i hn; exact h (by simp [errOf, hn])
theorem call26 (p : List Int) (h : p.length < 1000000) : GCall Tryd.prog gl 26 false [.sl I64 p] [] [.bool (posB p), .sl Q2 (posK p), .int .i64 (errOf p)] [] := by
 have hlen : (P71.coverL p).length ≤ 64 := grL_len _ p 6 0 0
 by_cases hb : P71.coverB p = true
 · refine gcall_of (X := (Xd [e56, e62, e66, e63O] (drOf [(4, 1000000)]))) ((Xd_ok _ _)) (f := 26) (fn := Tryd.f26) (c := bodyOf Tryd.f26) (by kernel_rfl) (by kernel_rfl) (view := true) (rvs := [.tmp 2, .tmp 3, .tmp 4]) (by kernel_rfl) (H := fun _ => none) 80 (by kernel_rfl) ?_
   refine of_eq (q := True ∧ True ∧ True ∧ True ∧ (p.length + 1 ≤ 1000000 ∧ True) ∧ True ∧ True ∧ True ∧ (¬errOf p = 0 → True ∧ True ∧ True ∧ True ∧ True ∧ (false = posB p ∧ ([] : List (Int × Int)) = posK p ∧ errOf p = errOf p ∧ True) ∧ True) ∧ (¬¬errOf p = 0 → ((True ∧ ((True ∧ True) ∧ (True ∧ ((((isPoly p ∧ memoOk p [] ∧ P71.coverB p = true) ∧ (True ∧ ((0 : Int) = 0 ∧ (0 : Int) = 0 ∧ True) ∧ (True ∧ True) ∧ True) ∧ (p = p ∧ True ∧ True) ∧ ([] : List ((Int × Int) × List (Int × Int))) = [] ∧ True) ∧ True ∧ True ∧ True) ∧ (True ∧ (p = p ∧ false = false ∧ True ∧ (0 : Int) = 0 ∧ errOf p = errOf p ∧ True ∧ p = p ∧ errOf p = errOf p ∧ errOf p = errOf p ∧ false = false ∧ p = p ∧ True ∧ ((0 : Int) = 0 ∧ (0 : Int) = 0 ∧ True) ∧ True ∧ True) ∧ (p = p ∧ True ∧ True) ∧ P71.coverM p [] = P71.coverM p [] ∧ P71.coverL p = P71.coverL p ∧ True) ∧ True) ∧ True) ∧ True) ∧ (True ∧ ((True ∧ True) ∧ ((((isPoly p ∧ memoOk p [] ∧ P71.coverB p = true) ∧ (True ∧ ((0 : Int) = 0 ∧ (0 : Int) = 0 ∧ True) ∧ (True ∧ True) ∧ True) ∧ (p = p ∧ True ∧ True) ∧ ([] : List ((Int × Int) × List (Int × Int))) = [] ∧ True) ∧ True ∧ True ∧ True) ∧ (True ∧ (p = p ∧ false = false ∧ True ∧ (0 : Int) = 0 ∧ errOf p = errOf p ∧ True ∧ p = p ∧ errOf p = errOf p ∧ errOf p = errOf p ∧ false = false ∧ p = p ∧ True ∧ ((0 : Int) = 0 ∧ (0 : Int) = 0 ∧ True) ∧ True ∧ True) ∧ (p = p ∧ True ∧ True) ∧ P71.coverM p [] = P71.coverM p [] ∧ P71.coverL p = P71.coverL p ∧ True) ∧ True) ∧ True) ∧ True) ∧ True) ∧ (True ∧ (True ∧ ((True ∧ True) ∧ ((((isPoly p ∧ memoOk p [] ∧ P71.coverB p = true) ∧ (True ∧ ((0 : Int) = 0 ∧ (0 : Int) = 0 ∧ True) ∧ (True ∧ True) ∧ True) ∧ (p = p ∧ True ∧ True) ∧ ([] : List ((Int × Int) × List (Int × Int))) = [] ∧ True) ∧ True ∧ True ∧ True) ∧ (True ∧ (p = p ∧ false = false ∧ True ∧ (0 : Int) = 0 ∧ errOf p = errOf p ∧ True ∧ p = p ∧ errOf p = errOf p ∧ errOf p = errOf p ∧ false = false ∧ p = p ∧ True ∧ ((0 : Int) = 0 ∧ (0 : Int) = 0 ∧ True) ∧ True ∧ True) ∧ (p = p ∧ True ∧ True) ∧ P71.coverM p [] = P71.coverM p [] ∧ P71.coverL p = P71.coverL p ∧ True) ∧ True) ∧ True) ∧ True) ∧ True) ∧ True) ∧ True ∧ True ∧ True ∧ ((P71.coverL p).length + 1 ≤ 1000000 ∧ True) ∧ True ∧ True ∧ True ∧ True ∧ (true = posB p ∧ P71.coverL p = posK p ∧ (0 : Int) = errOf p ∧ True) ∧ True)) (by kernel_rfl) ?_
   simp only [true_and, and_true, false_and, and_false, or_false, false_or, exists_const, exists_false, rat_num_den, rat_int, Int.toNat_natCast]
   refine ⟨by omega, fun he => ?_, fun he => ?_⟩
   · have := errOf_pos he
     simp [posK, posB, this]
   · have hp := errOf_zero he
     exact ⟨⟨⟨⟨hp, memoOk_nil p, hb⟩, ⟨hp, memoOk_nil p, hb⟩⟩, ⟨hp, memoOk_nil p, hb⟩⟩, by omega, by simp [posB, hp, hb], by simp [posK, posB, hp, hb], by simp [errOf, hp]⟩
 · have hb : P71.coverB p = false := by simpa using hb
   refine gcall_of (X := (Xd [e56, e62, e66, e63N] (drOf [(4, 1000000)]))) ((Xd_ok _ _)) (f := 26) (fn := Tryd.f26) (c := bodyOf Tryd.f26) (by kernel_rfl) (by kernel_rfl) (view := true) (rvs := [.tmp 2, .tmp 3, .tmp 4]) (by kernel_rfl) (H := fun _ => none) 80 (by kernel_rfl) ?_
   refine of_eq (q := True ∧ True ∧ True ∧ True ∧ (p.length + 1 ≤ 1000000 ∧ True) ∧ True ∧ True ∧ True ∧ (¬errOf p = 0 → True ∧ True ∧ True ∧ True ∧ True ∧ (false = posB p ∧ ([] : List (Int × Int)) = posK p ∧ errOf p = errOf p ∧ True) ∧ True) ∧ (¬¬errOf p = 0 → ((True ∧ ((True ∧ True) ∧ (True ∧ ((((isPoly p ∧ memoOk p [] ∧ P71.coverB p = false) ∧ (True ∧ ((0 : Int) = 0 ∧ (0 : Int) = 0 ∧ True) ∧ (True ∧ True) ∧ True) ∧ (p = p ∧ True ∧ True) ∧ ([] : List ((Int × Int) × List (Int × Int))) = [] ∧ True) ∧ True ∧ True ∧ True) ∧ (True ∧ (p = p ∧ false = false ∧ True ∧ (0 : Int) = 0 ∧ errOf p = errOf p ∧ True ∧ p = p ∧ errOf p = errOf p ∧ errOf p = errOf p ∧ false = false ∧ p = p ∧ True ∧ ((0 : Int) = 0 ∧ (0 : Int) = 0 ∧ True) ∧ True ∧ True) ∧ (p = p ∧ True ∧ True) ∧ P71.coverM p [] = P71.coverM p [] ∧ True) ∧ True) ∧ True) ∧ True) ∧ (True ∧ ((True ∧ True) ∧ ((((isPoly p ∧ memoOk p [] ∧ P71.coverB p = false) ∧ (True ∧ ((0 : Int) = 0 ∧ (0 : Int) = 0 ∧ True) ∧ (True ∧ True) ∧ True) ∧ (p = p ∧ True ∧ True) ∧ ([] : List ((Int × Int) × List (Int × Int))) = [] ∧ True) ∧ True ∧ True ∧ True) ∧ (True ∧ (p = p ∧ false = false ∧ True ∧ (0 : Int) = 0 ∧ errOf p = errOf p ∧ True ∧ p = p ∧ errOf p = errOf p ∧ errOf p = errOf p ∧ false = false ∧ p = p ∧ True ∧ ((0 : Int) = 0 ∧ (0 : Int) = 0 ∧ True) ∧ True ∧ True) ∧ (p = p ∧ True ∧ True) ∧ P71.coverM p [] = P71.coverM p [] ∧ True) ∧ True) ∧ True) ∧ True) ∧ True) ∧ (True ∧ (True ∧ ((True ∧ True) ∧ ((((isPoly p ∧ memoOk p [] ∧ P71.coverB p = false) ∧ (True ∧ ((0 : Int) = 0 ∧ (0 : Int) = 0 ∧ True) ∧ (True ∧ True) ∧ True) ∧ (p = p ∧ True ∧ True) ∧ ([] : List ((Int × Int) × List (Int × Int))) = [] ∧ True) ∧ True ∧ True ∧ True) ∧ (True ∧ (p = p ∧ false = false ∧ True ∧ (0 : Int) = 0 ∧ errOf p = errOf p ∧ True ∧ p = p ∧ errOf p = errOf p ∧ errOf p = errOf p ∧ false = false ∧ p = p ∧ True ∧ ((0 : Int) = 0 ∧ (0 : Int) = 0 ∧ True) ∧ True ∧ True) ∧ (p = p ∧ True ∧ True) ∧ P71.coverM p [] = P71.coverM p [] ∧ True) ∧ True) ∧ True) ∧ True) ∧ True) ∧ True) ∧ True ∧ True ∧ True ∧ ((1 : Nat) ≤ 1000000 ∧ True) ∧ True ∧ True ∧ True ∧ True ∧ (false = posB p ∧ ([] : List (Int × Int)) = posK p ∧ (0 : Int) = errOf p ∧ True) ∧ True)) (by kernel_rfl) ?_
   simp only [true_and, and_true, false_and, and_false, or_false, false_or, exists_const, exists_false, rat_num_den, rat_int, Int.toNat_natCast]
   refine ⟨by omega, fun he => ?_, fun he => ?_⟩
   · have := errOf_pos he
     simp [posK, posB, this]
   · have hp := errOf_zero he
     exact ⟨⟨⟨⟨hp, memoOk_nil p, hb⟩, ⟨hp, memoOk_nil p, hb⟩⟩, ⟨hp, memoOk_nil p, hb⟩⟩, by omega, by simp [posB, hp, hb], by simp [posK, posB, hp, hb], by simp [errOf, hp]⟩
def e26 : Entry Tryd.prog gl := entry1 26 ⟨Tryd.f26, by kernel_rfl, by kernel_rfl, by kernel_rfl⟩ SI (fun p => p.length < 1000000) false (fun p => [.bool (posB p), .sl Q2 (posK p), .int .i64 (errOf p)]) (fun _ => []) (call26)
def ob68 (p : List Int) (m : Memo) : List Ob := [.bx (.ptr 1 0 []), cvB p 2, mmO m]
def cgz (p : List Int) (q : PQ) : Bool := decide (chg (qc p q.1.toNat q.2.toNat) = 0)
def cmq (p : List Int) (m : Memo) (q : PQ) : Memo := cm p q.1.toNat q.2.toNat m
theorem call68 (p : List Int) (m : Memo) (q : PQ) (h : pre69 7 p m q) : GCall Tryd.prog gl 68 false [ofD FR q, .ptr 0 0 []] (ob68 p m) [.bool (cgz p q)] (ob68 p (cmq p m q)) := by
 refine gcall_of (X := (Xm [e69, e65] 3 (fun _ => none))) ((Xm_ok _ _ _)) (f := 68) (fn := Tryd.f68) (c := bodyOf Tryd.f68) (by kernel_rfl) (by kernel_rfl) (view := false) (rvs := [.tmp 3]) (by kernel_rfl) (H := fun _ => none) 80 (by kernel_rfl) ?_
 refine of_eq (q := True ∧ True ∧ True ∧ True ∧ ((isPoly p ∧ isPiece (q.fst, q.snd) ∧ q.fst < 7 ∧ memoOk p m) ∧ True ∧ True ∧ True) ∧ ((qc p (Int.toNat q.fst) (Int.toNat q.snd)).length + 1 ≤ 1000000 ∧ True) ∧ True ∧ True ∧ True ∧ (decide ((↑(chg (qc p (Int.toNat q.fst) (Int.toNat q.snd))) : Int) = 0) = cgz p q ∧ True) ∧ True ∧ (p = p ∧ True ∧ True) ∧ cm p (Int.toNat q.fst) (Int.toNat q.snd) m = cmq p m q ∧ True) (by kernel_rfl) ?_
 simp only [true_and, and_true, false_and, and_false, or_false, false_or, exists_const, exists_false, rat_num_den, rat_int, Int.toNat_natCast]
 have hln := qc_length p q.1.toNat q.2.toNat
 have := h.1.2.1
 refine ⟨⟨h.1, h.2.1, h.2.2.1, h.2.2.2⟩, by omega, ?_, rfl⟩
 unfold cgz; simp
def get68 (xs : List AV) (obs : List Ob) : Option (PQ × List Int × Memo) :=
 match xs with
 | [x, _] => (match toD FR x, unCvB (obs.getD 1 .gone), unMm (obs.getD 2 .gone) with
   | some q, some p, some m => some (q, p, m)
   | _, _, _ => none)
 | _ => none
theorem en68 : Enters Tryd.prog 68 := ⟨Tryd.f68, by kernel_rfl, by kernel_rfl, by kernel_rfl⟩
def e68 : Entry Tryd.prog gl := entryW 68 en68 true get68 (fun x => pre69 7 x.2.1 x.2.2 x.1) false (fun x => [ofD FR x.1, .ptr 0 0 []]) (fun x => ob68 x.2.1 x.2.2) (fun x => [.bool (cgz x.2.1 x.1)]) (fun x => ob68 x.2.1 (cmq x.2.1 x.2.2 x.1)) (fun x h => call68 x.2.1 x.2.2 x.1 h)
/-- Pieces of a list, one after the other. -/
def cms (p : List Int) (l : List PQ) (m : Memo) : Memo := l.foldl (cmq p) m
def pcs (p : List Int) (l : List PQ) : Prop := isPoly p ∧ l.length < 1000000 ∧ ∀ q ∈ l, isPiece q
theorem cmq_ok {p : List Int} {m : Memo} {q : PQ} (hm : memoOk p m) : memoOk p (cmq p m q) := cm_ok hm
theorem cms_ok {p : List Int} : ∀ {l : List PQ} {m : Memo}, memoOk p m → memoOk p (cms p l m)
 | [], m, h => h
 | q :: l, m, h => cms_ok (l := l) (cmq_ok h)
theorem cms_snoc (p : List Int) (l : List PQ) (q : PQ) (m : Memo) : cms p (l ++ [q]) m = cmq p (cms p l m) q := by simp [cms, List.foldl_append]
def zIdx (p : List Int) (l : List PQ) : Nat := l.findIdx (cgz p)
def zIdxR (p : List Int) (l : List PQ) : Int := if ∃ q ∈ l, cgz p q = true then (zIdx p l : Int) else -1
def obD (v : Nat) (l : List PQ) (p : List Int) (m : Memo) : List Ob := [pieO v l, .bx (.ptr 2 0 []), cvB p 3, mmO m]
def clo68 : AV := .clo 68 [] [.ptr 1 0 []]
theorem find_b {f : PQ → Bool} {l : List PQ} {k : Nat} (hk : k < l.length) (h : ∀ x ∈ l.take k, f x = false) (hx : f (l.getD k (0, 0)) = true) : l.findIdx f = k := by
 induction l generalizing k with
 | nil => simp at hk
 | cons a l ih =>
   cases k with
   | zero => simp at hx; simp [List.findIdx_cons, hx]
   | succ k =>
     have ha : f a = false := h a (by simp)
     rw [List.findIdx_cons, ha]
     simp only [cond_false]
     rw [ih (by simpa using hk) (fun x hx => h x (by simp [hx])) (by simpa using hx)]
theorem find_none {f : PQ → Bool} : ∀ {l : List PQ}, (∀ x ∈ l, f x = false) → l.findIdx f = l.length
 | [], _ => rfl
 | a :: l, h => by
   rw [List.findIdx_cons, h a (by simp)]
   simp only [cond_false]
   rw [find_none fun x hx => h x (by simp [hx])]; try rfl
theorem take_memD {l : List PQ} {k : Nat} {P : PQ → Prop} (hk : k < l.length) (h : ∀ q ∈ l.take k, P q) (hx : P (l.getD k (0, 0))) : ∀ q ∈ l.take (k + 1), P q := by
 rw [take_getD (d := (0, 0)) hk]
 intro q hq
 simp only [List.mem_append, List.mem_singleton] at hq
 rcases hq with hq | hq
 · exact h q hq
 · rw [hq]; exact hx
noncomputable def L93_0 : Code := lp (bodyOf Tryd.f93) 0
def inv93 (p : List Int) (l : List PQ) (k : Nat) : Prop := k ≤ l.length ∧ ∀ q ∈ l.take k, cgz p q = false
def st93 (p : List Int) (l : List PQ) (m : Memo) (k : Nat) : St := ⟨.own 0 0 :: clo68 :: .dead :: .dead :: .dead :: .dead :: .dead :: .int .i64 l.length :: .int .i64 k :: dd 10, obD 0 l p (cms p (l.take k) m)⟩
def ex93 (p : List Int) (l : List PQ) (m : Memo) : List (List Nat × Ex) := [([], ⟨0, Unit, fun _ => ∀ q ∈ l, cgz p q = false, fun _ => ⟨dd 19, obD 0 l p (cms p l m)⟩⟩)]
noncomputable def H93 (p : List Int) (l : List PQ) (m : Memo) : Nat → Option Hint := fun _ => some ⟨chk 4 [0, 1, 7, 8] (inv93 p l) (st93 p l m), (ex93 p l m).map (·.2)⟩
theorem loop93 (p : List Int) (l : List PQ) (m : Memo) (hp : pcs p l) (hm : memoOk p m) : LoopOK (Xm [e68] 4 (fun _ => none)) L93_0 ⟨chk 4 [0, 1, 7, 8] (inv93 p l) (st93 p l m), (ex93 p l m).map (·.2)⟩
   (RetR (Xm [e68] 4 (fun _ => none)) false false [.tmp 4] [.int .i64 (zIdxR p l)] (obD 0 l p (cms p (l.take (zIdx p l + 1)) m))) := by
 refine loop_ok (Xm_ok _ _ _) (H := fun _ _ => none) [0, 1, 7, 8] (inv93 p l) (st93 p l m) (fun k => l.length - k) (ex93 p l m) 90 fun (k : Nat) hk => ?_
 refine of_eq (q := True ∧ ((k : Int) < (l.length : Int) → True ∧ True ∧ True ∧ True ∧ True ∧ idxPre (k : Int) l.length ∧ True ∧ ((pre69 (7 : Int) p (cms p (List.take k l) m) ((l.getD k (0, 0)).fst, (l.getD k (0, 0)).snd) ∧ (((l.getD k (0, 0)).fst = (l.getD k (0, 0)).fst ∧ (l.getD k (0, 0)).snd = (l.getD k (0, 0)).snd ∧ True) ∧ True ∧ True) ∧ True ∧ (p = p ∧ True ∧ True) ∧ cms p (List.take k l) m = cms p (List.take k l) m ∧ True) ∧ True ∧ True ∧ True ∧ True) ∧ (cgz p ((l.getD k (0, 0)).fst, (l.getD k (0, 0)).snd) = true → True ∧ True ∧ True ∧ ((k : Int) = zIdxR p l ∧ True) ∧ l = l ∧ True ∧ (p = p ∧ True ∧ True) ∧ cmq p (cms p (List.take k l) m) ((l.getD k (0, 0)).fst, (l.getD k (0, 0)).snd) = cms p (List.take (zIdx p l + 1) l) m ∧ True) ∧ (cgz p ((l.getD k (0, 0)).fst, (l.getD k (0, 0)).snd) = false → inR .i64 ((k : Int) + 1) ∧ True ∧ ∃ (y : Nat), (inv93 p l y ∧ l.length - y < l.length - k) ∧ (True ∧ (True ∧ True ∧ True) ∧ (l.length : Int) = (l.length : Int) ∧ (k : Int) + 1 = (y : Int) ∧ True) ∧ l = l ∧ True ∧ (p = p ∧ True ∧ True) ∧ cmq p (cms p (List.take k l) m) ((l.getD k (0, 0)).fst, (l.getD k (0, 0)).snd) = cms p (List.take y l) m ∧ True)) ∧ (¬(k : Int) < (l.length : Int) → ∃ (y : Unit), (∀ (q : PQ), q ∈ l → cgz p q = false) ∧ True ∧ l = l ∧ True ∧ (p = p ∧ True ∧ True) ∧ cms p (List.take k l) m = cms p l m ∧ True)) (by kernel_rfl) ?_
 simp only [true_and, and_true, false_and, and_false, or_false, false_or, exists_const, exists_false, rat_num_den, rat_int, Int.toNat_natCast]
 obtain ⟨h1, h2⟩ := hk
 have hz : ∀ k, k < l.length → l.getD k (0, 0) ∈ l := fun k hk => getD_mem hk
 refine ⟨fun hk => ?_, fun hk => ?_⟩
 · have hk : k < l.length := by omega
   have hmem := hz k hk
   have hpc := hp.2.2 _ hmem
   have hl := hp.2.1
   have e1 : ((l.getD k (0, 0)).1, (l.getD k (0, 0)).2) = l.getD k (0, 0) := rfl
   rw [e1]
   refine ⟨by unfold idxPre; omega, ⟨hp.1, hpc, by have := hpc.2.1; omega, cms_ok hm⟩, fun hx => ?_, fun hx => ⟨by simp only [inR]; omega, k + 1, ⟨⟨by omega, take_memD hk h2 hx⟩, by omega⟩, by omega, ?_⟩⟩
   · have hf := find_b hk h2 hx
     have : ∃ q ∈ l, cgz p q = true := ⟨_, hmem, hx⟩
     refine ⟨by unfold zIdxR; rw [if_pos this]; unfold zIdx; rw [hf], ?_⟩
     unfold zIdx
     rw [hf, take_getD (d := (0, 0)) hk, cms_snoc]
   · rw [take_getD (d := (0, 0)) hk, cms_snoc]
 · have : l.take k = l := List.take_of_length_le (by omega)
   rw [this] at h2
   rw [this]
   exact ⟨h2, rfl⟩
theorem call93 (p : List Int) (l : List PQ) (m : Memo) (hp : pcs p l) (hm : memoOk p m) : GCall Tryd.prog gl 93 false [.own 0 0, clo68] (obD 0 l p m) [.int .i64 (zIdxR p l)] (obD 0 l p (cms p (l.take (zIdx p l + 1)) m)) := by
 refine gcall_of (X := (Xm [e68] 4 (fun _ => none))) ((Xm_ok _ _ _)) (f := 93) (fn := Tryd.f93) (c := bodyOf Tryd.f93) (by kernel_rfl) (by kernel_rfl) (view := false) (rvs := [.tmp 4]) (by kernel_rfl) (H := (H93 p l m)) 80 (by kernel_rfl) ?_
 have hL := loop93 p l m hp hm
 refine of_eq (q := True ∧ True ∧ True ∧ True ∧ LoopOK (Xm [e68] (4 : Nat) fun (x : Nat) => none) L93_0 { J := chk (4 : Nat) [(0 : Nat), (1 : Nat), (7 : Nat), (8 : Nat)] (inv93 p l) (st93 p l m), exits := List.map (fun (x : List Nat × Ex) => x.snd) (ex93 p l m) } (RetR (Xm [e68] (4 : Nat) fun (x : Nat) => none) false false [ResultVar.tmp (4 : Tmp)] [AV.int .i64 (zIdxR p l)] (obD (0 : Nat) l p (cms p (List.take (zIdx p l + 1) l) m))) ∧ (∃ (y : Nat), inv93 p l y ∧ (True ∧ (True ∧ True ∧ True) ∧ (l.length : Int) = (l.length : Int) ∧ (0 : Int) = (y : Int) ∧ True) ∧ l = l ∧ True ∧ (p = p ∧ True ∧ True) ∧ m = cms p (List.take y l) m ∧ True) ∧ (∀ (y : Unit), (∀ (q : PQ), q ∈ l → cgz p q = false) → True ∧ True ∧ ((-1 : Int) = zIdxR p l ∧ True) ∧ l = l ∧ True ∧ (p = p ∧ True ∧ True) ∧ cms p l m = cms p (List.take (zIdx p l + 1) l) m ∧ True) ∧ True) (by kernel_rfl) ?_
 simp only [true_and, and_true, false_and, and_false, or_false, false_or, exists_const, exists_false, rat_num_den, rat_int, Int.toNat_natCast]
 refine ⟨hL, ⟨0, ⟨by omega, by simp⟩, rfl, rfl⟩, fun _ h => ⟨?_, ?_⟩⟩
 · unfold zIdxR; rw [if_neg]
   rintro ⟨q, h1, h2⟩
   rw [h q h1] at h2; cases h2
 · have : zIdx p l = l.length := find_none h
   rw [this, List.take_of_length_le (by omega)]
def get93 (xs : List AV) (obs : List Ob) : Option (List Int × List PQ × Memo) :=
 match unCvB (obs.getD 2 .gone), unPie (obs.getD 0 .gone), unMm (obs.getD 3 .gone) with
 | some p, some l, some m => some (p, l, m)
 | _, _, _ => none
theorem en93 : Enters Tryd.prog 93 := ⟨Tryd.f93, by kernel_rfl, by kernel_rfl, by kernel_rfl⟩
def e93 : Entry Tryd.prog gl := entryW 93 en93 true get93 (fun x => pcs x.1 x.2.1 ∧ memoOk x.1 x.2.2) false (fun _ => [.own 0 0, clo68]) (fun x => obD 0 x.2.1 x.1 x.2.2) (fun x => [.int .i64 (zIdxR x.1 x.2.1)]) (fun x => obD 0 x.2.1 x.1 (cms x.1 (x.2.1.take (zIdx x.1 x.2.1 + 1)) x.2.2)) (fun x h => call93 x.1 x.2.1 x.2.2 h.1 h.2)
def keep (p : List Int) (l : List PQ) : List PQ := l.filter fun q => !cgz p q
/-- What the list holds when its first j have been looked at. -/
def mid67 (p : List Int) (l : List PQ) (j : Nat) : List PQ := keep p (l.take j) ++ l.drop (keep p (l.take j)).length
def nz67 (p : List Int) (l : List PQ) : List PQ := keep p l ++ List.replicate (l.length - (keep p l).length) (0, 0)
theorem keep_le (p : List Int) (l : List PQ) (j : Nat) : (keep p (l.take j)).length ≤ j ∧ (keep p (l.take j)).length ≤ l.length := by
 have h1 : (keep p (l.take j)).length ≤ (l.take j).length := List.length_filter_le ..
 rw [List.length_take] at h1
 omega
theorem mid_length (p : List Int) (l : List PQ) (j : Nat) : (mid67 p l j).length = l.length := by
 have := keep_le p l j
 unfold mid67; rw [List.length_append, List.length_drop]; omega
theorem mid_getD (p : List Int) (l : List PQ) {j : Nat} : (mid67 p l j).getD j (0, 0) = l.getD j (0, 0) := by
 have := keep_le p l j
 unfold mid67
 simp only [List.getD_eq_getElem?_getD]
 rw [List.getElem?_append_right (by omega), List.getElem?_drop, show (keep p (l.take j)).length + (j - (keep p (l.take j)).length) = j by omega]
theorem keep_next (p : List Int) {l : List PQ} {j : Nat} (hj : j < l.length) : keep p (l.take (j + 1)) = if cgz p (l.getD j (0, 0)) then keep p (l.take j) else keep p (l.take j) ++ [l.getD j (0, 0)] := by
 rw [take_getD (d := (0, 0)) hj]
 unfold keep
 rw [List.filter_append]
 cases h : cgz p (l.getD j (0, 0)) with
 | true => rw [if_pos rfl, List.filter_cons]; simp only [h, Bool.not_true, Bool.false_eq_true, if_false, List.filter_nil, List.append_nil]
 | false => rw [if_neg (by simp), List.filter_cons]; simp only [h, Bool.not_false, if_true, List.filter_nil]
theorem mid_set (p : List Int) {l : List PQ} {j : Nat} (hj : j < l.length) (h : cgz p (l.getD j (0, 0)) = false) : (mid67 p l j).set (keep p (l.take j)).length (l.getD j (0, 0)) = mid67 p l (j + 1) := by
 have hle := keep_le p l j
 have hk := keep_next p hj
 rw [if_neg (by rw [h]; simp)] at hk
 unfold mid67
 rw [hk]
 rw [List.set_append_right _ _ (Nat.le_refl _), Nat.sub_self, List.length_append, List.append_assoc]
 congr 1
 have : l.drop (keep p (l.take j)).length = l.getD (keep p (l.take j)).length (0, 0) :: l.drop ((keep p (l.take j)).length + 1) := by
   rw [List.drop_eq_getElem_cons (by omega)]
   congr 1
   simp [List.getD_eq_getElem?_getD, show (keep p (l.take j)).length < l.length by omega]
 rw [this]
 rfl
theorem z_facts {p : List Int} {l : List PQ} (h : ∃ q ∈ l, cgz p q = true) : zIdx p l < l.length ∧ cgz p (l.getD (zIdx p l) (0, 0)) = true ∧ ∀ q ∈ l.take (zIdx p l), cgz p q = false := by
 have h1 : zIdx p l < l.length := List.findIdx_lt_length_of_exists h
 refine ⟨h1, ?_, fun q hq => ?_⟩
 · have := List.findIdx_getElem (w := h1)
   rw [List.getD_eq_getElem?_getD, List.getElem?_eq_getElem h1]
   exact this
 · obtain ⟨i, hi, rfl⟩ := List.getElem_of_mem hq
   rw [List.length_take] at hi
   rw [List.getElem_take]
   have hlt : i < l.findIdx (cgz p) := by
     have : i < zIdx p l := by omega
     exact this
   have := List.not_of_lt_findIdx hlt
   simpa using this
theorem keep_all (p : List Int) : ∀ {l : List PQ}, (∀ q ∈ l, cgz p q = false) → keep p l = l
 | [], _ => rfl
 | q :: l, h => by
   unfold keep
   rw [List.filter_cons, h q (by simp)]
   simp only [Bool.not_false, if_true]
   congr 1
   exact keep_all p fun q hq => h q (by simp [hq])
theorem call67a (p : List Int) (l : List PQ) (m : Memo) (hp : pcs p l) (hm : memoOk p m) (hz : ∀ q ∈ l, cgz p q = false) : GCall Tryd.prog gl 67 false [.own 0 0, clo68] (obD 0 l p m) [.own 0 0] (obD 0 l p (cms p l m)) := by
 refine gcall_of (X := (Xm [e93, e68] 4 (fun _ => none))) ((Xm_ok _ _ _)) (f := 67) (fn := Tryd.f67) (c := bodyOf Tryd.f67) (by kernel_rfl) (by kernel_rfl) (view := false) (rvs := [.tmp 4]) (by kernel_rfl) (H := fun _ => none) 80 (by kernel_rfl) ?_
 refine of_eq (q := True ∧ True ∧ True ∧ (((pcs p l ∧ memoOk p m) ∧ (True ∧ (True ∧ True ∧ True) ∧ True) ∧ l = l ∧ True ∧ (p = p ∧ True ∧ True) ∧ m = m ∧ True) ∧ l.length = l.length ∧ True ∧ True ∧ True ∧ True) ∧ True ∧ True ∧ True ∧ (zIdxR p l = (-1 : Int) → True ∧ True ∧ True ∧ (True ∧ True) ∧ l = l ∧ True ∧ (p = p ∧ True ∧ True) ∧ cms p (List.take (zIdx p l + 1) l) m = cms p l m ∧ True) ∧ (¬zIdxR p l = (-1 : Int) → True ∧ inR .i64 (zIdxR p l + 1) ∧ True ∧ False)) (by kernel_rfl) ?_
 simp only [true_and, and_true, false_and, and_false, or_false, false_or, exists_const, exists_false, rat_num_den, rat_int, Int.toNat_natCast]
 have h1 : zIdx p l = l.length := find_none hz
 refine ⟨⟨hp, hm⟩, fun _ => by rw [h1, List.take_of_length_le (by omega)], fun h => h ?_⟩
 unfold zIdxR; rw [if_neg]
 rintro ⟨q, h1, h2⟩
 rw [hz q h1] at h2; cases h2
noncomputable def L67_0 : Code := lp (bodyOf Tryd.f67) 0
def inv67 (p : List Int) (l : List PQ) (j : Nat) : Prop := zIdx p l + 1 ≤ j ∧ j ≤ l.length
def st67 (p : List Int) (l : List PQ) (m : Memo) (j : Nat) : St := ⟨.own 0 0 :: clo68 :: .dead :: .dead :: .dead :: .int .i64 (keep p (l.take j)).length :: .int .i64 j :: dd 35, obD 0 (mid67 p l j) p (cms p (l.take j) m)⟩
def ex67 (p : List Int) (l : List PQ) (m : Memo) : List (List Nat × Ex) := [([0, 1, 5], ⟨0, Unit, fun _ => True, fun _ => ⟨.own 0 0 :: clo68 :: .dead :: .dead :: .dead :: .int .i64 (keep p l).length :: dd 36, obD 0 (mid67 p l l.length) p (cms p l m)⟩⟩)]
noncomputable def H67 (p : List Int) (l : List PQ) (m : Memo) : Nat → Option Hint := fun _ => some ⟨chk 4 [0, 1, 5, 6] (inv67 p l) (st67 p l m), (ex67 p l m).map (·.2)⟩
theorem loop67 (p : List Int) (l : List PQ) (m : Memo) (hp : pcs p l) (hm : memoOk p m) (R : Exit → St → Prop) : LoopOK (Xm [e93, e68] 4 (fun _ => none)) L67_0 ⟨chk 4 [0, 1, 5, 6] (inv67 p l) (st67 p l m), (ex67 p l m).map (·.2)⟩ R := by
 refine loop_ok (Xm_ok _ _ _) (H := fun _ _ => none) [0, 1, 5, 6] (inv67 p l) (st67 p l m) (fun k => l.length - k) (ex67 p l m) 90 fun (j : Nat) hk => ?_
 refine of_eq (q := True ∧ True ∧ True ∧ True ∧ ((j : Int) < (↑(mid67 p l j).length : Int) → True ∧ True ∧ idxPre (j : Int) (mid67 p l j).length ∧ True ∧ True ∧ True ∧ True ∧ True ∧ ((pre69 (7 : Int) p (cms p (List.take j l) m) (((mid67 p l j).getD j (0, 0)).fst, ((mid67 p l j).getD j (0, 0)).snd) ∧ ((((mid67 p l j).getD j (0, 0)).fst = ((mid67 p l j).getD j (0, 0)).fst ∧ ((mid67 p l j).getD j (0, 0)).snd = ((mid67 p l j).getD j (0, 0)).snd ∧ True) ∧ True ∧ True) ∧ True ∧ (p = p ∧ True ∧ True) ∧ cms p (List.take j l) m = cms p (List.take j l) m ∧ True) ∧ True ∧ True ∧ True ∧ True) ∧ True ∧ ((!cgz p (((mid67 p l j).getD j (0, 0)).fst, ((mid67 p l j).getD j (0, 0)).snd)) = true → True ∧ True ∧ True ∧ idxPre (↑(keep p (List.take j l)).length : Int) (mid67 p l j).length ∧ True ∧ True ∧ inR .i64 ((↑(keep p (List.take j l)).length : Int) + 1) ∧ True ∧ True ∧ inR .i64 ((j : Int) + 1) ∧ True ∧ ∃ (y : Nat), (inv67 p l y ∧ l.length - y < l.length - j) ∧ (True ∧ (True ∧ True ∧ True) ∧ (↑(keep p (List.take j l)).length : Int) + 1 = (↑(keep p (List.take y l)).length : Int) ∧ (j : Int) + 1 = (y : Int) ∧ True) ∧ (mid67 p l j).set (keep p (List.take j l)).length (((mid67 p l j).getD j (0, 0)).fst, ((mid67 p l j).getD j (0, 0)).snd) = mid67 p l y ∧ True ∧ (p = p ∧ True ∧ True) ∧ cmq p (cms p (List.take j l) m) (((mid67 p l j).getD j (0, 0)).fst, ((mid67 p l j).getD j (0, 0)).snd) = cms p (List.take y l) m ∧ True) ∧ ((!cgz p (((mid67 p l j).getD j (0, 0)).fst, ((mid67 p l j).getD j (0, 0)).snd)) = false → True ∧ inR .i64 ((j : Int) + 1) ∧ True ∧ ∃ (y : Nat), (inv67 p l y ∧ l.length - y < l.length - j) ∧ (True ∧ (True ∧ True ∧ True) ∧ (↑(keep p (List.take j l)).length : Int) = (↑(keep p (List.take y l)).length : Int) ∧ (j : Int) + 1 = (y : Int) ∧ True) ∧ mid67 p l j = mid67 p l y ∧ True ∧ (p = p ∧ True ∧ True) ∧ cmq p (cms p (List.take j l) m) (((mid67 p l j).getD j (0, 0)).fst, ((mid67 p l j).getD j (0, 0)).snd) = cms p (List.take y l) m ∧ True)) ∧ (¬(j : Int) < (↑(mid67 p l j).length : Int) → ∃ (y : Unit), True ∧ (True ∧ (True ∧ True ∧ True) ∧ (↑(keep p (List.take j l)).length : Int) = (↑(keep p l).length : Int) ∧ True) ∧ mid67 p l j = mid67 p l l.length ∧ True ∧ (p = p ∧ True ∧ True) ∧ cms p (List.take j l) m = cms p l m ∧ True)) (by kernel_rfl) ?_
 simp only [true_and, and_true, false_and, and_false, or_false, false_or, exists_const, exists_false, rat_num_den, rat_int, Int.toNat_natCast]
 obtain ⟨h1, h2⟩ := hk
 have hle := keep_le p l j
 have hl := hp.2.1
 rw [mid_length, mid_getD]
 have e1 : ((l.getD j (0, 0)).1, (l.getD j (0, 0)).2) = l.getD j (0, 0) := rfl
 rw [e1]
 refine ⟨fun hj => ?_, fun hj => ?_⟩
 · have hj : j < l.length := by omega
   have hpc := hp.2.2 _ (getD_mem (d := (0, 0)) hj)
   have hn := keep_next p hj
   have hc : cmq p (cms p (l.take j) m) (l.getD j (0, 0)) = cms p (l.take (j + 1)) m := by rw [take_getD (d := (0, 0)) hj, cms_snoc]
   refine ⟨by unfold idxPre; omega, ⟨hp.1, hpc, by have := hpc.2.1; omega, cms_ok hm⟩, fun hx => ?_, fun hx => ?_⟩
   · have hx : cgz p (l.getD j (0, 0)) = false := by simpa using hx
     rw [if_neg (by rw [hx]; simp)] at hn
     refine ⟨by unfold idxPre; omega, by simp only [inR]; omega, by simp only [inR]; omega, j + 1, ⟨⟨by omega, by omega⟩, by omega⟩, ⟨by rw [hn]; simp, by omega⟩, mid_set p hj hx, hc⟩
   · have hx : cgz p (l.getD j (0, 0)) = true := by simpa using hx
     rw [if_pos hx] at hn
     refine ⟨by simp only [inR]; omega, j + 1, ⟨⟨by omega, by omega⟩, by omega⟩, ⟨by rw [hn], by omega⟩, by unfold mid67; rw [hn], hc⟩
 · have e : j = l.length := by omega
   subst e
   rw [List.take_length]
   exact ⟨rfl, rfl, rfl⟩
theorem call67b (p : List Int) (l : List PQ) (m : Memo) (hp : pcs p l) (hm : memoOk p m) (hz : ∃ q ∈ l, cgz p q = true) : GCall Tryd.prog gl 67 false [.own 0 0, clo68] (obD 0 l p m) [.sub 0 0 [] 0 (keep p l).length] (obD 0 (nz67 p l) p (cms p l m)) := by
 refine gcall_of (X := (Xm [e93, e68] 4 (fun _ => none))) ((Xm_ok _ _ _)) (f := 67) (fn := Tryd.f67) (c := bodyOf Tryd.f67) (by kernel_rfl) (by kernel_rfl) (view := false) (rvs := [.tmp 4]) (by kernel_rfl) (H := (H67 p l m)) 80 (by kernel_rfl) ?_
 have hL := loop67 p l m hp hm
 refine of_eq (q := True ∧ True ∧ True ∧ (((pcs p l ∧ memoOk p m) ∧ (True ∧ (True ∧ True ∧ True) ∧ True) ∧ l = l ∧ True ∧ (p = p ∧ True ∧ True) ∧ m = m ∧ True) ∧ l.length = l.length ∧ True ∧ True ∧ True ∧ True) ∧ True ∧ True ∧ True ∧ (zIdxR p l = (-1 : Int) → True ∧ True ∧ True ∧ (False ∧ True) ∧ l = nz67 p l ∧ True ∧ (p = p ∧ True ∧ True) ∧ cms p (List.take (zIdx p l + 1) l) m = cms p l m ∧ True) ∧ (¬zIdxR p l = (-1 : Int) → True ∧ inR .i64 (zIdxR p l + 1) ∧ True ∧ LoopOK (Xm [e93, e68] (4 : Nat) fun (x : Nat) => none) L67_0 { J := chk (4 : Nat) [(0 : Nat), (1 : Nat), (5 : Nat), (6 : Nat)] (inv67 p l) (st67 p l m), exits := List.map (fun (x : List Nat × Ex) => x.snd) (ex67 p l m) } (RetR (Xm [e93, e68] (4 : Nat) fun (x : Nat) => none) false false [ResultVar.tmp (4 : Tmp)] [AV.sub (0 : Nat) (0 : Nat) [] (0 : Nat) (keep p l).length] (obD (0 : Nat) (nz67 p l) p (cms p l m))) ∧ (∃ (y : Nat), inv67 p l y ∧ (True ∧ (True ∧ True ∧ True) ∧ zIdxR p l = (↑(keep p (List.take y l)).length : Int) ∧ zIdxR p l + 1 = (y : Int) ∧ True) ∧ l = mid67 p l y ∧ True ∧ (p = p ∧ True ∧ True) ∧ cms p (List.take (zIdx p l + 1) l) m = cms p (List.take y l) m ∧ True) ∧ (∀ (y : Unit), True → True ∧ True ∧ slPre (mid67 p l l.length).length (mid67 p l l.length).length (some (↑(keep p l).length : Int)) none none ∧ True ∧ True ∧ True ∧ slPre (List.take (bLo (some (↑(keep p l).length : Int))) (mid67 p l l.length) ++ (List.take (bHi (mid67 p l l.length).length none - bLo (some (↑(keep p l).length : Int))) (List.replicate (bHi (mid67 p l l.length).length none - bLo (some (↑(keep p l).length : Int))) ((Ty.int .i64).s2 (Ty.int .i64)).dflt) ++ List.drop (bLo (some (↑(keep p l).length : Int)) + (bHi (mid67 p l l.length).length none - bLo (some (↑(keep p l).length : Int)))) (mid67 p l l.length))).length (List.take (bLo (some (↑(keep p l).length : Int))) (mid67 p l l.length) ++ (List.take (bHi (mid67 p l l.length).length none - bLo (some (↑(keep p l).length : Int))) (List.replicate (bHi (mid67 p l l.length).length none - bLo (some (↑(keep p l).length : Int))) ((Ty.int .i64).s2 (Ty.int .i64)).dflt) ++ List.drop (bLo (some (↑(keep p l).length : Int)) + (bHi (mid67 p l l.length).length none - bLo (some (↑(keep p l).length : Int)))) (mid67 p l l.length))).length none (some (↑(keep p l).length : Int)) none ∧ True ∧ True ∧ ((bLo none = 0 ∧ bHi (List.take (bLo (some (↑(keep p l).length : Int))) (mid67 p l l.length) ++ (List.take (bHi (mid67 p l l.length).length none - bLo (some (↑(keep p l).length : Int))) (List.replicate (bHi (mid67 p l l.length).length none - bLo (some (↑(keep p l).length : Int))) ((Ty.int .i64).s2 (Ty.int .i64)).dflt) ++ List.drop (bLo (some (↑(keep p l).length : Int)) + (bHi (mid67 p l l.length).length none - bLo (some (↑(keep p l).length : Int)))) (mid67 p l l.length))).length (some (↑(keep p l).length : Int)) - bLo none = (keep p l).length) ∧ True) ∧ List.take (bLo (some (↑(keep p l).length : Int))) (mid67 p l l.length) ++ (List.take (bHi (mid67 p l l.length).length none - bLo (some (↑(keep p l).length : Int))) (List.replicate (bHi (mid67 p l l.length).length none - bLo (some (↑(keep p l).length : Int))) ((Ty.int .i64).s2 (Ty.int .i64)).dflt) ++ List.drop (bLo (some (↑(keep p l).length : Int)) + (bHi (mid67 p l l.length).length none - bLo (some (↑(keep p l).length : Int)))) (mid67 p l l.length)) = nz67 p l ∧ True ∧ (p = p ∧ True ∧ True) ∧ cms p l m = cms p l m ∧ True) ∧ True)) (by kernel_rfl) ?_
 simp only [true_and, and_true, false_and, and_false, or_false, false_or, exists_const, exists_false, rat_num_den, rat_int, Int.toNat_natCast]
 obtain ⟨z1, z2, z3⟩ := z_facts hz
 have hl := hp.2.1
 have hR : zIdxR p l = (zIdx p l : Int) := by unfold zIdxR; rw [if_pos hz]
 have hk0 : keep p (l.take (zIdx p l + 1)) = l.take (zIdx p l) := by
   rw [keep_next p z1, if_pos z2, keep_all p z3]
 have hkl : (keep p l).length ≤ l.length := List.length_filter_le ..
 have hml := mid_length p l l.length
 rw [hR]
 refine ⟨⟨hp, hm⟩, fun h => by omega, fun _ => ⟨by simp only [inR]; omega, hL _, ⟨zIdx p l + 1, ⟨Nat.le_refl _, z1⟩, ⟨by rw [hk0, List.length_take]; omega, by omega⟩, ?_, rfl⟩, fun _ => ?_⟩⟩
 · unfold mid67
   rw [hk0, List.length_take, show min (zIdx p l) l.length = zIdx p l by omega, List.take_append_drop]
 · rw [hml]
   have e0 : bLo (some ((keep p l).length : Int)) = (keep p l).length := by simp [bLo]
   have e1 : bHi l.length none = l.length := rfl
   have e2 : bHi l.length (some ((keep p l).length : Int)) = (keep p l).length := by simp [bHi]
   have e3 : bLo none = 0 := rfl
   rw [e0, e1]
   have e4 : mid67 p l l.length = keep p l ++ l.drop (keep p l).length := by unfold mid67; rw [List.take_length]
   have e5 : List.take (keep p l).length (mid67 p l l.length) ++ (List.take (l.length - (keep p l).length) (List.replicate (l.length - (keep p l).length) ((Ty.int IntKind.i64).s2 (Ty.int IntKind.i64)).dflt) ++ List.drop ((keep p l).length + (l.length - (keep p l).length)) (mid67 p l l.length)) = nz67 p l := by
     rw [e4, List.take_left, List.take_of_length_le (by simp), List.drop_eq_nil_of_le (by simp)]
     simp [nz67, Ty.dflt]
   rw [e5]
   have e6 : (nz67 p l).length = l.length := by unfold nz67; simp; omega
   rw [e6, e2, e3]
   exact fun _ => ⟨by simp only [slPre]; simp [bLo, bHi]; omega, by simp only [slPre]; simp [bLo, bHi]; omega, by omega, rfl⟩
end Go.Am.Bern

/- Bern: Roots, Count. -/
namespace Go.Am.Bern
open Go Go.Am Go.Proofs
theorem grL_piece (gd : List PQ → Bool) (p : List Int) : ∀ (n d k : Nat), d + n = 6 → k < 2 ^ d → ∀ q ∈ grL gd p n d k, isPiece q := by
 have one : ∀ d k : Nat, d ≤ 6 → k < 2 ^ d → isPiece ((d : Int), (k : Int)) := fun d k hd hk => by
   unfold isPiece
   have e : ((2 ^ d : Nat) : Int) = 2 ^ d := by rw [Int.natCast_pow]; try rfl
   simp only [Int.toNat_natCast]
   rw [← e]
   omega
 intro n
 induction n with
 | zero =>
   intro d k hd hk q hq
   unfold grL at hq
   split at hq
   · simp at hq; subst hq; exact one d k (by omega) hk
   · simp at hq
 | succ n ih =>
   intro d k hd hk q hq
   rw [grL_succ] at hq
   have hp : 2 ^ (d + 1) = 2 * 2 ^ d := by rw [Nat.pow_succ]; omega
   split at hq
   · simp at hq; subst hq; exact one d k (by omega) hk
   · unfold hvL at hq
     split at hq
     · rcases List.mem_append.mp hq with hq | hq
       · exact ih (d + 1) (2 * k) (by omega) (by omega) q hq
       · exact ih (d + 1) (2 * k + 1) (by omega) (by omega) q hq
     · exact ih (d + 1) (2 * k) (by omega) (by omega) q hq
theorem en67 : Enters Tryd.prog 67 := ⟨Tryd.f67, by kernel_rfl, by kernel_rfl, by kernel_rfl⟩
def e67a : Entry Tryd.prog gl := entryW 67 en67 true get93 (fun x => pcs x.1 x.2.1 ∧ memoOk x.1 x.2.2 ∧ ∀ q ∈ x.2.1, cgz x.1 q = false) false (fun _ => [.own 0 0, clo68]) (fun x => obD 0 x.2.1 x.1 x.2.2) (fun _ => [.own 0 0]) (fun x => obD 0 x.2.1 x.1 (cms x.1 x.2.1 x.2.2)) (fun x h => call67a x.1 x.2.1 x.2.2 h.1 h.2.1 h.2.2)
def e67b : Entry Tryd.prog gl := entryW 67 en67 true get93 (fun x => pcs x.1 x.2.1 ∧ memoOk x.1 x.2.2 ∧ ∃ q ∈ x.2.1, cgz x.1 q = true) false (fun _ => [.own 0 0, clo68]) (fun x => obD 0 x.2.1 x.1 x.2.2) (fun x => [.sub 0 0 [] 0 (keep x.1 x.2.1).length]) (fun x => obD 0 (nz67 x.1 x.2.1) x.1 (cms x.1 x.2.1 x.2.2)) (fun x h => call67b x.1 x.2.1 x.2.2 h.1 h.2.1 h.2.2)
def rootsB (p : List Int) : Prop := isPoly p ∧ plainP p ∧ P64.coverB p = true
instance (p : List Int) : Decidable (rootsB p) := inferInstanceAs (Decidable (_ ∧ _))
def rootsP (p : List Int) : List PQ := if rootsB p then keep p (P64.coverL p) else []
def rootsE (p : List Int) : Int := if isPoly p then (if plainP p then (if P64.coverB p = true then 0 else 8) else 4) else 80
theorem cover_pcs {p : List Int} (hp : isPoly p) : pcs p (P64.coverL p) := by
 have hlen : (P64.coverL p).length ≤ 64 := grL_len _ p 6 0 0
 exact ⟨hp, by omega, grL_piece _ p 6 0 0 (by omega) (by omega)⟩
theorem call20 (p : List Int) (h : p.length < 1000000) : GCall Tryd.prog gl 20 false [.sl I64 p] [] [.sl Q2 (rootsP p), .int .i64 (rootsE p)] [] := by
 have hlen : (P64.coverL p).length ≤ 64 := grL_len _ p 6 0 0
 have r1 : ¬ isPoly p → rootsP p = [] ∧ rootsE p = errOf p := fun h => by simp [rootsP, rootsB, rootsE, errOf, h]
 have r2 : ¬ plainP p → isPoly p → rootsP p = [] ∧ rootsE p = 4 := fun h hp => by simp [rootsP, rootsB, rootsE, hp, h]
 by_cases hb : P64.coverB p = true
 · have r3 : isPoly p → plainP p → rootsP p = keep p (P64.coverL p) ∧ rootsE p = 0 := fun hp h => by simp [rootsP, rootsB, rootsE, hp, h, hb]
   by_cases hz : ∃ q ∈ P64.coverL p, cgz p q = true
   · refine gcall_of (X := (X [e56, e61, e62, e66, e63o, e67b])) ((X_ok _)) (f := 20) (fn := Tryd.f20) (c := bodyOf Tryd.f20) (by kernel_rfl) (by kernel_rfl) (view := true) (rvs := [.tmp 2, .tmp 3]) (by kernel_rfl) (H := fun _ => none) 80 (by kernel_rfl) ?_
     refine of_eq (q := True ∧ True ∧ True ∧ (p.length + 1 ≤ 1000000 ∧ True) ∧ True ∧ True ∧ True ∧ (¬errOf p = 0 → True ∧ True ∧ True ∧ True ∧ (([] : List (Int × Int)) = rootsP p ∧ errOf p = rootsE p ∧ True) ∧ True) ∧ (¬¬errOf p = 0 → True ∧ (((1 : Nat) ≤ p.length ∧ p.length ≤ 7 ∧ coefs p) ∧ True) ∧ True ∧ ((!decide (plainP p)) = true → True ∧ True ∧ True ∧ (([] : List (Int × Int)) = rootsP p ∧ (4 : Int) = rootsE p ∧ True) ∧ True) ∧ ((!decide (plainP p)) = false → True ∧ (True ∧ True) ∧ True ∧ True ∧ True ∧ True ∧ (((isPoly p ∧ memoOk p [] ∧ P64.coverB p = true) ∧ (True ∧ ((0 : Int) = 0 ∧ (0 : Int) = 0 ∧ True) ∧ (True ∧ True) ∧ True) ∧ (p = p ∧ True ∧ True) ∧ ([] : List ((Int × Int) × List (Int × Int))) = [] ∧ True) ∧ True ∧ True ∧ True) ∧ True ∧ True ∧ True ∧ True ∧ True ∧ (((pcs p (P64.coverL p) ∧ memoOk p (P64.coverM p []) ∧ ∃ (q : PQ), q ∈ P64.coverL p ∧ cgz p q = true) ∧ (True ∧ (True ∧ True ∧ True) ∧ True) ∧ P64.coverL p = P64.coverL p ∧ True ∧ (p = p ∧ True ∧ True) ∧ P64.coverM p [] = P64.coverM p [] ∧ True) ∧ (nz67 p (P64.coverL p)).length = (P64.coverL p).length ∧ True ∧ True ∧ True ∧ True) ∧ ((List.take (keep p (P64.coverL p)).length (List.drop (0 : Nat) (nz67 p (P64.coverL p)))).length + 1 ≤ 1000000 ∧ True) ∧ True ∧ True ∧ True ∧ (List.take (keep p (P64.coverL p)).length (List.drop (0 : Nat) (nz67 p (P64.coverL p))) = rootsP p ∧ (0 : Int) = rootsE p ∧ True) ∧ True))) (by kernel_rfl) ?_
     simp only [true_and, and_true, false_and, and_false, or_false, false_or, exists_const, exists_false, rat_num_den, rat_int, Int.toNat_natCast]
     refine ⟨by omega, fun he => ?_, fun he => ?_⟩
     · obtain ⟨e1, e2⟩ := r1 (errOf_pos he)
       exact ⟨e1.symm, e2.symm⟩
     · have hp := errOf_zero he
       refine ⟨hp, fun hx => ?_, fun hx => ?_⟩
       · have hx : ¬ plainP p := by simpa using hx
         obtain ⟨e1, e2⟩ := r2 hx hp
         exact ⟨e1.symm, e2.symm⟩
       · have hx : plainP p := by simpa using hx
         obtain ⟨e1, e2⟩ := r3 hp hx
         have hnz : (nz67 p (P64.coverL p)).length = (P64.coverL p).length := by
           have : (keep p (P64.coverL p)).length ≤ (P64.coverL p).length := List.length_filter_le ..
           unfold nz67; simp; omega
         have htk : List.take (keep p (P64.coverL p)).length (List.drop 0 (nz67 p (P64.coverL p))) = keep p (P64.coverL p) := by
           unfold nz67; rw [List.drop_zero, List.take_left]
         have hkl : (keep p (P64.coverL p)).length ≤ (P64.coverL p).length := List.length_filter_le ..
         rw [htk]
         exact ⟨⟨hp, memoOk_nil p, hb⟩, ⟨⟨cover_pcs hp, grM_ok _ p (memoOk_nil p), hz⟩, hnz⟩, by omega, e1.symm, e2.symm⟩
   · refine gcall_of (X := (X [e56, e61, e62, e66, e63o, e67a])) ((X_ok _)) (f := 20) (fn := Tryd.f20) (c := bodyOf Tryd.f20) (by kernel_rfl) (by kernel_rfl) (view := true) (rvs := [.tmp 2, .tmp 3]) (by kernel_rfl) (H := fun _ => none) 80 (by kernel_rfl) ?_
     refine of_eq (q := True ∧ True ∧ True ∧ (p.length + 1 ≤ 1000000 ∧ True) ∧ True ∧ True ∧ True ∧ (¬errOf p = 0 → True ∧ True ∧ True ∧ True ∧ (([] : List (Int × Int)) = rootsP p ∧ errOf p = rootsE p ∧ True) ∧ True) ∧ (¬¬errOf p = 0 → True ∧ (((1 : Nat) ≤ p.length ∧ p.length ≤ 7 ∧ coefs p) ∧ True) ∧ True ∧ ((!decide (plainP p)) = true → True ∧ True ∧ True ∧ (([] : List (Int × Int)) = rootsP p ∧ (4 : Int) = rootsE p ∧ True) ∧ True) ∧ ((!decide (plainP p)) = false → True ∧ (True ∧ True) ∧ True ∧ True ∧ True ∧ True ∧ (((isPoly p ∧ memoOk p [] ∧ P64.coverB p = true) ∧ (True ∧ ((0 : Int) = 0 ∧ (0 : Int) = 0 ∧ True) ∧ (True ∧ True) ∧ True) ∧ (p = p ∧ True ∧ True) ∧ ([] : List ((Int × Int) × List (Int × Int))) = [] ∧ True) ∧ True ∧ True ∧ True) ∧ True ∧ True ∧ True ∧ True ∧ True ∧ (((pcs p (P64.coverL p) ∧ memoOk p (P64.coverM p []) ∧ ∀ (q : PQ), q ∈ P64.coverL p → cgz p q = false) ∧ (True ∧ (True ∧ True ∧ True) ∧ True) ∧ P64.coverL p = P64.coverL p ∧ True ∧ (p = p ∧ True ∧ True) ∧ P64.coverM p [] = P64.coverM p [] ∧ True) ∧ (P64.coverL p).length = (P64.coverL p).length ∧ True ∧ True ∧ True ∧ True) ∧ ((P64.coverL p).length + 1 ≤ 1000000 ∧ True) ∧ True ∧ True ∧ True ∧ (P64.coverL p = rootsP p ∧ (0 : Int) = rootsE p ∧ True) ∧ True))) (by kernel_rfl) ?_
     simp only [true_and, and_true, false_and, and_false, or_false, false_or, exists_const, exists_false, rat_num_den, rat_int, Int.toNat_natCast]
     have hz' : ∀ q ∈ P64.coverL p, cgz p q = false := fun q hq => by
       cases h : cgz p q with
       | false => rfl
       | true => exact absurd ⟨q, hq, h⟩ hz
     refine ⟨by omega, fun he => ?_, fun he => ?_⟩
     · obtain ⟨e1, e2⟩ := r1 (errOf_pos he)
       exact ⟨e1.symm, e2.symm⟩
     · have hp := errOf_zero he
       refine ⟨hp, fun hx => ?_, fun hx => ?_⟩
       · have hx : ¬ plainP p := by simpa using hx
         obtain ⟨e1, e2⟩ := r2 hx hp
         exact ⟨e1.symm, e2.symm⟩
       · have hx : plainP p := by simpa using hx
         obtain ⟨e1, e2⟩ := r3 hp hx
         rw [keep_all p hz'] at e1
         exact ⟨⟨hp, memoOk_nil p, hb⟩, ⟨cover_pcs hp, grM_ok _ p (memoOk_nil p), hz'⟩, by omega, e1.symm, e2.symm⟩
 · have hb : P64.coverB p = false := by simpa using hb
   refine gcall_of (X := (X [e56, e61, e62, e66, e63n])) ((X_ok _)) (f := 20) (fn := Tryd.f20) (c := bodyOf Tryd.f20) (by kernel_rfl) (by kernel_rfl) (view := true) (rvs := [.tmp 2, .tmp 3]) (by kernel_rfl) (H := fun _ => none) 80 (by kernel_rfl) ?_
   refine of_eq (q := True ∧ True ∧ True ∧ (p.length + 1 ≤ 1000000 ∧ True) ∧ True ∧ True ∧ True ∧ (¬errOf p = 0 → True ∧ True ∧ True ∧ True ∧ (([] : List (Int × Int)) = rootsP p ∧ errOf p = rootsE p ∧ True) ∧ True) ∧ (¬¬errOf p = 0 → True ∧ (((1 : Nat) ≤ p.length ∧ p.length ≤ 7 ∧ coefs p) ∧ True) ∧ True ∧ ((!decide (plainP p)) = true → True ∧ True ∧ True ∧ (([] : List (Int × Int)) = rootsP p ∧ (4 : Int) = rootsE p ∧ True) ∧ True) ∧ ((!decide (plainP p)) = false → True ∧ (True ∧ True) ∧ True ∧ True ∧ True ∧ True ∧ (((isPoly p ∧ memoOk p [] ∧ P64.coverB p = false) ∧ (True ∧ ((0 : Int) = 0 ∧ (0 : Int) = 0 ∧ True) ∧ (True ∧ True) ∧ True) ∧ (p = p ∧ True ∧ True) ∧ ([] : List ((Int × Int) × List (Int × Int))) = [] ∧ True) ∧ True ∧ True ∧ True) ∧ True ∧ True ∧ True ∧ True ∧ True ∧ True ∧ (([] : List (Int × Int)) = rootsP p ∧ (8 : Int) = rootsE p ∧ True) ∧ True))) (by kernel_rfl) ?_
   simp only [true_and, and_true, false_and, and_false, or_false, false_or, exists_const, exists_false, rat_num_den, rat_int, Int.toNat_natCast]
   refine ⟨by omega, fun he => ?_, fun he => ?_⟩
   · obtain ⟨e1, e2⟩ := r1 (errOf_pos he)
     exact ⟨e1.symm, e2.symm⟩
   · have hp := errOf_zero he
     refine ⟨hp, fun hx => ?_, fun hx => ?_⟩
     · have hx : ¬ plainP p := by simpa using hx
       obtain ⟨e1, e2⟩ := r2 hx hp
       exact ⟨e1.symm, e2.symm⟩
     · have hx : plainP p := by simpa using hx
       exact ⟨⟨hp, memoOk_nil p, hb⟩, by simp [rootsP, rootsB, hb], by simp [rootsE, hp, hx, hb]⟩
def e20 : Entry Tryd.prog gl := entry1 20 ⟨Tryd.f20, by kernel_rfl, by kernel_rfl, by kernel_rfl⟩ SI (fun p => p.length < 1000000) false (fun p => [.sl Q2 (rootsP p), .int .i64 (rootsE p)]) (fun _ => []) (call20)
theorem call21 (p : List Int) (h : p.length < 1000000) : GCall Tryd.prog gl 21 false [.sl I64 p] [] [.int .i64 (rootsP p).length, .int .i64 (rootsE p)] [] := by
 refine gcall_of (X := X [e20]) (X_ok [e20]) (f := 21) (fn := Tryd.f21) (c := bodyOf Tryd.f21) (by kernel_rfl) (by kernel_rfl) (view := false) (rvs := [.tmp 2, .tmp 3]) (by kernel_rfl) (H := fun _ => none) 80 (by kernel_rfl) ?_
 refine of_eq (q := True ∧ True ∧ True ∧ (p.length + 1 ≤ 1000000 ∧ True) ∧ True ∧ True ∧ True ∧ True ∧ True ∧ True ∧ True ∧ True ∧ True ∧ True ∧ True ∧ ((↑(rootsP p).length : Int) = (↑(rootsP p).length : Int) ∧ rootsE p = rootsE p ∧ True) ∧ True) (by kernel_rfl) ?_
 simp only [true_and, and_true, false_and, and_false, or_false, false_or, exists_const, exists_false, rat_num_den, rat_int, Int.toNat_natCast]
 omega
def e21 : Entry Tryd.prog gl := entry1 21 ⟨Tryd.f21, by kernel_rfl, by kernel_rfl, by kernel_rfl⟩ SI (fun p => p.length < 1000000) false (fun p => [.int .i64 (rootsP p).length, .int .i64 (rootsE p)]) (fun _ => []) (call21)
end Go.Am.Bern

/- Bern: readings of the reference. -/
namespace Go.Am.Bern
open Go Go.Am Go.Proofs
def cgs (p : List Int) (d k : Nat) : Nat := chg (qc p d k)
section
variable (p : List Int)
end
end Go.Am.Bern

/- Bern: readings that are checked. -/
namespace Go.Am.Bern
open Go Go.Am Go.Proofs
def fr' (x : PQ) : Int := x.2 * 2 ^ (6 - x.1).toNat
def gapz (p : List Int) (a b : Int) : Prop := ∀ j : Nat, j < 64 → a ≤ j → (j : Int) < b → cgs p 6 j = 0
instance (p : List Int) (a b : Int) : Decidable (gapz p a b) := inferInstanceAs (Decidable (∀ j : Nat, j < 64 → _))
def rdR (p : List Int) : Int → List PQ → Prop
 | a, [] => a ≤ 64 ∧ gapz p a 64
 | a, x :: l => isPiece x ∧ cgs p x.1.toNat x.2.toNat = 1 ∧ a ≤ fr' x ∧ gapz p a (fr' x) ∧ rdR p (fr' x + 2 ^ (6 - x.1).toNat) l
instance rdR_dec (p : List Int) : ∀ (a : Int) (l : List PQ), Decidable (rdR p a l)
 | _, [] => by unfold rdR; infer_instance
 | a, x :: l => by unfold rdR; have := rdR_dec p (fr' x + 2 ^ (6 - x.1).toNat) l; infer_instance
end Go.Am.Bern

/- Bern: awake. -/
namespace Go.Am.Bern
open Go Go.Am Go.Proofs
theorem call18 : GCall Tryd.prog gl 18 true [] [] [.tt] [] := by
 have f1 : cornersE [1, -3, 3] (0, 0) = 0 := by kernel_rfl
 have f2 : (cornersR [1, -3, 3] (0, 0)).length = 3 := by kernel_rfl
 have f3 : errOf [1, -3, 3] = 0 := by kernel_rfl
 have f4 : (posK [1, -3, 3]).length = 2 := by kernel_rfl
 have f5 : isPoly [1, -3, 3] := by decide
 have f6 : errOf [-1, 3] = 0 := by kernel_rfl
 have f7 : low29 [-1, 3] = (0, 1) := by kernel_rfl
 have f8 : rootsE [1, -5, 5] = 0 := by kernel_rfl
 have f9 : (rootsP [1, -5, 5]).length = 2 := by kernel_rfl
 have f10 : (if given [((1 : Int), (1 : Int)), (-1, 2), (1, 1)] 7 then (0 : Int) else 1) = 0 := by kernel_rfl
 refine gcall_of (X := (X [e13, e26, e29, e21, e37, e15, e28])) ((X_ok _)) (f := 18) (fn := Tryd.f18) (c := bodyOf Tryd.f18) (by kernel_rfl) (by kernel_rfl) (view := false) (rvs := [.tmp 0]) (by kernel_rfl) (H := fun _ => none) 200 (by kernel_rfl) ?_
 refine of_eq (q := True ∧ True ∧ True ∧ ([(1 : Int), (-3 : Int), (3 : Int)].length + 1 ≤ 1000000 ∧ True) ∧ True ∧ True ∧ True ∧ True ∧ True ∧ True ∧ ([(1 : Int), (-3 : Int), (3 : Int)].length + 1 ≤ 1000000 ∧ True) ∧ True ∧ True ∧ True ∧ True ∧ True ∧ True ∧ True ∧ True ∧ ([(-1 : Int), (3 : Int)].length + 1 ≤ 1000000 ∧ True) ∧ True ∧ True ∧ True ∧ True ∧ True ∧ True ∧ True ∧ True ∧ True ∧ ([(1 : Int), (-5 : Int), (5 : Int)].length + 1 ≤ 1000000 ∧ True) ∧ True ∧ True ∧ True ∧ True ∧ True ∧ True ∧ True ∧ True ∧ True ∧ ([((1 : Int), (1 : Int)), ((-1 : Int), (2 : Int)), ((1 : Int), (1 : Int))].length + 1 ≤ 1000000 ∧ True) ∧ True ∧ True ∧ True ∧ True ∧ True ∧ True ∧ True ∧ True ∧ (cornersE [(1 : Int), (-3 : Int), (3 : Int)] ((0 : Int), (0 : Int)) = 0 → True ∧ True ∧ True ∧ True ∧ True ∧ ((cornersR [(1 : Int), (-3 : Int), (3 : Int)] ((0 : Int), (0 : Int))).length + 1 ≤ 1000000 ∧ True) ∧ True ∧ True ∧ (true = true → True ∧ True ∧ True ∧ True ∧ (errOf [(1 : Int), (-3 : Int), (3 : Int)] = 0 → True ∧ True ∧ True ∧ (true = true → True ∧ True ∧ ((isPoly [(1 : Int), (-3 : Int), (3 : Int)] ∧ (posK [(1 : Int), (-3 : Int), (3 : Int)]).length < 1000000) ∧ True) ∧ True ∧ True ∧ (true = true → True ∧ True ∧ True ∧ True ∧ (errOf [(-1 : Int), (3 : Int)] = 0 → True ∧ True ∧ True ∧ (true = true → True ∧ True ∧ True ∧ True ∧ True ∧ (((low29 [(-1 : Int), (3 : Int)]).fst, (low29 [(-1 : Int), (3 : Int)]).snd) = ((0 : Int), (1 : Int)) → True ∧ True ∧ True ∧ True ∧ (rootsE [(1 : Int), (-5 : Int), (5 : Int)] = 0 → True ∧ True ∧ True ∧ True ∧ ((↑(rootsP [(1 : Int), (-5 : Int), (5 : Int)]).length : Int) = 2 → True ∧ True ∧ True ∧ True ∧ ((if given [((1 : Int), (1 : Int)), ((-1 : Int), (2 : Int)), ((1 : Int), (1 : Int))] (7 : Int) then (0 : Int) else (1 : Int)) = 0 → True ∧ True ∧ True ∧ True ∧ True ∧ (true = true ∧ True) ∧ True) ∧ (¬(if given [((1 : Int), (1 : Int)), ((-1 : Int), (2 : Int)), ((1 : Int), (1 : Int))] (7 : Int) then (0 : Int) else (1 : Int)) = 0 → True ∧ True ∧ True ∧ (false = true ∧ True) ∧ True)) ∧ (¬(↑(rootsP [(1 : Int), (-5 : Int), (5 : Int)]).length : Int) = 2 → True ∧ True ∧ True ∧ True ∧ True ∧ (false = true ∧ True) ∧ True)) ∧ (¬rootsE [(1 : Int), (-5 : Int), (5 : Int)] = 0 → True ∧ True ∧ True ∧ True ∧ True ∧ True ∧ True ∧ (false = true ∧ True) ∧ True)) ∧ (¬((low29 [(-1 : Int), (3 : Int)]).fst, (low29 [(-1 : Int), (3 : Int)]).snd) = ((0 : Int), (1 : Int)) → True ∧ True ∧ True ∧ True ∧ True ∧ True ∧ True ∧ True ∧ True ∧ (false = true ∧ True) ∧ True)) ∧ (true = false → True ∧ True ∧ True ∧ True ∧ True ∧ True ∧ True ∧ True ∧ True ∧ True ∧ True ∧ (false = true ∧ True) ∧ True)) ∧ (¬errOf [(-1 : Int), (3 : Int)] = 0 → True ∧ True ∧ True ∧ True ∧ True ∧ True ∧ True ∧ True ∧ True ∧ True ∧ True ∧ True ∧ True ∧ (false = true ∧ True) ∧ True)) ∧ (true = false → True ∧ True ∧ True ∧ True ∧ True ∧ True ∧ True ∧ True ∧ True ∧ True ∧ True ∧ True ∧ True ∧ True ∧ True ∧ (false = true ∧ True) ∧ True)) ∧ (true = false → True ∧ True ∧ True ∧ True ∧ True ∧ True ∧ True ∧ True ∧ True ∧ True ∧ True ∧ True ∧ True ∧ True ∧ True ∧ True ∧ True ∧ (false = true ∧ True) ∧ True)) ∧ (¬errOf [(1 : Int), (-3 : Int), (3 : Int)] = 0 → True ∧ True ∧ True ∧ True ∧ True ∧ True ∧ True ∧ True ∧ True ∧ True ∧ True ∧ True ∧ True ∧ True ∧ True ∧ True ∧ True ∧ True ∧ True ∧ (false = true ∧ True) ∧ True)) ∧ (true = false → True ∧ True ∧ True ∧ True ∧ True ∧ True ∧ True ∧ True ∧ True ∧ True ∧ True ∧ True ∧ True ∧ True ∧ True ∧ True ∧ True ∧ True ∧ True ∧ True ∧ True ∧ (false = true ∧ True) ∧ True)) ∧ (¬cornersE [(1 : Int), (-3 : Int), (3 : Int)] ((0 : Int), (0 : Int)) = 0 → True ∧ True ∧ True ∧ True ∧ True ∧ True ∧ True ∧ True ∧ True ∧ True ∧ True ∧ True ∧ True ∧ True ∧ True ∧ True ∧ True ∧ True ∧ True ∧ True ∧ True ∧ True ∧ True ∧ (false = true ∧ True) ∧ True)) (by kernel_rfl) ?_
 simp only [f1, f2, f3, f4, f6, f7, f8, f9, f10]
 simp [f5]
 first | done | kernel_rfl
def e18 : Entry Tryd.prog gl where
 f := 18
 lend := false
 en := ⟨Tryd.f18, by kernel_rfl, by kernel_rfl, by kernel_rfl⟩
 go := fun args ob0 => match args, ob0 with
   | [], [] => some (True, true, [.tt], [])
   | _, _ => none
 ok := by
   intro args ob0 p s r o h hp
   split at h <;> try (cases h; done)
   injection h with h; injection h with h1 h2; injection h2 with h2 h3; injection h3 with h3 h4
   subst h1 h2 h3 h4
   exact call18
end Go.Am.Bern

/- Bern: the law BernChecks. -/
namespace Go.Am
open Go
/-- Bools that are known. -/
def litB : AV → AV
 | .bool true => .tt
 | .bool false => .ff
 | a => a
theorem TR.litB {E : Env} {I : Nat → Option Inf} {F : Nat → Prop} {w : World} : ∀ {x : AV} {u : Value}, TR E I F w x u → TR E I F w (litB x) u
 | .bool true, _, h => h
 | .bool false, _, h => h
 | _, _, h => by
   unfold Am.litB
   split <;> exact h
theorem GCall.lit {P : Program} {gl : Nat → Option ((t : Ty) × t.D)} {f : FuncId} {sep : Bool} {args res : List AV} {ob0 ob1 : List Ob} (h : GCall P gl f sep args ob0 res ob1) : GCall P gl f sep args ob0 (res.map litB) ob1 := by
 intro E F F0 w a h1 h2 h3 hr
 refine (h E F F0 w a h1 h2 h3 hr).mono ?_
 rintro e w' ⟨E', F', a', he, R⟩
 refine ⟨E', F', a', he, R.retm (by simp) fun i y hy => ?_⟩
 rw [List.getElem?_map] at hy
 cases hx : res[i]? with
 | none => rw [hx] at hy; cases hy
 | some x =>
   rw [hx] at hy
   injection hy with hy
   subst hy
   exact ⟨x, rfl, fun u hu => TR.litB hu⟩
end Go.Am
namespace Go.Am.Bern
open Go Go.Am Go.Proofs
def yesP (p : List Int) : Prop := p.length < 1000000 ∧ isPoly p
end Go.Am.Bern

/- Bern: the law BernLists. -/
namespace Go.Am
open Go
/-- As `loop_fams`; the contracts may be chosen by the state. -/
theorem loop_famsX {X : Cy} {b : Code} (live : List Nat) (fams : List Fam) (exits : List (List Nat × Ex)) {R : Exit → St → Prop} (n : Nat)
   (hbody : allF (fun f => ∀ x, f.post x → ∃ X' : Cy, X'.Ok ∧ X'.P = X.P ∧ X'.gl = X.gl ∧ X'.m0 = X.m0 ∧ X'.ro = X.ro ∧ run X' (f.H x) (bodyR X.m0 exits R) n (f.st x) [.code b, .inv (chkm X.m0 live (f.μ x) fams)]) fams) :
   LoopOK X b ⟨chks X.m0 live fams, exits.map (·.2)⟩ R := by
 intro ro G hG hm hro E F st a w hr hJ
 rw [← hm] at hJ
 obtain ⟨f, hf, x, E', hx, hr'⟩ := hr.chks hJ
 refine wpIn_loop (fun a w => ∃ f, f ∈ fams ∧ ∃ x E F, f.post x ∧ Rel G E F (f.st x) a w) (fun a w => leastOf fun n => ∃ f, f ∈ fams ∧ ∃ x E F, (f.post x ∧ Rel G E F (f.st x) a w) ∧ f.μ x = n) ⟨f, hf, x, E', F, hx, hr'⟩ ?_
 intro a w hI
 have hex : ∃ n, ∃ f, f ∈ fams ∧ ∃ x E F, (f.post x ∧ Rel G E F (f.st x) a w) ∧ f.μ x = n := by
   obtain ⟨f, hf, x, E, F, h⟩ := hI
   exact ⟨_, f, hf, x, E, F, h, rfl⟩
 obtain ⟨⟨f, hf, x, E, F, ⟨hx, hr⟩, hμ⟩, _⟩ := leastOf_spec hex
 obtain ⟨X', hX', eP, eg, em, er, hrun⟩ := allF_mem hbody hf x hx
 have hs := run_sound (ro := ro) hX' (by rw [eg]; exact hG) (by rw [em]; exact hm) (by rw [er]; exact hro) n _ _ hrun E F a w hr
 rw [eP] at hs
 refine wpIn_mono (show b.wpIn (Fw ro) 0 X.P _ a w from hs) ?_
 intro e a' w' he
 cases e with
 | normal =>
   obtain ⟨E1, F1, st1, h1, h2⟩ := he
   rw [← hm] at h2
   obtain ⟨f', hf', y, E2, ⟨h3, h3'⟩, h4⟩ := h1.chkm h2
   refine ⟨⟨f', hf', y, E2, F1, h3, h4⟩, ?_⟩
   refine Nat.lt_of_le_of_lt ((leastOf_spec ⟨_, f', hf', y, E2, F1, ⟨h3, h4⟩, rfl⟩).2 (f'.μ y) ⟨f', hf', y, E2, F1, ⟨h3, h4⟩, rfl⟩) ?_
   rw [← hμ]; exact h3'
 | exit id =>
   obtain ⟨E1, F1, st1, h1, h2⟩ := he
   simp only [bodyR, ← hm] at h2
   exact h1.exR h2
 | ret =>
   obtain ⟨E1, F1, st1, h1, h2⟩ := he
   exact ⟨E1, F1, st1, h1, h2⟩
 | goto l => obtain ⟨_, _, _, _, h2⟩ := he; exact h2.elim
 | panic ch => obtain ⟨_, _, _, _, h2⟩ := he; exact h2.elim
 | outgrown => obtain ⟨_, _, _, _, h2⟩ := he; exact h2.elim
end Go.Am
namespace Go.Am.Bern
open Go Go.Am Go.Proofs
end Go.Am.Bern

/- Bern: the law BernRoots: plain facts. -/
namespace Go.Am.Bern
open Go Go.Am Go.Proofs
theorem num_np (r : Rat) : r.num ≤ 0 ↔ r ≤ 0 := by
 have h : 0 ≤ (-r).num ↔ 0 ≤ -r := Rat.num_nonneg
 rw [Rat.neg_num] at h
 constructor
 · intro h1
   have h2 := Rat.neg_le_neg (h.mp (by omega))
   rwa [Rat.neg_neg] at h2
 · intro h1
   have := h.mpr (by simpa using Rat.neg_le_neg h1)
   omega
section
variable {P : Rat → Prop} (x : Rat) (hP : ∀ a b, P a → P b → P (avg x a b)) (h0 : P 0)
include hP
theorem dcs_all : ∀ (l : List Rat), (∀ r ∈ l, P r) → ∀ r ∈ dcs x l, P r
 | [], _, r, hr => by simp [dcs] at hr
 | [_], _, r, hr => by simp [dcs] at hr
 | a :: b :: l, h, r, hr => by
   rw [dcs] at hr
   rcases List.mem_cons.mp hr with rfl | hr
   · exact hP a b (h a (by simp)) (h b (by simp))
   · exact dcs_all (b :: l) (fun y hy => h y (List.mem_cons_of_mem _ hy)) r hr
include h0
omit hP in
end
theorem fr_at {n d k : Nat} (h : d + n = 6) : fr' ((d : Int), (k : Int)) = ((k * 2 ^ n : Nat) : Int) ∧ (2 : Int) ^ (6 - (d : Int)).toNat = ((2 ^ n : Nat) : Int) := by
 have e : (6 - (d : Int)).toNat = n := by omega
 unfold fr'
 dsimp only
 rw [e]
 exact ⟨by simp, by simp⟩
end Go.Am.Bern

/- Bern: Positive, with a result of its own. -/
namespace Go.Am.Bern
open Go Go.Am Go.Proofs
theorem call66O (l : List PQ) (h : l.length < 1000000 ∧ l ≠ []) : GCall Tryd.prog gl 66 true [.sl FR l] [] [.own 0 0] [.sc 0 23 Q2 l] := by
 refine gcall_of (X := X []) (X_ok []) (f := 66) (fn := Tryd.f66) (c := bodyOf Tryd.f66) (by kernel_rfl) (by kernel_rfl) (view := false) (rvs := [.tmp 2]) (by kernel_rfl) (H := (H66 l)) 80 (by kernel_rfl) ?_
 have hL := loop66 l h.1
 refine of_eq (q := True ∧ True ∧ True ∧ True ∧ True ∧ LoopOK (X []) L66_0 { J := chks (0 : Nat) [(3 : Nat), (6 : Nat), (7 : Nat), (8 : Nat)] (fm66 l), exits := List.map (fun (x : List Nat × Ex) => x.snd) (ex66 l) } (RetR (X []) true false [ResultVar.tmp (2 : Tmp)] [AV.own (0 : Nat) (0 : Nat)] [Ob.sc (0 : Nat) (23 : TypeId) Q2 l]) ∧ ((∃ (y : Unit), True ∧ (True ∧ l = l ∧ (l.length : Int) = (l.length : Int) ∧ (0 : Int) = 0 ∧ True) ∧ True) ∨ ∃ (y : Nat), y ≤ l.length ∧ (False ∧ l = l ∧ (l.length : Int) = (l.length : Int) ∧ (0 : Int) = (y : Int) ∧ True) ∧ False) ∧ (∀ (y : Unit), l = [] → True ∧ True ∧ True ∧ (False ∧ True) ∧ False) ∧ (∀ (y : Unit), True → True ∧ True ∧ True ∧ (True ∧ True) ∧ l = l ∧ True) ∧ True) (by kernel_rfl) ?_
 simp only [true_and, and_true, false_and, and_false, or_false, false_or, exists_const, exists_false, rat_num_den, rat_int, Int.toNat_natCast]
 exact ⟨hL _, fun _ e => h.2 e, fun _ _ => trivial⟩
def e66O : Entry Tryd.prog gl := entry1 66 ⟨Tryd.f66, by kernel_rfl, by kernel_rfl, by kernel_rfl⟩ SF (fun l => l.length < 1000000 ∧ l ≠ []) true (fun _ => [.own 0 0]) (fun l => [.sc 0 23 Q2 l]) call66O
def fm66z : List Fam := [⟨Unit, fun _ => True, sz66 [], fun _ => 1, fun _ _ => none⟩]
def ex66z : List (List Nat × Ex) := [([3], ⟨0, Unit, fun _ => True, fun _ => ⟨.dead :: .dead :: .dead :: .vv (.slice none 0 0) :: dd 18, []⟩⟩)]
noncomputable def H66z : Nat → Option Hint := fun _ => some ⟨chks 0 [3, 6, 7, 8] fm66z, ex66z.map (·.2)⟩
theorem loop66z (R : Exit → St → Prop) : LoopOK (X []) L66_0 ⟨chks 0 [3, 6, 7, 8] fm66z, ex66z.map (·.2)⟩ R := by
 refine loop_fams (X_ok []) [3, 6, 7, 8] fm66z ex66z 80 ⟨fun _ _ => ?_, trivial⟩
 refine of_eq (q := True ∧ ((0 : Int) < 0 → idxPre (0 : Int) (0 : Nat) ∧ True ∧ True ∧ True ∧ True ∧ True ∧ True ∧ True ∧ True ∧ True ∧ True ∧ sumPre (0 : Nat) [((0 : Int), (0 : Int))].length (nat_lit 16) ∧ True ∧ inR .i64 (1 : Int) ∧ True ∧ ∃ (y : Unit), (True ∧ (1 : Nat) < 1) ∧ (False ∧ ([] : List (Int × Int)) = [] ∧ (0 : Int) = 0 ∧ (1 : Int) = 0 ∧ True) ∧ True) ∧ (¬(0 : Int) < 0 → ∃ (y : Unit), True ∧ (True ∧ True) ∧ True)) (by kernel_rfl) ?_
 simp only [true_and, and_true, false_and, and_false, or_false, false_or, exists_const, exists_false, rat_num_den, rat_int, Int.toNat_natCast]
 exact ⟨fun h => absurd h (by decide), fun _ => trivial⟩
theorem call66N (l : List PQ) (h : l = []) : GCall Tryd.prog gl 66 true [.sl FR l] [] [nl] [] := by
 subst h
 refine gcall_of (X := X []) (X_ok []) (f := 66) (fn := Tryd.f66) (c := bodyOf Tryd.f66) (by kernel_rfl) (by kernel_rfl) (view := false) (rvs := [.tmp 2]) (by kernel_rfl) (H := H66z) 80 (by kernel_rfl) ?_
 have hL := loop66z
 refine of_eq (q := True ∧ True ∧ True ∧ True ∧ True ∧ LoopOK (X []) L66_0 { J := chks (0 : Nat) [(3 : Nat), (6 : Nat), (7 : Nat), (8 : Nat)] fm66z, exits := List.map (fun (x : List Nat × Ex) => x.snd) ex66z } (RetR (X []) true false [ResultVar.tmp (2 : Tmp)] [nl] []) ∧ (∃ (y : Unit), True ∧ (True ∧ ([] : List (Int × Int)) = [] ∧ (0 : Int) = 0 ∧ (0 : Int) = 0 ∧ True) ∧ True) ∧ (∀ (y : Unit), True → True ∧ True ∧ True ∧ (True ∧ True) ∧ True) ∧ True) (by kernel_rfl) ?_
 simp only [true_and, and_true, false_and, and_false, or_false, false_or, exists_const, exists_false, rat_num_den, rat_int, Int.toNat_natCast]
 exact ⟨hL _, fun _ _ => trivial⟩
def e66N : Entry Tryd.prog gl := entry1 66 ⟨Tryd.f66, by kernel_rfl, by kernel_rfl, by kernel_rfl⟩ SF (fun l => l = []) true (fun _ => [nl]) (fun _ => []) call66N
theorem call26s (p : List Int) (h : p.length < 1000000) : GCall Tryd.prog gl 26 true [.sl I64 p] [] [.bool (posB p), .sl Q2 (posK p), .int .i64 (errOf p)] [] := by
 have hlen : (P71.coverL p).length ≤ 64 := grL_len _ p 6 0 0
 by_cases hb : P71.coverB p = true
 · refine gcall_of (X := (Xd [e56, e62, e66O, e63O] (drOf [(4, 1000000)]))) ((Xd_ok _ _)) (f := 26) (fn := Tryd.f26) (c := bodyOf Tryd.f26) (by kernel_rfl) (by kernel_rfl) (view := true) (rvs := [.tmp 2, .tmp 3, .tmp 4]) (by kernel_rfl) (H := fun _ => none) 80 (by kernel_rfl) ?_
   refine of_eq (q := True ∧ True ∧ True ∧ True ∧ (p.length + 1 ≤ 1000000 ∧ True) ∧ True ∧ True ∧ True ∧ (¬errOf p = 0 → True ∧ True ∧ True ∧ True ∧ True ∧ (false = posB p ∧ ([] : List (Int × Int)) = posK p ∧ errOf p = errOf p ∧ True) ∧ True) ∧ (¬¬errOf p = 0 → ((True ∧ ((True ∧ True) ∧ (True ∧ ((((isPoly p ∧ memoOk p [] ∧ P71.coverB p = true) ∧ (True ∧ ((0 : Int) = 0 ∧ (0 : Int) = 0 ∧ True) ∧ (True ∧ True) ∧ True) ∧ (p = p ∧ True ∧ True) ∧ ([] : List ((Int × Int) × List (Int × Int))) = [] ∧ True) ∧ True ∧ True ∧ True) ∧ (True ∧ (p = p ∧ false = false ∧ True ∧ (0 : Int) = 0 ∧ errOf p = errOf p ∧ True ∧ p = p ∧ errOf p = errOf p ∧ errOf p = errOf p ∧ false = false ∧ p = p ∧ True ∧ ((0 : Int) = 0 ∧ (0 : Int) = 0 ∧ True) ∧ True ∧ True) ∧ (p = p ∧ True ∧ True) ∧ P71.coverM p [] = P71.coverM p [] ∧ P71.coverL p = P71.coverL p ∧ True) ∧ True) ∧ True) ∧ True) ∧ (True ∧ ((True ∧ True) ∧ ((((isPoly p ∧ memoOk p [] ∧ P71.coverB p = true) ∧ (True ∧ ((0 : Int) = 0 ∧ (0 : Int) = 0 ∧ True) ∧ (True ∧ True) ∧ True) ∧ (p = p ∧ True ∧ True) ∧ ([] : List ((Int × Int) × List (Int × Int))) = [] ∧ True) ∧ True ∧ True ∧ True) ∧ (True ∧ (p = p ∧ false = false ∧ True ∧ (0 : Int) = 0 ∧ errOf p = errOf p ∧ True ∧ p = p ∧ errOf p = errOf p ∧ errOf p = errOf p ∧ false = false ∧ p = p ∧ True ∧ ((0 : Int) = 0 ∧ (0 : Int) = 0 ∧ True) ∧ True ∧ True) ∧ (p = p ∧ True ∧ True) ∧ P71.coverM p [] = P71.coverM p [] ∧ P71.coverL p = P71.coverL p ∧ True) ∧ True) ∧ True) ∧ True) ∧ True) ∧ (True ∧ (True ∧ ((True ∧ True) ∧ ((((isPoly p ∧ memoOk p [] ∧ P71.coverB p = true) ∧ (True ∧ ((0 : Int) = 0 ∧ (0 : Int) = 0 ∧ True) ∧ (True ∧ True) ∧ True) ∧ (p = p ∧ True ∧ True) ∧ ([] : List ((Int × Int) × List (Int × Int))) = [] ∧ True) ∧ True ∧ True ∧ True) ∧ (True ∧ (p = p ∧ false = false ∧ True ∧ (0 : Int) = 0 ∧ errOf p = errOf p ∧ True ∧ p = p ∧ errOf p = errOf p ∧ errOf p = errOf p ∧ false = false ∧ p = p ∧ True ∧ ((0 : Int) = 0 ∧ (0 : Int) = 0 ∧ True) ∧ True ∧ True) ∧ (p = p ∧ True ∧ True) ∧ P71.coverM p [] = P71.coverM p [] ∧ P71.coverL p = P71.coverL p ∧ True) ∧ True) ∧ True) ∧ True) ∧ True) ∧ True) ∧ True ∧ True ∧ True ∧ (((P71.coverL p).length < 1000000 ∧ ¬P71.coverL p = []) ∧ True) ∧ True ∧ True ∧ True ∧ True ∧ (true = posB p ∧ P71.coverL p = posK p ∧ (0 : Int) = errOf p ∧ True) ∧ True)) (by kernel_rfl) ?_
   simp only [true_and, and_true, false_and, and_false, or_false, false_or, exists_const, exists_false, rat_num_den, rat_int, Int.toNat_natCast]
   refine ⟨by omega, fun he => ?_, fun he => ?_⟩
   · have := errOf_pos he
     simp [posK, posB, this]
   · have hp := errOf_zero he
     exact ⟨⟨⟨⟨hp, memoOk_nil p, hb⟩, ⟨hp, memoOk_nil p, hb⟩⟩, ⟨hp, memoOk_nil p, hb⟩⟩, ⟨by omega, grL_ne _ p hb⟩, by simp [posB, hp, hb], by simp [posK, posB, hp, hb], by simp [errOf, hp]⟩
 · have hb : P71.coverB p = false := by simpa using hb
   refine gcall_of (X := (Xd [e56, e62, e66N, e63N] (drOf [(4, 1000000)]))) ((Xd_ok _ _)) (f := 26) (fn := Tryd.f26) (c := bodyOf Tryd.f26) (by kernel_rfl) (by kernel_rfl) (view := true) (rvs := [.tmp 2, .tmp 3, .tmp 4]) (by kernel_rfl) (H := fun _ => none) 80 (by kernel_rfl) ?_
   refine of_eq (q := True ∧ True ∧ True ∧ True ∧ (p.length + 1 ≤ 1000000 ∧ True) ∧ True ∧ True ∧ True ∧ (¬errOf p = 0 → True ∧ True ∧ True ∧ True ∧ True ∧ (false = posB p ∧ ([] : List (Int × Int)) = posK p ∧ errOf p = errOf p ∧ True) ∧ True) ∧ (¬¬errOf p = 0 → ((True ∧ ((True ∧ True) ∧ (True ∧ ((((isPoly p ∧ memoOk p [] ∧ P71.coverB p = false) ∧ (True ∧ ((0 : Int) = 0 ∧ (0 : Int) = 0 ∧ True) ∧ (True ∧ True) ∧ True) ∧ (p = p ∧ True ∧ True) ∧ ([] : List ((Int × Int) × List (Int × Int))) = [] ∧ True) ∧ True ∧ True ∧ True) ∧ (True ∧ (p = p ∧ false = false ∧ True ∧ (0 : Int) = 0 ∧ errOf p = errOf p ∧ True ∧ p = p ∧ errOf p = errOf p ∧ errOf p = errOf p ∧ false = false ∧ p = p ∧ True ∧ ((0 : Int) = 0 ∧ (0 : Int) = 0 ∧ True) ∧ True ∧ True) ∧ (p = p ∧ True ∧ True) ∧ P71.coverM p [] = P71.coverM p [] ∧ True) ∧ True) ∧ True) ∧ True) ∧ (True ∧ ((True ∧ True) ∧ ((((isPoly p ∧ memoOk p [] ∧ P71.coverB p = false) ∧ (True ∧ ((0 : Int) = 0 ∧ (0 : Int) = 0 ∧ True) ∧ (True ∧ True) ∧ True) ∧ (p = p ∧ True ∧ True) ∧ ([] : List ((Int × Int) × List (Int × Int))) = [] ∧ True) ∧ True ∧ True ∧ True) ∧ (True ∧ (p = p ∧ false = false ∧ True ∧ (0 : Int) = 0 ∧ errOf p = errOf p ∧ True ∧ p = p ∧ errOf p = errOf p ∧ errOf p = errOf p ∧ false = false ∧ p = p ∧ True ∧ ((0 : Int) = 0 ∧ (0 : Int) = 0 ∧ True) ∧ True ∧ True) ∧ (p = p ∧ True ∧ True) ∧ P71.coverM p [] = P71.coverM p [] ∧ True) ∧ True) ∧ True) ∧ True) ∧ True) ∧ (True ∧ (True ∧ ((True ∧ True) ∧ ((((isPoly p ∧ memoOk p [] ∧ P71.coverB p = false) ∧ (True ∧ ((0 : Int) = 0 ∧ (0 : Int) = 0 ∧ True) ∧ (True ∧ True) ∧ True) ∧ (p = p ∧ True ∧ True) ∧ ([] : List ((Int × Int) × List (Int × Int))) = [] ∧ True) ∧ True ∧ True ∧ True) ∧ (True ∧ (p = p ∧ false = false ∧ True ∧ (0 : Int) = 0 ∧ errOf p = errOf p ∧ True ∧ p = p ∧ errOf p = errOf p ∧ errOf p = errOf p ∧ false = false ∧ p = p ∧ True ∧ ((0 : Int) = 0 ∧ (0 : Int) = 0 ∧ True) ∧ True ∧ True) ∧ (p = p ∧ True ∧ True) ∧ P71.coverM p [] = P71.coverM p [] ∧ True) ∧ True) ∧ True) ∧ True) ∧ True) ∧ True) ∧ True ∧ True ∧ True ∧ (([] : List (Int × Int)) = [] ∧ True) ∧ True ∧ True ∧ True ∧ True ∧ (false = posB p ∧ ([] : List (Int × Int)) = posK p ∧ (0 : Int) = errOf p ∧ True) ∧ True)) (by kernel_rfl) ?_
   simp only [true_and, and_true, false_and, and_false, or_false, false_or, exists_const, exists_false, rat_num_den, rat_int, Int.toNat_natCast]
   refine ⟨by omega, fun he => ?_, fun he => ?_⟩
   · have := errOf_pos he
     simp [posK, posB, this]
   · have hp := errOf_zero he
     exact ⟨⟨⟨⟨hp, memoOk_nil p, hb⟩, ⟨hp, memoOk_nil p, hb⟩⟩, ⟨hp, memoOk_nil p, hb⟩⟩, by simp [posB, hp, hb], by simp [posK, posB, hp, hb], by simp [errOf, hp]⟩
end Go.Am.Bern

/- Bern: plain facts for BernPositive. -/
namespace Go.Am.Bern
open Go Go.Am Go.Proofs
theorem posL_qs {l : List Rat} : posL (qs l) ↔ ∀ r ∈ l, 0 < r := by
 have hn : ∀ r : Rat, 0 < r.num ↔ 0 < r := fun r => by
   have := num_np r
   constructor
   · intro h
     exact Rat.not_le.mp fun hc => by have := this.mpr hc; omega
   · intro h
     false_or_by_contra
     rename_i hc
     exact Rat.not_le.mpr h (this.mp (by omega))
 unfold posL qs
 simp [qp, hn]
section
variable {P : Rat → Prop} (x : Rat) (hP : ∀ a b, P a → P b → P (avg x a b))
include hP
theorem divL_all' : ∀ (n : Nat) (l : List Rat), n ≤ l.length → (∀ r ∈ l, P r) → ∀ r ∈ divL x n l, P r
 | 0, _, _, _, r, hr => by simp [divL] at hr
 | n + 1, l, hn, h, r, hr => by
   rw [divL] at hr
   rcases List.mem_cons.mp hr with rfl | hr
   · exact h _ (getD_mem (by omega))
   · exact divL_all' n _ (by rw [dcs_length]; omega) (dcs_all x hP l h) r hr
theorem divR_all' : ∀ (n : Nat) (l acc : List Rat), n ≤ l.length → (∀ r ∈ l, P r) → (∀ r ∈ acc, P r) → ∀ r ∈ divR x n l acc, P r
 | 0, _, _, _, _, h, r, hr => h r hr
 | n + 1, l, acc, hn, h, ha, r, hr => by
   rw [divR] at hr
   refine divR_all' n _ _ (by rw [dcs_length]; omega) (dcs_all x hP l h) (fun y hy => ?_) r hr
   rcases List.mem_cons.mp hy with rfl | hy
   · exact h _ (getD_mem (by omega))
   · exact ha y hy
end
theorem avg_pos (a b : Rat) (ha : 0 < a) (hb : 0 < b) : 0 < avg half a b := by
 unfold avg
 have h1 : (0 : Rat) < 1 - half := by decide +kernel
 have h2 : (0 : Rat) < half := by decide +kernel
 have h3 := Rat.mul_pos ha h1
 have h4 := Rat.mul_pos hb h2
 refine Rat.not_le.mp fun hc => ?_
 have h5 : a * (1 - half) + 0 ≤ a * (1 - half) + b * half := Rat.add_le_add_left.mpr (Rat.le_of_lt h4)
 rw [Rat.add_zero] at h5
 exact Rat.not_le.mpr h3 (Rat.le_trans h5 hc)
theorem pos_step {p : List Int} {d k : Nat} (h : posL (qc p d k)) : posL (qc p (d + 1) (2 * k)) ∧ posL (qc p (d + 1) (2 * k + 1)) := by
 unfold qc at *
 rw [posL_qs] at *
 rw [posL_qs]
 constructor
 · rw [cnr, if_pos (by omega), show 2 * k / 2 = k by omega]
   exact divL_all' half avg_pos _ _ (Nat.le_refl _) h
 · rw [cnr, if_neg (by omega), show (2 * k + 1) / 2 = k by omega]
   exact divR_all' half avg_pos _ _ _ (Nat.le_refl _) h (fun y hy => by simp at hy)
theorem halves (n k j : Nat) : k * 2 ^ (n + 1) ≤ j ∧ j < (k + 1) * 2 ^ (n + 1) ↔ (2 * k * 2 ^ n ≤ j ∧ j < (2 * k + 1) * 2 ^ n) ∨ ((2 * k + 1) * 2 ^ n ≤ j ∧ j < (2 * k + 1 + 1) * 2 ^ n) := by
 have e0 : 2 ^ (n + 1) = 2 * 2 ^ n := by rw [Nat.pow_succ, Nat.mul_comm]
 have e1 : 2 * k * 2 ^ n = k * 2 ^ (n + 1) := by rw [e0, ← Nat.mul_assoc, Nat.mul_comm 2 k]
 have e2 : (2 * k + 1) * 2 ^ n = k * 2 ^ (n + 1) + 2 ^ n := by rw [Nat.add_mul, e1, Nat.one_mul]
 have e3 : (2 * k + 1 + 1) * 2 ^ n = k * 2 ^ (n + 1) + 2 ^ n + 2 ^ n := by rw [Nat.add_mul, e2, Nat.one_mul]
 have e4 : (k + 1) * 2 ^ (n + 1) = k * 2 ^ (n + 1) + 2 ^ n + 2 ^ n := by rw [Nat.add_mul, Nat.one_mul, e0]; omega
 omega
theorem pos_below {p : List Int} : ∀ (n d k : Nat), posL (qc p d k) → ∀ j, k * 2 ^ n ≤ j ∧ j < (k + 1) * 2 ^ n → posL (qc p (d + n) j)
 | 0, d, k, h, j, hj => by
   have : j = k := by simp at hj; omega
   subst this; exact h
 | n + 1, d, k, h, j, hj => by
   have hz := pos_step h
   rw [show d + (n + 1) = d + 1 + n by omega]
   rcases (halves n k j).mp hj with hj | hj
   · exact pos_below n (d + 1) (2 * k) hz.1 j hj
   · exact pos_below n (d + 1) (2 * k + 1) hz.2 j hj
theorem grB_pos (p : List Int) : ∀ (n d k : Nat), grB P71.gd p n d k = true ↔ ∀ j, k * 2 ^ n ≤ j ∧ j < (k + 1) * 2 ^ n → posL (qc p (d + n) j)
 | 0, d, k => by
   rw [grB, show P71.gd (qc p d k) = decide (posL (qc p d k)) from rfl, decide_eq_true_iff]
   exact ⟨fun h => pos_below 0 d k h, fun h => h k (by simp)⟩
 | n + 1, d, k => by
   rw [grB, show P71.gd (qc p d k) = decide (posL (qc p d k)) from rfl, Bool.or_eq_true, Bool.and_eq_true, decide_eq_true_iff, grB_pos p n, grB_pos p n, show d + (n + 1) = d + 1 + n by omega]
   constructor
   · rintro (h | ⟨h1, h2⟩) j hj
     · have := pos_below (n + 1) d k h j hj
       rwa [show d + (n + 1) = d + 1 + n by omega] at this
     · rcases (halves n k j).mp hj with hj | hj
       · exact h1 j hj
       · exact h2 j hj
   · intro h
     exact .inr ⟨fun j hj => h j ((halves n k j).mpr (.inl hj)), fun j hj => h j ((halves n k j).mpr (.inr hj))⟩
theorem cover_pos (p : List Int) : P71.coverB p = decide (posP p) := by
 have h : P71.coverB p = true ↔ posP p := by
   rw [show P71.coverB p = grB P71.gd p 6 0 0 from rfl, grB_pos]
   exact ⟨fun h k hk => h k ⟨by omega, by simpa using hk⟩, fun h j hj => h j (by simpa using hj.2)⟩
 by_cases hp : posP p
 · rw [h.mpr hp, decide_eq_true hp]
 · rw [decide_eq_false hp]
   cases hb : P71.coverB p with
   | false => rfl
   | true => exact absurd (h.mp hb) hp
theorem grL_posAt (p : List Int) : ∀ (n d k : Nat), ∀ x ∈ grL P71.gd p n d k, posAt p x
 | 0, d, k, x, hx => by
   rw [grL] at hx
   split at hx
   · rename_i h
     simp at hx; subst hx
     exact of_decide_eq_true h
   · simp at hx
 | n + 1, d, k, x, hx => by
   rw [grL] at hx
   split at hx
   · rename_i h
     simp at hx; subst hx
     exact of_decide_eq_true h
   · split at hx
     · rcases List.mem_append.mp hx with hx | hx
       · exact grL_posAt p n _ _ x hx
       · exact grL_posAt p n _ _ x hx
     · exact grL_posAt p n _ _ x hx
theorem cov_grL (gd : List PQ → Bool) (p : List Int) : ∀ (n d k : Nat) (rest : List PQ), d + n = 6 → k < 2 ^ d → grB gd p n d k = true → cov (((k + 1) * 2 ^ n : Nat) : Int) rest → cov ((k * 2 ^ n : Nat) : Int) (grL gd p n d k ++ rest) := by
 have hone : ∀ (n d k : Nat) (rest : List PQ), d + n = 6 → k < 2 ^ d → cov (((k + 1) * 2 ^ n : Nat) : Int) rest → cov ((k * 2 ^ n : Nat) : Int) ([((d : Int), (k : Int))] ++ rest) := by
   intro n d k rest hd hk h
   have hf := fr_at (n := n) (d := d) (k := k) hd
   unfold fr' at hf
   dsimp only at hf
   have e : (((k + 1) * 2 ^ n : Nat) : Int) = ((k * 2 ^ n : Nat) : Int) + ((2 ^ n : Nat) : Int) := by rw [Nat.add_mul, Nat.one_mul]; simp
   rw [List.singleton_append, cov]
   dsimp only
   rw [hf.1, hf.2, ← e]
   refine ⟨⟨by dsimp only; omega, by dsimp only; omega, by dsimp only; omega, ?_⟩, rfl, h⟩
   dsimp only
   rw [Int.toNat_natCast]
   exact_mod_cast hk
 intro n
 induction n with
 | zero =>
   intro d k rest hd hk hb h
   rw [grB] at hb
   rw [grL, if_pos hb]
   exact hone 0 d k rest hd hk h
 | succ n ih =>
   intro d k rest hd hk hb h
   rw [grB] at hb
   rw [grL]
   by_cases hg : gd (qc p d k) = true
   · rw [if_pos hg]; exact hone (n + 1) d k rest hd hk h
   · have hg' : gd (qc p d k) = false := by simpa using hg
     rw [hg', Bool.false_or, Bool.and_eq_true] at hb
     have hp2 : 2 ^ (d + 1) = 2 ^ d * 2 := Nat.pow_succ ..
     have e1 : (2 * k) * 2 ^ n = k * 2 ^ (n + 1) := by rw [Nat.pow_succ, Nat.mul_comm 2 k, Nat.mul_assoc, Nat.mul_comm 2]
     have e2 : (2 * k + 1 + 1) * 2 ^ n = (k + 1) * 2 ^ (n + 1) := by rw [Nat.pow_succ, show 2 * k + 1 + 1 = (k + 1) * 2 by omega, Nat.mul_assoc, Nat.mul_comm 2]
     rw [if_neg hg, if_pos hb.1, List.append_assoc, ← e1]
     refine ih (d + 1) (2 * k) _ (by omega) (by omega) hb.1 (ih (d + 1) (2 * k + 1) rest (by omega) (by omega) hb.2 ?_)
     rw [e2]; exact h
theorem cover_prf {p : List Int} (h : P71.coverB p = true) : prf p (P71.coverL p) := by
 refine ⟨?_, grL_posAt p 6 0 0⟩
 have := cov_grL P71.gd p 6 0 0 [] rfl (by decide) h (by rw [cov]; decide)
 rw [List.append_nil] at this
 exact this
end Go.Am.Bern

/- Bern: the law BernPositive. -/
namespace Go.Am.Bern
open Go Go.Am Go.Proofs
def pY (p : List Int) : Prop := yesP p ∧ posP p
def pN (p : List Int) : Prop := yesP p ∧ ¬ posP p
theorem y26c (p : List Int) (h : pY p) : GCall Tryd.prog gl 26 true [.sl I64 p] [] [.tt, .sl Q2 (P71.coverL p), .int .i64 0] [] := by
 have := call26s p h.1.1
 have f0 : posB p = true := by simp [posB, cover_pos, h.1.2, h.2]
 rw [f0, show posK p = P71.coverL p by rw [posK, if_pos f0], show errOf p = 0 by simp [errOf, h.1.2]] at this; exact this.lit
def y26 : Entry Tryd.prog gl := entry1 26 ⟨Tryd.f26, by kernel_rfl, by kernel_rfl, by kernel_rfl⟩ SI pY true (fun p => [.tt, .sl Q2 (P71.coverL p), .int .i64 0]) (fun _ => []) y26c
theorem n26c (p : List Int) (h : pN p) : GCall Tryd.prog gl 26 true [.sl I64 p] [] [.ff, .sl Q2 [], .int .i64 0] [] := by
 have := call26s p h.1.1
 have f0 : posB p = false := by simp [posB, cover_pos, h.2]
 rw [f0, show posK p = [] by rw [posK, f0]; rfl, show errOf p = 0 by simp [errOf, h.1.2]] at this; exact this.lit
def n26' : Entry Tryd.prog gl := entry1 26 ⟨Tryd.f26, by kernel_rfl, by kernel_rfl, by kernel_rfl⟩ SI pN true (fun _ => [.ff, .sl Q2 [], .int .i64 0]) (fun _ => []) n26c
theorem y27c (p : List Int) (h : pY p) : GCall Tryd.prog gl 27 true [.sl I64 p] [] [.tt] [] := by
 have := call27 p h.1.2
 rw [decide_eq_true h.2] at this; exact this.lit
def y27 : Entry Tryd.prog gl := entry1 27 ⟨Tryd.f27, by kernel_rfl, by kernel_rfl, by kernel_rfl⟩ SI pY true (fun _ => [.tt]) (fun _ => []) y27c
theorem n27c (p : List Int) (h : pN p) : GCall Tryd.prog gl 27 true [.sl I64 p] [] [.ff] [] := by
 have := call27 p h.1.2
 rw [decide_eq_false h.2] at this; exact this.lit
def n27 : Entry Tryd.prog gl := entry1 27 ⟨Tryd.f27, by kernel_rfl, by kernel_rfl, by kernel_rfl⟩ SI pN true (fun _ => [.ff]) (fun _ => []) n27c
theorem y29c (p : List Int) (h : yesP p) : GCall Tryd.prog gl 29 true [.sl I64 p] [] [ofD Q2 (lowQ p), .bool (lowP p).isSome, .int .i64 0] [] := by
 have := call29 p h.1
 rwa [show low29 p = lowQ p by simp [low29, h.2], show (decide (isPoly p) && (lowP p).isSome) = (lowP p).isSome by simp [h.2], show errOf p = 0 by simp [errOf, h.2]] at this
def y29 : Entry Tryd.prog gl := entry1 29 ⟨Tryd.f29, by kernel_rfl, by kernel_rfl, by kernel_rfl⟩ SI yesP true (fun p => [ofD Q2 (lowQ p), .bool (lowP p).isSome, .int .i64 0]) (fun _ => []) y29c
theorem z31c (p : List Int) (l : List PQ) (h : yesP p ∧ l.length < 1000000) : GCall Tryd.prog gl 31 true [.sl I64 p, .sl Q2 l] [] [.bool (decide (prf p l)), .int .i64 0] [] := by
 have := call31 p l ⟨h.1.1, h.2⟩
 rwa [show decide (isPoly p ∧ prf p l) = decide (prf p l) by simp [h.1.2], show errOf p = 0 by simp [errOf, h.1.2]] at this
def z31 : Entry Tryd.prog gl := entry2 31 ⟨Tryd.f31, by kernel_rfl, by kernel_rfl, by kernel_rfl⟩ SI SQ (fun p l => yesP p ∧ l.length < 1000000) true (fun p l => [.bool (decide (prf p l)), .int .i64 0]) (fun _ _ => []) z31c
noncomputable def L5_0 : Code := lp (bodyOf Tryd.f5) 0
noncomputable abbrev E5L : EL := [e12, e18]
noncomputable abbrev E5Y : EL := [y26, y27, e28, y29, e30, z31]
noncomputable abbrev E5N : EL := [n26', n27, e28, y29, e30, z31]
def st5 (m : List PQ) (s : Nat × List Int) : St := ⟨.dead :: .sl Q2 m :: .dead :: .dead :: .dead :: .own 0 0 :: .int .i64 s.1 :: dd 121, [.sc 0 3 I64 s.2]⟩
def fm5 (m : List PQ) : List Fam := [⟨Nat × List Int, fun s => s.1 ≤ 2 ∧ isPoly s.2, st5 m, fun s => 2 - s.1, fun _ _ => none⟩]
def ex5 : List (List Nat × Ex) := [([], ⟨0, Unit, fun _ => True, fun _ => ⟨dd 128, []⟩⟩)]
noncomputable def H5 (m : List PQ) : Nat → Option Hint := fun _ => some ⟨chks 0 [1, 5, 6] (fm5 m), ex5.map (·.2)⟩
theorem set_poly {p : List Int} (hp : isPoly p) {v : Int} (h1 : -100 ≤ v) (h2 : v ≤ 100) : isPoly (p.set 0 v) := by
 refine ⟨by rw [List.length_set]; exact hp.1, by rw [List.length_set]; exact hp.2.1, fun x hx => ?_⟩
 rcases List.mem_or_eq_of_mem_set hx with hx | rfl
 · exact hp.2.2 x hx
 · exact ⟨h1, h2⟩
set_option maxHeartbeats 8000000 in
theorem loop5 (m : List PQ) (hm : m.length < 1000000000000000) : LoopOK (X E5L) L5_0 ⟨chks 0 [1, 5, 6] (fm5 m), ex5.map (·.2)⟩ (RetR (X E5L) true false [.tmp 4] [.tt] []) := by
 have hmi : minI m.length 70 = (m.take 70).length := by unfold minI; rw [List.length_take]; split <;> omega
 have hct : cutL m none (some (minI m.length 70)) = m.take 70 := by
   unfold cutL
   simp only [bLo, bHi, Nat.sub_zero, List.drop_zero]
   rw [hmi]; simp [List.take_eq_take_iff]
 have h70 : (m.take 70).length ≤ 70 := by rw [List.length_take]; omega
 have h70' : (m.take 70).length ≤ m.length := by rw [List.length_take]; omega
 have h70'' : (m.take 70).length < 1000000 := by omega
 have hs1 : slPre m.length m.length none (some (minI m.length 70)) none := by simp only [slPre, bLo, bHi]; omega
 have hs2 : sumPre 0 (m.take 70).length 16 := by unfold sumPre; omega
 refine loop_famsX [1, 5, 6] (fm5 m) ex5 250 ⟨fun (s : Nat × List Int) hs => ?_, trivial⟩
 obtain ⟨i, p⟩ := s
 obtain ⟨hi, hp⟩ := hs
 dsimp only at hi hp
 have hy : yesP p := ⟨by have := hp.2.1; omega, hp⟩
 have hx0 : idxPre 0 p.length := by have := hp.1; unfold idxPre; omega
 have hc0 := coefs_getD hp.2.2 0
 have hp1 : p.length < 1000000 := hy.1
 have hset : isPoly (p.set 0 (minI 100 (p.getD 0 0 + m.length))) := by
   refine set_poly hp ?_ ?_ <;> unfold minI <;> split <;> omega
 have hcl : (P71.coverL p).length < 1000000 := Nat.lt_of_le_of_lt (grL_len _ p 6 0 0) (by decide)
 have hle : p.length + 1 ≤ 1000000 := hp1
 by_cases hc : posP p
 · refine ⟨X E5Y, X_ok _, rfl, rfl, rfl, rfl, ?_⟩
   have hprf : prf p (P71.coverL p) := cover_prf (by rw [cover_pos, decide_eq_true hc])
   have hprd : decide (prf p (P71.coverL p)) = true := decide_eq_true hprf
   have hY : pY p := ⟨hy, hc⟩
   have hZ := hY
   unfold pY at hZ
   refine of_eq (q := True ∧ True ∧ ((i : Int) < 2 → True ∧ ((yesP p ∧ posP p) ∧ True) ∧ True ∧ True ∧ True ∧ True ∧ True ∧ True ∧ True ∧ True ∧ True ∧ True ∧ (¬(0 : Int) = 0 → True ∧ True ∧ True ∧ True ∧ True ∧ True ∧ True ∧ (false = true ∧ True) ∧ True) ∧ (¬¬(0 : Int) = 0 → True ∧ True ∧ ((yesP p ∧ posP p) ∧ True) ∧ True ∧ True ∧ True ∧ (false = true → True ∧ True ∧ True ∧ True ∧ True ∧ (false = true ∧ True) ∧ True) ∧ (false = false → True ∧ True ∧ True ∧ True ∧ ((isPoly p ∧ (P71.coverL p).length < 1000000) ∧ True) ∧ True ∧ True ∧ True ∧ True ∧ ((!decide (prf p (P71.coverL p))) = true → True ∧ True ∧ True ∧ (false = true ∧ True) ∧ True) ∧ ((!decide (prf p (P71.coverL p))) = false → True ∧ True ∧ True ∧ True ∧ True ∧ True ∧ ((p.length < 1000000 ∧ isPoly p) ∧ True) ∧ True ∧ True ∧ True ∧ True ∧ True ∧ True ∧ True ∧ True ∧ True ∧ (((1 : Nat) ≤ p.length ∧ p.length ≤ 7 ∧ coefs p) ∧ True) ∧ True ∧ True ∧ True ∧ True ∧ True ∧ True ∧ True ∧ True ∧ True ∧ (¬(0 : Int) = 0 → True ∧ True ∧ True ∧ True ∧ True ∧ (false = true ∧ True) ∧ True) ∧ (¬¬(0 : Int) = 0 → True ∧ True ∧ True ∧ True ∧ True ∧ (((lowP p).isSome != (lowP p).isSome) = true → True ∧ True ∧ True ∧ (false = true ∧ True) ∧ True) ∧ (((lowP p).isSome != (lowP p).isSome) = false → True ∧ True ∧ True ∧ True ∧ (¬((lowQ p).fst, (lowQ p).snd) = ((lowQ p).fst, (lowQ p).snd) → True ∧ True ∧ (false = true ∧ True) ∧ True) ∧ (¬¬((lowQ p).fst, (lowQ p).snd) = ((lowQ p).fst, (lowQ p).snd) → True ∧ True ∧ True ∧ True ∧ True ∧ True ∧ slPre m.length m.length none (some (minI (m.length : Int) (70 : Int))) none ∧ sumPre (0 : Nat) (cutL m none (some (minI (m.length : Int) (70 : Int)))).length (nat_lit 16) ∧ True ∧ True ∧ True ∧ ((yesP p ∧ (cutL m none (some (minI (m.length : Int) (70 : Int)))).length < 1000000) ∧ True) ∧ True ∧ True ∧ True ∧ True ∧ True ∧ True ∧ True ∧ ((yesP p ∧ (P71.coverL p).length < 1000000) ∧ True) ∧ True ∧ True ∧ True ∧ True ∧ True ∧ True ∧ True ∧ True ∧ (¬(0 : Int) = 0 → True ∧ True ∧ True ∧ True ∧ True ∧ True ∧ True ∧ (false = true ∧ True) ∧ True) ∧ (¬¬(0 : Int) = 0 → True ∧ True ∧ True ∧ ((isPoly p ∧ (cutL m none (some (minI (m.length : Int) (70 : Int)))).length < 1000000) ∧ True) ∧ True ∧ True ∧ True ∧ ((decide (prf p (cutL m none (some (minI (m.length : Int) (70 : Int))))) != decide (prf p (cutL m none (some (minI (m.length : Int) (70 : Int)))))) = true → True ∧ True ∧ True ∧ True ∧ True ∧ (false = true ∧ True) ∧ True) ∧ ((decide (prf p (cutL m none (some (minI (m.length : Int) (70 : Int))))) != decide (prf p (cutL m none (some (minI (m.length : Int) (70 : Int)))))) = false → True ∧ True ∧ True ∧ True ∧ (¬(0 : Int) = 0 → True ∧ True ∧ True ∧ (false = true ∧ True) ∧ True) ∧ (¬¬(0 : Int) = 0 → True ∧ True ∧ True ∧ True ∧ ((decide (prf p (P71.coverL p)) != true) = true → True ∧ True ∧ (false = true ∧ True) ∧ True) ∧ ((decide (prf p (P71.coverL p)) != true) = false → True ∧ True ∧ idxPre (0 : Int) p.length ∧ True ∧ True ∧ True ∧ inR .i64 (p.getD (0 : Nat) (0 : Int) + (m.length : Int)) ∧ True ∧ idxPre (0 : Int) p.length ∧ True ∧ True ∧ inR .i64 ((i : Int) + 1) ∧ True ∧ ∃ (y : Nat × List Int), ((y.fst ≤ 2 ∧ isPoly y.snd) ∧ (2 : Nat) - y.fst < 2 - i) ∧ (m = m ∧ True ∧ (i : Int) + 1 = (y.fst : Int) ∧ True) ∧ p.set (0 : Nat) (minI (100 : Int) (p.getD (0 : Nat) (0 : Int) + (m.length : Int))) = y.snd ∧ True))))))))))) ∧ (¬(i : Int) < 2 → ∃ (y : Unit), True ∧ True ∧ True)) (by kernel_rfl) ?_
   simp only [true_and, and_true, false_and, and_false, or_false, false_or, exists_const, not_true_eq_false, not_false_eq_true, true_imp_iff, false_imp_iff, implies_true, rat_num_den, Int.toNat_natCast, bne_self_eq_false, hct, hprd, Bool.not_true]
   refine fun h2 => ?_
   have hw : ∃ z : Nat × List Int, ((z.1 ≤ 2 ∧ isPoly z.2) ∧ 2 - z.1 < 2 - i) ∧ ((i : Int) + 1 = (z.1 : Int)) ∧ p.set 0 (minI 100 (p.getD 0 0 + m.length)) = z.2 := ⟨(i + 1, _), ⟨⟨by dsimp only; omega, hset⟩, by dsimp only; omega⟩, by dsimp only; omega, rfl⟩
   repeat' first | assumption | exact hw | exact hp.1 | exact hp.2.1 | exact hp.2.2 | exact hx0 | exact hs1 | exact hs2 | omega | (simp only [inR]; omega) | exact fun h => h | (exact fun h => absurd h (by simp [hprf])) | intro _ | refine And.intro ?_ ?_
 · refine ⟨X E5N, X_ok _, rfl, rfl, rfl, rfl, ?_⟩
   have hY : pN p := ⟨hy, hc⟩
   have hZ := hY
   unfold pN at hZ
   refine of_eq (q := True ∧ True ∧ ((i : Int) < 2 → True ∧ ((yesP p ∧ ¬posP p) ∧ True) ∧ True ∧ True ∧ True ∧ True ∧ True ∧ True ∧ True ∧ True ∧ True ∧ True ∧ (¬(0 : Int) = 0 → True ∧ True ∧ True ∧ True ∧ True ∧ True ∧ True ∧ (false = true ∧ True) ∧ True) ∧ (¬¬(0 : Int) = 0 → True ∧ True ∧ ((yesP p ∧ ¬posP p) ∧ True) ∧ True ∧ True ∧ True ∧ (false = true → True ∧ True ∧ True ∧ True ∧ True ∧ (false = true ∧ True) ∧ True) ∧ (false = false → True ∧ True ∧ True ∧ True ∧ True ∧ True ∧ True ∧ True ∧ True ∧ True ∧ True ∧ True ∧ True ∧ (¬(0 : Int) = 0 → True ∧ True ∧ (false = true ∧ True) ∧ True) ∧ (¬¬(0 : Int) = 0 → True ∧ ((p.length < 1000000 ∧ isPoly p) ∧ True) ∧ True ∧ True ∧ True ∧ True ∧ True ∧ True ∧ True ∧ True ∧ True ∧ (((1 : Nat) ≤ p.length ∧ p.length ≤ 7 ∧ coefs p) ∧ True) ∧ True ∧ True ∧ True ∧ True ∧ True ∧ True ∧ True ∧ True ∧ True ∧ (¬(0 : Int) = 0 → True ∧ True ∧ True ∧ True ∧ True ∧ (false = true ∧ True) ∧ True) ∧ (¬¬(0 : Int) = 0 → True ∧ True ∧ True ∧ True ∧ True ∧ (((lowP p).isSome != (lowP p).isSome) = true → True ∧ True ∧ True ∧ (false = true ∧ True) ∧ True) ∧ (((lowP p).isSome != (lowP p).isSome) = false → True ∧ True ∧ True ∧ True ∧ (¬((lowQ p).fst, (lowQ p).snd) = ((lowQ p).fst, (lowQ p).snd) → True ∧ True ∧ (false = true ∧ True) ∧ True) ∧ (¬¬((lowQ p).fst, (lowQ p).snd) = ((lowQ p).fst, (lowQ p).snd) → True ∧ True ∧ True ∧ True ∧ True ∧ True ∧ slPre m.length m.length none (some (minI (m.length : Int) (70 : Int))) none ∧ sumPre (0 : Nat) (cutL m none (some (minI (m.length : Int) (70 : Int)))).length (nat_lit 16) ∧ True ∧ True ∧ True ∧ ((yesP p ∧ (cutL m none (some (minI (m.length : Int) (70 : Int)))).length < 1000000) ∧ True) ∧ True ∧ True ∧ True ∧ True ∧ True ∧ True ∧ True ∧ ((yesP p ∧ (0 : Nat) < 1000000) ∧ True) ∧ True ∧ True ∧ True ∧ True ∧ True ∧ True ∧ True ∧ True ∧ (¬(0 : Int) = 0 → True ∧ True ∧ True ∧ True ∧ True ∧ True ∧ True ∧ (false = true ∧ True) ∧ True) ∧ (¬¬(0 : Int) = 0 → True ∧ True ∧ True ∧ ((isPoly p ∧ (cutL m none (some (minI (m.length : Int) (70 : Int)))).length < 1000000) ∧ True) ∧ True ∧ True ∧ True ∧ ((decide (prf p (cutL m none (some (minI (m.length : Int) (70 : Int))))) != decide (prf p (cutL m none (some (minI (m.length : Int) (70 : Int)))))) = true → True ∧ True ∧ True ∧ True ∧ True ∧ (false = true ∧ True) ∧ True) ∧ ((decide (prf p (cutL m none (some (minI (m.length : Int) (70 : Int))))) != decide (prf p (cutL m none (some (minI (m.length : Int) (70 : Int)))))) = false → True ∧ True ∧ True ∧ True ∧ (¬(0 : Int) = 0 → True ∧ True ∧ True ∧ (false = true ∧ True) ∧ True) ∧ (¬¬(0 : Int) = 0 → True ∧ True ∧ True ∧ True ∧ (false = true → True ∧ True ∧ (false = true ∧ True) ∧ True) ∧ (false = false → True ∧ True ∧ idxPre (0 : Int) p.length ∧ True ∧ True ∧ True ∧ inR .i64 (p.getD (0 : Nat) (0 : Int) + (m.length : Int)) ∧ True ∧ idxPre (0 : Int) p.length ∧ True ∧ True ∧ inR .i64 ((i : Int) + 1) ∧ True ∧ ∃ (y : Nat × List Int), ((y.fst ≤ 2 ∧ isPoly y.snd) ∧ (2 : Nat) - y.fst < 2 - i) ∧ (m = m ∧ True ∧ (i : Int) + 1 = (y.fst : Int) ∧ True) ∧ p.set (0 : Nat) (minI (100 : Int) (p.getD (0 : Nat) (0 : Int) + (m.length : Int))) = y.snd ∧ True))))))))))) ∧ (¬(i : Int) < 2 → ∃ (y : Unit), True ∧ True ∧ True)) (by kernel_rfl) ?_
   simp only [true_and, and_true, false_and, and_false, or_false, false_or, exists_const, not_true_eq_false, not_false_eq_true, true_imp_iff, false_imp_iff, implies_true, rat_num_den, Int.toNat_natCast, bne_self_eq_false, hct]
   refine fun h2 => ?_
   have hw : ∃ z : Nat × List Int, ((z.1 ≤ 2 ∧ isPoly z.2) ∧ 2 - z.1 < 2 - i) ∧ ((i : Int) + 1 = (z.1 : Int)) ∧ p.set 0 (minI 100 (p.getD 0 0 + m.length)) = z.2 := ⟨(i + 1, _), ⟨⟨by dsimp only; omega, hset⟩, by dsimp only; omega⟩, by dsimp only; omega, rfl⟩
   repeat' first | assumption | exact hw | exact hp.1 | exact hp.2.1 | exact hp.2.2 | exact hx0 | exact hs1 | exact hs2 | omega | (simp only [inR]; omega) | exact fun h => h | intro _ | refine And.intro ?_ ?_
theorem call5 (l : List Int) (m : List PQ) (h : l.length < 1000000000000000 ∧ m.length < 1000000000000000) : GCall Tryd.prog gl 5 true [.sl I64 l, .sl Q2 m] [] [.tt] [] := by
 refine gcall_of (X := (X E5L)) ((X_ok E5L)) (f := 5) (fn := Tryd.f5) (c := bodyOf Tryd.f5) (by kernel_rfl) (by kernel_rfl) (view := false) (rvs := [.tmp 4]) (by kernel_rfl) (H := (H5 m)) 200 (by kernel_rfl) ?_
 have hL := loop5 m h.2
 refine of_eq (q := True ∧ True ∧ (l.length + 1 ≤ 1000000000000000 ∧ True) ∧ True ∧ True ∧ LoopOK (X E5L) L5_0 { J := chks (0 : Nat) [(1 : Nat), (5 : Nat), (6 : Nat)] (fm5 m), exits := List.map (fun (x : List Nat × Ex) => x.snd) ex5 } (RetR (X E5L) true false [ResultVar.tmp (4 : Tmp)] [AV.tt] []) ∧ (∃ (y : Nat × List Int), (y.fst ≤ 2 ∧ isPoly y.snd) ∧ (m = m ∧ True ∧ (0 : Int) = (y.fst : Int) ∧ True) ∧ tmL l = y.snd ∧ True) ∧ (∀ (y : Unit), True → (True ∧ True) ∧ True ∧ True ∧ (true = true ∧ True) ∧ True) ∧ True) (by kernel_rfl) ?_
 simp only [true_and, and_true, false_and, and_false, or_false, false_or, exists_const, exists_false, rat_num_den, rat_int, Int.toNat_natCast]
 have h1 := h.1
 exact ⟨by omega, hL, ⟨(0, tmL l), ⟨by dsimp only; omega, tmL_poly l⟩, rfl, rfl⟩, fun _ _ => trivial⟩
end Go.Am.Bern

/- Bern: from the laws' contracts to the given statements: what all laws share. -/
namespace Go.Proofs.YtjmfgoemdkfldaaDoor
open Go Go.ChangeShapes Go.WideShapes Go.ChangeAt Go.RowKit Go.Am Go.Am.Bern
theorem own : ownKnob Tryd.prog.godebug = none := by kernel_rfl
theorem laidOut : laidOutB Tryd.prog = true := by kernel_rfl
theorem u3 : Tryd.prog.underlying 3 = some (.int .i64) := by kernel_rfl
theorem u4 : Tryd.prog.underlying 4 = some .bool := by kernel_rfl
theorem u22 : Tryd.prog.underlying 22 = some (.slice 3) := by kernel_rfl
theorem u23 : Tryd.prog.underlying 23 = some (.array 2 3) := by kernel_rfl
theorem u37 : Tryd.prog.underlying 37 = some (.slice 23) := by kernel_rfl
theorem tyOk22 : TyOk Tryd.prog 22 (.sl I64) := ⟨3, u22, u3, by kernel_rfl, by decide, of_decide_eq_true (by kernel_rfl)⟩
theorem tyOk23 : TyOk Tryd.prog 23 Q2 := ⟨3, u23, u3, by kernel_rfl, by kernel_rfl⟩
theorem tyOk37 : TyOk Tryd.prog 37 (.sl Q2) := ⟨23, u37, tyOk23, by kernel_rfl, by decide, of_decide_eq_true (by kernel_rfl)⟩
theorem u2 : Tryd.prog.underlying 2 = some (.int .i64) := by kernel_rfl
def laidW : List (String × DataW Unit) := [("girouette/bern.whole", Rows.laid_girouette_bern_whole)]
theorem door_met (os : Os) (args : Array Value) : laidMetH Tryd.prog laidW ((World.doorLaid Tryd.prog 400 os).forCall (fun _ _ => 0) ⟨#[], args, []⟩).memory :=
 laidMetH_of_parts3 (fuel := 8) (laidMet_of_run' 8 (by kernel_rfl) (by kernel_rfl)) (by kernel_rfl) (by kernel_rfl)
theorem reach_le {l : List Nat} (h : l.all (fun x => decide (x ≤ reachBytes)) = true) : ∀ n ∈ l, n ≤ 140737488355328 := fun n hn => by
 have := of_decide_eq_true (List.all_eq_true.mp h n hn)
 have e : reachBytes = 140737488351232 := rfl
 omega
theorem gWhole : Tryd.prog.globalNamed "girouette/bern.whole" = some 0 := by kernel_rfl
theorem tWhole : (Tryd.prog.globals[0]?).map (·.type) = some 87 := by kernel_rfl
set_option maxRecDepth 100000 in
theorem glob_of {W : World} (h : laidMetH Tryd.prog laidW W) : GlobOk gl (fun b => b < W.heap.size) W := by
 rw [MakeChecks.laidMetH_plain _ _ _ (by kernel_rfl)] at h
 obtain ⟨ps, ⟨g0, t0, cs0, f0, p0, q0, hg0, ht0, hv0, hd0, _, _⟩, _, _⟩ := h
 obtain rfl := Option.some.inj (gWhole.symm.trans hg0)
 obtain rfl := Option.some.inj (tWhole.symm.trans ht0)
 have hU : ∃ d, Tryd.prog.underlying 87 = some d ∧ dsOf d = .st [(0, 3), (1, 3)] := TI.Ok.under ti87_ok
 obtain ⟨d, hu, hd⟩ := hU
 obtain ⟨fs, rfl, hfs⟩ : ∃ fs, d = .struct fs ∧ fs.toList.map (fun f => (f.offset, f.type)) = [(0, 3), (1, 3)] := by
   cases d <;> simp [dsOf] at hd
   exact ⟨_, rfl, hd⟩
 obtain ⟨xs, n, rfl, hx, hl, hn, hel⟩ := DataW.trod_struct hu hd0
 obtain ⟨fs⟩ := fs
 match fs, hfs, hn, hel with
 | [a, b], hfs, hn, hel =>
 simp only [List.map_cons, List.map_nil, List.cons.injEq, Prod.mk.injEq] at hfs
 obtain ⟨⟨a1, a2⟩, ⟨b1, b2⟩, _⟩ := hfs
 have e0 := hel 0 a rfl
 have e1 := hel 1 b rfl
 have c3 : Tryd.prog.cellsOf 3 = 1 := by kernel_rfl
 have c87 : Tryd.prog.cellsOf 87 = 2 := by kernel_rfl
 rw [a1, a2, c3] at e0
 rw [b1, b2, c3] at e1
 rw [c87] at hl
 obtain ⟨ls⟩ := cs0
 match xs, hn, hx, ls, hl, e0, e1, hv0 with
 | [y0, y1], _, hx, [c0, c1], _, e0, e1, hv0 =>
 simp only [Rows.laid_girouette_bern_whole, List.map_cons, List.map_nil, Prod.mk.injEq, DataW.agg.injEq, List.cons.injEq] at hx
 obtain ⟨n0, k0, k1, _⟩ := DataW.trod_int u3 (show DataW.trod _ Tryd.prog W 0 _ false n 3 [c0] = some y0 from e0)
 obtain ⟨n1, l0, l1, _⟩ := DataW.trod_int u3 (show DataW.trod _ Tryd.prog W 0 _ false n 3 [c1] = some y1 from e1)
 have z0 : n0 = 0 := by rw [k1] at hx; simpa using hx.1.1.symm
 have z1 : n1 = 0 := by rw [l1] at hx; simpa using hx.1.2.1.symm
 subst z0 z1
 have w0 := World.var?_cell hg0 hv0 0
 have w1 := World.var?_cell hg0 hv0 1
 simp only [List.cons.injEq, and_true] at k0 l0
 subst k0 l0
 have w0 : W.cell? ⟨0, 0, none⟩ = some (.int .i64 0) := by simpa using w0
 have w1 : W.cell? ⟨0, 1, none⟩ = some (.int .i64 0) := by simpa using w1
 intro g p hp
 match g, hp with
 | 0, hp =>
   have hp : p = ⟨.s2 (.int .i64) (.int .i64), ((0 : Int), (0 : Int))⟩ := (Option.some.inj hp).symm
   subst hp
   refine ⟨cell_lt w0, [.int .i64 0, .int .i64 0], by simp only [CD]; exact ⟨_, _, rfl, rfl, rfl⟩, fun j hj => ?_⟩
   match j, hj with
   | 0, _ => exact w0
   | 1, _ => exact w1
end Go.Proofs.YtjmfgoemdkfldaaDoor
